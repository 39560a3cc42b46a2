import Derived.Test.YtmjochipbmgljaaGreatDoorBatchesJ1
set_option linter.all false
set_option maxRecDepth 99999
set_option maxHeartbeats 999999
noncomputable section
namespace Go.Proofs.YtmjochipbmgljaaGreatDoor
open Go Go.Sh Go.WideShapes
section
variable {S D E:aQ} {h' h0 H:Hp} {lb j m i:Nat} {c1 a:Addr} {xs:List Pl} {J Jx:List Pl->HP} {fs:cC} {u t s:Sl} {Kp:PK} {el:TypeId} {k w x y e:Int} {q p:Sl×Sl×Sl} {f c:aq} {B:Bool}
def PlE(h0:Hp)(x:Pl)(y0 y1:Sl)(y2:ff)(y3:Bool)(y4 y5 y6 y7:Int)(y8:Sl)(y9:Bool):Prop:=
 (y0.n=x.deep∧y0.n≤y0.c)∧cH h0 y1 x.ahead∧y2=x.f.name∧y3=x.f.au∧y4=x.f.k∧y5=x.f.w∧y6=x.f.id∧y7=x.f.ix∧cH h0 y8 x.f.cs∧y9=x.ins∧x.f.name.size≤jP∧x.ahead.length≤jP
def PlA(h0:Hp)(x:Pl)(args:bg):Prop:=∃y0 y1 y2 y3 y4 y5 y6 y7 y8 y9,args=[(.agg #[(Sl.v y0),(Sl.v y1),(.string y2),(.bool y3),(ah y4),(ah y5),(ah y6),(ah y7),(Sl.v y8),(.bool y9)])]∧PlE h0 x y0 y1 y2 y3 y4 y5 y6 y7 y8 y9
def GQ(a3 a4:Nat)(c1:Addr):Value:=.func (.func 42) #[] #[(bI a3),(dw c1),(bI a4)]
structure Mg(h0:Hp)(lb a3 a4:Nat)(c1:Addr)(xs:List Pl)(J Jx:List Pl→HP):Prop where
 pre:∀p h1,J p h1→az h0 h1∧cell h1 c1=some (ah 65)
 ai:∀p h1 h2,az h1 h2→J p h1→J p h2
 aIh:∀p h1 h2,az h1 h2→Jx p h1→Jx p h2
 y:∀p x gE h1 args,PlA h0 x args→xs=p++x::gE→J p h1→wS aD lb args h1 (fun v h2=>Tn (fun c=>c≤lb) h1 h2∧((v=.bool true∧J (p++[x]) h2)∨(v=.bool false∧Jx (p++[x]) h2))) qA
 l3:lb<a3
 l4:lb<a4
structure Co(h:Hp)(a3 a4 lb:Nat)(c1:Addr):Prop where
 k3:aN h a3 #[.func (.yield lb) #[] #[]] afr
 k4:aN h a4 #[GQ a3 a4 c1] afq
theorem Co.fr{h:Hp}{a3 a4:Nat}(o:Co h a3 a4 lb c1)(f:Tn S h h')(h3:¬S a3)(h4:¬S a4):Co h' a3 a4 lb c1:=⟨f.aZ o.k3 h3,f.aZ o.k4 h4⟩
theorem Co.ai{h:Hp}{a3 a4:Nat}(o:Co h a3 a4 lb c1)(g:az h h'):Co h' a3 a4 lb c1:=o.fr (S:=No) (bh g) id id
def IX(h0:Hp)(lb a3 a4:Nat)(c1:Addr)(xs:List Pl)(J Jx:List Pl→HP)(cs:cC):Prop:=
 ∀{h1:Hp}{path l:Sl}{vs:bg}{ins:Bool}{d lo:Nat}{p gE:List Pl}{K:Bool→HP},cH h0 l cs→Sh lo h1.size 1 h1 path vs Y6→lb<lo→lo≤h1.size→(∀v∈vs,one v=true)→vs.length=d→d≤64→Co h1 a3 a4 lb c1→cs.length≤jP→ia cs→
  xs=p++(dY (d+1) [] ins cs++gE)→J p h1→(∀h2,Tn (fun c=>c≤lb) h1 h2→J (p++dY (d+1) [] ins cs) h2→K true h2)→(∀h2 p' s',xs=p'++s'→Jx p' h2→K false h2)→
  ajx path l ins (aJ a3) c1 (aJ a4) h1 K qA
theorem adr{a3 a4:Nat}(W:Mg h0 lb a3 a4 c1 xs J Jx){cs:cC}(IH:∀f∈cs,IX h0 lb a3 a4 c1 xs J Jx f.cs):IX h0 lb a3 a4 c1 xs J Jx cs:=by
 intro h1 path l vs ins d lo p gE K hf op hlo as7 J9 hvl hd own wj vZ tA hJ hT hX
 have SU:=hf.n
 have wj:cs.length≤9223372036854775807:=wj
 have fu:jV aD 42=true:=by kernel_rfl
 apply aFK
 apply aCq
 apply aAc (fun x h'=>∃i:Nat,x=(i:Int)∧i≤cs.length∧Tn (fun c=>c≤lb) h1 h'∧J (p++dY (d+1) [] ins (cs.take i)) h') (fun x _=>cs.length-x.toNat) ⟨0,rfl,ag,iX _ _,by simpa[dY]using hJ⟩
 rintro x h2 ⟨i,rfl,hi,f2,hJ2⟩ N1 hN
 have Qg:=op.fr f2 fun b hb _ _=>ag
 have Qg:=Qg.wide (bP _) f2.1
 have aaN:=own.fr f2 (by have:=W.l3;show¬a3≤lb;omega) (by have:=W.l4;show¬a4≤lb;omega)
 have aHN:=iY as7 f2.1
 have aHP:lb<h2.size:=by have:=aaN.k3.lt;have:=W.l3;omega
 apply aCp
 refine aE (fun c=>?_) fun c=>?_
 ·simp only[sm,reduceCtorEq]at c
  have kK:i<cs.length:=ag
  have hj:=bx kK
  have lE:=kg kK
  have xS:cs=cs.take i++(cs[i]::cs.drop (i+1)):=by rw[←yI kK,Eg]
  have Bq:=kE kK
  generalize cs[i]=f at hj lE xS Bq
  have SE:dY (d+1) [] ins cs=dY (d+1) [] ins (cs.take i)++(f.places (d+1) (cs.take i) ins++dY (d+1) (cs.take i++[f]) ins (cs.drop (i+1))):=by
   have q:=tP (dY (d+1) [] ins) xS
   rw[q,JO];simp[dY]
  have acr:dY (d+1) [] ins (cs.take (i+1))=dY (d+1) [] ins (cs.take i)++f.places (d+1) (cs.take i) ins:=by rw[lE,JO];simp[dY]
  have hsf:=vZ.get f Bq
  have Bs:f.places (d+1) (cs.take i) ins=⟨d+1,cs.take i,f,ins⟩::(if d+1<65 then dY (d+2) [] (ins||f.k==19) f.cs else[]):=by cases f;rfl
  have ng:f.name.size≤jP∧f.cs.length≤jP∧ia f.cs:=by cases f;unfold aq.gh at hsf;exact hsf
  have IHf:IX h0 lb a3 a4 c1 xs J Jx f.cs:=IH f Bq
  refine hf.ix rfl hj fun a ha=>?_
  obtain⟨u,hu,c0,c1',c2,c3,c4,c5,c6⟩:=ha.cells
  have G:=(W.pre _ _ hJ2).1
  refine⟨_,G.cell c0,_,G.cell c1',_,G.cell c2,_,G.cell c3,_,G.cell c4,_,G.cell c5,_,G.cell c6,?_⟩
  refine aG fun b11 hx eb gx kx _=>oD kx rfl fun h3 o3 tq=>?_
  have g3:=o3.ai gx ag
  have aH3:h2.size≤b11:=ag
  have aH2:=tq.lt
  apply aCo
  refine awQ ((Qg.ai g3).wide (bP _) g3.1) J9 ag fun t21 h4 g4 o4=>?_
  have g4:=ak g3 g4
  have tq:=tq.ai (ak (cK _) ‹az h3 h4›)
  refine akX o4 ‹az h3 h4›.1 ag fun OY h5 f5 o5 hn5=>?_
  have tq:=f5.aZ tq (fun q=>by have:=q.1;omega)
  have g5:az h2 h5:=((bh g4:Tn No h2 h4).trans' f5 fun c hc eW=>by have:=hc.1;have:=g3.1;omega).ai
  have aaM:=aaN.ai g5
  have hJ5:=W.ai _ _ _ g5 hJ2
  have G5:=(W.pre _ _ hJ5).1
  apply aCn
  try simp only[bw,Nat.reduceAdd]
  apply aj (x:=Value.func (.yield lb) #[] #[]) aaM.k3 rfl
  refine⟨aA,aA,by simp;try omega,by simp;try omega,?_⟩
  apply dZ tq
  have hE:PlE h0 ⟨d+1,cs.take i,f,ins⟩ OY ⟨me l.a ((none:Option Int).getD 0).toNat ((none:Option Int).getD l.c).toNat 7,((some (i:Int)).getD l.n).toNat-((none:Option Int).getD 0).toNat,((none:Option Int).getD l.c).toNat-((none:Option Int).getD 0).toNat⟩ f.name f.au f.k f.w f.id f.ix u ins:=by
   refine⟨⟨show OY.n=d+1 by omega,o5.cap⟩,hf.take hi ?_ ?_ ?_,rfl,rfl,rfl,rfl,rfl,rfl,hu,rfl,ng.1,by simp only[kP];omega⟩
   ·simp only[me,tT,L4,Nat.zero_mul]
    split
    ·rfl
    ·cases l.a with
     |none=>rfl
     |some a=>simp[add_zero']
   ·simp
   ·simp
  unfold cX
  refine wS.mono (W.y _ _ ((if d+1<65 then dY (d+2) [] (ins||f.k==19) f.cs else[])++(dY (d+1) (cs.take i++[f]) ins (cs.drop (i+1))++gE)) _ _ ⟨_,_,_,_,_,_,_,_,_,_,rfl,hE⟩ (by rw[tA,SE,Bs];simp) hJ5) (fun v h6 hv=>?_) (fun _ _ q=>q)
  obtain⟨f6,(⟨rfl,Ta⟩|⟨rfl,hX6⟩)⟩:=hv
  ·refine⟨true,rfl,bu rfl ?_⟩
   have f26:=(bh g5:Tn (fun c=>c≤lb) h2 h5).trans f6
   have tq:=f6.aZ tq (show¬b11≤lb by omega)
   have aaL:=aaM.fr f6 (by have:=W.l3;show¬a3≤lb;omega) (by have:=W.l4;show¬a4≤lb;omega)
   have o6:=(o5.fr f6 fun b hb _ (e:b≤lb)=>by have:=g3.1;omega).wide (bP _) f6.1
   have atw:=(W.pre _ _ Ta).2
   apply aCm
   try simp only[bw,Nat.reduceAdd]
   refine⟨_,atw,?_⟩
   have fin:∀h7,Tn (fun c=>c≤lb) h2 h7→J (p++dY (d+1) [] ins (cs.take (i+1))) h7→aO ((i:Int)+1) fun t55=>N1 (zD path l ins (aJ a3) c1 (aJ a4) l (l.n:Int) t55) h7:=fun h7 f7 j7=>
    aW ag ag (hN _ _ ⟨i+1,aA,ag,f2.trans f7,j7⟩ ag)
   refine aE (fun c=>?_) fun c=>?_
   ·simp only[sm,reduceCtorEq]at c
    have atr:d+1<65:=ag
    rw[aI atr]at Bs
    have aar:∀(b:Bool),b=(ins||f.k==19)→cX aD (GQ a3 a4 c1) [Sl.v OY,Sl.v u,.bool b] h6 (fun r h1=>∃t52:Bool,r=.bool t52∧If (!t52) (K false h1) (aO ((i:Int)+1) fun t55=>N1 (zD path l ins (aJ a3) c1 (aJ a4) l (l.n:Int) t55) h1)) qA:=by
     intro b hb
     unfold cX GQ
     simp only[fu,En]
     refine IHf (d:=d+1) (gE:=dY (d+1) (cs.take i++[f]) ins (cs.drop (i+1))++gE)
      (K:=fun t52 h1=>If (!t52) (K false h1) (aO ((i:Int)+1) fun t55=>N1 (zD path l ins (aJ a3) c1 (aJ a4) l (l.n:Int) t55) h1)) hu o6 (by have:=g3.1;omega) (by have:=g5.1;have:=f6.1;have:=‹az h3 h4›.1;have:=f5.1;omega)
      (fun v hv=>by rcases nt.1 hv with q|q;exact J9 v q;simp only[mA]at q;subst q;rfl) (by simp;omega) ag aaL ng.2.1 ng.2.2 (by rw[tA,SE,Bs,hb];simp) Ta (fun h7 f7 j7=>?_) (fun h7 p' s' e j=>?_)
     ·refine bu rfl (fin h7 (f26.trans f7) ?_)
      rw[acr,Bs,←hb]
      simpa using j7
     ·exact bO rfl (hX h7 p' s' e j)
    refine aj aaL.k4 rfl (aj tq rfl ?_)
    cases ins
    ·refine bu rfl (aj tq rfl ?_)
     exact aar _ aA
    ·exact bO rfl (aar _ aA)
   ·simp only[sm,reduceCtorEq]at c
    apply fin h6 f26
    rw[ay]at Bs
    rw[acr,Bs]
    simpa using Ta
  ·exact⟨false,rfl,bO rfl (hX h6 _ ((if d+1<65 then dY (d+2) [] (ins||f.k==19) f.cs else[])++(dY (d+1) (cs.take i++[f]) ins (cs.drop (i+1))++gE)) (by rw[tA,SE,Bs];simp) hX6)⟩
 ·simp only[sm,reduceCtorEq]at c
  have:i=cs.length:=ag
  simp_all
theorem ads{a3 a4:Nat}(W:Mg h0 lb a3 a4 c1 xs J Jx):∀f:aq,IX h0 lb a3 a4 c1 xs J Jx f.cs
 |.mk _ _ _ _ _ _ cs=>adr W (cs:=cs) fun f _=>ads W f
def UB(c1 c2:Addr):Value:=.func (.func 41) #[] #[(dw c1),(dw c2)]
theorem au2{a3 a4:Nat}(W:Mg h0 lb a3 a4 c1 xs J Jx)(cs:cC):IX h0 lb a3 a4 c1 xs J Jx cs:=adr W fun f _=>ads W f
theorem aya{c2:Addr}{l:Sl}{cs:cC}(hf:cH h0 l cs)(wj:cs.length≤jP)(vZ:ia cs):W8 aD (UB c1 c2) (dY 1 [] false cs) (PlA h0) (fun h=>az h0 h∧cell h c1=some (ah 65)∧cell h c2=some (Sl.v l)):=by
 intro lb J Jx h ng Kt tB hG hGx Y
 have fu:jV aD 41=true:=by kernel_rfl
 have aHF:jV aD 42=true:=by kernel_rfl
 unfold uo UB
 simp only[En]
 refine dP.mono (aFL ?_) (fun _ _ hh=>hh.2) (fun _ _ hh=>hh)
 refine aG fun a3 h1 e3 g1 k3 _=>aG fun a4 h2 e4 g2 k4 _=>?_
 have k3:=k3.ai g2
 have Bp:a3≠a4:=by have:=k3.lt;have:=g1.1;omega
 refine⟨rfl,?_⟩
 refine dc k4 aA rfl fun h3 o3 k4=>?_
 have k3:=o3.aZ k3 Bp
 have hg:az h h3:=by grind[eD.ai,az.trans]
 have hJ3:=hG _ _ _ hg Kt
 refine aj (x:=GQ a3 a4 c1) k4 rfl ⟨_,(tB _ _ hJ3).2.2,?_⟩
 have W:Mg h0 lb a3 a4 c1 _ J Jx:=⟨fun p h1 j=>⟨(tB p h1 j).1,(tB p h1 j).2.1⟩,hG,hGx,fun p x gE h1 args hA e j=>Y p x gE h1 args hA e j,ag,by have:=g1.1;omega⟩
 unfold cX GQ
 simp only[En]
 refine dP.mono (au2 W cs (path:=Sl.nil) (d:=0) (gE:=[]) (K:=fun _ h2=>J (dY 1 [] false cs) h2∨∃pre gE,dY 1 [] false cs=pre++gE∧Jx pre h2) hf (Sh.nil _ _ _ _ _) (by have:=hg.1;omega) (bP _) aA rfl ag ⟨k3,k4⟩ wj vZ aA hJ3
  (fun h4 _ j=>.inl (by simpa using j)) (fun h4 p' s' e j=>.inr ⟨p',s',e,j⟩)) (fun _ _ hh=>?_) (fun _ _ hh=>hh)
 obtain⟨b,rfl,hh⟩:=hh
 exact⟨b,rfl,hh⟩
theorem Tw.back{l:Nat}{h1 Bw xV:Hp}(g:az h1 Bw)(t:Tw l Bw xV)(hl:∃r,h1[l]? =some (.loop r)):∃h',Tw l h1 h'∧xV[l]? =h'[l]? :=by
 obtain⟨r,hr⟩:=hl
 obtain⟨_,_,r',st,pd,e1,e2⟩:=t
 rw[GK g hr]at e1
 cases e1
 refine⟨h1.setIfInBounds l (.loop {r with state:=st,pending:=pd}),AS hr,?_⟩
 grind
abbrev CJ(h:Hp)(b:Nat)(e:Int)(s:Sl)(n:Int):Prop:=aN h b #[ah e,Sl.v s,ah n] kF
theorem ao4{h:Hp}{D a6 r:Nat}{s7:Sl}{c2:Addr}{K:Int->Sl->Int->HP}(ht:lZ H)(hf:cH H u fs)(w':fs.length<=jP)(q':ia fs)(g:az H h)
  (l2:H.size<=j) (l5:H.size<=D) (lr:H.size<=r) (k2:CJ h j 0 s7 0) (k5:aN h D #[ah 0] Y6) (k6:aN h a6 #[.map (some r)] Vv) (hm:pS h r []) (n25:j≠D) (n26:j≠a6) (n56:D≠a6) (n2r:j≠r) (n5r:D≠r) (n6r:a6≠r) (y':cell h c1=some (ah 65)) (x':cell h c2=some (Sl.v u))
  (d12:c1.block≠j) (d15:c1.block≠D) (d1r:c1.block≠r) (d22:c2.block≠j) (d25:c2.block≠D) (d2r:c2.block≠r)
  (hk:∀(e:Int)(s:Sl)n h',az H h'->s.n<=s.c->(e=0↔gN 0 [] (dY 1 [] false fs))->K e s n h'):VR K Kp (aJ j) (aJ D) (aJ a6) (UB c1 c2) h:=by
 have i2:=k2.lt;have i5:=k5.lt;have i6:=k6.lt;have ir:r<h.size:=by obtain⟨_,_,e,_⟩:=hm;exact(kS.1 e).1
 refine ayD (α:=Pl) _ (aya hf w' q')
  (λz y=>Tn (λc=>c=D\/c=r) h y/\aN y D #[ah (z.length:Int)] Y6/\pS y r (kY [] z)/\gN 0 [] z)
  (λz y=>Tn (λc=>c=j\/c=D\/c=r) h y/\∃(e:Int)(s:Sl),CJ y j e s 0/\e≠0/\s.n<=s.c/\¬gN 0 [] z) ⟨iX _ _,k5,hm,trivial⟩ ?_ ?_ ?_ ?_ ?_ ?_ ?_ ?_
 ·rintro z y h2 g ⟨f,b,m,a⟩;exact⟨f.trans' (bh (S:=No) g) λ_ t=>t.elim,b.ai g,m.ai g,a⟩
 ·rintro l z y h2 hl t ⟨f,b,m,a⟩;exact⟨f.trans' t.only.fr λd A R=>ag,t.only.aZ b ag,m.fr t.only.fr ag,a⟩
 ·rintro z y ⟨f,_⟩;refine⟨⟨iY g.1 f.1,λc Q=>(f.2 c ag ag).trans (g.2 c Q)⟩,f.cell y' ag,f.cell x' ag⟩
 ·rintro z y h2 g ⟨f,e,s,b,q⟩;exact⟨f.trans' (bh (S:=No) g) λ_ t=>t.elim,e,s,b.ai g,q⟩
 ·rintro l z y h2 hl t ⟨f,e,s,b,q⟩;exact⟨f.trans' t.only.fr λd A R=>ag,e,s,t.only.aZ b ag,q⟩
 ·rintro l z x p' y y0 y1 y2 y3 y4 y5 y6 y7 y8 y9 hE g' hl Z ⟨L,M,P,a1⟩ N X hN hX;obtain⟨⟨hp,s'⟩,ha,rfl,rfl,rfl,rfl,rfl,rfl,r',rfl,u',z'⟩:=hE;have v':l<y.size:=by obtain⟨q,hq⟩:=Z;exact(kS.1 hq).1
  have G1:az H y:=⟨iY g.1 L.1,λc Q=>(L.2 c ag ag).trans (g.2 c Q)⟩
  have Y:=L.aZ k6 ag;have b2:=L.aZ k2 ag;have hlen:=YA a1 ag;unfold afS;have p:=jN.start No y;refine p.new λb7 _ hb7 _ p=>?_;refine p.st 0 rfl rfl rfl λ_ _ p=>?_;simp only[ki,nZ]at p;refine p.ov 0 rfl rfl rfl λ_ _ p=>?_;simp only[ki,nZ]at p;refine p.ov 0 rfl rfl rfl λ_ _ p=>?_;simp only[cz,ki,tO,nZ]at p;refine p.ov 0 rfl rfl rfl λ_ _ p=>?_;simp only[cz,ki,tO,nZ]at p;refine p.ov 0 rfl rfl rfl λ_ _ p=>?_;simp only[cz,ki,tO,nZ]at p;refine p.ov 0 rfl rfl rfl λ_ _ p=>?_;simp only[cz,ki,tO,nZ]at p;refine p.ov 0 rfl rfl rfl λ_ _ p=>?_;simp only[cz,ki,tO,nZ]at p;refine p.ov 0 rfl rfl rfl λ_ _ p=>?_;simp only[cz,ki,tO,nZ]at p;refine p.ov 0 rfl rfl rfl λ_ _ p=>?_;simp only[cz,ki,tO,nZ]at p;refine p.ov 0 rfl rfl rfl λ_ _ p=>?_;simp only[cz,ki,tO,nZ]at p
  rename_i c' _
  have C:aN c' b7 #[Sl.v y0,Sl.v y1,.string x.f.name,.bool x.f.au,ah x.f.k,ah x.f.w,ah x.f.id,ah x.f.ix,Sl.v y8,.bool x.ins] Vu:=p.aZ (i:=0) rfl;have I:=p.ai;clear p;refine⟨(I.2 l v'),λj' f'=>?_⟩;have F:=f'.only;have C:=F.aZ C ag;have M:=F.aZ (M.ai I) ag;have Y:=F.aZ (Y.ai I) ag;have b2:=F.aZ (b2.ai I) ag;have P:=(P.ai I).fr F.fr ag;obtain⟨h',t',e'⟩:=Tw.back I f' Z;have W:=(bh I:Tn (λc=>c=l) y c').trans' F.fr λd A _=>A;have G12:az H j':=⟨iY G1.1 W.1,λc Q=>(W.2 c ag ag).trans (G1.2 c Q)⟩
  clear F
  try simp only[bw,Nat.reduceAdd]
  refine aj C rfl (aj C rfl (aj C rfl (aj C rfl (aj C rfl (aj C rfl (aj C rfl (aj C rfl (aj C rfl (aj C rfl (aj M rfl (aj Y rfl (akM G12 ht hp ha r' z' u' P λe i' G he=>?_))))))))))));have m':=W.trans' (bh (S:=No) G) λ_ t=>t.elim;have C:=C.ai G;have M:=M.ai G;have Y:=Y.ai G;have b2:=b2.ai G;have P:=P.ai G;have el:i'[l]? =h'[l]? :=(G.2 l (by have:=W.1;omega)).trans e'
  have a':gN 0 [] (z++[x])↔e=0:=by
   rw[EW];simp only[gN,Em,cz];exact⟨λq=>he.2 q.2,λq=>⟨a1,he.1 q⟩⟩
  refine cL (λc=>?_) λc=>?_
  ·refine aj C rfl (dc b2 aA rfl λO B b2=>dc b2 aA rfl λV E b2=>dc b2 aA rfl λU b' b2=>?_);have o:=(B.trans E).trans b';have k':Tn (λc=>c=l\/c=j) y U:=(m'.mono λd A _=>.inl A).trans' o.fr λd A _=>.inr A;exact hX h' U t' ((o.2 l ag).trans el) (k'.mono λd A _=>ag)
    ⟨(L.mono λd A _=>.inr A).trans' k' λd A R=>ag,e,y0,by simpa using b2,c,s',λq=>c (a'.1 q)⟩
  ·refine aj M rfl (aW ag ag (dc M aA rfl λO B M=>?_));have C:=B.aZ C ag;have Y:=B.aZ Y ag;have P:=P.fr B.fr ag;have d':Tn (λc=>c=l\/c=D) y O:=(m'.mono λd A _=>.inl A).trans' B.fr λd A _=>.inr A;have M:aN O D #[ah ((z++[x]).length:Int)] Y6:=by simpa using M
   have n':=a'.2 c;refine aj C rfl (cL (λJ=>?_) λJ=>?_)
   ·refine aj Y rfl (aj C rfl (aj M rfl (ayu P λV E m2=>?_)));have l':Tn (λc=>c=l\/c=D\/c=r) y V:=(d'.mono λd A _=>ag).trans' E.fr λd A _=>.inr (.inr A)
    refine hN h' V t' ((E.2 l ag).trans ((B.2 l ag).trans el)) (l'.mono λd A _=>ag) ⟨L.trans' l' λd A R=>ag,E.aZ M ag,?_,n'⟩
    rw[ab5]
    simpa[kY,xF,J]using m2
   ·refine hN h' O t' ((B.2 l ag).trans el) (d'.mono λd A _=>ag) ⟨L.trans' d' λd A R=>ag,M,?_,n'⟩
    rw[ab5]
    simpa[kY,xF,J]using P
 ·rintro y ⟨L,M,P,a1⟩;have b2:CJ y j 0 s7 0:=L.aZ k2 ag;have G1:az H y:=⟨iY g.1 L.1,λc Q=>(L.2 c ag ag).trans (g.2 c Q)⟩
  unfold afU
  try simp only[bw,Nat.reduceAdd]
  refine dc b2 aA rfl λO B b2=>dc b2 aA rfl λV E b2=>dc b2 aA rfl λU b' b2=>?_;have b2:CJ U j 0 Sl.nil 0:=by simp at b2;exact b2
  exact aj b2 rfl (aj b2 rfl (aj b2 rfl (hk _ _ _ _ (bE G1 ((B.trans E).trans b') l2) (bP _) ⟨λ_=>a1,λ_=>rfl⟩)))
 ·rintro z p' y g' ⟨L,e,s,b2,he,o',na⟩;have G1:az H y:=⟨iY g.1 L.1,λc Q=>(L.2 c ag ag).trans (g.2 c Q)⟩
  unfold afQ
  try simp only[bw,Nat.reduceAdd]
  refine aj b2 rfl (aj b2 rfl (aj b2 rfl (hk _ _ _ _ G1 o' ⟨λq=>absurd q he,λq=>?_⟩)));grind[EW]
theorem ayE{h:Hp}{K:Nat->HP}(b:∀r a,r=h.size->az h a->pS a r []->K r a):Ez h K:=
 b _ _ rfl (qW _ _) ⟨#[],0,aA,aA,aA⟩
theorem adQ{ms:List Md}{h:Hp}{K:Int->Sl->Int->HP}(ht:lZ H)(f':ia fs)(g:az H h)(hf:cH H t fs)(h2:tY H u 2 (ms.map xG))
  (hk:∀(e:Int)(s:Sl)n F,az H F->s.n<=s.c->(e=0↔vk fs ms)->K e s n F):Oy t u h K Kp:=by
 apply aGg;have r':=hf.n;have q':u.n=ms.length:=by simpa using h2.1
 refine aG λb1 h3 e1 g1 l _=>aG λb2 U e2 g2 p _=>?_;have l:=l.ai g2;have g4:=ak g (ak g1 g2);have l2:H.size<=b2:=by have:=g.1;have:=g1.1;omega
 have n':b1<b2:=by have:=l.lt;have:=g1.1;omega
 try simp only[Nat.reduceAdd]
 have p:CJ U b2 0 Sl.nil 0:=p;have b:∀(e n:Int)(d:Hp)(X:Sl)(e7 n7:Int),e≠0->¬vk fs ms->CJ d b2 e7 X n7->az H d->St d (aJ b2) (ah e) λh3=>St h3 ⟨b2,1,none⟩ (.slice none 0 0) λU=>St U ⟨b2,2,none⟩ (ah n) λd=>Ld d (aJ b2) mI λS=>Ld d ⟨b2,1,none⟩ (Sl.v) λR=>Ld d ⟨b2,2,none⟩ mI λQ=>K S R Q d:=by
  intro e n d X e7 n7 Y i' k G;refine dc k aA rfl λw' c' k=>dc k aA rfl λu' b' k=>dc k aA rfl λm' a' k=>?_;have k:CJ m' b2 e Sl.nil n:=by simp at k;exact k
  exact aj k rfl (aj k rfl (aj k rfl (hk _ _ _ _ (bE G ((c'.trans b').trans a') l2) (bP _) ⟨λq=>absurd q Y,λq=>absurd q i'⟩)))
 refine aj l rfl (aE (λc=>?_) λc=>?_)
 ·have c:=aM c;exact b _ _ _ _ _ _ aY (λq=>by have:=q.1;omega) p g4
 refine aj l rfl (aE (λc2=>?_) λc2=>?_)
 ·have c2:=aM c2;exact b _ _ _ _ _ _ aY (λq=>by have:=q.2.1;omega) p g4
 simp only[sm,reduceCtorEq]at c c2;apply aCX
 try simp only[Nat.reduceAdd]
 refine aj l rfl (aAs (λx F=>az U F/\∃i:Nat,x=i/\i<=ms.length/\∀(j:Nat)v,j<i->ms[j]? =some v->Ik v) (λx _=>ms.length-x.toNat) ⟨cK _,0,rfl,ag,λj v hj=>ag⟩ ?_)
 rintro x d ⟨G,i,rfl,hi,A⟩ N1 hN;have l:=l.ai G;have p:=p.ai G;have B:=ak g4 G
 try simp only[Nat.reduceAdd]
 refine cL (λM=>?_) λM=>?_
 ·have l':i<ms.length:=ag;have L:=bx l';generalize ms[i]=v at L;refine h2.ix rfl L λa ha=>⟨_,B.cell (Cs.c0 ha),_,B.cell (ha 1 _ rfl),?_⟩;have f:=jN.start No d;refine f.new λb6 _ t' _ f=>f.st 0 rfl rfl rfl λ_ _ f=>?_;simp only[cz,ki,tO,nZ]at f;refine f.ov 0 rfl rfl rfl λ_ _ f=>?_;simp only[cz,ki,tO,nZ]at f
  rename_i Z _
  have w:=f.aZ (i:=0) rfl;have z:=f.ai;clear f
  try simp only[bw,Nat.reduceAdd]
  refine aj w rfl (aE (λW=>?_) λW=>?_)
  ·have W:=aM W;exact b _ _ _ _ _ _ aY (λq=>by have:=(q.2.2.1 i v L).1;omega) (p.ai z) (ak B z)
  refine aj w rfl (aE (λV=>?_) λV=>?_)
  ·have V:=aM V;exact b _ _ _ _ _ _ aY (λq=>by have:=(q.2.2.1 i v L).2;omega) (p.ai z) (ak B z)
  simp only[sm,reduceCtorEq]at W V;refine aW ag ag (hN _ _ ⟨ak G z,i+1,aA,ag,λj' v' s' I=>?_⟩ ag)
  by_cases e:j'=i
  ·subst e;rw[L]at I;cases I;exact⟨ag,ag⟩
  ·exact A j' v' ag I
 ·have k':∀(j:Nat)m,ms[j]? =some m->Ik m:=by grind[List.getElem?_eq_some_iff]
  refine aCW (aG λa5 Z e5 z E _=>dc E aA rfl λJ o7 E=>?_);have E:aN J a5 #[ah 0] Y6:=by simpa using E
  have g7:=bE z o7 ag;refine ayE λr h8 er g8 hm=>?_;subst er;have p':J.size<h8.size:=by obtain⟨_,_,e,_⟩:=hm;exact(kS.1 e).1
  refine aG λa6 h9 e6 g9 w _=>dc w aA rfl λN d' w=>?_;have w:aN N a6 #[.map (some J.size)] Vv:=by simpa using w
  have y:=bE g9 d' ag;have D:=ak g7 (ak g8 y);have l:=l.ai D;have i2:=p.lt;have i5:=E.lt;refine aj l rfl (aF0 (aG λc2 y' z' P C _=>aG λc1 x' ec1 O e' _=>?_));have o:=ak P O;have C:=C.ai O;have:=y.1;have:=P.1;refine ao4 ht hf (by show _<=9223372036854775807;omega) f' (ak B (ak D o)) l2 (by have:=B.1;omega) (by have:=B.1;omega) (p.ai (ak D o)) (E.ai (ak g8 (ak y o))) (w.ai o) (hm.ai (ak y o))
   ag ag ag ag ag ag (by rw[gW e'];rfl) (by rw[gW C];rfl) (by simp only;omega) (by simp only;omega) (by simp only;omega) (by simp only;omega) (by simp only;omega) (by simp only;omega) λe s n F g' T Y=>hk e s n F g' T (Y.trans ?_)
  rw[EX];exact⟨λq=>⟨ag,ag,k',q⟩,λq=>q.2.2.2⟩
theorem bM{h:Hp}{b o n:Nat}{cs:Array Value}{X:Prop}(k:aN h b cs el)(g:az h H)(x:X):aU h H ⟨b,o,none⟩ n X:=
 ⟨λi _=>by rw[bw,gW (k.ai g),gW k],x⟩
theorem Cv{h h1:Hp}{v:Value}{X:Prop}(hc:cell h a=some v)(g:az h h1)(x:X):aU h h1 a 1 X:=
  ⟨fun i hi => by obtain rfl:i=0:=ag
                  rw[add_zero',hc,g.cell hc],x⟩
theorem cH.gr{h:Hp}(c:cH h s fs)(g:az h H):cH H s fs:=cH.ai g fs c
def bC(f:aq):Prop:=vk [f] []
theorem La{l:ff}{au:Bool}{id ix:Int}{cs:cC}{h:Hp}{K:Int->Sl->Int->HP}{Q:PK}(J:lZ h)(y:(aq.mk l au k w id ix cs).gh)(L:cH h s cs)
  (m:∀e p n o,az h o->(e=0↔bC (.mk l au k w id ix cs))->K e p n o):EK l au k w id ix s h K Q:=by
 refine aDe (aG λb1 Y e1 E H _=>aG λb2 X e2 D a _=>dZ (H.ai D) (aG λb5 W Z C G _=>?_));have u:=ak E (ak D C);have hl:h.size<=b2:=by have:=E.1;omega
 refine adQ (fs:=[.mk l au k w id ix cs]) (ms:=[]) (J.ai u) ⟨y,trivial⟩ (cK _) ?_ ⟨rfl,bP _,λj r M=>by simp at M⟩ λe p n V B R N=>?_
 ·unfold cH;exact⟨rfl,bP _,_,rfl,⟨s,λi v I=>by rw[bw,cz,gW G];simpa[oq]using I,L.gr u⟩,trivial⟩
 have a:=(a.ai C).ai B;have t:=ak u B;have m:=λp n o g=>m e p n o g N;refine aG λP U e3 A d _=>mw d rfl λT z d=>?_;have f:b2≠P:=by have:=a.lt;omega
 have a:=z.aZ (a.ai A) f;have F:=bE (ak t A) z (by have:=t.1;omega)
 simp only[bw];refine aj d rfl (aE (λc=>?_) λc=>?_)
 ·have c:=aM c;refine aj d rfl ⟨aA,by simp;omega,by simp;omega,aA,(dc d aA rfl λS x d=>?_)⟩
  have a:=x.aZ a f;exact nY d (mw a rfl λO q a=>nY a (m _ _ _ (bE (bE F x (by have:=t.1;omega)) q hl)))
 grind[eG.b,dW.b,eD.ai]
def gP(k:Int)(cs:cC):Bool:=k==1||(k==20&&match cs with|f::_=>f.au|[]=>false)
def Tb(k w id ix:Int)(cs:cC):aq:=.mk (bs [97]) (gP k cs) k w id ix cs
theorem asV{id ix:Int}{cs:cC}{h:Hp}{K:ByteArray->Bool->Int->Int->Int->Int->Sl->HP}{Y:PK}(M:cH h s cs)
    (S:∀O,az h O->K (bs [97]) (gP k cs) k w id ix s O):XY k w id ix s h K Y:=by
  refine aFw (aG λX h1 e1 P d _=>aG λb2 h2 e2 H q _=>yE (d.ai H) (aG λJ h3 e3 G t _=>oD t rfl λU D t=>?_));have a':X<b2:=by have:=d.lt;omega
  have Z:b2<J:=by have:=q.lt;omega
  have hl:h.size<=b2:=by have:=P.1;omega
  have d:=D.aZ ((d.ai H).ai G) ag;have q:=D.aZ (q.ai G) ag;have Q:=bE (ak P (ak H G)) D ag;have N:=M.n;have fin:∀b:Bool,b=gP k cs->St U ⟨J,1,none⟩ (.bool b) λF=>bN F (aJ J) λp o m l j g e=>jO F (aJ b2) p o m l j g e λE=>bN E (aJ b2) λC B A z y x v=>K C B A z y x v E:=by
    rintro b rfl;exact dc t aA rfl λF L t=>dZ t (oD (L.aZ q ag) rfl λE R q=>dZ q (S _ (bE (bE Q L ag) R hl)))
  simp only[bw];refine aj d rfl (aE (λc=>fin _ ?_) λc=>aj d rfl (aE (λr=>aj d rfl (aE (λI=>aj d rfl ?_) λI=>fin _ ?_)) λr=>fin _ ?_))
  ·simp[gP,c]
  · simp only[sm,reduceCtorEq]at c r I;cases cs with
    |nil=>have:=N.1;simp at this;omega
    | cons f V=>
      refine M.ix rfl rfl λa T=>?_;obtain⟨u,_,_,W,_⟩:=T.cells;exact⟨_,Q.cell W,fin _ (by simp[gP,r])⟩
  · simp only[sm,reduceCtorEq]at c r I;cases cs with
    |nil=>simp[gP,r]
    |cons f V=>have:=N.1;simp at this;omega
  ·simp[gP,c,r]
def tW(k w id ix:Int)(cs:cC):Prop:=bC (Tb k w id ix cs)
theorem Qi{id ix:Int}{cs:cC}{h:Hp}{K:fJ}{q:PK}(i:lZ h)(hl:cs.length<=jP)(a:ia cs)(c:cH h s cs)
  (j:∀b d,az h d->(b=true↔tW k w id ix cs)->K b d):IQ k w id ix s h K q:=by
 refine aFE (aG λv u e1 f g _=>yE g (asV (c.gr f) λt o=>?_));have G:=ak f o;refine La (i.ai G) ⟨by decide,hl,a⟩ (c.gr G) λe p n r m l=>j _ _ (ak G m) ?_
 rw[nv];exact l
def aq.row(f:aq)(u:Sl):List Value:=oq f.name f.au f.k f.w f.id f.ix u
theorem FF(f:aq)(u:Sl):(f.row u).length=7:=rfl
theorem row_one(f:aq)(u:Sl):∀v∈f.row u,one v=true:=by intro v a;simp[aq.row,oq]at a;rcases a with rfl|rfl|rfl|rfl|rfl|rfl|rfl <;> rfl
mutual
def bY(D:aQ)(h:Hp)(s:Sl):List aq->Prop
 |[]=>s.n=0/\s.n<=s.c
 |f::fs=>s.n=fs.length+1/\s.n<=s.c/\∃a,s.a=some a/\D a.block/\jt D h a f/\iw D h a 1 fs
def iw(D:aQ)(h:Hp)(a:Addr)(i:Nat):List aq->Prop
 |[]=>True
 |f::fs=>jt D h (a.add (i*7)) f/\iw D h a (i+1) fs
def jt(D:aQ)(h:Hp)(a:Addr):aq->Prop
 |.mk n au k w id ix cs=>∃s,Cs h a (oq n au k w id ix s)/\bY D h s cs
end
mutual
theorem bY.h{D:aQ}{h:Hp}:∀{s:Sl}(fs:cC),bY D h s fs->cH h s fs
  |_,[],hh=>by grind[bY,cH]
  | _,f::fs,hh=>by
    unfold bY at hh;unfold cH
    obtain⟨a,b,p,e,_,x,y⟩:=hh
    exact⟨a,b,p,e,jt.h f x,iw.h fs y⟩
theorem iw.h{D:aQ}{h:Hp}:∀{a:Addr}{i:Nat}(fs:cC),iw D h a i fs->iu h a i fs
 |_,_,[],_=>by unfold iu;trivial
 |_,_,f::fs,hh=>by unfold iw at hh;unfold iu;exact⟨jt.h f hh.1,iw.h fs hh.2⟩
theorem jt.h{D:aQ}{h:Hp}:∀{a:Addr}(f:aq),jt D h a f->jR h a f
  | _,.mk n au k w id ix cs,hh=>by
    unfold jt at hh;unfold jR
    obtain⟨s,c,x⟩:=hh
    exact⟨s,c,bY.h cs x⟩
end
mutual
theorem bY.fr{D S E:aQ}{h h':Hp}(f:Tn S h h')(hn:∀b,D b->¬S b)(hE:∀b,D b->E b):∀{s:Sl}(fs:cC),bY D h s fs->bY E h' s fs
  |_,[],hh=>by unfold bY at hh ⊢;exact hh
  | _,g::fs,hh=>by
    unfold bY at hh⊢
    obtain⟨a,b,p,e,d,x,y⟩:=hh
    exact⟨a,b,p,e,hE _ d,jt.fr f hn hE (hn _ d) g x,iw.fr f hn hE (hn _ d) fs y⟩
theorem iw.fr{D S E:aQ}{h h':Hp}(f:Tn S h h')(hn:∀b,D b->¬S b)(hE:∀b,D b->E b):∀{a:Addr}(ha:¬S a.block){i:Nat}(fs:cC),iw D h a i fs->iw E h' a i fs
  |_,_,_,[],_=>by unfold iw;trivial
  | _,ha,i,g::fs,hh=>by
    unfold iw at hh⊢
    exact⟨jt.fr f hn hE (by rw[Ce];exact ha) g hh.1,iw.fr f hn hE ha fs hh.2⟩
theorem jt.fr{D S E:aQ}{h h':Hp}(f:Tn S h h')(hn:∀b,D b->¬S b)(hE:∀b,D b->E b):∀{a:Addr}(ha:¬S a.block)(g:aq),jt D h a g->jt E h' a g
  | _,ha,.mk n au k w id ix cs,hh=>by
    unfold jt at hh⊢
    obtain⟨s,c,x⟩:=hh
    exact⟨s,c.fr f ha,bY.fr f hn hE cs x⟩
end
theorem bY.gr{h:Hp}(c:bY D h s fs)(g:az h H):bY D H s fs:=bY.fr (bh g) (λ_ _=>id) (λ_=>id) fs c
abbrev wH:=@bY.gr
theorem iw.of{h:Hp}:∀{fs:cC}{i:Nat},(∀j f,fs[j]? =some f->jt D h (a.add ((i+j)*7)) f)->iw D h a i fs
  |[],_,_=>by unfold iw;trivial
  | f::fs,i,H=>by
    unfold iw;refine⟨H 0 f rfl,iw.of λj g b=>?_⟩;have:=H (j+1) g dM
    grind
theorem bY.of{h:Hp}{b:Nat}{cs:cC}{q:List Sl}(o:lY 7 h s b (List.zipWith aq.row cs q) el)(hl:q.length=cs.length)(B:D b)(z:∀(j:Nat)(f:aq)(u:Sl),cs[j]? =some f->q[j]? =some u->bY D h u f.cs):bY D h s cs:=by
  have i:=o.n;rw[oG,hl,Ef]at i;have key:∀j f,cs[j]? =some f->jt D h ⟨b,j*7,none⟩ f:=by
    intro j f l;have t:=(cU.1 l).1;have d:q[j]? =some q[j]:=aA;have p:(List.zipWith aq.row cs q)[j]? =some (f.row q[j]):=by rw[List.getElem?_zipWith,l,d]
    have c:=o.cs p;have m:=z j f _ l d;generalize q[j]=u at c m;obtain⟨n,au,k,w,id,ix,ds⟩:=f;unfold jt;exact⟨u,c,m⟩
  cases cs with
  |nil=>unfold bY;simp[*]
  | cons f v=>
    unfold bY;refine⟨ag,o.cap,_,o.a,B,by simpa using key 0 f rfl,iw.of λj g r=>?_⟩
    rw[bw,cz];have:=key (j+1) g dM
    have e:1+j=j+1:=ag;rw[e];exact this
theorem bY.sub{h:Hp}{l:cC}(b:bY D h s l)(k:t.a=s.a)(e:t.n=s.n)(g:t.n<=t.c):bY D h t l:=by
 cases l with
 |nil=>unfold bY at b ⊢;omega
 |cons f l=>unfold bY at b ⊢;grind
theorem bY.n{h:Hp}(z:bY D h s fs):s.n=fs.length/\s.n<=s.c:=(bY.h fs z).n
theorem anv(p:Option Addr)(m a:Nat):me p 0 m a=p:=by
 unfold me;simp[add_zero']
theorem awS{h:Hp}{K:Sl->HP}{d:PK}(e:s.n<=s.c)(b:K ⟨s.a,s.n,s.n⟩ h):XR s h K d:=by
 refine aFl ⟨aA,aA,aA,by simp;omega,?_⟩
 simpa[anv]using b
mutual
def aq.jE:aq->Prop
 |.mk _ _ _ _ _ _ cs=>cs.length<=70000/\jE cs
def jE:List aq->Prop
 |[]=>True
 |f::fs=>f.jE/\jE fs
end
theorem jE.get:∀{c:cC},jE c->∀f∈c,f.jE
  |[],_,_,h=>by simp at h
  | g::b,a,f,h=>by
    unfold jE at a;rcases mB.1 h with rfl|h
    ·exact a.1
    ·exact jE.get a.2 f h
theorem aq.jE.cs(h:f.jE):f.cs.length<=70000/\YtmjochipbmgljaaGreatDoor.jE f.cs:=by cases f;unfold aq.jE at h;exact h
theorem apn{cs:cC}{d:Nat}(b:∀f∈cs,∀(n:Nat)(a:List Int),gN n a (f.places d [] B)->f.jE):∀{n:Nat}{a:List Int},gN n a (lO d B cs)->jE cs:=by
  induction cs with
  |nil=>intro n a _;unfold jE;trivial
  | cons f j c=>
    intro n a h;simp only[lO,EW]at h;grind[jE]
theorem aaF:∀(f:aq)(d:Nat)(b:Bool)(n:Nat)(a:List Int),gN n a (f.places d [] b)->f.jE
  | .mk g au k w id ix cs,d,b,n,a,h=>by
    have e:∀f∈cs,∀(n:Nat)(a:List Int),gN n a _->f.jE:=λf _ n a=>aaF f (d+1) (b||k==19) n a;have c:d<=64:=by unfold aq.places at h;exact h.1.1
    rw[De c]at h;have nh:=h.1.2.2.2.2.1;simp only[aq.w,aq.cs]at nh;unfold Shaped at nh;unfold aq.jE;exact⟨ag,(apn e ((EX.1 h.2).2))⟩
theorem bC.jE(h:bC f):f.jE:=by
 have:=h.2.2.2.2;simp only[lO,oH]at this;grind[aaF]
theorem bC.self(h:bC f):Shaped f.k f.w f.id f.ix f.cs.length/\At f.k f.au f.cs/\(f.k=19->∃c,f.cs[0]? =some c/\c.au=false):=by
 have:=h.2.2.2.2;obtain⟨n,au,k,w,id,ix,cs⟩:=f;simp only[lO,oH]at this;unfold aq.places at this;have q:=this.1;exact⟨q.2.2.2.2.1,q.2.2.2.2.2.1,λe=>(q.2.2.2.2.2.2.2 e).1⟩
theorem TT{h:Hp}{v:Value}(hc:cell h a=some v):a.block<h.size:=by
 unfold Go.Sh.cell at hc;split at hc
 ·rename_i e;exact(kS.1 e).1
 ·simp at hc
theorem Cs.lt{h:Hp}{v:Value}{vs:bg}(c:Cs h a (v::vs)):a.block<h.size:=TT (Cs.c0 c)
mutual
theorem bY.lt{D:aQ}{h:Hp}:∀{s:Sl}(fs:cC),bY D h s fs->bY (λb=>D b/\b<h.size) h s fs
  |_,[],hh=>by unfold bY at hh ⊢;exact hh
  | _,g::fs,hh=>by
    unfold bY at hh⊢
    have⟨a,b,p,e,d,x,y⟩:=hh
    refine⟨a,b,p,e,⟨d,?_⟩,jt.lt g x,iw.lt fs y⟩
    have⟨n,au,k,w,id,ix,cs⟩:=g
    unfold jt at x
    have⟨s,c,_⟩:=x
    exact Cs.lt c
theorem iw.lt{D:aQ}{h:Hp}:∀{a:Addr}{i:Nat}(fs:cC),iw D h a i fs->iw (λb=>D b/\b<h.size) h a i fs
 |_,_,[],_=>by unfold iw;trivial
 |_,i,g::fs,hh=>by unfold iw at hh ⊢;exact⟨jt.lt g hh.1,iw.lt fs hh.2⟩
theorem jt.lt{D:aQ}{h:Hp}:∀{a:Addr}(g:aq),jt D h a g->jt (λb=>D b/\b<h.size) h a g
  | _,.mk n au k w id ix cs,hh=>by
    unfold jt at hh⊢
    have⟨s,c,x⟩:=hh
    exact⟨s,c,bY.lt cs x⟩
end
theorem jR.row{h:Hp}(c:jR h a f):∃u,Cs h a (f.row u)/\cH h u f.cs:=by cases f;exact c
abbrev Nw(h:Hp):Nat->Prop:=λb=>h.size<=b
def Mq(cs:cC):Prop:=∀{h:Hp}{s:Sl}{K:Sl->HP}{Kp:PK},cH h s cs->cs.length<=70000->jE cs->(∀t h',az h h'->bY (Nw h) h' t cs->K t h')->Ou s h K Kp
theorem abW{cs:cC}(IH:∀f∈cs,Mq f.cs):Mq cs:=by
  intro h s K Kp hs hl hln hk;have hn:=hs.n;refine aFv (aAa (λx3 x h1=>∃(i:Nat)(us:List Sl),x=i/\i<=cs.length/\us.length=i/\az h h1/\eT h.size 7 h1 x3 (List.zipWith aq.row (cs.take i) us) iz/\
      ∀(j:Nat)(f:aq)(u:Sl),cs[j]? =some f->us[j]? =some u->bY (λb=>h.size<=b/\¬x3.at b) h1 u f.cs)
    (λx3 x _=>cs.length-x.toNat) ⟨0,[],rfl,by omega,rfl,cK _,qY _ _ _ _,by simp⟩ ?_)
  rintro x3 x h1 ⟨i,us,rfl,hi,Kb,g1,o1,hu⟩ N1 hN;have o1n:=o1.n;rw[oG,kP]at o1n;refine aE (λc=>?_) λc=>?_
  · have c:=aM c;have kK:i<cs.length:=ag;have hj:=bx kK;have lE:=kg kK;have Bq:=kE kK;generalize cs[i]=f at hj lE Bq;refine hs.ix rfl hj λa ha=>?_;have⟨u,c,hfu⟩:=ha.row;refine gK (c.ai g1) (aG λb5 hx eb gx kx _=>oD kx rfl λh2 o2 k5=>?_);have g2:=bE gx o2 ag;simp only[bw];have hfl:=(hln.get f Bq).cs;refine aj k5 rfl (IH f Bq ((hfu.gr g1).gr g2) hfl.1 hfl.2 λt h3 g3 ht=>dc (k5.ai g3) aA rfl λh4 o4 k5=>dZ k5 (aG λUo h5 e5 g5 J6 _=>?_));have b5l:h1.size<=b5:=ag;have aIK:b5<h2.size:=by rw[o2.1];exact kx.lt
    have g4:=bE (ak g2 g3) o4 b5l;have G5:=ak g4 g5;have ht5:=wH (bY.fr o4.fr (λb hb e=>by omega) (λ_ hb=>hb) _ ht) g5
    refine(o1.ai G5).ap (by have:=g1.1;have:=G5.1;omega) rfl (new:=[f.row t]) rfl (λr hr=>by simp at hr;subst hr;rfl) (λr hr=>by simp at hr;subst hr;exact row_one f t) (by simpa[aq.row,oq]using iM J6 rfl) ag ag λs' h6 f6 Hv o6=>aW ag ag (hN _ _ _ ⟨i+1,us++[t],by simp,by omega,by simp[Kb],?_,?_,?_⟩ ag)
    ·exact(((bh (ak g1 G5):Tn No h h5)).trans' f6 λd hd eW=>by have:=((o1.ai G5).at hd).1;omega).ai
    ·rw[lE,HO cj];exact o6
    · intro j g v hg hv;have sz5:=G5.1
      by_cases e:j<i
      · rw[iQ ag]at hv;refine bY.fr f6 (λb hb=>hb.1.2) (λb hb=>⟨hb.1.1,λq=>?_⟩) _ (wH (bY.lt _ (hu j g v hg hv)) G5);rcases Hv b q with q|q
        ·exact hb.1.2 q
        ·have:=hb.2;omega
      · have hj':=(cU.1 hv).1;simp only[ij,jw]at hj';have:j=i:=ag;subst this;rw[gm ag,Kb]at hv;simp only[wM,B9,mC]at hv;subst hv;rw[hj]at hg;cases hg;refine bY.fr f6 (λb hb q=>by have:=(o1.at q).2;have:=g2.1;have:=hb.1;omega) (λb hb=>⟨by have:=g1.1;have:=g2.1;have:=hb.1;omega,λq=>?_⟩) _ (bY.lt _ ht5)
        rcases Hv b q with q|q
        ·have:=(o1.at q).2;have:=g2.1;have:=hb.1;omega
        ·have:=hb.2;omega
  · have c:=aM c;have:i=cs.length:=ag;subst this;rw[mz]at o1;refine awS o1.cap (hk _ _ g1 ?_);rcases o1.cases with⟨rfl,e⟩|⟨b,hb,o⟩
    · have:cs=[]:=by
        cases cs with
        |nil=>rfl
        | cons f fs=>cases us with
          |nil=>simp at Kb
          |cons=>simp at e
      subst this;unfold bY;exact⟨rfl,bP _⟩
    ·exact bY.sub (bY.of o Kb hb λj f u hf Bl=>bY.fr (iX _ _) (λ_ _=>id) (λb hb=>hb.1) _ (hu j f u hf Bl)) rfl rfl (bP _)
theorem abX:∀f:aq,Mq f.cs
 |.mk _ _ _ _ _ _ cs=>abW (cs:=cs) λf _=>abX f
theorem arX(cs:cC):Mq cs:=abW λf _=>abX f
def kO(k:Int):Int:=if k=1\/k=20 then 0 else if k=12\/k=13 then 3 else if k=16\/k=17 then 1 else 2
def dL(k:Int):Int:=if k=3\/k=7 then 1 else if k=4\/k=8 then 2 else if k=5\/k=9 then 4 else if k=6\/k=10\/k=11 then 8 else 0
structure n8(h:Hp):Prop where
 k:lZ h
 b:∀i:Nat,1<=i->i<=20->cell h ⟨0,i*4+2,none⟩=some (ah (kO i))
 w:∀i:Nat,1<=i->i<=20->cell h ⟨0,i*4+1,none⟩=some (ah (dL i))
theorem n8.ai{h:Hp}(t:n8 h)(g:az h H):n8 H:=⟨t.k.ai g,λi c a=>g.cell (t.b i c a),λi c a=>g.cell (t.w i c a)⟩
theorem tW.kinds{id ix:Int}{cs:cC}(h:tW k w id ix cs):Shaped k w id ix cs.length/\(cs.length<=32/\jE cs):=by
 have q:=bC.self h;have l:=(bC.jE h).cs;simp only[Tb,aq.k,aq.cs]at q l;refine⟨q.1,?_,l.2⟩;have:=q.1;unfold Shaped at this;omega
def sr(k:Int)(cs:cC):Nat:=if k=19 then 0 else if k=20 then cs.length+1 else cs.length
def uO(k:Int):Nat:=if k=19 then 1 else 0
theorem apu{id ix:Int}{cs:cC}{h:Hp}{K:Sl->HP}(ht:lZ h)(fu:tW k w id ix cs)(vZ:ia cs)(hs:cH h s cs)
  (hk:∀t h',az h h'->t.n=sr k cs->K t h'):X4 k w id ix s h K Kp:=by
 have hq:=fu.kinds;refine aFD (aG λb1 h1 e1 g1 k1 _=>yE k1 (Qi (ht.ai g1) (by show _<=9223372036854775807;omega) vZ (hs.gr g1) λb h2 g2 hb=>?_))
 have k1:=k1.ai g2;have G:=ak g1 g2;obtain rfl:=hb.2 fu;refine bu rfl (aj k1 rfl (aE (λc=>hk _ _ G ?_) λc=>aCl ?_))
 ·have c:=aM c;simp[sr,c]
 have c:=aM c;simp only[bw];refine aj k1 rfl (arX cs (hs.gr G) ag hq.2.2 λt h3 g3 Kc=>aj (k1.ai g3) rfl (aE (λc2=>?_) λc2=>?_))
 ·have c2:=aM c2;refine aG λUo h4 e4 g4 J6 _=>?_;have Gn:=Kc.n;have Kq:cs.length=1:=by have:=hq.1;unfold Shaped at this;omega
  obtain⟨f,hf⟩:∃f,cs[0]? =some f:=⟨cs[0],bx ag⟩;have⟨a,ha,hfa⟩:=(bY.h cs (Kc.gr g4)).get hf;have⟨u,c,_⟩:=hfa.row;have o:eT 0 7 h4 ⟨some ⟨Uo,0,none⟩,1,1⟩ [[.string (bs [101,110,100,115]),.bool false,.int .i64 5,.int .i64 0,.int .i64 0,.int .i64 0,.slice none 0 0]] iz:=
   ⟨λr hr=>by simp at hr;subst hr;rfl,rfl,.inr ⟨Uo,dN _,J6.lt,rfl,rfl,_,J6,bP _,rfl,λi _=>by simp⟩⟩
  refine o.ap (dN _) rfl (new:=[f.row u]) cj (λr hr=>by simp at hr;subst hr;rfl) (λr hr=>by simp at hr;subst hr;exact row_one f u) ?_ cj cj λs' h5 f5 _ o5=>hk _ _ ?_ ?_
  ·rw[ha,Gn.1,Kq];refine⟨by simp[FF],λi v hv=>?_⟩
   have:=c i v (by simpa using hv)
   simpa[add_zero']using this
  ·exact ak G (ak g3 (((bh g4:Tn No h3 h4).trans' f5 λd hd eW=>by have⟨a,ha,hd⟩:=hd;cases ha;simp at hd;omega).ai))
  ·have:=o5.n;simp at this;simp[sr,c2,Kq,this]
 ·have c2:=aM c2;apply hk _ _ (ak G g3);rw[Kc.n.1];simp[sr,c,c2]
theorem anz{id ix:Int}{cs:cC}{h:Hp}{K:Int->Int->Int->HP}(ht:n8 h)(hl:cs.length<=jP)(vZ:ia cs)(hs:cH h s cs)
  (hf:¬tW k w id ix cs->∀h',az h h'->K (-1) (-1) (-1) h') (hk:tW k w id ix cs->∀h',az h h'->K (kO k) (sr k cs) (uO k) h'):Yg k w id ix s h K Kp:=by
 refine aFY (aG λb1 h1 e1 g1 k1 _=>yE k1 (Qi (ht.k.ai g1) hl vZ (hs.gr g1) λb h2 g2 hb=>?_));have k1:=k1.ai g2;have G:=ak g1 g2;cases b
 ·exact bO rfl (hf (λq=>absurd (hb.2 q) aA) _ G)
 have fu:=hb.1 rfl;have hq:=fu.kinds.1;have j1:∀d:Int,d=uO k->Nu K Kp (aJ b1) d h2:=by
  rintro d rfl;refine aCD (aj k1 rfl ⟨by unfold Shaped at hq;omega,by unfold Shaped at hq;omega,?_⟩)
  simp only[bw,cz];have hc:=(ht.ai G).b k.toNat (by unfold Shaped at hq;omega) (by unfold Shaped at hq;omega)
  rw[yH (by unfold Shaped at hq;omega)]at hc
  refine⟨_,hc,yE k1 (apu (ht.k.ai G) fu vZ (hs.gr G) λt h3 g3 Gn=>Cv hc g3 (bM k1 g3 ?_))⟩;rw[Gn];exact hk fu _ (ak G g3)
 refine bu rfl (aj k1 rfl (aE (λc=>j1 _ ?_) λc=>j1 _ ?_))
 ·have c:=aM c;simp[uO,c]
 ·have c:=aM c;simp[uO,c]
def nI(k w ix:Int):Int:=if k=14 then w else if k=19 then dL ix else dL k
theorem akP{id ix:Int}{cs:cC}{h:Hp}{K:cJ}(ht:n8 h)(vZ:ia cs)(hs:cH h s cs)(fu:tW k w id ix cs)
  (hk:∀h',az h h'->K (nI k w ix) h'):X2 k w id ix s h K Kp:=by
 have hq:=fu.kinds;have hl:=hq.2.1;replace hq:=hq.1;refine aFB (aG λb1 h1 e1 g1 k1 _=>yE k1 (Qi (ht.k.ai g1) (by show _<=9223372036854775807;omega) vZ (hs.gr g1) λb h2 g2 hb=>?_))
 have k1:=k1.ai g2;have G:=ak g1 g2;obtain rfl:=hb.2 fu;have Jl:∀x:Int,1<=x->x<=20->dL x=nI k w ix->Ix (bz 0) 21 4 x λa16=>Ld h2 (a16.add 1) mI λt18=>K t18 h2:=by
  intro x h1 h2' e;refine⟨by omega,by omega,?_⟩
  simp only[bw,cz];have hc:=(ht.ai G).w x.toNat ag ag;rw[yH ag,e]at hc;exact⟨_,hc,hk _ G⟩
 unfold Shaped at hq;simp only[bw];refine bu rfl (aj k1 rfl (aE (λc=>aj k1 rfl ?_) λc=>aE (λc2=>aj k1 rfl (Jl _ ?_ ?_ ?_)) λc2=>aj k1 rfl (Jl _ ?_ ?_ ?_)))
 ·have c:=aM c;have:=hk _ G;simp only[c]at this;exact this
 all_goals simp only[sm,reduceCtorEq]at c c2
 all_goals first|omega|simp[nI,c,c2]
inductive bD
 |mk (len off au:Int) (aX:ig) (cs ds:List bD)
abbrev jG:=List bD
variable {d:bD}
def bD.len:bD->Int|.mk n _ _ _ _ _=>n
def bD.off:bD->Int|.mk _ o _ _ _ _=>o
def bD.au:bD->Int|.mk _ _ u _ _ _=>u
def bD.aX:bD->List (List UInt8)|.mk _ _ _ b _ _=>b
def bD.cs:bD->List bD|.mk _ _ _ _ c _=>c
def bD.ds:bD->List bD|.mk _ _ _ _ _ x=>x
def xk(n o u:Int)(b c x:Sl):List Value:=[ah n,ah o,ah u,Sl.v b,Sl.v c,Sl.v x]
def bD.row(d:bD)(p:Sl×Sl×Sl):List Value:=xk d.len d.off d.au p.1 p.2.1 p.2.2
theorem Tz(d:bD)(p:Sl×Sl×Sl):∀v∈d.row p,one v=true:=by intro v a;simp[bD.row,xk]at a;rcases a with rfl|rfl|rfl|rfl|rfl|rfl <;> rfl
def dX(E:aQ)(h:Hp)(s:Sl)(vs:bg):Prop:=Sv h s vs/\(vs≠[]->∀a,s.a=some a->E a.block)
theorem dX.fr{E':aQ}{h:Hp}{vs:bg}(v:dX E h s vs)(f:Tn S h h')(z:∀b,E b->b<h.size->¬S b)(B:∀b,E b->E' b):dX E' h' s vs:=by
 obtain⟨⟨g,l,k⟩,e⟩:=v;refine⟨⟨g,l,λx i=>?_⟩,λj a d=>B _ (e j a d)⟩;obtain⟨a,d,c⟩:=k x i;cases vs with
 |nil=>grind
 |cons w m=>exact⟨a,d,c.fr f (z _ (e aA a d) (Cs.lt c))⟩
theorem dX.lt{h:Hp}{vs:bg}(v:dX E h s vs):dX (λb=>E b/\b<h.size) h s vs:=by
 obtain⟨⟨i,l,g⟩,k⟩:=v;refine⟨⟨i,l,g⟩,λe a f=>⟨k e a f,?_⟩⟩;cases vs with
 |nil=>grind
 |cons w j=>obtain⟨m,d,c⟩:=g j.length ag;rw[f]at d;cases d;exact Cs.lt c
def fc(D E:aQ)(h:Hp)(s:Sl)(aX:ig):Prop:=
 ∃ss:List Sl,ss.length=aX.length/\dX D h s (ss.map Sl.v)/\∀(j:Nat)(t:Sl)(l:dB),ss[j]? =some t->aX[j]? =some l->dX E h t (bv l)
mutual
def dz(D E:aQ)(h:Hp)(s:Sl):List bD->Prop
 |[]=>s.n=0/\s.n<=s.c
 |d::ds=>s.n=ds.length+1/\s.n<=s.c/\∃a,s.a=some a/\D a.block/\iC D E h a d/\ju D E h a 1 ds
def ju(D E:aQ)(h:Hp)(a:Addr)(i:Nat):List bD->Prop
 |[]=>True
 |d::ds=>iC D E h (a.add (i*6)) d/\ju D E h a (i+1) ds
def iC(D E:aQ)(h:Hp)(a:Addr):bD->Prop
 |.mk n o u aX cs ds=>∃b c x,Cs h a (xk n o u b c x)/\fc D E h b aX/\dz D E h c cs/\dz D E h x ds
end
structure eU(D E:aQ)(h:Hp)(p:Sl×Sl×Sl)(d:bD):Prop where
 b:fc D E h p.1 d.aX
 c:dz D E h p.2.1 d.cs
 x:dz D E h p.2.2 d.ds
theorem iC.row{h:Hp}(e:iC D E h a d):∃p,Cs h a (d.row p)/\eU D E h p d:=by
 obtain⟨n,o,u,aX,cs,ds⟩:=d;unfold iC at e;obtain⟨b,c,x,f,j,i,g⟩:=e;exact⟨(b,c,x),f,j,i,g⟩
theorem iC.of{h:Hp}(c:Cs h a (d.row p))(v:eU D E h p d):iC D E h a d:=by
 obtain⟨n,o,u,aX,cs,ds⟩:=d;unfold iC;exact⟨_,_,_,c,v.1,v.2,v.3⟩
section
variable {D' E':aQ} {h:Hp}
theorem fc.fr(f:Tn S h h')(z:∀b,D b->b<h.size->¬S b)(B:∀b,E b->b<h.size->¬S b)(H:∀b,D b->D' b)(G:∀b,E b->E' b){s:Sl}{aX:ig}(v:fc D E h s aX):fc D' E' h' s aX:=by
 obtain⟨a,hl,c,d⟩:=v;exact⟨a,hl,c.fr f z H,λj t l g e=>(d j t l g e).fr f B G⟩
theorem fc.lt{aX:ig}(v:fc D E h s aX):fc (λb=>D b/\b<h.size) (λb=>E b/\b<h.size) h s aX:=by
 obtain⟨a,hl,c,d⟩:=v;exact⟨a,hl,c.lt,λj t l f e=>(d j t l f e).lt⟩
mutual
theorem dz.fr(f:Tn S h h')(hn:∀b,D b->b<h.size->¬S b)(hm:∀b,E b->b<h.size->¬S b)(hD:∀b,D b->D' b)(hE:∀b,E b->E' b):∀{s:Sl}(ds:jG),dz D E h s ds->dz D' E' h' s ds
  |_,[],hh=>by unfold dz at hh ⊢;exact hh
  | _,d::ds,hh=>by
    unfold dz at hh⊢
    obtain⟨a,b,p,e,q,x,y⟩:=hh
    have eW:p.block<h.size:=by obtain⟨n,o,u,aX,cs,es⟩:=d;unfold iC at x;obtain⟨_,_,_,c,_⟩:=x;exact Cs.lt c
    exact⟨a,b,p,e,hD _ q,iC.fr f hn hm hD hE (hn _ q eW) d x,ju.fr f hn hm hD hE (hn _ q eW) ds y⟩
theorem ju.fr(f:Tn S h h')(hn:∀b,D b->b<h.size->¬S b)(hm:∀b,E b->b<h.size->¬S b)(hD:∀b,D b->D' b)(hE:∀b,E b->E' b):∀{a:Addr}(ha:¬S a.block){i:Nat}(ds:jG),ju D E h a i ds->ju D' E' h' a i ds
  |_,_,_,[],_=>by unfold ju;trivial
  | _,ha,i,d::ds,hh=>by
    unfold ju at hh⊢
    exact⟨iC.fr f hn hm hD hE (by rw[Ce];exact ha) d hh.1,ju.fr f hn hm hD hE ha ds hh.2⟩
theorem iC.fr(f:Tn S h h')(hn:∀b,D b->b<h.size->¬S b)(hm:∀b,E b->b<h.size->¬S b)(hD:∀b,D b->D' b)(hE:∀b,E b->E' b):∀{a:Addr}(ha:¬S a.block)(d:bD),iC D E h a d->iC D' E' h' a d
  | _,ha,.mk n o u aX cs ds,hh=>by
    unfold iC at hh⊢
    obtain⟨b,c,x,hc,h1,h2,h3⟩:=hh
    exact⟨b,c,x,hc.fr f ha,h1.fr f hn hm hD hE,dz.fr f hn hm hD hE cs h2,dz.fr f hn hm hD hE ds h3⟩
end
mutual
theorem dz.lt:∀{s:Sl}(ds:jG),dz D E h s ds->dz (λb=>D b/\b<h.size) (λb=>E b/\b<h.size) h s ds
  |_,[],hh=>by unfold dz at hh ⊢;exact hh
  | _,d::ds,hh=>by
    unfold dz at hh⊢
    obtain⟨a,b,p,e,q,x,y⟩:=hh
    have eW:p.block<h.size:=by obtain⟨n,o,u,aX,cs,es⟩:=d;unfold iC at x;obtain⟨_,_,_,c,_⟩:=x;exact Cs.lt c
    exact⟨a,b,p,e,⟨q,eW⟩,iC.lt d x,ju.lt ds y⟩
theorem ju.lt:∀{a:Addr}{i:Nat}(ds:jG),ju D E h a i ds->ju (λb=>D b/\b<h.size) (λb=>E b/\b<h.size) h a i ds
 |_,_,[],_=>by unfold ju;trivial
 |_,i,d::ds,hh=>by unfold ju at hh ⊢;exact⟨iC.lt d hh.1,ju.lt ds hh.2⟩
theorem iC.lt:∀{a:Addr}(d:bD),iC D E h a d->iC (λb=>D b/\b<h.size) (λb=>E b/\b<h.size) h a d
  | _,.mk n o u aX cs ds,hh=>by
    unfold iC at hh⊢
    obtain⟨b,c,x,hc,h1,h2,h3⟩:=hh
    exact⟨b,c,x,hc,h1.lt,dz.lt cs h2,dz.lt ds h3⟩
end
theorem dz.gr{ds:jG}(v:dz D E h s ds)(g:az h h'):dz D E h' s ds:=dz.fr (bh g) (λ_ _ _=>id) (λ_ _ _=>id) (λ_ q=>q) (λ_ q=>q) ds v
theorem eU.fr(f:Tn S h h')(z:∀b,D b->b<h.size->¬S b)(B:∀b,E b->b<h.size->¬S b)(H:∀b,D b->D' b)(G:∀b,E b->E' b){p:Sl×Sl×Sl}{d:bD}(v:eU D E h p d):eU D' E' h' p d:=
 ⟨v.b.fr f z B H G,dz.fr f z B H G _ v.c,dz.fr f z B H G _ v.x⟩
theorem eU.lt(v:eU D E h p d):eU (λb=>D b/\b<h.size) (λb=>E b/\b<h.size) h p d:=⟨v.b.lt,dz.lt _ v.c,dz.lt _ v.x⟩
theorem eU.gr(v:eU D E h p d)(g:az h h'):eU D E h' p d:=v.fr (bh g) (λ_ _ _=>id) (λ_ _ _=>id) (λ_ q=>q) (λ_ q=>q)
theorem fc.gr{aX:ig}(v:fc D E h s aX)(g:az h h'):fc D E h' s aX:=v.fr (bh g) (λ_ _ _=>id) (λ_ _ _=>id) (λ_ q=>q) (λ_ q=>q)
theorem eU.mo(v:eU D E h p d)(c:∀b,D b->D' b)(a:∀b,E b->E' b):eU D' E' h p d:=v.fr (iX _ _) (λ_ _ _=>id) (λ_ _ _=>id) c a
theorem ju.get:∀{a:Addr}{ds:jG}{i:Nat},ju D E h a i ds->∀(j:Nat)d,ds[j]? =some d->iC D E h (a.add ((i+j)*6)) d
  |_,[],_,_,_,_,b=>by simp at b
  |_,f::k,i,c,0,g,b=>by grind[ju]
  | _,f::k,i,c,j+1,g,b=>by
    unfold ju at c;have:=ju.get c.2 j g (by simpa using b)
    grind
theorem dz.get{ds:jG}(f:dz D E h s ds){j:Nat}{d:bD}(c:ds[j]? =some d):∃a,s.a=some a/\iC D E h (a.add (j*6)) d:=by
  cases ds with
  |nil=>simp at c
  | cons g l=>
    unfold dz at f;obtain⟨_,_,a,b,_,k,i⟩:=f;refine⟨a,b,?_⟩;cases j with
    |zero=>simp_all[add_zero']
    | succ j=>
      have:=i.get j d (by simpa using c)
      grind
theorem dz.n{ds:jG}(z:dz D E h s ds):s.n=ds.length/\s.n<=s.c:=by
 cases ds with
 |nil=>unfold dz at z;exact z
 |cons g a=>unfold dz at z;grind
theorem dz.ix{ds:jG}(g:dz D E h s ds){x:Int}{i:Nat}(B:x=(i:Int)){d:bD}(z:ds[i]? =some d){K:Addr->Prop}(C:∀a p,Cs h a (d.row p)->eU D E h p d->K a):Ix s.a s.n 6 x K:=by
 obtain⟨a,e,b⟩:=g.get z;obtain⟨p,c,v⟩:=b.row;have f:=g.n;have j:i<ds.length:=bU;subst B;rw[e];exact⟨ag,ag,by rw[fR];exact C _ _ c v⟩
theorem ju.of:∀{ds:jG}{i:Nat},(∀j d,ds[j]? =some d->iC D E h (a.add ((i+j)*6)) d)->ju D E h a i ds
  |[],_,_=>by unfold ju;trivial
  | f::c,i,H=>by
    unfold ju;refine⟨H 0 f rfl,ju.of λj g b=>?_⟩;have:=H (j+1) g dM
    grind
theorem dz.of{b:Nat}{ds:jG}{q:List (Sl×Sl×Sl)}(o:lY 6 h s b (List.zipWith bD.row ds q) el)(hl:q.length=ds.length)(B:D b)
    (z:∀(j:Nat)(d:bD)(p:Sl×Sl×Sl),ds[j]? =some d->q[j]? =some p->eU D E h p d):dz D E h s ds:=by
  have f:=o.n;rw[oG,hl,Ef]at f;have key:∀j d,ds[j]? =some d->iC D E h ⟨b,j*6,none⟩ d:=by
    intro j d i;have l:=(cU.1 i).1;have c:q[j]? =some q[j]:=aA;exact iC.of (o.cs bU) (z j d _ i c)
  cases ds with
  |nil=>unfold dz;simp[*]
  | cons d ds=>
    unfold dz;refine⟨ag,o.cap,_,o.a,B,by simpa using key 0 d rfl,ju.of λj g k=>?_⟩
    rw[bw,cz];have:=key (j+1) g dM
    grind
theorem dz.nil(h:Hp):dz D E h Sl.nil []:=by unfold dz;exact⟨rfl,bP _⟩
abbrev jH:=@dz.nil
theorem dz.snoc{n:Nat}{ds:jG}{a:List (Sl×Sl×Sl)}(o:eT n 6 h s (List.zipWith bD.row ds a) el)(hl:a.length=ds.length)(g:∀b,n<=b->D b)
    (c:∀(j:Nat)(d:bD)(p:Sl×Sl×Sl),ds[j]? =some d->a[j]? =some p->eU D E h p d):dz D E h s ds:=by
  rcases o.cases with⟨rfl,e⟩|⟨b,f,o⟩
  · have:ds=[]:=by
      cases ds with
      |nil=>rfl
      |cons d ds=>simp_all
    subst this;exact jH h
  ·exact dz.of o hl (g b f) c
end
abbrev K6:=Int->Int->Int->Sl->Sl->Sl->HP
theorem Jj{α β γ:Type}{g:α->β->γ}{l:List α}{m:List β}{x:α}{y:β}(a:l[i]? =some x)(d:m.length=i):List.zipWith g (l.take (i+1)) (m++[y])=List.zipWith g (l.take i) m++[g x y]:=by
 have c:=(cU.1 a).1;have b:l.take (i+1)=l.take i++[x]:=by
  rw[kg c];rw[bx c]at a;cases a;rfl
 rw[b,HO cj];rfl
theorem xu{α:Type}{m:List α}{y v:α}(c:m.length=i)(a:(m++[y])[j]? =some v):(j<i/\m[j]? =some v)\/(j=i/\v=y):=by
 grind
theorem RT(vs:bg):(vs.map λv=>[v]).flatten=vs:=by induction vs <;> simp_all
theorem aaX(vs:bg):w9 1 (vs.map λv=>[v]):=by intro r a;grind
theorem ant(b:List Sl):∀r∈(b.map Sl.v).map λv=>[v],∀v∈r,one v=true:=by
 intro r d v a;obtain⟨w,c,rfl⟩:=lU.1 d;obtain⟨t,_,rfl⟩:=lU.1 c;simp at a;subst a;rfl
theorem eT.lp{n:Nat}{h:Hp}{vs:bg}(o:eT n 1 h s (vs.map λv=>[v]) el):dX (λb=>n<=b) h s vs:=by
 refine⟨?_,λ_ a c=>(o.at ⟨a,c,rfl⟩).1⟩;have:=o.sh;rw[RT]at this;exact this.sv
theorem awR{g h:Hp}{aX:ig}{K:Sl->HP}{G:PK}(u:az g h)(y:fc D E g s aX)(hl:aX.length<=70000)
  (p:∀t m,az h m->fc (Nw h) E m t aX->K t m):XU s h K G:=by
 obtain⟨i,f,b,A⟩:=y;have o:=b.1.1;rw[cm]at o;refine aFp (aE (λc=>?_) λc=>?_)
 ·refine p _ h (cK _) ⟨[],?_,⟨yF h,λq=>absurd rfl q⟩,λj t l e=>by simp at e⟩
  rcases b.1.na with q|q
  all_goals simp_all
 ·refine aG λJ e F n x _=>(eT.start x (Ei F.symm)).ap ag rfl (by simp[o]) (aaX _) (ant i) ?_ cj cj λt k C I w=>?_
  ·rw[RT];exact(b.1.ai (ak u n)).A7 b.1.na
  ·have r:=((bh n:Tn No h e).trans' C λd⟨a,B,z⟩H=>bU).ai
   exact p t k r ⟨i,f,(eT.lp w),λj t l e k=>(A j t l e k).fr (bh (ak u r)) (λ_ _ _=>id) λ_ q=>q⟩
theorem axr(l:dB):∀r∈(bv l).map λv=>[v],∀v∈r,one v=true:=by
 grind[axt]
abbrev B33(h:Hp)(b:Nat)(d:bD)(p:Sl×Sl×Sl):Prop:=aN h b #[ah d.len,ah d.off,ah d.au,Sl.v p.1,Sl.v p.2.1,Sl.v p.2.2] bX
abbrev Tt:Nat->Prop:=λ_=>True
abbrev CG(h:Hp)(p:Sl×Sl×Sl)(d:bD):Prop:=eU Tt Tt h p d
def jW:List UInt8->Nat
 |[]=>0
 |b::l=>b.toNat+256*jW l
theorem R2(l:dB):jW l<2^(8*l.length):=by
  induction l with
  |nil=>simp[jW]
  | cons b l a=>
    have c:=b.toNat_lt;have e:2^(8*(l.length+1))=256*2^(8*l.length):=by rw[Nat.mul_add,HN,HM]
    simp only[jW,iq];omega
theorem abE(l:dB)(b:UInt8):jW (l++[b])=jW l+b.toNat*2^(8*l.length):=by
  induction l with
  |nil=>simp[jW]
  | cons c l a=>
    have e:2^(8*(l.length+1))=256*2^(8*l.length):=by rw[Nat.mul_add,HN,HM]
    simp only[yJ,jW];grind
def sg(w x:Nat):Int:=if x<2^(8*w-1)then x else(x:Int)-2^(8*w)
def oZ(l:dB)(i w:Nat):Nat:=jW ((l.drop i).take w)
theorem abg(l:dB)(i w:Nat):oZ l i w<2^(8*w):=kZ (R2 _) (Ee aY cj)
def i32(l:dB)(i:Nat):Int:=sg 4 (oZ l (4*i) 4)
def gI(l:dB)(r:Nat):Bool:=(l.getD (r/8) 0).toNat/2^(r%8)%2==1
theorem Ux(x:Nat):gH .and .u8 (x:Int) 1=((x%2:Nat):Int):=by
 have a:(BitVec.ofInt 8 (x:Int)&&&BitVec.ofInt 8 1).toNat=x%2:=by
  have e1:BitVec.ofInt 8 (x:Int)=BitVec.ofNat 8 x:=aA
  have b:BitVec.ofInt 8 1=BitVec.ofNat 8 1:=by decide
  rw[e1,b,UW,wL,wL];have:1%2^8=1:=by decide
  rw[this,Nat.and_one_is_mod];omega
 show IntKind.wrap .u8 ((BitVec.ofInt 8 (x:Int)&&&BitVec.ofInt 8 1).toNat:Int)=_
 rw[a,IntKind.wrap_u8];omega
theorem aaR(x y:Nat)(b:x<2^64)(a:y<2^64):gH .or .u64 (x:Int) (y:Int)=((x|||y:Nat):Int):=by
 have e:(BitVec.ofInt 64 (x:Int)|||BitVec.ofInt 64 (y:Int)).toNat=x|||y:=by
  rw[BitVec.toNat_or,Ed,Ed,wL,wL,uY b,uY a]
 show IntKind.u64.wrap ((BitVec.ofInt 64 (x:Int)|||BitVec.ofInt 64 (y:Int)).toNat:Int)=_
 rw[e];simp only[IntKind.wrap,IntKind.signed,IntKind.bits];simp;omega
theorem apO{n k:Nat}(a:n<2^k):n|||(m*2^k)=n+m*2^k:=by
 have:=Nat.shiftLeft_add_eq_or_of_lt a m;rw[Nat.shiftLeft_eq]at this;grind
theorem pQ{k:IntKind}{x:Nat}{K:Int->Prop}(b:k.signed=false)(a:x<2^k.bits)(c:K x):Wr k (x:Int) K:=by
 have:k.wrap (x:Int)=x:=by
  unfold IntKind.wrap;rw[b];have e:((2^k.bits:Nat):Int)=(2:Int)^k.bits:=by norm_cast
  have d:(x:Int)%(2:Int)^k.bits=x:=by rw[<-e];exact Int.emod_eq_of_lt ag ag
  simp[d]
 unfold Wr;simp[*]
theorem axu(l:dB)(i:Nat):(bv l)[i]? =(l[i]?).map λb=>Value.int .u8 b.toNat:=by simp[bv]
theorem afN{h:Hp}{vs:bg}{p g o:Option Int}{K:Sl->Prop}(v:Sv h s vs){a b m:Nat}(e:p.getD 0=(a:Int))(j:g.getD s.n=(b:Int))(l:o.getD s.c=(m:Int))(E:a<=b)(D:b<=vs.length)(C:b<=m)(B:m<=s.c)
  (u:∀t:Sl,t.n=b-a->t.c=m-a->(∀x,t.a=some x->∃y,s.a=some y/\x.block=y.block)->Sv h t ((vs.drop a).take (b-a))->K t):jA s 1 p g o K:=by
 obtain⟨A,z,q⟩:=v;refine⟨ag,ag,ag,ag,u _ bU dM ?_ ⟨?_,?_,?_⟩⟩
 ·intro x d;simp only[me]at d;split at d
  ·simp[*]
  ·cases f:s.a with
   |none=>grind
   |some y=>rw[f]at d;cases d;exact⟨y,rfl,Ce _ _⟩
 ·grind
 ·grind
 ·intro x d;simp only[e,j]at d ⊢;obtain⟨y,r,c⟩:=q (s.n-1) ag;refine⟨y.add _,by rw[me,ay,r];rfl,λi w k=>?_⟩
  rw[u7,ayd];have g:i<b-a:=by have:=(cU.1 k).1;simp at this;omega
  rw[aff g,HL]at k;exact c _ _ k
theorem aeN(l:dB)(a n:Nat):((bv l).drop a).take n=bv ((l.drop a).take n):=by simp[bv]
theorem VH{h:Hp}{l:dB}(v:Sv h s (bv l)){x:Int}{i:Nat}{b:UInt8}(d:x=i)(c:l[i]? =some b){K:Int->Prop}(f:K b.toNat):Ix s.a s.n 1 x λa=>Ld h a (.int .u8) λt=>K t:=by
 have j:=(cU.1 c).1;have e:=v.1;rw[fM]at e;subst d;exact v.ix ag ag (by rw[fR,axu,c];rfl) λa g=>⟨_,g,f⟩
theorem aqz{n:Nat}{h:Hp}{K:cJ}{b:PK}(d:n<=2^40)(a:K ((n+7)/8:Nat) h):X3 (n:Int) h K b:=by
 refine aFC (cL (λc=>?_) λc=>?_)
 ·have:(n+7)/8=0:=ag;rw[this]at a;exact a
 ·have e:Int.tdiv ((n:Int)-1) 8=(((n-1)/8:Nat):Int):=by
   have:(n:Int)-1=((n-1:Nat):Int):=ag;rw[this];rfl
  refine aW ag ag (oP aY (aW ag ag (aW ag ag ?_)))
  rw[e];have:(((n-1)/8:Nat):Int)+1=((n+7)/8:Nat):=ag;rw[this];exact a
theorem axA{l:dB}{r:Nat}{h:Hp}{K:fJ}(v:Sv h s (bv l))(hr:r/8<l.length)(hl:r<=2^40)(hk:K (gI l r) h):Yd s (r:Int) h K Kp:=by
 have e1:Int.tdiv (r:Int) 8=((r/8:Nat):Int):=rfl;have e2:Int.tmod (r:Int) 8=((r%8:Nat):Int):=rfl;refine aFS (oP aY (aW (by rw[e1];omega) (by rw[e1];omega) ?_))
 have hb:=bx hr;have hg:l.getD (r/8) 0=l[r/8]:=by simp[hr]
 unfold gI at hk;rw[hg]at hk;generalize l[r/8]=b at hb hk;refine VH v e1 hb (oP aY ?_);rw[e2];apply js ag;have e3:Int.fdiv (b.toNat:Int) (2^(min (Int.toNat ((r%8:Nat):Int)) (IntKind.bits .u8)))=((b.toNat/2^(r%8):Nat):Int):=by
  have:min (Int.toNat ((r%8:Nat):Int)) (IntKind.bits .u8)=r%8:=by
   have:IntKind.bits .u8=8:=rfl;rw[this,fR];omega
  rw[this,Ec _ (HK (Ea aY))]
  norm_cast
 unfold Lt;rw[e3]
 show K _ h
 rw[Ux];have:((((b.toNat/2^(r%8))%2:Nat):Int)==1)=(b.toNat/2^(r%8)%2==1):=by
  rw[ke];simp only[nv];omega
 rw[this];exact hk
theorem axD{l:dB}{r:Nat}{h:Hp}{K:Bool->Int->HP}{d:PK}(v:Sv h s (bv l))(hl:r<=2^40)(a:∀e,K (gI l r) e h):Yn s (r:Int) h K d:=by
 have b:=v.1;rw[fM]at b;have e1:Int.tdiv (r:Int) 8=((r/8:Nat):Int):=rfl;refine aGa (bu aA (oP aY (aW ag ag (cL (λc=>?_) λc=>?_))))
 ·rw[e1]at c;have:gI l r=false:=by
   unfold gI;have:l.getD (r/8) 0=0:=by rw[gL,HV ag];rfl
   rw[this];simp
  have q:=a 2;rw[this]at q;exact q
 ·rw[e1]at c;exact axA v ag hl (a 0)
def mR(k:Int):Bool:=k !=1&&k !=18&&k !=20
theorem acC{h:Hp}{K:fJ}{d:PK}(a:K (mR k) h):OB k h K d:=by
 unfold mR at a;refine aGk (aE (λc=>aiS ?_) λc=>aiS (bu rfl ?_))
 ·rw[c,Ah]at a;refine aE (λb=>?_) λb=>?_
  ·rw[b,Ah]at a;exact a
  ·rw[b,D8]at a;exact a
 ·rw[c,D8,D8]at a;exact a
def dD(aX:ig)(j:Nat):List UInt8:=aX.getD j []
theorem axw{aX:ig}(h:j<aX.length):aX[j]? =some (dD aX j):=by simp[dD,h]
def jC(k:Int)(aX:ig)(r:Nat):Bool:=k==1||(mR k&&((dD aX 0).length !=0&&!gI (dD aX 0) r))
theorem fc.ix{h:Hp}{aX:ig}(v:fc D E h s aX){x:Int}{j:Nat}(g:x=(j:Int))(B:j<aX.length){K:Addr->Prop}(z:∀a t,cell h a=some (Sl.v t)->dX E h t (bv (dD aX j))->K a):Ix s.a s.n 1 x K:=by
 obtain⟨c,hl,d,f⟩:=v;have e:=d.1.1;rw[cm]at e;have b:c[j]? =some c[j]:=aA;subst g;exact d.1.ix ag ag dM λa i=>z a _ i (f j _ _ b (axw B))
theorem fc.n{h:Hp}{aX:ig}(v:fc D E h s aX):s.n=aX.length/\s.n<=s.c:=by
 obtain⟨b,hl,a,_⟩:=v;have:=a.1.1;rw[cm]at this;exact⟨ag,a.1.2.1⟩
theorem abb{C:ff}{au:Bool}{id ix n z:Int}{b c S:Sl}{aX:ig}{r:Nat}{h:Hp}{K:fJ}{J:PK}(v:fc D E h b aX)(A:mR k=true->1<=aX.length)(F:r<=2^40)
  (d:∀B,az h B->K (jC k aX r) B):OC C au k w id ix s n y z b c S (r:Int) h K J:=by
 refine aGp (aG λO L e1 I q _=>aG λN H M j p _=>?_);simp only[bw];have G:=ak I j;have d:=d H G;unfold jC at d;refine aj (q.ai j) rfl (aE (λm=>?_) λm=>aj (q.ai j) rfl (acC ?_))
 ·rw[m,Bool.true_or]at d;exact d
 rw[m,U8]at d;refine aE (λf=>?_) λf=>?_
 ·rw[tS]at f;rw[f,D8]at d;exact d
 rw[U0]at f;rw[f,Ah]at d;refine aj p rfl ((v.gr G).ix rfl (A f) λa t l i=>⟨_,l,?_⟩);have tn:=i.1.1;rw[fM]at tn;refine aE (λg=>?_) λg=>aCZ (aj p rfl ((v.gr G).ix rfl (A f) λa t l i=>⟨_,l,axD i.1 F λe=>?_⟩))
 ·have g:=aM g;simp_all
 ·have g:=aM g;have:((dD aX 0).length !=0)=true:=by rw[yN];omega
  grind
def uS(k:Int)(aX:ig)(o n:Nat):Nat:=(List.range n).countP λi=>jC k aX (o+i)
theorem awG(k:Int)(aX:ig)(o n:Nat):uS k aX o n<=n:=by
 have:=List.countP_le_length (p:=λi=>jC k aX (o+i)) (l:=List.range n);simpa[uS]using this
theorem awF(k:Int)(aX:ig)(o n:Nat):uS k aX o (n+1)=uS k aX o n+if jC k aX (o+n)then 1 else 0:=by
 simp[uS,uX]
theorem aww{q:ff}{au:Bool}{id ix n o u:Int}{b c:Sl}{aX:ig}{N O:Nat}{h:Hp}{K:cJ}{I:PK}(v:fc D E h b aX)(F:mR k=true->1<=aX.length)(A:n=N)(r:o=O)
  (hN:N<=2^30) (P:O<=2^30) (B:∀f,az h f->K (uS k aX O N) f):Xe q au k w id ix s n o u b c t h K I:=by
 subst A r;refine aDi (aG λU J e1 H j _=>aG λT C S p g _=>aj g rfl ?_);have G:=ak H p;have j:=j.ai p;apply ay3 (λy z f=>∃i:Nat,z=i/\i<=N/\y=uS k aX O i/\az C f) (λ_ z _=>N-z.toNat) ⟨0,rfl,ag,rfl,cK _⟩
 rintro y z R ⟨i,rfl,L,rfl,a⟩ V e;have M:=awG k aX O i;refine cL (λd=>?_) λd=>?_
 ·simp only[bw];refine dZ (j.ai a) (gl (g.ai a) (aj (g.ai a) rfl (aW ag ag ?_)));rw[show _+i=((O+i:Nat):Int) by omega]
  refine abb (v.gr (ak G a)) F ag λQ m=>?_;have cs:=awF k aX O i;refine aE (λl=>?_) λl=>?_
  ·rw[aI l]at cs;exact aW ag ag (aW ag ag (e _ _ _ ⟨i+1,aA,ag,ag,ak a m⟩ ag))
  ·rw[aC (by simp[l])]at cs
   exact aW ag ag (e _ _ _ ⟨i+1,aA,ag,ag,ak a m⟩ ag)
 ·have:i=N:=ag;grind[az.trans]
theorem auB{n:Int}{h:Hp}{K:Int->Sl->Int->HP}{j:PK}(g:∀a,az h a->K e Sl.nil n a):nB e n h K j:=
 aDd (aG λb l e1 i f _=>mw f rfl λk c d=>nY d (g _ (bE i c ag)))
theorem ac9{n:Int}{h:Hp}{b:Nat}{cs:Array Value}{K:Int->Sl->Int->HP}{u:PK}(g:az H h)(k:aN h b cs el)(r:cs.size=3)(t:H.size<=b)(s:∀d,az H d->K e Sl.nil n d):nB e n h (λl j i c=>dW c (aJ b) l j i λa=>eG a (aJ b) λr0 o m=>K r0 o m a) u:=
 auB λc f=>mw (k.ai f) r λa p q=>nY q (s _ (bE (ak g f) p t))
theorem ap6{h:Hp}{b:Nat}{cs:Array Value}{K:Int->Sl->Int->HP}(g:az H h)(k:aN h b cs el)(j:cs.size=3)(m:H.size<=b)(l:∀c,az H c->K 0 Sl.nil 0 c):dW h (aJ b) 0 bT 0 λa=>eG a (aJ b) λr0 e d=>K r0 e d a:=
 mw k j λa f i=>nY i (l _ (bE g f m))
def Ie(au:Bool)(k:Int)(d:bD):Prop:=d.au=uS k d.aX d.off.toNat d.len.toNat/\(0<uS k d.aX d.off.toNat d.len.toNat->au=true)
theorem aqk{W:ff}{au:Bool}{id ix:Int}{b c:Sl}{h:Hp}{K:Int->Sl->Int->HP}{U:PK}(v:fc D E h b d.aX)(X:mR k=true->1<=d.aX.length)
  (h2:0<=d.len/\d.len<=4096) (h3:0<=d.off/\d.off<=4096) (Q:∀e t n p,az h p->t=Sl.nil->(e=0↔Ie au k d)->K e t n p):Ye W au k w id ix s d.len d.off d.au b c u h K U:=by
 refine aFW (aG λb2 a' e1 T F _=>aG λb3 Z e2 J C _=>aG λA Y e3 I P _=>?_);have G:=ak T (ak J I);have F:=(F.ai J).ai I;have C:=C.ai I;have B:h.size<=A:=by have:=T.1;have:=J.1;omega
 refine dZ F (gl C (aww (v.gr G) X (N:=d.len.toNat) (O:=d.off.toNat) ag ag ag ag λS r=>?_));have V:=ak G r;simp only[bw];have bad:¬Ie au k d->nB 81 1 S _ U:=λq=>
  ac9 V (P.ai r) rfl B λp L=>Q _ _ _ p L rfl ⟨λy=>absurd y aY,λy=>(q y).elim⟩
 have j:Ie au k d->dW S _ 0 bT 0 λH=>eG H _ λg f a=>K g f a H:=λq=>
  ap6 V (P.ai r) rfl B λp L=>Q _ _ _ p L rfl ⟨λ_=>q,λ_=>rfl⟩
 refine aj (C.ai r) rfl (aE (λi=>bad λq=>?_) λi=>aE (λM=>aj (F.ai r) rfl (aE (λz=>bad λq=>?_) λz=>j ?_)) λM=>j ?_)
 ·have i:=aM i;exact i q.1
 ·simp only[sm,reduceCtorEq]at M z;have:=q.2 ag;grind
 ·simp only[sm,reduceCtorEq]at i z;exact⟨i,λ_=>z⟩
 ·simp only[sm,reduceCtorEq]at i M;exact⟨i,λq=>absurd q ag⟩
def jq(k w ix:Int)(j e hv:Nat):Nat:=
 if k=18 then e*(1+3*j)else if(j=0/\hv=0)\/j=2 then 0 else if j=0\/k=2 then(e+7)/8 else if k=12\/k=13\/k=15 then 4*(e+1)else e*(nI k w ix).toNat
theorem akW{id ix:Int}{cs:cC}(h:tW k w id ix cs):0<=nI k w ix/\nI k w ix<=16:=by
 have:=h.kinds.1;unfold Shaped at this;have wk:∀y:Int,0<=dL y/\dL y<=8:=by intro y;unfold dL;repeat' omega
 unfold nI;grind
theorem aqy{id ix:Int}{cs:cC}{e hv:Nat}{h:Hp}{K:cJ}{o:PK}(J:n8 h)(v:ia cs)(L:cH h s cs)(n:tW k w id ix cs)(P:j<=3)(D:e<=2^30)(H:x=e)(G:y=hv)
  (a:∀E,az h E->K (jq k w ix j e hv) E):Yf k w id ix s (j:Int) x y h K o:=by
 subst H G;refine aFX (aG λr f Q g l _=>aj l rfl (cL (λc=>?_) λc=>?_))
 ·have a:=a f g;rw[jq,aI c]at a;refine aW ag ag (aW ag ag ?_);have e1:(e:Int)*(1+3*(j:Int))=((e*(1+3*j):Nat):Int):=aA
  have O:e*(1+3*j)<=2^30*10:=tN D ag;rw[e1];exact aW ag ag a
 have fP:=c
 -- F B p
 have j3:¬((j=0/\hv=0)\/j=2)->¬(j=0\/k=2)->∀b:Bool,(b=true->k=12\/k=13)->(b=false->k≠12/\k≠13)->Nr K o (e:Int) (aJ r) b f:=by
  intro i C b A z;have fin:(k=12\/k=13\/k=15)->aO ((e:Int)+1) λu=>aO ((4:Int)*u) λt=>K t f:=by
   intro q;have a:=a f g;rw[jq,aC fP,aC i,aC C,aI q]at a;refine aW ag ag (aW ag ag ?_);have e1:(4:Int)*((e:Int)+1)=((4*(e+1):Nat):Int):=ag;rw[e1];exact a
  refine aCA (aE (λc=>fin ?_) λc=>aj l rfl (aE (λd=>fin ?_) λd=>yE l (akP (J.ai g) v (L.gr g) n λM N=>?_)))
  ·grind
  ·grind
  ·have d:=aM d;have:=z c;have a:=a M (ak g N);rw[jq,aC fP,aC i,aC C,ay]at a;have I:=akW n;have e1:(e:Int)*nI k w ix=((e*(nI k w ix).toNat:Nat):Int):=by
    rw[UU,yH I.1]
   have O:e*(nI k w ix).toNat<=2^30*16:=tN D ag;rw[e1];exact aW ag ag a
 have j2:¬((j=0/\hv=0)\/j=2)->∀b:Bool,(b=true↔(j=0\/k=2))->Nt K o (e:Int) (aJ r) b f:=by
  intro i b m;refine aCB (aE (λc=>aqz ag ?_) λc=>aj l rfl (aE (λd=>j3 i ?_ true ?_ ?_) λd=>aj l rfl (j3 i ?_ _ ?_ ?_)))
  ·have a:=a f g;rw[jq,aC fP,aC i,aI (m.1 c)]at a;exact a
  all_goals grind
 have j1:∀b:Bool,(b=true↔((j=0/\hv=0)\/j=2))->Iy K o (j:Int) (e:Int) (aJ r) b f:=by
  intro b m;refine aCC (aE (λc=>?_) λc=>aE (λd=>j2 ?_ true ?_) λd=>aj l rfl (j2 ?_ _ ?_))
  ·have a:=a f g;rw[jq,aC fP,aI (m.1 c)]at a;exact a
  all_goals grind
 refine aE (λc=>aE (λd=>j1 _ ?_) λd=>j1 _ ?_) λc=>j1 _ ?_
 all_goals grind
def xA(d:bD):List bD:=if d.ds.length>0 then d.ds else d.cs
def KR:aq:=.mk (bs [101,110,100,115]) false 5 0 0 0 []
def rX(k:Int)(cs:cC):List aq:=if k=20 then KR::cs else cs
theorem apt{h:Hp}{K:Sl->HP}{g:PK}(v:eU D E h p d)(f:∀s e,az h e->dz D E e s (xA d)->K s e):Yu d.len d.off d.au p.1 p.2.1 p.2.2 h K g:=by
 have i:=v.x.n;refine aGn (aG λk j e1 a b _=>?_);simp only[bw];refine aj b rfl (aE (λc=>aj b rfl (f _ _ a ?_)) λc=>aj b rfl (f _ _ a ?_))
 ·have c:=aM c;rw[xA,dR];exact v.x.gr a
 ·have c:=aM c;rw[xA,ay];exact v.c.gr a
abbrev KF:=ByteArray->Bool->Int->Int->Int->Int->Sl->HP
structure tX(au:Bool)(k w id ix:Int)(cs:cC)(d:bD):Prop where
 ty:tW k w id ix cs
 nb:(d.aX.length:Int)=kO k
 nc:d.cs.length=sr k cs
 nd:d.ds.length=uO k
 l0:0<=d.len
 o0:0<=d.off
 u0:0<=d.au
 ul:d.au<=d.len
 l1:d.len<=4096
 o1:d.off<=4096
 e1:d.off+d.len<=4096
 BW:∀j,j<d.aX.length->(dD d.aX j).length<=65536
 FU:∀j,j<d.aX.length->jq k w ix j (d.off+d.len).toNat (dD d.aX j).length<=(dD d.aX j).length
 ch:∀(j:Nat)(c:bD),d.cs[j]? =some c->(k=16->(d.off+d.len)*w<=c.len)/\(k=17->d.off+d.len<=c.len)
 nu:Ie au k d
structure VJ(k w id ix:Int)(cs:cC)(d:bD):Prop where
 ty:tW k w id ix cs
 nb:(d.aX.length:Int)=kO k
 nc:d.cs.length=sr k cs
 nd:d.ds.length=uO k
 l0:0<=d.len
 o0:0<=d.off
 u0:0<=d.au
 ul:d.au<=d.len
 l1:d.len<=4096
 o1:d.off<=4096
 e1:d.off+d.len<=4096
structure Sz(h0 h:Hp)(b2 b3 b4:Nat)(nm:ff)(au:Bool)(k w id ix:Int)(s:Sl)(d:bD)(p:Sl×Sl×Sl):Prop where
 g:az h0 h
 k2:aN h b2 #[.string nm,.bool au,ah k,ah w,ah id,ah ix,Sl.v s] iz
 k3:B33 h b3 d p
 k4:aN h b4 kI kF
 hb:h0.size<=b4
theorem Sz.ai{h:Hp}{b2 b3 b4:Nat}{nm:ff}{au:Bool}{id ix:Int}(z:Sz h0 h b2 b3 b4 nm au k w id ix s d p)(g:az h H):Sz h0 H b2 b3 b4 nm au k w id ix s d p:=
 ⟨ak z.g g,z.k2.ai g,z.k3.ai g,z.k4.ai g,z.hb⟩
theorem O7{h:Hp}{b:Nat}{nm:ff}{au:Bool}{id ix:Int}(z:aN h b #[.string nm,.bool au,ah k,ah w,ah id,ah ix,Sl.v s] el):Cs h ⟨b,2,none⟩ [ah k,ah w,ah id,ah ix,Sl.v s]:=by
 intro i v a;rw[bw,gW z];grind
theorem awV(k:Int)(cs:cC):sr k cs<=cs.length+1:=by
 unfold sr;grind
theorem Um(k:Int):0<=kO k/\kO k<=3:=by unfold kO;omega
section
variable {h:Hp} {b2 b3 b4:Nat} {nm:ff} {au:Bool} {id ix:Int} {cs:cC} {K:Int->Sl->Int->HP}
theorem Sz.bad{n:Int}(z:Sz h0 h b2 b3 b4 nm au k w id ix s d p){P:Prop}(A:e≠0)(B:¬P)(x:∀e t n c,az h0 c->t=Sl.nil->(e=0↔P)->K e t n c):nB e n h (λq o l C=>dW C (aJ b4) q o l λf=>eG f (aJ b4) λr0 v u=>K r0 v u f) Kp:=
 ac9 z.g z.k4 rfl z.hb λc a=>x _ _ _ c a rfl ⟨λy=>absurd y A,λy=>(B y).elim⟩
theorem amD(z:Sz h0 h b2 b3 b4 nm au k w id ix s d p)(v:CG h0 p d)(o:VJ k w id ix cs d)(BW:∀j,j<d.aX.length->(dD d.aX j).length<=65536)(FU:∀j,j<d.aX.length->jq k w ix j (d.off+d.len).toNat (dD d.aX j).length<=(dD d.aX j).length)
  (hk:∀e t n h',az h0 h'->t=Sl.nil->(e=0↔tX au k w id ix cs d)->K e t n h') (x5:Int) (h5:0<=x5/\x5<=5):WZ K Kp (aJ b2) (aJ b3) (aJ b4) x5 (d.off+d.len) h:=by
 obtain⟨ty,nb,nc,nd,l0,o0,u0,ul,l1,o1,e1⟩:=o;have hq:=ty.kinds;have vn:=v.c.n;have wj:d.cs.length<=33:=by have:=awV k cs;omega
 have hw:k=16->1<=w/\w<=64:=by have:=hq.1;unfold Shaped at this;omega
 apply aCS;simp only[bw];apply aj z.k3 rfl;refine aAr (λx h'=>∃i:Nat,x=i/\i<=d.cs.length/\az h h'/\∀(j:Nat)(c:bD),j<i->d.cs[j]? =some c->(k=16->(d.off+d.len)*w<=c.len)/\(k=17->d.off+d.len<=c.len)) (λx _=>d.cs.length-x.toNat)
  ⟨0,rfl,ag,cK _,λj c hj=>ag⟩ ?_
 rintro x h1 ⟨i,rfl,hi,g1,xS⟩ N1 hN;have z:=z.ai g1;simp only[bw];refine cL (λc=>?_) λc=>?_
 ·have hj:d.cs[i]? =some d.cs[i]:=aA;generalize d.cs[i]=c' at hj;refine v.c.ix rfl hj λa q ca vq=>cr.c (ca.ai z.g) (aG λb14 hx eb gx kx _=>jI kx rfl λh2 o2 k14=>?_);have g2:=bE gx o2 ag;have z:=z.ai g2;have step:(k=16->(d.off+d.len)*w<=c'.len)/\(k=17->d.off+d.len<=c'.len)->aO ((i:Int)+1) λt157=>N1 _ h2:=λok=>
   aW ag ag (hN _ _ ⟨i+1,aA,ag,ak g1 g2,λj c hjl hc=>by
    grind⟩ ag)
  have bad:¬((k=16->(d.off+d.len)*w<=c'.len)/\(k=17->d.off+d.len<=c'.len))->aO (x5+(i:Int)) λt155=>nB 82 t155 h2 _ Kp:=λno=>
   aW ag ag (z.bad aY (λq=>no (q.ch i c' hj)) hk)
  have j5:∀b:Bool,(b=true↔k=16/\¬(d.off+d.len)*w<=c'.len)->NC K Kp N1 (aJ b2) (aJ b3) (aJ b4) x5 (d.off+d.len) (i:Int) (aJ b14) p.2.1 (p.2.1.n:Int) (i:Int) b h2:=by
   intro b hb;apply aCR;simp only[bw];refine aE (λc1=>bad λq=>(hb.1 c1).2 (q.1 (hb.1 c1).1)) λc1=>aj z.k2 rfl (aE (λc2=>aj k14 rfl (aE (λc3=>bad λq=>?_) λc3=>step ?_)) λc2=>step ?_)
   ·grind
   ·grind
   ·grind
  refine aj z.k2 rfl (aE (λc2=>aj k14 rfl (aj z.k2 rfl ?_)) λc2=>j5 _ ?_)
  ·have c2:=aM c2;have e2:0<=(d.off+d.len)*w:=Int.mul_nonneg ag ag;have e3:(d.off+d.len)*w<=4096*64:=Int.mul_le_mul ag ag ag ag;refine aW ag ag (j5 _ ?_);simp[*]
  grind
 ·have hch:∀(j:Nat)(c:bD),d.cs[j]? =some c->(k=16->(d.off+d.len)*w<=c.len)/\(k=17->d.off+d.len<=c.len):=bU
  have GJ:mR k=true->1<=d.aX.length:=by
   intro q;unfold mR at q;simp only[dm,yN]at q;unfold kO at nb
   repeat' omega
   all_goals omega
  exact dZ z.k2 (gl z.k3 (aqk (v.b.gr z.g) GJ ⟨l0,l1⟩ ⟨o0,o1⟩ λe t n h2 g2 et he=>mw (z.ai g2).k4 rfl λh3 o3 k4=>nY k4 (hk _ _ _ _ (bE (z.ai g2).g o3 z.hb) et (he.trans ⟨λq=>⟨ty,nb,nc,nd,l0,o0,u0,ul,l1,o1,e1,BW,FU,hch,q⟩,λq=>q.nu⟩))))
theorem amE(G:n8 h0)(u:ia cs)(H:cH h0 s cs)(z:Sz h0 h b2 b3 b4 nm au k w id ix s d p)(v:CG h0 p d)(o:VJ k w id ix cs d)(y:∀j,j<d.aX.length->(dD d.aX j).length<=65536)
  (A:∀e t n r,az h0 r->t=Sl.nil->(e=0↔tX au k w id ix cs d)->K e t n r) (m:Int) (I:0<=m/\m<=5):W0 K Kp (aJ b2) (aJ b3) (aJ b4) m (d.off+d.len) h:=by
 have L:=v.b.n;have W:=Um k;have F:=o;obtain⟨ty,_,Q,P,S,o0,N,M,R,O,e1⟩:=o;apply aCT;simp only[bw];apply aj z.k3 rfl;refine aAq (λx r=>∃i:Nat,x=i/\i<=d.aX.length/\az h r/\∀j,j<i->jq k w ix j (d.off+d.len).toNat (dD d.aX j).length<=(dD d.aX j).length) (λx _=>d.aX.length-x.toNat)
  ⟨0,rfl,ag,cK _,λj B=>ag⟩ ?_
 rintro x V ⟨i,rfl,T,D,f⟩ X hN;have z:=z.ai D;simp only[bw];refine cL (λc=>?_) λc=>?_
 ·refine v.b.ix rfl ag λa t J E=>⟨_,z.g.cell J,nk (O7 z.k2) ?_⟩;have tn:=E.1.1;rw[fM]at tn;refine aqy (e:=(d.off+d.len).toNat) (hv:=(dD d.aX i).length) (G.ai z.g) u (H.gr z.g) ty ag ag ag ag λU C=>aE (λl=>?_) λl=>?_
  ·have l:=aM l;exact(z.ai C).bad aY (λq=>by have:=q.FU i ag;omega) A
  ·refine aW ag ag (hN _ _ ⟨i+1,aA,ag,ak D C,λj B=>?_⟩ ag)
   grind
 ·exact amD z v F y (λj B=>f j ag) A m I
theorem amF(C:n8 h0)(u:ia cs)(D:cH h0 s cs)(z:Sz h0 h b2 b3 b4 nm au k w id ix s d p)(v:CG h0 p d)(o:VJ k w id ix cs d)
  (y:∀e t n r,az h0 r->t=Sl.nil->(e=0↔tX au k w id ix cs d)->K e t n r) (m:Int) (E:0<=m/\m<=5):W2 K Kp (aJ b2) (aJ b3) (aJ b4) m (d.off+d.len) h:=by
 have G:=v.b.n;have J:=Um k;have nb:=o.nb;apply aCU;simp only[bw];apply aj z.k3 rfl;refine aAp (λx r=>∃i:Nat,x=i/\i<=d.aX.length/\r=h/\∀j,j<i->(dD d.aX j).length<=65536) (λx _=>d.aX.length-x.toNat)
  ⟨0,rfl,ag,rfl,λj A=>ag⟩ ?_
 rintro x I ⟨i,rfl,H,rfl,f⟩ L hN;refine cL (λc=>?_) λc=>?_
 ·refine v.b.ix rfl ag λa t F B=>⟨_,z.g.cell F,?_⟩;have tn:=B.1.1;rw[fM]at tn;refine aE (λl=>?_) λl=>?_
  ·have l:=aM l;exact z.bad aY (λq=>by have:=q.BW i ag;omega) y
  ·refine aW ag ag (hN _ _ ⟨i+1,aA,ag,rfl,λj A=>?_⟩ ag)
   grind
 ·exact amE C u D z v o (λj A=>f j ag) y m E
theorem anw(F:n8 h)(hl:cs.length<=jP)(r:ia cs)(G:cH h s cs)(v:CG h p d)(H:∀e t n j,az h j->t=Sl.nil->(e=0↔tX au k w id ix cs d)->K e t n j):Yq nm au k w id ix s d.len d.off d.au p.1 p.2.1 p.2.2 h K Kp:=by
 have vb:=v.b.n;have vc:=v.c.n;have vx:=v.x.n;refine aGe (aG λb2 I e1 J k2 _=>aG λb3 B e2 E Z _=>aG λb4 h3 e3 D Y _=>?_);have z:Sz h h3 b2 b3 b4 nm au k w id ix s d p:=⟨ak J (ak E D),(k2.ai E).ai D,Z.ai D,Y,ag⟩
 simp only[bw];have bad:∀{j:Hp}{e n:Int},Sz h j b2 b3 b4 nm au k w id ix s d p->e≠0->¬tX au k w id ix cs d->nB e n j _ Kp:=λz he q=>z.bad he q H;have j8:∀{j:Hp}{N M:Int},Sz h j b2 b3 b4 nm au k w id ix s d p->¬tX au k w id ix cs d->IB K Kp (aJ b2) (aJ b3) _ N M true j:=λz q=>aiK (bO rfl (bad z aY q));refine nk (O7 z.k2) (anz (F.ai z.g) hl r (G.gr z.g) (λU i C=>?_) λty i C=>?_)
 ·have z:=z.ai C;exact aj z.k3 rfl (aj z.k3 rfl (Ch (aj z.k3 rfl (bO (by rw[yN];omega) (W1 (bO rfl (j8 z λq=>U q.ty)))))))
 have z:=z.ai C;refine aj z.k3 rfl (aj z.k3 rfl (Ch ?_))
 -- all is L so b':a' u
 have main:(d.aX.length:Int)=kO k->d.cs.length=sr k cs->∀b:Bool,(b=true↔¬d.ds.length=uO k)->IB K Kp (aJ b2) (aJ b3) (aJ b4) (kO k) (IntKind.i64.wrap (d.off+d.len)) b i:=by
  intro nb W b a;have bk:=Um k;refine aiK (aE (λc=>bad z aY λq=>a.1 c q.nd) λc=>?_);have V:d.ds.length=uO k:=by simp_all
  simp only[bw];have Sp:0<=d.len->0<=d.off->0<=d.au->d.au<=d.len->d.len<=4096->∀b:Bool,(b=true↔¬d.off<=4096)->NG K Kp (aJ b2) (aJ b3) (aJ b4) (kO k) (IntKind.i64.wrap (d.off+d.len)) b i:=by
   intro m o0 A y X b a;refine aiN (aE (λc=>bad z aY λq=>a.1 c q.o1) λc=>?_);have T:d.off<=4096:=by simp_all
   have hw:IntKind.i64.wrap (d.off+d.len)=d.off+d.len:=by rw[IntKind.wrap_i64];omega
   rw[hw];refine aE (λf=>bad z aY λq=>?_) λf=>?_
   ·have f:=aM f;have:=q.e1;omega
   ·have f:=aM f;exact amF F r G z v ⟨ty,nb,W,V,m,o0,A,y,X,T,ag⟩ H _ ag
  have j9:0<=d.len->0<=d.off->0<=d.au->∀b:Bool,(b=true↔¬d.au<=d.len)->IA K Kp (aJ b2) (aJ b3) (aJ b4) (kO k) (IntKind.i64.wrap (d.off+d.len)) b i:=by
   intro m o0 A b a;apply aiJ;simp only[bw];refine aE (λc=>bad z aY λq=>a.1 c q.ul) λc=>?_;have y:d.au<=d.len:=by simp_all
   refine aj z.k3 rfl (aE (λf=>aiN (bO rfl (bad z aY λq=>?_))) λf=>aj z.k3 rfl (Sp m o0 A y ?_ _ ?_))
   ·have f:=aM f;have:=q.l1;omega
   ·have f:=aM f;omega
   ·rw[dQ];omega
  have o:¬tX au k w id ix cs d->IA K Kp (aJ b2) (aJ b3) (aJ b4) (kO k) (IntKind.i64.wrap (d.off+d.len)) true i:=λq=>aiJ (bO rfl (bad z aY q));have Sn:0<=d.len->0<=d.off->∀b:Bool,(b=true↔¬0<=d.au)->IC K Kp (aJ b2) (aJ b3) (aJ b4) (kO k) (IntKind.i64.wrap (d.off+d.len)) b i:=by
   intro m o0 b a;apply aiL;simp only[bw];refine aE (λc=>o λq=>a.1 c q.u0) λc=>aj z.k3 rfl (aj z.k3 rfl (j9 m o0 (UT λq=>by rw[a.2 q]at c;cases c) _ ?_))
   rw[dQ];omega
  have l:¬tX au k w id ix cs d->IC K Kp (aJ b2) (aJ b3) (aJ b4) (kO k) (IntKind.i64.wrap (d.off+d.len)) true i:=λq=>aiL (bO rfl (o q));have So:0<=d.len->∀b:Bool,(b=true↔¬0<=d.off)->NF K Kp (aJ b2) (aJ b3) (aJ b4) (kO k) (IntKind.i64.wrap (d.off+d.len)) b i:=by
   intro m b a;apply aiM;simp only[bw];refine aE (λc=>l λq=>a.1 c q.o0) λc=>aj z.k3 rfl (Sn m (UT λq=>by rw[a.2 q]at c;cases c) _ ?_)
   rw[dQ];omega
  refine aj z.k3 rfl (aE (λf=>aiM (bO rfl (l λq=>?_))) λf=>aj z.k3 rfl (So ?_ _ ?_))
  ·have f:=aM f;have:=q.l0;omega
  ·have f:=aM f;omega
  ·rw[dQ];omega
 have Sm:(d.aX.length:Int)=kO k->∀b:Bool,(b=true↔¬d.cs.length=sr k cs)->ND K Kp (aJ b2) (aJ b3) (aJ b4) (kO k) (uO k) (IntKind.i64.wrap (d.off+d.len)) b i:=by
  intro nb b a;apply W1;simp only[bw];refine aE (λc=>j8 z λq=>a.1 c q.nc) λc=>aj z.k3 rfl (main nb (UT λq=>by rw[a.2 q]at c;cases c) _ ?_)
  rw[yN];omega
 refine aj z.k3 rfl (aE (λc=>W1 (bO rfl (j8 z λq=>?_))) λc=>aj z.k3 rfl (Sm ?_ _ ?_))
 ·have c:=aM c;have:=q.nb;omega
 ·have c:=aM c;omega
 ·rw[yN];omega
end
def uF(b:Nat):Nat:=if b<128 then 240 else if b<194 then 241 else if b<224 then 2 else if b=224 then 19 else if b<237 then 3 else if b=237 then 35 else if b<240 then 3 else if b=240 then 52 else if b<244 then 4 else if b=244 then 68 else 241
def Fe(x:Nat):Nat:=if x=1 then 160 else if x=3 then 144 else if x<=4 then 128 else 0
def Ff(x:Nat):Nat:=if x=2 then 159 else if x=4 then 143 else if x<=4 then 191 else 0
structure jz(h:Hp):Prop where
 f:∀i:Nat,i<256->cell h ⟨1,i,none⟩=some (.int .u8 (uF i))
 a:∀i:Nat,i<16->cell h ⟨2,i*2,none⟩=some (.int .u8 (Fe i))/\cell h ⟨2,i*2+1,none⟩=some (.int .u8 (Ff i))
theorem jz.ai{h:Hp}(t:jz h)(g:az h H):jz H:=⟨λi b=>g.cell (t.f i b),λi b=>⟨g.cell (t.a i b).1,g.cell (t.a i b).2⟩⟩
def rL(b:Nat)(c:UInt8):Bool:=decide (Fe (uF b/16)<=c.toNat)&&decide (c.toNat<=Ff (uF b/16))
def uu(c:UInt8):Bool:=decide (128<=c.toNat)&&decide (c.toNat<=191)
def jm(b:UInt8)(r:dB):Option (List UInt8):=
 if b.toNat<128 then some r
 else if uF b.toNat%8=2 then match r with|c::r=>if rL b.toNat c then some r else none|_=>none
 else if uF b.toNat%8=3 then match r with|c::e::r=>if rL b.toNat c&&uu e then some r else none|_=>none
 else if uF b.toNat%8=4 then match r with|c::e::f::r=>if rL b.toNat c&&(uu e&&uu f)then some r else none|_=>none
 else none
def AQ:Nat->List UInt8->Bool
 |0,_=>true
 |_+1,[]=>true
 |n+1,b::r=>match jm b r with|some r'=>AQ n r'|none=>false
theorem O4{b:UInt8}{r r':dB}(h:jm b r=some r'):r'.length<=r.length:=by
 unfold jm at h
 repeat' split at h
 all_goals first|(cases h;exact bP _)|(cases h;simp only[iq];omega)|cases h
theorem Y1:∀{n m:Nat}{l:dB},l.length<=n->l.length<=m->AQ n l=AQ m l
  |0,0,_,_,_=>rfl
  |0,m+1,l,h,_=>by obtain rfl:=wN (Nat.le_zero.1 h);rfl
  |n+1,0,l,_,h=>by obtain rfl:=wN (Nat.le_zero.1 h);rfl
  |n+1,m+1,[],_,_=>rfl
  | n+1,m+1,b::r,h1,h2=>by
    simp only[iq]at h1 h2;simp only[AQ];cases hs:jm b r with
    |none=>rfl
    |some r'=>have:=O4 hs;exact Y1 ag ag
def iD(l:dB):Bool:=AQ l.length l
theorem Jc(b:UInt8)(r:dB):iD (b::r)=match jm b r with|some r'=>iD r'|none=>false:=by
 show AQ (r.length+1) _=_
 simp only[AQ];cases hs:jm b r with
 |none=>rfl
 |some r'=>exact Y1 (O4 hs) (bP _)
theorem Y0{b:UInt8}{r:dB}(h:b.toNat<128):iD (b::r)=iD r:=by
 have e:jm b r=some r:=by simp[jm,h]
 rw[Jc,e]
theorem zi:∀{n:Nat}{l:dB},(∀(i:Nat)b,i<n->l[i]? =some b->b.toNat<128)->iD (l.drop n)=iD l
  |0,_,_=>rfl
  |n+1,[],_=>rfl
  | n+1,b::r,h=>by
    rw[List.drop_succ_cons,Y0 (h 0 b ag rfl)];exact zi λi c hi hc=>h (i+1) c ag (by simpa using hc)
def yR:Nat:=9259542123273814144
theorem ax8(x y:Nat)(hx:x<2^64)(hy:y<2^64):gH .and .u64 (x:Int) (y:Int)=((x&&&y:Nat):Int):=by
 have e:(BitVec.ofInt 64 (x:Int)&&&BitVec.ofInt 64 (y:Int)).toNat=x&&&y:=by
  rw[UW,Ed,Ed,wL,wL,uY hx,uY hy]
 show IntKind.u64.wrap ((BitVec.ofInt 64 (x:Int)&&&BitVec.ofInt 64 (y:Int)).toNat:Int)=_
 rw[e];simp only[IntKind.wrap,IntKind.signed,IntKind.bits];simp;omega
def qE(x:Nat):Prop:=x&&&yR=0
theorem qE.or{x y:Nat}(h:qE (x|||y)):qE x/\qE y:=by
 unfold qE at *;rw[Nat.and_or_distrib_right]at h;constructor
 ·have:=Nat.left_le_or (n:=x&&&yR) (m:=y&&&yR);omega
 ·have:=Nat.right_le_or (n:=x&&&yR) (m:=y&&&yR);omega
theorem qE.bit{x:Nat}(h:qE x){k:Nat}(hk:yR.testBit k=true):x/2^k%2=0:=by
 unfold qE at h;have:=tP (λy=>y.testBit k) h;simp only[Nat.testBit_and,hk,Bool.and_true,Nat.zero_testBit]at this;rw[Nat.testBit_eq_decide_div_mod_eq,wP]at this;omega
theorem abG:∀{i:Nat}{l:dB}{b:UInt8},l[i]? =some b->jW l/2^(8*i+7)%2=0->b.toNat<128
  |_,[],_,h,_=>by simp at h
  | 0,c::l,b,h,q=>by
    simp only[B9,mC]at h;subst h;have:=c.toNat_lt;simp only[jW]at q;omega
  | i+1,c::l,b,h,q=>by
    have hc:=c.toNat_lt;have e:2^(8*(i+1)+7)=256*2^(8*i+7):=by
      have:8*(i+1)+7=8*i+7+8:=ag;rw[this,HN,HM]
    have e2:jW (c::l)/256=jW l:=by simp only[jW];omega
    rw[e,<-Nat.div_div_eq_div_mul,e2]at q;exact abG (by simpa using h) q
theorem ayZ:∀i,i<8->yR.testBit (8*i+7)=true:=by decide
theorem qE.all{l:dB}(h:qE (jW (l.take 8))):∀(i:Nat)b,i<8->l[i]? =some b->b.toNat<128:=by
 intro i b hi hb;exact abG (by rw[aff hi];exact hb) (h.bit (ayZ i hi))
theorem zo{x b k:Nat}{K:Int->Prop}(e:min (Int.toNat (k:Int)) (IntKind.bits .u64)=k)(h1:x<2^k)(h2:b*2^k<2^64)(h3:x<2^64)(hk:K ((x+b*2^k:Nat):Int)):Nn (k:Int) (Wr .u64 ((b:Int)*2^(min (Int.toNat (k:Int)) (IntKind.bits .u64))) λt=>Lt (gH .or .u64 (x:Int) t) K):=by
 have sh:(b:Int)*2^(min (Int.toNat (k:Int)) (IntKind.bits .u64))=((b*2^k:Nat):Int):=by rw[e];norm_cast
 apply js ag;rw[sh];apply pQ rfl h2;unfold Lt;rw[aaR _ _ h3 h2,apO h1];exact hk
theorem alk(b:Nat):uF b<256:=by
 unfold uF;split
 all_goals grind
abbrev tx(s:ff):List UInt8:=s.data.toList
theorem yX{s:ff}{b:UInt8}(e:x=i)(a:(tx s)[i]? =some b){K:Int->Prop}(f:K b.toNat):hY s x K:=by
 subst e;refine⟨b,ag,?_,f⟩
 rw[fR];have d:=(cU.1 a).1;simp_all[bx,ByteArray.getElem_eq_getElem_data]
theorem ayx{s:ff}{n:Nat}(a:x=n)(d:n<=(tx s).length){K:ByteArray->Prop}(b:∀t,tx t=(tx s).drop n->K t):qz s (some x) none K:=by
 subst a;have c:(tx s).length=s.size:=rfl;refine⟨aA,by simp;omega,aA,b _ ?_⟩
 simp only[tT,tx,ByteArray.data_extract,Array.toList_extract];exact qu aA
theorem akO{s:ff}{h:Hp}{K:cJ}{q:PK}(hl:8<=(tx s).length)(a:K (jW ((tx s).take 8)) h):xe s h K q:=by
 refine aFj (aCa ?_);have ix:∀{i:Nat}{b:UInt8}{K:Int->Prop}{x:Int},x=i->(tx s)[i]? =some b->K b.toNat->hY s x K:=λo p a=>yX o p a;generalize tx s=l at hl a ix;obtain⟨n,l,rfl⟩:∃b M,l=b::M:=by cases l;all_goals grind
 obtain⟨m,l,rfl⟩:∃b M,l=b::M:=by cases l;all_goals grind
 obtain⟨b2,l,rfl⟩:∃b M,l=b::M:=by cases l;all_goals grind
 obtain⟨j,l,rfl⟩:∃b M,l=b::M:=by cases l;all_goals grind
 obtain⟨g,l,rfl⟩:∃b M,l=b::M:=by cases l;all_goals grind
 obtain⟨f,l,rfl⟩:∃b M,l=b::M:=by cases l;simp at hl;simp
 obtain⟨d,l,rfl⟩:∃b M,l=b::M:=by cases l;simp at hl;simp
 obtain⟨c,l,rfl⟩:∃b M,l=b::M:=by cases l;simp at hl;simp
 have A:=n.toNat_lt;have z:=m.toNat_lt;have y:=b2.toNat_lt;have w:=j.toNat_lt;have v:=g.toNat_lt;have u:=f.toNat_lt;have t:=d.toNat_lt;have r:=c.toNat_lt;refine ix rfl rfl (pQ rfl (kZ (Ag _) aY) (ix rfl rfl (pQ rfl (kZ (Ag _) aY) (zo (k:=8) rfl ag ag ag (ix rfl rfl (pQ rfl (kZ (Ag _) aY) (zo (k:=16) rfl ag ag ag (ix rfl rfl (pQ rfl (kZ (Ag _) aY) (zo (k:=24) rfl ag ag ag (ix rfl rfl (pQ rfl (kZ (Ag _) aY) (zo (k:=32) rfl ag ag ag (ix rfl rfl (pQ rfl (kZ (Ag _) aY) (zo (k:=40) rfl ag ag ag (ix rfl rfl (pQ rfl (kZ (Ag _) aY) (zo (k:=48) rfl ag ag ag (ix (i:=7) rfl rfl (pQ rfl (kZ (Ag _) aY) (zo (k:=56) rfl ag ag ag ?_))))))))))))))))))))));have e:n.toNat+m.toNat*2^8+b2.toNat*2^16+j.toNat*2^24+g.toNat*2^32+f.toNat*2^40+d.toNat*2^48+c.toNat*2^56=jW ((n::m::b2::j::g::f::d::c::l).take 8):=by
  simp only[UX,HQ,jW];omega
 rw[e];exact a
theorem ak3{s:ff}{l:dB}{h:Hp}{K:fJ}(tb:jz h)(v:tx s=l)(hl:l.length<=2^40)(hk:∀h',az h h'->K (iD l) h'):XQ s h K Kp:=by
  refine aFk (az8 (λx0 h'=>∃L,tx x0=L/\iD L=iD l/\az h h'/\L.length<=l.length) (λx0 _=>ByteArray.size x0) ⟨l,v,rfl,cK _,bP _⟩ ?_);rintro x0 h1 ⟨L,v,hu,g1,hL⟩ N1 hN;have hn:=(show x0.size=L.length by rw[<-v];rfl)
  have next:∀{x:ff}{L':dB}{h':Hp},tx x=L'->iD L'=iD l->az h h'->L'.length<L.length->N1 _ h':=λ{x L' h'}v' Bl g' eW=>hN _ _ ⟨L',v',Bl,g',ag⟩ (by have:=(show x.size=L'.length by rw[<-v'];rfl);omega)
  refine cL (λc=>?_) λc=>?_;rotate_left
  ·have:L=[]:=wN ag;rw[this]at hu;have:=hk h1 g1;rw[<-hu]at this;exact this
  obtain⟨b,r,rfl⟩:∃b r,L=b::r:=by cases L with|nil=>simp_all|cons b r=>exact⟨_,_,rfl⟩
  simp only[iq]at hn hL next;have cut:∀{x:ff}{L':dB}{n:Nat}{K:ByteArray->Prop},tx x=L'->n<=L'.length->(∀t,tx t=L'.drop n->K t)->qz x _ none K:=λ{x L' n K}v' Gr k=>ayx rfl (by rw[v'];exact Gr) λt ht=>k t (by rw[ht,v'])
  have word:∀{x:ff}{L':dB}{h':Hp}{K:cJ},tx x=L'->8<=L'.length->K _ h'->xe x h' K Kp:=λ{x L' h' K}v' Gr k=>akO (by rw[v'];exact Gr) (by rw[v'];exact k)
  have om:∀L':List UInt8,jW (L'.take 8)<2^64:=λL'=>kZ (R2 _) (Ee aY cj);have Qj:∀{x:Nat}{K:Int->Prop},x<2^64->K _->Lt (gH .and .u64 (x:Int) 9259542123273814144) K:=λ{x K}hx k=>by
    unfold Lt;rw[show(9259542123273814144:Int)=((yR:Nat):Int)from rfl,ax8 _ _ hx aY];exact k
  have JQ:∀{x y:Nat}{K:Int->Prop},x<2^64->y<2^64->K _->Lt (gH .or .u64 (x:Int) (y:Int)) K:=λ{x y K}hx hy k=>by
    unfold Lt;rw[aaR _ _ hx hy];exact k
  have Us:∀{x:Nat},(((x&&&yR:Nat):Int)==0)=true->qE x:=λ{x}q=>by
    simp_all[qE]
  have Dl:∀{x y:Nat},x<2^64->y<2^64->x|||y<2^64:=λhx hy=>HJ hx hy;refine yX rfl (by rw[v];rfl) ?_
  have hb:=b.toNat_lt;refine cL (λc1=>?_) λc1=>?_
  · have hr:iD r=iD l:=by rw[<-hu,Y0 ag]
    refine cut v aA λt22 zh=>?_;rw[List.drop_succ_cons,List.drop_zero]at zh;have n22:=(show t22.size=r.length by rw[<-zh];rfl)
    have j3:∀(q:Bool)h2,az h h2->tx t22=r->(q=true->8<r.length/\qE (jW (r.take 8)))->Nd K Kp N1 t22 q h2:=by
      intro q h2 g2 zh hq;refine aCc (aE (λcq=>?_) λ_=>next zh hr g2 ag);obtain⟨q1,q2⟩:=hq cq;have hr8:iD (r.drop 8)=iD l:=by rw[zi q2.all,hr]
      have l8:(r.drop 8).length=r.length-8:=aA
      refine cut (n:=8) zh ag λt33 zg=>?_;have n33:=(show t33.size=(r.drop 8).length by rw[<-zg];rfl)
      have j4:∀(q:Bool)h3,az h h3->tx t33=r.drop 8->(q=true->16<(r.drop 8).length/\qE (jW ((r.drop 8).take 8))/\qE (jW (((r.drop 8).drop 8).take 8)))->Nc K Kp N1 t33 q h3:=by
        intro q h3 g3 zg hq;refine aCb (aE (λcq=>?_) λ_=>next zg hr8 g3 ag);obtain⟨q1,q2,q3⟩:=hq cq;refine cut (n:=16) zg ag λt48 v48=>?_;have asQ:iD ((r.drop 8).drop 16)=iD l:=by
          have e:(r.drop 8).drop 16=((r.drop 8).drop 8).drop 8:=by simp[B7]
          rw[e,zi q3.all,zi q2.all,hr8]
        refine az7 (λx h'=>∃L',tx x=L'/\iD L'=iD l/\az h h'/\L'.length<=r.length) (λx _=>ByteArray.size x) ⟨_,v48,asQ,g3,by simp only[HH];omega⟩ ?_
        rintro x h4 ⟨L',v',Bl,g4,hl'⟩ N2 hN2;have n':=(show x.size=L'.length by rw[<-v'];rfl)
        refine aE (λc5=>?_) λ_=>next v' Bl g4 ag;have c5:=aM c5;refine cut (n:=8) v' ag λta va=>cut (n:=16) v' ag λtb vb=>cut (n:=24) v' ag λtc vc=>word v' ag (word va cj (JQ (om _) (om _) (word vb cj (word vc cj (JQ (om _) (om _) (JQ (Dl (om _) (om _)) (Dl (om _) (om _)) (Qj (Dl (Dl (om _) (om _)) (Dl (om _) (om _))) (aE (λc6=>?_) λ_=>next v' Bl g4 ag))))))));have a:=Us c6;obtain⟨a1,a2⟩:=a.or;obtain⟨b1,b2⟩:=a1.or;obtain⟨b3,b4⟩:=a2.or;refine cut (n:=32) v' ag λtd vd=>hN2 _ _ ⟨_,vd,?_,g4,by simp only[HH];omega⟩ (by have:=(show td.size=(L'.drop 32).length by rw[<-vd];rfl);simp at this;omega)
        have e1:L'.drop 32=(((L'.drop 8).drop 8).drop 8).drop 8:=by simp[B7]
        have e2:(L'.drop 8).drop 8=L'.drop 16:=by simp[B7]
        have e3:(L'.drop 16).drop 8=L'.drop 24:=by simp[B7]
        rw[e1,zi (by rw[e2,e3];exact b4.all),zi (by rw[e2];exact b3.all),zi b2.all,zi b1.all,Bl]
      refine aE (λc3=>?_) λ_=>j4 false _ g2 zg aA;have c3:=aM c3;exact cut (n:=8) zg ag λt41 v41=>word zg ag (word v41 cj (JQ (om _) (om _) (Qj (Dl (om _) (om _)) (j4 _ _ g2 zg λq=>⟨ag,(Us q).or⟩))))
    refine aE (λc2=>?_) λ_=>j3 false _ g1 zh aA;have c2:=aM c2;exact word zh ag (Qj (om _) (j3 _ _ g1 zh λq=>⟨ag,Us q⟩))
  · refine aCd ⟨ag,ag,?_⟩
    have tb:=tb.ai g1;have hF:uF b.toNat<256:=alk _;simp only[bw,fR,cz,u7];refine⟨_,tb.f b.toNat hb,?_⟩;have a7:gH .and .u8 ((uF b.toNat:Nat):Int) 7=((uF b.toNat%8:Nat):Int):=by
      have h:(BitVec.ofInt 8 ((uF b.toNat:Nat):Int)&&&BitVec.ofInt 8 7).toNat=uF b.toNat%8:=by
        have e1:BitVec.ofInt 8 ((uF b.toNat:Nat):Int)=BitVec.ofNat 8 (uF b.toNat):=aA
        have e2:BitVec.ofInt 8 7=BitVec.ofNat 8 7:=by decide
        rw[e1,e2,UW,wL,wL];have:7%2^8=2^3-1:=by decide
        rw[this,Nat.and_two_pow_sub_one_eq_mod];omega
      show IntKind.wrap .u8 ((BitVec.ofInt 8 ((uF b.toNat:Nat):Int)&&&BitVec.ofInt 8 7).toNat:Int)=_
      rw[h,IntKind.wrap_u8];omega
    have d16:Int.fdiv ((uF b.toNat:Nat):Int) (2^(min (Int.toNat 4) (IntKind.bits .u8)))=((uF b.toNat/16:Nat):Int):=by
      have:min (Int.toNat 4) (IntKind.bits .u8)=4:=rfl;rw[this,Ec _ aY];norm_cast
    have l7:∀{K:Int->Prop},K ((uF b.toNat%8:Nat):Int)->Lt (gH .and .u8 ((uF b.toNat:Nat):Int) 7) K:=λk=>by unfold Lt;rw[a7];exact k
    have l16:∀{K:Int->Prop},K ((uF b.toNat/16:Nat):Int)->Lt (Int.fdiv ((uF b.toNat:Nat):Int) (2^(min (Int.toNat 4) (IntKind.bits .u8)))) K:=λk=>by unfold Lt;rw[d16];exact k
    refine l7 (aW ag ag (js aY (l16 ⟨ag,ag,?_⟩)))
    have ta:=tb.a (uF b.toNat/16) ag;simp only[bw,fR,cz];refine⟨_,ta.1,_,ta.2,aG λb6 h2 e6 g2 k6 _=>?_⟩;simp only[bw];refine dc k6 aA rfl λh3 o3 k6=>dc k6 aA rfl λh4 o4 k6=>?_;have k6:aN h4 b6 #[.int .u8 (Fe (uF b.toNat/16)),.int .u8 (Ff (uF b.toNat/16))] afp:=by simpa using k6
    have G:=bE (bE g2 o3 ag) o4 ag;have G4:=ak g1 G;have v:=v;have bad:jm b r=none->K false h4:=λq=>by
      have:=hk h4 G4;grind[Jc]
    have Tf:∀{r':dB}{t:ff},jm b r=some r'->tx t=r'->N1 (vU t) h4:=λ{r' t}q v'=>by
      refine next v' ?_ G4 (by have:=O4 q;omega)
      rw[<-hu,Jc,q]
    have n128:¬b.toNat<128:=ag;generalize r7:uF b.toNat=U at *;have sz:∀(m:Nat),(((U%8:Nat):Int)==(m:Int))=decide (U%8=m):=λm=>by rw[ke,nv,dQ];omega
    have i1:∀{i:Nat}{e:UInt8}{K:Int->Prop}{x:Int},x=i->(b::r)[i]? =some e->K e.toNat->hY x0 x K:=λhx he k=>yX hx (by rw[v];exact he) k
    refine aE (λs2=>?_) λs2=>aE (λs3=>?_) λs3=>aE (λs4=>?_) λs4=>bad ?_
    · have s2:=aM s2;have s2:U%8=2:=ag;refine aE (λc2=>bad ?_) λc2=>?_
      ·have c2:=aM c2;have:r=[]:=wN ag;subst this;simp[jm,n128,r7,s2]
      have c2:=aM c2;obtain⟨e,r,rfl⟩:∃e r',r=e::r':=by cases r with|nil=>simp only[q8,iq]at hn;omega|cons e r=>exact⟨_,_,rfl⟩
      have lu:jm b (e::r)=if rL b.toNat e then some r else none:=by simp[jm,n128,r7,s2]
      unfold rL at lu;rw[r7]at lu;refine i1 rfl rfl (aj k6 rfl (aE (λq1=>?_) λq1=>aj k6 rfl (i1 rfl rfl (aE (λq2=>?_) λq2=>?_))))
      ·have q1:=aM q1;exact bad (by rw[lu,aC (by simp only[dm,dQ];omega)])
      ·simp only[sm,reduceCtorEq]at q1 q2;exact bad (by rw[lu,aC (by simp only[dm,dQ];omega)])
      simp only[sm,reduceCtorEq]at q1 q2;refine cut v aA λt vt=>Tf (by rw[lu,aI (by simp only[dm,dQ];omega)]) (by simpa using vt)
    · simp only[sm,reduceCtorEq]at s2 s3;have s3:U%8=3:=ag;refine aE (λc2=>bad ?_) λc2=>?_
      · have c2:=aM c2;cases r with
        |nil=>simp[jm,n128,r7,s3]
        | cons e r=>cases r with
          |nil=>simp[jm,n128,r7,s3]
          |cons f r=>simp only[q8,iq]at hn;omega
      have c2:=aM c2;obtain⟨e,f,r,rfl⟩:∃e f r',r=e::f::r':=by
        cases r with
        |nil=>simp only[q8,iq]at hn;omega
        | cons e r=>cases r with
          |nil=>simp only[q8,iq]at hn;omega
          |cons f r=>exact⟨_,_,_,rfl⟩
      have lu:jm b (e::f::r)=if rL b.toNat e&&uu f then some r else none:=by simp[jm,n128,r7,s3]
      unfold rL uu at lu;rw[r7]at lu;refine i1 rfl rfl (aj k6 rfl (aE (λq1=>?_) λq1=>aj k6 rfl (i1 rfl rfl (aE (λq2=>?_) λq2=>?_))))
      ·have q1:=aM q1;exact bad (by rw[lu,aC (by simp only[dm,dQ];omega)])
      ·simp only[sm,reduceCtorEq]at q1 q2;exact bad (by rw[lu,aC (by simp only[dm,dQ];omega)])
      simp only[sm,reduceCtorEq]at q1 q2;refine i1 rfl rfl (aE (λuy=>?_) λuy=>i1 rfl rfl (aE (λBa=>?_) λBa=>?_))
      ·have uy:=aM uy;exact bad (by rw[lu,aC (by simp only[dm,dQ];omega)])
      ·simp only[sm,reduceCtorEq]at uy Ba;exact bad (by rw[lu,aC (by simp only[dm,dQ];omega)])
      simp only[sm,reduceCtorEq]at uy Ba;refine cut v aA λt vt=>Tf (by rw[lu,aI (by simp only[dm,dQ];omega)]) (by simpa using vt)
    · simp only[sm,reduceCtorEq]at s2 s3 s4;have s4:U%8=4:=ag;refine aE (λc2=>bad ?_) λc2=>?_
      · have c2:=aM c2;cases r with
        |nil=>simp[jm,n128,r7,s4]
        | cons e r=>cases r with
          |nil=>simp[jm,n128,r7,s4]
          | cons f r=>cases r with
            |nil=>simp[jm,n128,r7,s4]
            |cons g r=>simp only[q8,iq]at hn;omega
      have c2:=aM c2;obtain⟨e,f,g,r,rfl⟩:∃e f g r',r=e::f::g::r':=by
        cases r with
        |nil=>simp only[q8,iq]at hn;omega
        | cons e r=>cases r with
          |nil=>simp only[q8,iq]at hn;omega
          | cons f r=>cases r with
            |nil=>simp only[q8,iq]at hn;omega
            |cons g r=>exact⟨_,_,_,_,rfl⟩
      have lu:jm b (e::f::g::r)=if rL b.toNat e&&(uu f&&uu g)then some r else none:=by simp[jm,n128,r7,s4]
      unfold rL uu at lu;rw[r7]at lu;refine i1 rfl rfl (aj k6 rfl (aE (λq1=>?_) λq1=>aj k6 rfl (i1 rfl rfl (aE (λq2=>?_) λq2=>?_))))
      ·have q1:=aM q1;exact bad (by rw[lu,aC (by simp only[dm,dQ];omega)])
      ·simp only[sm,reduceCtorEq]at q1 q2;exact bad (by rw[lu,aC (by simp only[dm,dQ];omega)])
      simp only[sm,reduceCtorEq]at q1 q2;refine i1 rfl rfl (aE (λuy=>?_) λuy=>i1 rfl rfl (aE (λBa=>?_) λBa=>?_))
      ·have uy:=aM uy;exact bad (by rw[lu,aC (by simp only[dm,dQ];omega)])
      ·simp only[sm,reduceCtorEq]at uy Ba;exact bad (by rw[lu,aC (by simp only[dm,dQ];omega)])
      simp only[sm,reduceCtorEq]at uy Ba;refine i1 rfl rfl (aE (λFQ=>?_) λFQ=>i1 rfl rfl (aE (λQa=>?_) λQa=>?_))
      ·have FQ:=aM FQ;exact bad (by rw[lu,aC (by simp only[dm,dQ];omega)])
      ·simp only[sm,reduceCtorEq]at FQ Qa;exact bad (by rw[lu,aC (by simp only[dm,dQ];omega)])
      simp only[sm,reduceCtorEq]at FQ Qa;refine cut v aA λt vt=>Tf (by rw[lu,aI (by simp only[dm,dQ];omega)]) (by simpa using vt)
    ·simp only[sm,reduceCtorEq]at s2 s3 s4;have h2:¬U%8=2:=ag;have h3:¬U%8=3:=ag;have h4:¬U%8=4:=ag;simp[jm,n128,r7,h2,h3,h4]
theorem axZ{h:Hp}{K:cJ}(h1:1<=k/\k<=20)(hk:K (dL k) h):X1 k h K Kp:=by
 have fin:∀v:Int,v=dL k->K v h:=λv e=>e▸hk;apply aFA;unfold dL at fin
 repeat' first|(with_reducible first|refine aCk ?_|refine uf ?_|refine ug ?_|refine cL (λc=>?_) λc=>?_)
 all_goals apply fin _
 all_goals simp_all
 all_goals(repeat' split)
 all_goals omega
def asz(ix:Int)(d:bD)(r:Nat):Option Nat:=
 if(ix<=6/\2^(8*(dL ix).toNat-1)<=oZ (dD d.aX 1) (r*(dL ix).toNat) (dL ix).toNat)\/(∀c,d.ds[0]? =some c->c.len<=(oZ (dD d.aX 1) (r*(dL ix).toNat) (dL ix).toNat:Int))then none
 else some (oZ (dD d.aX 1) (r*(dL ix).toNat) (dL ix).toNat)
def Qm(k:Int)(d:bD):Int:=if k=15 then(match d.cs with|c::_=>c.len|[]=>0)else(dD d.aX 2).length
def uB(d:bD)(i:Nat):Int:=i32 (dD d.aX 1) (d.off.toNat+i)
def afZ(k:Int)(d:bD):Prop:=(∀i:Nat,i<=d.len.toNat->0<=uB d i/\uB d i<=Qm k d/\(∀j:Nat,i=j+1->uB d j<=uB d i))/\
 (k=12->∀i:Nat,i<d.len.toNat->jC k d.aX (d.off.toNat+i)=false->iD (((dD d.aX 2).drop (uB d i).toNat).take ((uB d (i+1)).toNat-(uB d i).toNat))=true)
structure ayB(k:Int)(d:bD):Prop where
 l0:0<=d.len
 l1:d.len<=4096
 o0:0<=d.off
 o1:d.off<=4096
 hv:mR k=true->1<=d.aX.length
 BW:∀j,j<d.aX.length->(dD d.aX j).length<=65536
theorem tX.row{au:Bool}{id ix:Int}{cs:cC}(o:tX au k w id ix cs d):ayB k d:=by
 refine⟨o.l0,o.l1,o.o0,o.o1,λq=>?_,o.BW⟩;have nb:=o.nb;unfold mR at q;simp only[dm,yN]at q;unfold kO at nb
 omega
section
variable {h:Hp} {b2 b3 b4:Nat} {nm:ff} {au:Bool} {id ix:Int} {K:Int->Sl->Int->HP}
end
def GW(d:bD)(r:Nat):Nat:=((dD d.aX 0).getD r 0).toNat
structure VM(k ix:Int)(d:bD):Prop where
 off:k=12\/k=13\/k=15->afZ k d
 code:k=18->∀i:Nat,i<d.len.toNat->∃c,d.cs[GW d (d.off.toNat+i)]? =some c/\0<=uB d i/\uB d i<c.len
 aIF:k=19->∀i:Nat,i<d.len.toNat->jC k d.aX (d.off.toNat+i)=false->∃m,asz ix d (d.off.toNat+i)=some m
section
variable {h:Hp} {b2 b3 b4:Nat} {nm:ff} {au:Bool} {id ix:Int} {cs:cC} {K:Int->Sl->Int->HP}
def BC(e:bD)(i:Nat):Int:=i32 (dD e.aX 1) (e.off.toNat+i)
end
def abL(e:bD):Nat->Int
 |0=>0
 |i+1=>BC e i
def ajC(d:bD):Prop:=∃e v,d.cs[0]? =some e/\d.cs[1]? =some v/\e.len=v.len/\(∀i:Nat,i<e.len.toNat->abL e i<BC e i)/\d.off+d.len<=abL e e.len.toNat
inductive aB
 |mk (au:Bool) (num:Int) (text:dB) (items:List aB)
abbrev aP:=List aB
variable {X:aP} {v:aB} {g:aB->Nat} {F:List (aB->Bool)}
mutual
def aB.bq:aB->Nat
 |.mk _ _ t vs=>16+t.length+bH vs
def bH:List aB->Nat
 |[]=>0
 |v::vs=>v.bq+bH vs
end
theorem E6:∀vs:List aB,bH vs=(vs.map aB.bq).sum
 |[]=>rfl
 |v::vs=>by unfold bH;rw[E6 vs];simp
abbrev VF:=bD->Nat->aB
def v0:aB:=.mk true 0 [] []
def vz:VF:=λ_ _=>v0
def wu:bD:=.mk 0 0 0 [] [] []
def part(d:bD)(j:Nat):bD:=(xA d).getD j wu
def nW(V:VF)(c:bD)(i:Nat):aB:=V c (c.off.toNat+i)
def runN(e:bD)(r:Nat):Nat:=((List.range e.len.toNat).find? λj=>decide ((r:Int)<BC e j)).getD 0
def zC(k:Int)(l:dB)(r:Nat):Int:=
 if 3<=k/\k<=6 then sg (dL k).toNat (oZ l (r*(dL k).toNat) (dL k).toNat)else sg 8 (oZ l (r*(dL k).toNat) (dL k).toNat)
def sV(d:bD)(r:Nat):Nat:=(i32 (dD d.aX 1) r).toNat
def oU(k w ix:Int)(V:List VF)(d:bD)(r:Nat):aB:=
 if jC k d.aX r=true then v0
 else if k=12\/k=13 then .mk false 0 (((dD d.aX 2).drop (sV d r)).take (sV d (r+1)-sV d r)) []
 else if k=15 then .mk false 0 [] ((List.range (sV d (r+1)-sV d r)).map λi=>nW (V.getD 0 vz) (part d 0) (sV d r+i))
 else if k=16 then .mk false 0 [] ((List.range w.toNat).map λi=>nW (V.getD 0 vz) (part d 0) (r*w.toNat+i))
 else if k=17 then .mk false 0 [] ((List.range V.length).map λj=>nW (V.getD j vz) (part d j) r)
 else if k=18 then .mk false (GW d r) [] [nW (V.getD (GW d r) vz) (part d (GW d r)) (sV d r)]
 else if k=19 then nW (V.getD 0 vz) (part d 0) (oZ (dD d.aX 1) (r*(dL ix).toNat) (dL ix).toNat)
 else if k=20 then nW (V.getD 1 vz) (part d 1) (runN (part d 0) r)
 else if k=2 then .mk false (if gI (dD d.aX 1) r then 1 else 0) [] []
 else if k=14 then .mk false 0 (((dD d.aX 1).drop (r*w.toNat)).take w.toNat) []
 else .mk false (zC k (dD d.aX 1) r) [] []
def Dc(k:Int)(V:List VF):List VF:=if k=20 then oU 5 0 0 []::V else V
mutual
def aq.val:aq->VF
 |.mk _ _ k w _ ix cs=>oU k w ix (Dc k (zf cs))
def zf:List aq->List VF
 |[]=>[]
 |f::fs=>f.val::zf fs
end
theorem YX:∀a:List aq,zf a=a.map aq.val
 |[]=>rfl
 |f::a=>by unfold zf;rw[YX a];rfl
theorem aaD(k:Int)(cs:cC):Dc k (zf cs)=(rX k cs).map aq.val:=by
 unfold Dc rX;rw[YX];split
 ·simp[KR,aq.val,zf,Dc]
 ·rfl
def AM(V:VF)(d:bD):List Nat:=(List.range d.len.toNat).map λi=>(nW V d i).bq
theorem akH{V:VF}(h:i<d.len.toNat):(AM V d)[i]? =some (nW V d i).bq:=by simp[AM,h]
theorem Zv{l:cG}(a m:Nat):((l.drop a).take m).sum<=l.sum:=by
  have e:∀(l:cG)m,(l.take m).sum<=l.sum:=by
    intro l;induction l with
    |nil=>simp
    | cons y c b=>intro m;cases m with
      |zero=>simp
      |succ m=>simp[*]
  have d:∀(l:cG)a,(l.drop a).sum<=l.sum:=by
    intro l;induction l with
    |nil=>simp
    | cons y c b=>intro m;cases m with
      |zero=>simp
      |succ m=>grind
  grind
theorem akI{V:VF}{a:Nat}(h:a+m<=d.len.toNat):((AM V d).drop a).take m=(List.range m).map λi=>(nW V d (a+i)).bq:=by
 apply sE;intro i;rw[US,fh];split
 ·rename_i b
  rw[HL,akH ag,Eh b];rfl
 simp[*]
theorem amH{l:cG}{n:Nat}(h:l[j]? =some n):(l.take (j+1)).sum=(l.take j).sum+n:=by
 rw[L3,h];simp
theorem aov{e:bD}{r:Nat}(a:j<e.len.toNat)(d:(r:Int)<BC e j)(c:∀i,i<j->BC e i<=r):runN e r=j:=by
 unfold runN;have:(List.range e.len.toNat).find? (λj=>decide ((r:Int)<BC e j))=some j:=by
  rw[List.find?_range_eq_some];refine⟨dM,dM,λi b=>?_⟩
  have:=c i b;simp;omega
 simp[*]
def iv(l:cG):List Value:=l.map λx:Nat=>ah (x:Int)
theorem asv{l:cG}(h:l[i]? =some m):(iv l)[i]? =some (ah (m:Int)):=by simp[iv,h]
theorem asu(l:cG):(iv l).length=l.length:=by simp[iv]
def Nv(h:Hp)(s:Sl)(l:cG):Prop:=Sv h s (iv l)
theorem Nv.ld{h:Hp}{l:cG}(v:Nv h s l){x:Int}{i y:Nat}(d:x=i)(c:l[i]? =some y){K:Int->Prop}(f:K y):Ix s.a s.n 1 x λa=>Ld h a mI K:=by
 have e:=v.1;have j:=(cU.1 c).1;rw[asu]at e;exact v.ix ag ag (by grind[Int.toNat_natCast,asv]) λa g=>⟨_,g,f⟩
structure Ws(h0 h:Hp)(b:Nat)(t:Sl)(n:Nat)(outs:bg):Prop where
 g:az h0 h
 o:gU h t b outs Y6
 l:outs.length=n
 hb:h0.size<=b
section
variable {h:Hp} {b n:Nat} {outs:bg}
theorem Ws.tn(w:Ws h0 h b t n outs):t.n=n:=by rw[w.o.2.1,w.l]
theorem Ws.ai(w:Ws h0 h b t n outs)(g:az h H):Ws h0 H b t n outs:=⟨ak w.g g,w.o.ai g,w.l,w.hb⟩
theorem Ws.st(w:Ws h0 h b t n outs){x:Int}{i:Nat}(B:x=i)(hi:i<n){y:Int}{K:Hp->Prop}(H:∀z,Ws h0 z b t n (outs.set i (ah y))->K z):Ix t.a t.n 1 x λa=>St h a (ah y) K:=by
 have tn:=w.tn;apply w.o.vY ag ag;rw[B,fR];exact w.o.st ag rfl λz c o=>H z ⟨bE w.g c w.hb,o,by simp[w.l],w.hb⟩
end
theorem anD{l:bg}{v:Value}(h:i<l.length):(l.set i v)[i]? =some v:=by simp[h]
theorem anC{l:bg}{v:Value}(h:j≠i):(l.set i v)[j]? =l[j]? :=by
 grind
section
variable {h:Hp} {b n:Nat} {wi:Sl} {us:List Sl} {ls:List (List Nat)} {outs:bg} {a3 a4 a7:Addr} {K:Sl->HP} {N1:Fr->HP}
end
theorem ZV{l:bg}{v:Value} (h : l[i]? = some v) : l.set i v = l := by
  have hi := (cU.1 h).1
  apply sE; intro k
  by_cases e : k = i
  · subst e; rw [anD hi, h]
  · rw [anC e]
theorem Mo{h:Hp}{n:Nat}{X:Prop} (x : X) : aU h h a n X := ⟨fun _ _ => rfl, x⟩
section
variable {h:Hp} {nm:ff} {au:Bool} {id ix:Int} {cs:cC} {V:List VF} {wi:Sl} {us:List Sl} {K:Sl->HP}
end
abbrev PF:=bD->Prop
structure OF(au:Bool)(k w id ix:Int)(cs:cC)(V:List VF)(P:List PF)(d:bD):Prop where
 o:tX au k w id ix cs d
 ro:VM k ix d
 pt:∀(j:Nat)(c:bD),(xA d)[j]? =some c->∃p,P[j]? =some p/\p c
 eo:k=20->ajC d
 wt:(AM (oU k w ix V) d).sum<=4194304
def JL(k:Int)(P:List PF):List PF:=if k=20 then OF false 5 0 0 0 [] [] []::P else P
mutual
def aq.arr:aq->PF
 |.mk _ au k w id ix cs=>OF au k w id ix cs (Dc k (zf cs)) (JL k (Ep cs))
def Ep:List aq->List PF
 |[]=>[]
 |f::fs=>f.arr::Ep fs
end
theorem afi:∀a:List aq,Ep a=a.map aq.arr
 |[]=>rfl
 |f::a=>by unfold Ep;rw[afi a];rfl
theorem auV:KR.arr=OF false 5 0 0 0 [] [] []:=by
 grind[KR,aq.arr,Ep,zf,Dc,JL]
theorem apf(k:Int)(cs:cC):JL k (Ep cs)=(rX k cs).map aq.arr:=by
 grind[JL,rX,afi,auV]
theorem aq.Ut:f.arr d↔OF f.au f.k f.w f.id f.ix f.cs ((rX f.k f.cs).map aq.val) ((rX f.k f.cs).map aq.arr) d:=by
 obtain⟨n,au,k,w,id,ix,cs⟩:=f;unfold aq.arr;rw[apf,aaD];exact Iff.rfl
theorem aq.ak6(f:aq):f.val=oU f.k f.w f.ix ((rX f.k f.cs).map aq.val):=by
 obtain⟨n,au,k,w,id,ix,cs⟩:=f;unfold aq.val;rw[aaD];rfl
abbrev wG:=@aq.ak6
def aB.au:aB->Bool|.mk n _ _ _=>n
def aB.num:aB->Int|.mk _ x _ _=>x
def aB.text:aB->List UInt8|.mk _ _ t _=>t
def aB.items:aB->List aB|.mk _ _ _ l=>l
def xo(n:Bool)(x:Int)(t:dB)(s:Sl):List Value:=[.bool n,ah x,.string (bs t),Sl.v s]
def aB.row(v:aB)(s:Sl):List Value:=xo v.au v.num v.text s
theorem AO(v:aB)(s:Sl):∀x∈v.row s,one x=true:=by intro x a;simp[aB.row,xo]at a;rcases a with rfl|rfl|rfl|rfl <;> rfl
mutual
def aR(D:aQ)(h:Hp)(s:Sl):List aB->Prop
 |[]=>s.n=0/\s.n<=s.c
 |v::vs=>s.n=vs.length+1/\s.n<=s.c/\∃a,s.a=some a/\D a.block/\VA D h a v/\iA D h a 1 vs
def iA(D:aQ)(h:Hp)(a:Addr)(i:Nat):List aB->Prop
 |[]=>True
 |v::vs=>VA D h (a.add (i*4)) v/\iA D h a (i+1) vs
def VA(D:aQ)(h:Hp)(a:Addr):aB->Prop
 |.mk n x t vs=>∃s,Cs h a (xo n x t s)/\aR D h s vs
end
theorem VA.row{h:Hp}(c:VA D h a v):∃s,Cs h a (v.row s)/\aR D h s v.items:=by
 obtain⟨n,x,t,vs⟩:=v;unfold VA at c;exact c
theorem VA.of{h:Hp}(c:Cs h a (v.row s))(w:aR D h s v.items):VA D h a v:=by
 obtain⟨n,x,t,vs⟩:=v;unfold VA;exact⟨s,c,w⟩
section
variable {D':aQ} {h:Hp}
theorem VA.lt(g:VA D h a v):a.block<h.size:=by obtain⟨_,c,_⟩:=g.row;exact Cs.lt c
mutual
theorem aR.fr(f:Tn S h h')(hn:∀b,D b->b<h.size->¬S b)(hD:∀b,D b->D' b):∀{s:Sl}(vs:aP),aR D h s vs->aR D' h' s vs
  |_,[],hh=>by unfold aR at hh ⊢;exact hh
  | _,v::vs,hh=>by
    unfold aR at hh⊢
    obtain⟨a,b,p,e,q,x,y⟩:=hh
    exact⟨a,b,p,e,hD _ q,VA.fr f hn hD (hn _ q x.lt) v x,iA.fr f hn hD (hn _ q x.lt) vs y⟩
theorem iA.fr(f:Tn S h h')(hn:∀b,D b->b<h.size->¬S b)(hD:∀b,D b->D' b):∀{a:Addr}(ha:¬S a.block){i:Nat}(vs:aP),iA D h a i vs->iA D' h' a i vs
  |_,_,_,[],_=>by unfold iA;trivial
  | _,ha,i,v::vs,hh=>by
    unfold iA at hh⊢
    exact⟨VA.fr f hn hD (by rw[Ce];exact ha) v hh.1,iA.fr f hn hD ha vs hh.2⟩
theorem VA.fr(f:Tn S h h')(hn:∀b,D b->b<h.size->¬S b)(hD:∀b,D b->D' b):∀{a:Addr}(ha:¬S a.block)(v:aB),VA D h a v->VA D' h' a v
  | _,ha,.mk n x t vs,hh=>by
    unfold VA at hh⊢
    obtain⟨s,hc,h1⟩:=hh
    exact⟨s,hc.fr f ha,aR.fr f hn hD vs h1⟩
end
mutual
theorem aR.lt:∀{s:Sl}(vs:aP),aR D h s vs->aR (λb=>D b/\b<h.size) h s vs
  |_,[],hh=>by unfold aR at hh ⊢;exact hh
  | _,v::vs,hh=>by
    unfold aR at hh⊢
    obtain⟨a,b,p,e,q,x,y⟩:=hh
    exact⟨a,b,p,e,⟨q,x.lt⟩,VA.lt' v x,iA.lt vs y⟩
theorem iA.lt:∀{a:Addr}{i:Nat}(vs:aP),iA D h a i vs->iA (λb=>D b/\b<h.size) h a i vs
 |_,_,[],_=>by unfold iA;trivial
 |_,i,v::vs,hh=>by unfold iA at hh ⊢;exact⟨VA.lt' v hh.1,iA.lt vs hh.2⟩
theorem VA.lt':∀{a:Addr}(v:aB),VA D h a v->VA (λb=>D b/\b<h.size) h a v
  | _,.mk n x t vs,hh=>by
    unfold VA at hh⊢
    obtain⟨s,hc,h1⟩:=hh
    exact⟨s,hc,aR.lt vs h1⟩
end
theorem aR.gr{vs:aP}(v:aR D h s vs)(g:az h h'):aR D h' s vs:=aR.fr (bh g) (λ_ _ _=>id) (λ_ q=>q) vs v
abbrev eR:=@aR.gr
theorem aR.mo{vs:aP}(v:aR D h s vs)(a:∀b,D b->D' b):aR D' h s vs:=aR.fr (iX _ _) (λ_ _ _=>id) a vs v
abbrev sA:=@aR.mo
theorem iA.get:∀{a:Addr}{vs:aP}{i:Nat},iA D h a i vs->∀(j:Nat)v,vs[j]? =some v->VA D h (a.add ((i+j)*4)) v
  |_,[],_,_,_,_,b=>by simp at b
  |_,f::d,i,c,0,g,b=>by grind[iA]
  | _,f::d,i,c,j+1,g,b=>by
    unfold iA at c;have:=iA.get c.2 j g (by simpa using b)
    grind
theorem iA.of:∀{vs:aP}{i:Nat},(∀j v,vs[j]? =some v->VA D h (a.add ((i+j)*4)) v)->iA D h a i vs
  |[],_,_=>by unfold iA;trivial
  | f::c,i,H=>by
    unfold iA;refine⟨H 0 f rfl,iA.of λj g b=>?_⟩;have:=H (j+1) g dM
    grind
theorem aR.n{vs:aP}(z:aR D h s vs):s.n=vs.length/\s.n<=s.c:=by
 cases vs with
 |nil=>unfold aR at z;exact z
 |cons g a=>unfold aR at z;grind
theorem aR.all{vs:aP}(c:aR D h s vs)(d:vs≠[]):∃a,s.a=some a/\D a.block/\∀(j:Nat)v,vs[j]? =some v->VA D h (a.add (j*4)) v:=by
  cases vs with
  |nil=>grind
  | cons g m=>
    unfold aR at c;obtain⟨_,_,a,i,f,l,k⟩:=c;refine⟨a,i,f,λj v b=>?_⟩;cases j with
    |zero=>simp_all[add_zero']
    | succ j=>
      have:=k.get j v (by simpa using b)
      grind
theorem aR.of{vs:aP}(q:s.n=vs.length)(z:s.n<=s.c)(B:vs≠[]->∃a,s.a=some a/\D a.block/\∀(j:Nat)v,vs[j]? =some v->VA D h (a.add (j*4)) v):aR D h s vs:=by
  cases vs with
  |nil=>unfold aR;simp[*]
  | cons g k=>
    obtain⟨a,i,f,b⟩:=B aA;unfold aR;refine⟨q,z,a,i,f,by simpa[add_zero']using b 0 g rfl,iA.of λj v d=>?_⟩
    have:=b (j+1) v dM
    grind
theorem aR.nil(h:Hp):aR D h Sl.nil []:=by unfold aR;exact⟨rfl,bP _⟩
abbrev qt:=@aR.nil
theorem aR.ix{vs:aP}(g:aR D h s vs){x:Int}{i:Nat}(B:x=(i:Int)){v:aB}(z:vs[i]? =some v){K:Addr->Prop}(C:∀a t,Cs h a (v.row t)->aR D h t v.items->K a):Ix s.a s.n 4 x K:=by
 have b:i<vs.length:=bU;obtain⟨a,f,_,d⟩:=g.all bU
 obtain⟨p,c,w⟩:=(d i v z).row;have j:=g.n;subst B;rw[f];exact⟨ag,ag,by rw[fR];exact C _ _ c w⟩
theorem aR.aa4{b:Nat}{vs:aP}{ss:List Sl}(o:lY 4 h s b (List.zipWith aB.row vs ss) el)(hl:ss.length=vs.length)(g:D b)
  (f:∀(j:Nat)(v:aB)(t:Sl),vs[j]? =some v->ss[j]? =some t->aR D h t v.items):aR D h s vs:=by
 have e:=o.n;rw[oG,hl,Ef]at e;refine aR.of e o.cap λ_=>⟨_,o.a,g,λj v d=>?_⟩;have i:=(cU.1 d).1;have c:ss[j]? =some ss[j]:=aA;rw[bw,cz];exact VA.of (o.cs bU) (f j v _ d c)
theorem aR.snoc{n:Nat}{vs:aP}{ss:List Sl}(o:eT n 4 h s (List.zipWith aB.row vs ss) el)(hl:ss.length=vs.length)(f:∀b,n<=b->D b)
    (a:∀(j:Nat)(v:aB)(t:Sl),vs[j]? =some v->ss[j]? =some t->aR D h t v.items):aR D h s vs:=by
  rcases o.cases with⟨rfl,e⟩|⟨b,c,o⟩
  · have:vs=[]:=by
      cases vs with
      |nil=>rfl
      |cons d ds=>simp_all
    subst this;exact qt h
  ·exact aR.aa4 o hl (f b c) a
end
mutual
def aq.dep:aq->Nat
 |.mk _ _ _ _ _ _ cs=>TC cs+1
def TC:List aq->Nat
 |[]=>0
 |f::fs=>max f.dep (TC fs)
end
theorem aaG{cs:cC}{d:Nat}:∀{n:Nat}{a:List Int},gN n a (lO d B cs)->∀f∈cs,∃(n:Nat)(a:List Int),gN n a (f.places d [] B):=by
  induction cs with
  |nil=>simp
  | cons g e c=>
    intro n a h f b;simp only[lO,EW]at h;grind
theorem Ti{α:Type}{l:List α}{x y:α}(h:l[j]? =some x):l.getD j y=x:=by simp[h]
theorem aq.arr.C1(h:f.arr d):tX f.au f.k f.w f.id f.ix f.cs d:=(aq.Ut.1 h).o
def xW(k:Int):Value:=if k=12\/k=13 then .iface afz (.agg #[])else if k=15\/k=16 then .iface afy (.agg #[])else if k=17 then .iface afx (.agg #[])else if k=18 then .iface afw (.agg #[])else if k=19 then .iface afv (.agg #[])else if k=20 then .iface afu (.agg #[])else .iface H6 (.agg #[])
theorem auC{h:Hp}{K:de}{r:PK}(u:K (xW k) h):Yw k h K r:=by
 have fin:∀v:Value,v=xW k->K v h:=λv e=>e▸u;unfold xW at fin;have j2:∀b:Bool,(b=true↔(k=15\/k=16))->¬(k=12\/k=13)->NH K r k b h:=by
  intro b i g;refine aC1 (aE (λc=>fin _ ?_) λc=>?_)
  ·rw[aC g,aI (i.1 c)]
  have t:¬(k=15\/k=16):=λq=>by rw[i.2 q]at c;cases c
  refine aE (λa=>fin _ ?_) λa=>aE (λj=>fin _ ?_) λj=>aE (λl=>fin _ ?_) λl=>aE (λm=>fin _ ?_) λm=>fin _ ?_
  all_goals simp only[sm,reduceCtorEq]at*
  all_goals rw[aC g,aC t]
  ·rw[aI a]
  ·rw[aC a,aI j]
  ·rw[aC a,aC j,aI l]
  ·simp_all
  ·simp_all
 have j1:∀b:Bool,(b=true↔(k=12\/k=13))->NI K r k b h:=by
  intro b i;refine aC2 (aE (λc=>fin _ ?_) λc=>?_)
  ·rw[aI (i.1 c)]
  have g:¬(k=12\/k=13):=λq=>by rw[i.2 q]at c;cases c
  refine aE (λa=>j2 _ ?_ g) λa=>j2 _ ?_ g
  all_goals simp only[sm,reduceCtorEq]at*
  all_goals omega
 grind[aGt,aE,sm]
abbrev ax4(f:aq)(s:Sl)(d:bD)(q:Sl×Sl×Sl)(o n:Int):Array Value:=#[.string f.name,.bool f.au,ah f.k,ah f.w,ah f.id,ah f.ix,Sl.v s,ah d.len,ah d.off,ah d.au,Sl.v q.1,Sl.v q.2.1,Sl.v q.2.2,ah o,ah n,.pointer none,xW f.k]
structure nG(D:aQ)(h:Hp)(b:Nat)(f:aq)(d:bD)(o n:Int)(s:Sl)(q:Sl×Sl×Sl):Prop where
 k:aN h b (ax4 f s d q o n) afB
 fs:bY D h s f.cs
 dv:eU D D h q d
section
variable {D':aQ} {h:Hp} {b:Nat} {o n:Int}
theorem nG.fr(A:nG D h b f d o n s q)(t:Tn S h h')(G:¬S b)(z:∀x,D x->¬S x)(B:∀x,D x->D' x):nG D' h' b f d o n s q:=
 ⟨t.aZ A.k G,bY.fr t z B _ A.fs,A.dv.fr t (λx a _=>z x a) (λx a _=>z x a) B B⟩
theorem nG.gr(A:nG D h b f d o n s q)(g:az h h'):nG D h' b f d o n s q:=A.fr (bh g) (λx=>x) (λ_ _ x=>x) λ_ x=>x
theorem nG.lt(A:nG D h b f d o n s q):nG (λx=>D x/\x<h.size) h b f d o n s q:=⟨A.k,bY.lt _ A.fs,A.dv.lt⟩
theorem iw.get:∀{a:Addr}{l:cC}{i:Nat},iw D h a i l->∀(j:Nat)f,l[j]? =some f->jt D h (a.add ((i+j)*7)) f
  |_,[],_,_,_,_,c=>by simp at c
  |_,f::l,i,k,0,g,c=>by grind[iw]
  | _,f::l,i,k,j+1,g,c=>by
    unfold iw at k;have:=iw.get k.2 j g (by simpa using c)
    grind
theorem jt.row(c:jt D h a f):∃u,Cs h a (f.row u)/\bY D h u f.cs:=by cases f;unfold jt at c;exact c
theorem bY.ix(B:bY D h s fs){x:Int}{i:Nat}(C:x=(i:Int)){g:aq}(z:fs[i]? =some g){K:Addr->Prop}(E:∀a u,Cs h a (g.row u)->bY D h u g.cs->K a):Ix s.a s.n 7 x K:=by
  have r:=B.n;have t:i<fs.length:=bU;cases fs with
  |nil=>simp at z
  | cons f fs=>
    unfold bY at B;obtain⟨_,_,a,k,_,m,l⟩:=B;have:jt D h (a.add (i*7)) g:=by
      cases i with
      |zero=>simp_all[add_zero']
      | succ j=>
        have:=l.get j g (by simpa using z)
        grind
    obtain⟨u,c,v⟩:=this.row;subst C;rw[k];exact⟨ag,ag,by rw[fR];exact E _ _ c v⟩
theorem apT{K:Option Addr->HP}(hs:bY D h s f.cs)(v:eU D D h q d)(hk:∀b' h',az h h'->h.size<=b'->nG D h' b' f d d.off d.len s q->K (bz b') h'):Xf f.name f.au f.k f.w f.id f.ix s d.len d.off d.au q.1 q.2.1 q.2.2 none h K Kp:=by
 refine aDm (aG λb3 h1 e1 g1 k3 _=>aG λb4 h2 e2 g2 k4 _=>?_);simp only[bw];have G:=ak g1 g2;have k3:=k3.ai g2;refine dZ k3 (gl k4 (aj k4 rfl (aj k4 rfl (aj k3 rfl (auC (Mo (Mo (Mo (Mo ?_)))))))));have na:∀{X:Prop},X->NA (xW f.k) X:=λ{X}hX=>by unfold xW;(repeat' split) <;> exact⟨rfl,hX⟩
 exact na (aG λb5 h3 e3 g3 k5 _=>hk _ _ (ak G g3) ag ⟨k5,hs.gr (ak G g3),v.gr (ak G g3)⟩)
end
section
variable {h:Hp}
end
section
variable {h:Hp} {l:dB}
theorem dX.gr{vs:bg}(v:dX D h u vs)(g:az h H):dX D H u vs:=v.fr (bh g) (λ_ _ _=>id) λ_ q=>q
theorem aqd{K:Sl->Int->Option Addr->HP}(v:dX D h u (bv l))(B:∀t i,az h i->dX D i t (bv l)->K t 0 none i):Yl u h K Kp:=by
 have tn:=v.1.1;rw[fM]at tn;refine aF8 (aG λb2 E e1 r c _=>afN (v.1.ai r) (a:=0) rfl rfl rfl (dN _) (by rw[fM];omega) (bP _) v.1.2.1 λt _ _ C k=>sH.b c rfl λF p c=>sC c (B _ _ (bE r p ag) ?_))
 rw[aeN,List.drop_zero,qu ag]at k;have w:dX (λx=>x<h.size/\D x) E t _:=⟨k,λA a j=>by
  obtain⟨y,z,e⟩:=C a j;have:=v.lt.2 A y z;simp[*]⟩
 exact w.fr p.fr (λx g _ e=>ag) λx g=>g.2
theorem akY{o:Int}{w m:Option Addr}{K:Sl->Int->Option Addr->HP}(v:dX D h u (bv l))(p:∀g,az h g->dX D g u (bv l)->K u o w g):Yk u o m w h K Kp:=by
 refine aF7 (aG λb2 A e1 i a _=>aG λC z B k e _=>?_);simp only[bw];have G:=ak i k;exact dc (a.ai k) aA rfl λy c a=>sC a (sH.b (c.aZ e ag) rfl λx j e=>sC e (p _ (bE (bE G c ag) j ag) (v.gr (bE (bE G c ag) j ag))))
theorem Pa{o n:Int}{w:Option Addr}{K:fJ}(hl:u.n<=2^40)(j:0<=x)(g:0<=n)(t:x+n<=u.n)(e:∀c,az h c->K true c):IV u o w x n h K Kp:=by
 refine aF5 (aG λv r e1 i a _=>bO (by simpa using j) (aCN (by
  have p:decide (n>=0)=true:=by simpa using g
  rw[p];refine bO rfl (aj a rfl ?_);have m:decide (x<=(u.n:Int))=true:=by rw[dQ];omega
  rw[m];refine aCM (bO rfl (aj a rfl (aW ag ag ?_)));have k:decide (n<=(u.n:Int)-x)=true:=by rw[dQ];omega
  rw[k];exact e _ i)))
theorem PI{o n:Int}{a:Nat}{K:Sl->HP}(v:Sv h u (bv l))(hl:l.length<=2^40)(j:x=a)(k:n=m)(r:a+m<=l.length)(p:∀t c,az h c->Sv c t (bv ((l.drop a).take m))->K t c):IU u o none x n h K Kp:=by
 subst j k;have un:=v.1;rw[fM]at un;refine aF4 (aG λy w e1 i g _=>?_);simp only[bw];refine aj g rfl (bu rfl (aCL (bu rfl (aj g rfl (aW ag ag (aW ag ag (afN (v.ai i) (a:=a) (m:=a+m) aA aA aA ag (by rw[fM];omega) (bP _) (by have:=v.2.1;omega) λt _ _ _ e=>p _ _ i ?_)))))))
 grind[aeN]
theorem aeH{o:Int}{b:UInt8}{K:Int->Int->HP}(v:Sv h u (bv l))(hl:l.length<=2^40)(p:x=i)(e:l[i]? =some b)(r:∀g,az h g->K b.toNat 0 g):OA u o none x h K Kp:=by
 have y:=(cU.1 e).1;have un:=v.1;rw[fM]at un;refine aGj (aG λC B e1 j c _=>sC c (Pa ag ag ag ag λA a=>bu rfl (sC (c.ai a) (PI (v.ai (ak j a)) hl p (m:=1) rfl ag λt z w k=>VH k rfl ?_ (r _ (ak (ak j a) w))))));grind
theorem akQ{K:fJ}(c:m=1\/m=2\/m=4\/m=8)(a:K true h):Yc (m:Int) h K Kp:=by
 rcases c with rfl|rfl|rfl|rfl
 ·exact Ox (bO rfl (Nq (bO rfl (Np (bO rfl a)))))
 ·exact Ox (bu rfl (Nq (bO rfl (Np (bO rfl a)))))
 ·exact Ox (bu rfl (Nq (bu rfl (Np (bO rfl a)))))
 ·exact Ox (bu rfl (Nq (bu rfl (Np (bu rfl a)))))
theorem aqi{K:cJ}(v:Sv h u (bv l))(hl:l.length<=8)(y:K (jW l) h):Yb u h K Kp:=by
 have un:=v.1;rw[fM]at un;apply aFQ;rw[un];apply aAe (λr p z=>z=h/\∃i:Nat,p=i/\i<=l.length/\r=jW (l.take i)) (λ_ p _=>l.length-p.toNat) ⟨rfl,0,rfl,by omega,by simp[jW]⟩
 rintro r p B ⟨rfl,i,rfl,A,rfl⟩ C hN;refine cL (λc=>?_) λc=>?_
 ·have g:i<l.length:=ag;have j:=bx g;have e:=kg g;generalize l[i]=b at j e;have m:=b.toNat_lt;have a:=R2 (l.take i);have t:(l.take i).length=i:=by simp;omega
  rw[t]at a;rw[<-un];refine VH v rfl j (pQ rfl (kZ m aY) ?_);rw[show _*(i:Int)=((8*i:Nat):Int) by omega]
  have x:b.toNat*2^(8*i)<2^64:=by
   have w:b.toNat*2^(8*i)<2^8*2^(8*i):=Nat.mul_lt_mul_of_pos_right m (Nat.two_pow_pos _);rw[<-HN]at w;exact kZ w (Ee aY ag)
  refine aW ag ag (zo ?_ a x (kZ a (Ee aY ag)) ?_)
  ·have:IntKind.bits .u64=64:=rfl;rw[this,fR];omega
  ·rw[un];refine aW ag ag (hN _ _ _ ⟨rfl,i+1,by simp,by omega,?_⟩ ag)
   rw[e,abE,t]
 ·have:i=l.length:=ag;simp_all
theorem abx{o:Int}{a:Nat}{K:Int->Int->HP}(v:Sv h u (bv l))(hl:l.length<=2^40)(r:m=1\/m=2\/m=4\/m=8)(p:x=a)(k:y=m)(z:a+m<=l.length)(w:∀g,az h g->K (oZ l a m) 0 g):ER u o none x y h K Kp:=by
 subst k;have un:=v.1;rw[fM]at un;refine aF6 (aG λF E e1 i e _=>akQ r (bu rfl (sC e (Pa ag ag ag ag λC c=>bu rfl (sC (e.ai c) (PI (v.ai (ak i c)) hl p rfl z λt B A j=>aqi j cj (w _ (ak (ak i c) A))))))))
theorem anB{x:Nat}(hm:m=1\/m=2\/m=4\/m=8)(hx:x<2^(8*m)):Int.fdiv (IntKind.i64.wrap (IntKind.u64.wrap ((x:Int)*2^(64-8*m)))) (2^(64-8*m))=sg m x:=by
 have ax:∀y:Int,Int.fdiv y (2^(64-8*m))=y/2^(64-8*m):=bU;rw[ax];unfold sg;rcases hm with rfl|rfl|rfl|rfl
 all_goals simp only[IntKind.wrap,IntKind.signed,IntKind.bits]
 all_goals grind
theorem anA{o:Int}{a:Nat}{K:Int->Int->HP}(v:Sv h u (bv l))(hl:l.length<=2^40)(hm:m=1\/m=2\/m=4\/m=8)(hx:x=a)(hy:y=m)(h3:a+m<=l.length)(hk:∀h',az h h'->K (sg m (oZ l a m)) 0 h'):Yt u o none x y h K Kp:=by
 have eW:=abg l a m;refine aGl (aG λb3 h1 e1 g1 k3 _=>sC k3 (abx (v.ai g1) hl hm hx hy h3 λh2 g2=>bu rfl ?_));subst hy;have e1:(64:Int)-8*(m:Int)=((64-8*m:Nat):Int):=ag;have e2:min (Int.toNat ((64-8*m:Nat):Int)) 64=64-8*m:=by rw[fR];omega
 refine aW ag ag (aW ag ag ?_);rw[e1];apply js ag;unfold Wr;apply js ag;unfold Lt;have e3:IntKind.bits .u64=64:=rfl;have e4:IntKind.bits .i64=64:=rfl;grind[anB,az.trans]
theorem alX{o n:Int}{a:Nat}{K:ByteArray->Int->HP}(v:Sv h u (bv l))(hl:l.length<=2^40)(k:x=a)(p:n=m)(w:a+m<=l.length)(r:∀i,az h i->K (bs ((l.drop a).take m)) 0 i):XX u o none x n h K Kp:=by
 have un:=v.1;rw[fM]at un;refine aFu (aG λC B e1 j g _=>sC g (Pa ag ag ag ag λA c=>bu rfl (sC (g.ai c) (PI (v.ai (ak j c)) hl k p w λt z y e=>⟨(l.drop a).take m,?_,r _ (ak (ak j c) y)⟩))));have:=e.A7 e.na;rw[u7]at this;exact this
end
section
variable {h:Hp} {b:Nat} {o n:Int}
theorem Lz{K:Sl->Int->Option Addr->HP}(A:nG D h b f d o n s q)(c:x=j)(E:j<d.aX.length)(C:∀u p,az h p->dX D p u (bv (dD d.aX j))->K u 0 none p):AI (bz b) x h K Kp:=by
 refine aGm (aG λM L e1 w i _=>?_);simp only[ob,bw];have g:=A.lt.gr w;refine aj g.k rfl (g.dv.b.ix c E λa t F y=>⟨_,F,aj g.k rfl (aqd y λG J m B=>bM g.k m (akY B λI v z=>sH.b ((i.ai m).ai v) rfl λH r i=>sC i (C _ _ (bE (ak w (ak m v)) r ag) (z.fr r.fr (λx c _ e=>ag) λx c=>c.1))))⟩)
theorem abc{r:Int}{K:fJ}(A:nG D h b f d o n s q)(hr:r=i)(h1:mR f.k=true->1<=d.aX.length)(hl:(dD d.aX 0).length<=2^40)(hi:(dD d.aX 0).length≠0->i/8<(dD d.aX 0).length)(h40:i<=2^40)
  (hk:∀h',az h h'->K (jC f.k d.aX i) h'):NK (bz b) r h K Kp:=by
 subst hr;apply aDg;simp only[ob,bw];refine aj A.k rfl (aE (λc1=>?_) λc1=>aj A.k rfl (acC ?_))
 ·have:=hk _ (cK _);simp_all[jC,Bool.true_or]
 refine aE (λc2=>?_) λc2=>?_
 ·rw[tS]at c2;have:=hk _ (cK _);unfold jC at this;rw[c1,c2,D8,U8]at this;exact this
 rw[U0]at c2;have hb:=h1 c2;refine aj A.k rfl (A.dv.b.ix rfl hb λa t ca vt=>⟨_,ca,?_⟩);have tn:=vt.1.1;rw[fM]at tn;refine aE (λc3=>?_) λc3=>aAB (Lz A rfl hb λu h1 g1 v1=>?_)
 ·have c3:=aM c3;simp_all[cK,jC]
 ·have c3:=aM c3;have Bp:(dD d.aX 0).length≠0:=ag;have eW:=hi Bp;have e1:Int.tdiv (i:Int) 8=((i/8:Nat):Int):=rfl;have e2:Int.tmod (i:Int) 8=((i%8:Nat):Int):=rfl;have GH:=bx eW;have hg:(dD d.aX 0).getD (i/8) 0=(dD d.aX 0)[i/8]:=by simp[eW]
  have hnl:jC f.k d.aX i=!gI (dD d.aX 0) i:=by
   unfold jC;rw[c1,c2];have:((dD d.aX 0).length !=0)=true:=by rw[yN];exact Bp
   rw[this];rfl
  rw[hnl]at hk;unfold gI at hk;rw[hg]at hk;generalize(dD d.aX 0)[i/8]=y at GH hk;refine oP aY (aW (by rw[e1];omega) (by rw[e1];omega) (aeH v1.1 hl e1 GH λh2 g2=>oP aY ?_))
  unfold Lt;rw[e2];apply js ag;have e3:Int.fdiv (y.toNat:Int) (2^(min (Int.toNat ((i%8:Nat):Int)) (IntKind.bits .u8)))=((y.toNat/2^(i%8):Nat):Int):=by
   have:min (Int.toNat ((i%8:Nat):Int)) (IntKind.bits .u8)=i%8:=by
    have:IntKind.bits .u8=8:=rfl;rw[this,fR];omega
   rw[this,Ec _ (HK (Ea aY))]
   norm_cast
  rw[e3]
  show K _ h2
  rw[Ux];have:((((y.toNat/2^(i%8))%2:Nat):Int)==0)=!(y.toNat/2^(i%8)%2==1):=by
   rw[ke];simp only[nv,tS,Vf];omega
  grind[az.trans]
theorem aqh{r:Int}{K:cJ}(A:nG D h b f d o n s q)(hk3:3<=k/\k<=11)(hr:r=i)(hb:1<d.aX.length)(hl:(dD d.aX 1).length<=2^40)(hi:(i+1)*(dL k).toNat<=(dD d.aX 1).length)(hk:∀h',az h h'->K (zC k (dD d.aX 1) i) h'):XW (bz b) k r h K Kp:=by
 subst hr;have wk:(dL k).toNat=1\/(dL k).toNat=2\/(dL k).toNat=4\/(dL k).toNat=8:=by unfold dL;repeat' omega
 have wi:dL k=((dL k).toNat:Int):=ag;have e0:(i+1)*(dL k).toNat=i*(dL k).toNat+(dL k).toNat:=by rw[HR,Nat.one_mul]
 have e1:(i:Int)*dL k=((i*(dL k).toNat:Nat):Int):=by rw[wi];simp
 have lt:=abg (dD d.aX 1) (i*(dL k).toNat) (dL k).toNat;have l64:oZ _ _ (dL k).toNat<2^64:=kZ lt (Ee aY ag);have uns:¬(3<=k/\k<=6)->AI _ 1 h (λt0 t1 t2 h2=>aO ((i:Int)*dL k) λt36=>ER t0 t1 t2 t36 (dL k) h2 (λamu aG8 h3=>Wr .i64 amu λt42=>K t42 h3) Kp) Kp:=λno=>
  Lz A (j:=1) rfl hb λu h1 g1 v1=>aW ag ag (abx v1.1 hl wk e1 wi ag λh2 g2=>by
   have:=hk _ (ak g1 g2);unfold zC at this;rw[aC no]at this;unfold Wr;have e:IntKind.i64.wrap (oZ (dD d.aX 1) (i*(dL k).toNat) (dL k).toNat:Int)=sg 8 (oZ (dD d.aX 1) (i*(dL k).toNat) (dL k).toNat):=by
    unfold sg;rw[IntKind.wrap_i64];omega
   rw[e];exact this)
 refine aFs (axZ ag (bO dM (aE (λc=>?_) λc=>uns ?_)))
 ·have c:=aM c;refine Lz A (j:=1) rfl hb λu h1 g1 v1=>aW ag ag (anA v1.1 hl wk e1 wi ag λh2 g2=>?_);have:=hk _ (ak g1 g2);unfold zC at this;rw[aI ⟨hk3.1,c⟩]at this;exact this
 ·have c:=aM c;omega
end
abbrev Lc(h:Hp)(bl:Nat)(L:Int):Prop:=aN h bl #[ah L] Y6
theorem OX{h:Hp}{bl:Nat}{L n:Int}{K:HP}(k:Lc h bl L)(h0:0<=n)(h1:n<=L)(h2:L<=2^40)(hk:∀h',eD bl h h'->Lc h' bl (L-n)->K h'):IS (bz bl) n h K Kp:=by
 apply aFR;simp only[ob];refine aj k rfl (aW ag ag (dc k aA rfl λh1 o1 k1=>aj k1 rfl (bu ?_ (hk _ o1 k1))));rw[wP];omega
theorem jz.fr{h:Hp}(t:jz h)(f:Tn S h h')(h1:¬S 1)(h2:¬S 2):jz h':=
 ⟨λi hi=>f.cell (t.f i hi) h1,λi hi=>⟨f.cell (t.a i hi).1 h2,f.cell (t.a i hi).2 h2⟩⟩
abbrev KV:=Bool->Int->ByteArray->Sl->HP
def VK(h:Hp)(bl:Nat)(L:Int)(v:aB)(K:KV):Prop:=∀t h',Tn (·=bl) h h'->Lc h' bl (L-v.bq)->aR (Nw h) h' t v.items->K v.au v.num (bs v.text) t h'
theorem VK.fin{h:Hp}{bl b8:Nat}{L:Int}{K:KV}{cs:Array Value}(hk:VK h0 bl L v K)(t:Tn (·=bl) h0 h)(kl:Lc h bl (L-v.bq))(k8:aN h b8 cs el)(hs:cs.size=4)(h8:h0.size<=b8)(hbl:bl<h0.size)(w:aR (λc=>h0.size<=c/\c≠b8) h u v.items):dH h (aJ b8) v.au v.num (bs v.text) u λh'=>bJ h' (aJ b8) λr0 r1 r2 r3=>K r0 r1 r2 r3 h':=
 lT k8 hs λh' o' k8=>eY k8 (hk _ _ (t.trans' o'.fr λd hd eW=>by omega) (o'.aZ kl ag) (aR.fr o'.fr (λx hx _ e=>hx.2 e) (λx hx=>hx.1) _ w))
section
variable {h:Hp} {b:Nat} {o n:Int}
end
structure Vc(D:aQ)(h:Hp)(b bl:Nat)(f:aq)(d:bD)(o n:Int)(s:Sl)(q:Sl×Sl×Sl)(L:Int)(i:Nat):Prop where
 A:nG D h b f d o n s q
 bn:b≠bl
 dn:¬D bl
 ar:f.arr d
 lo:d.off.toNat<=i
 hi:i<d.off.toNat+d.len.toNat
 kl:Lc h bl L
 wl:((f.val d i).bq:Int)<=L
 lm:L<=2^40
 tb:jz h
 b2:2<bl
theorem Jb(f:aq)(d:bD)(i:Nat):f.val d i=oU f.k f.w f.ix ((rX f.k f.cs).map aq.val) d i:=by rw[wG]
theorem Jh(l:dB):tx (bs l)=l:=rfl
section
variable {h:Hp} {b bl:Nat} {o n r L:Int} {K:KV}
theorem Vc.gr(V:Vc D h b bl f d o n s q L i)(g:az h H):Vc D H b bl f d o n s q L i:=⟨V.A.gr g,V.bn,V.dn,V.ar,V.lo,V.hi,V.kl.ai g,V.wl,V.lm,V.tb.ai g,V.b2⟩
theorem Vc.bd(V:Vc D h b bl f d o n s q L i):0<=d.len/\d.len<=4096/\0<=d.off/\d.off<=4096/\i<=8192/\d.off+d.len<=4096/\0<=L:=by
 have a:=V.ar.C1;have m:=a.l0;have l:=a.l1;have k:=a.o0;have j:=a.o1;have g:=V.hi;have e:=a.e1;have c:=V.wl;omega
theorem Vc.af{g:Hp}(V:Vc D h b bl f d o n s q L i)(t:Tn (·=bl) h g):nG D g b f d o n s q:=V.A.fr t V.bn (λx a e=>V.dn (e▸a)) λ_ x=>x
def afE(f:aq):Prop:=∀{D:aQ}{h:Hp}{b bl i:Nat}{d:bD}{o n r L:Int}{s:Sl}{q:Sl×Sl×Sl}{K:KV}{Kp:PK},Vc D h b bl f d o n s q L i->r=i->VK h bl L (f.val d i) K->Ym (bz b) r (bz bl) h K Kp
def Cn(f:aq):Prop:=∀{D:aQ}{h:Hp}{b bl i:Nat}{d:bD}{o n x L:Int}{s:Sl}{q:Sl×Sl×Sl}{K:KV}{Kp:PK},Vc D h b bl f d o n s q L i->o+x=i->VK h bl L (f.val d i) K->Yv (bz b) x (bz bl) h K Kp
theorem apM(w:afE f):Cn f:=by
 intro D h b bl i d o n x L s q K Kp V p u;have bd:=V.bd;have g:=V.kl.lt;refine aGo (aG λE v e1 a l _=>?_);simp only[ob,bw];have z:=a.1;refine aj (V.A.gr a).k rfl (aW ag ag (w (V.gr a) p λt C j e m=>?_));have y:=l.lt;exact u.fin ((bh a).trans j) e (j.aZ l ag) rfl ag g (m.mo λc(B:v.size<=c)=>⟨by omega,by omega⟩)
theorem aue(V:Vc D h b bl f d o n s q L i)(hr:r=i)(kk:f.k≠12/\f.k≠13/\f.k≠15/\f.k≠16/\f.k≠17/\f.k≠18/\f.k≠19/\f.k≠20)(Dy:jC f.k d.aX i=false)(hk:VK h bl L (f.val d i) K):XV (bz b) r (bz bl) h K Kp:=by
 subst hr;have bd:=V.bd;have V':=V;obtain⟨A,bn,dn,ar,lo,hi,kl,wl,lm,tb,b2⟩:=V';have so:=ar.C1;have sh:=so.ty.kinds.1;unfold Shaped at sh;have nb:=so.nb;have SM:f.k≠1:=by intro e;unfold jC at Dy;rw[e]at Dy;simp at Dy
 have Bu:d.aX.length=2:=by unfold kO at nb;(repeat' split at nb) <;> omega
 have n1:=so.FU 1 ag;rw[jq,ay,ay]at n1;have aIJ:=so.BW 1 ag;have bll:=kl.lt;have w16:16<=(f.val d i).bq:=by
  rcases hv:f.val d i with⟨a1,a2,a3,a4⟩
  simp only[aB.bq];omega
 refine aFr (aG λb4 h1 e1 g1 k4 _=>aG λb8 h2 e2 g2 k8 _=>?_);simp only[ob,bw];have G:=ak g1 g2;have g1s:=g1.1;have k8l:=k8.lt;have ct:Cs h2 ⟨b,2,none⟩ [ah f.k,ah f.w,ah f.id,ah f.ix,Sl.v s]:=by
  intro j v hv;rw[bw,gW (A.gr G).k];rcases j with _|_|_|_|_|j
  all_goals first|exact hv|(simp at hv)
 refine nk ct (aG λb9 h3 e3 g3 k9 _=>pE k9 rfl λh4 o4 k9=>?_);have g4:az h2 h4:=bE g3 o4 ag;have g4s:=g4.1;have G4:=ak G g4;have k9l:=k9.lt;refine Lz (A.gr G4) (j:=1) rfl ag λu h5 g5 v5=>aG λb10 h6 e6 g6 J7 _=>sH.b J7 rfl λh7 o7 J7=>?_;have g5s:=g5.1;have g7:az h5 h7:=bE g6 o7 ag;have g7s:=g7.1;have aHt:=J7.lt;have G7:=ak G4 (ak g5 g7);refine OX (kl.ai G7) ag ag lm λh8 o8 kl8=>?_;have T8:Tn _ h h8:=(bh G7).trans o8.fr;have k8':aN h8 b8 fU dh:=o8.aZ (((k8.ai g4).ai g5).ai g7) ag;have J5:=o8.aZ ((k9.ai g5).ai g7) (by omega:b9≠bl)
 have ab2:=o8.aZ J7 (by omega:b10≠bl)
 have v8:dX D h8 u _:=(v5.gr g7).fr o8.fr (λx hx _ e=>dn (e▸hx)) λ_ x=>x;have fin:∀(x:Int)h9,f.val d i=.mk false x [] []->az h8 h9->dH h9 (aJ b8) false x (bs []) bT λh'=>bJ h' (aJ b8) λr0 r1 r2 r3=>K r0 r1 r2 r3 h':=by
  intro x h9 hv g9;rw[hv]at hk;exact hk.fin (T8.trans (bh g9)) (kl8.ai g9) (k8'.ai g9) rfl ag bll (qt _)
 refine aj J5 rfl (aE (λc=>sC ab2 ?_) λc=>aE (λc2=>aj J5 rfl ?_) λc2=>aj J5 rfl ?_)
 ·have c:=aM c;rw[dR]at n1;have e1:Int.tdiv (i:Int) 8=((i/8:Nat):Int):=rfl;have e2:Int.tmod (i:Int) 8=((i%8:Nat):Int):=rfl;have eW:i/8<(dD d.aX 1).length:=ag;have GH:(dD d.aX 1)[i/8]? =some (dD d.aX 1)[i/8]:=bx eW;have hg:(dD d.aX 1).getD (i/8) 0=(dD d.aX 1)[i/8]:=by simp[eW]
  have hv:f.val d i=.mk false (if gI (dD d.aX 1) i then 1 else 0) [] []:=by
   rw[Jb,oU,aC (by rw[Dy];simp),ay,ay,ay,ay,ay,ay,ay,aI c]
  unfold gI at hv;rw[hg]at hv;generalize(dD d.aX 1)[i/8]=y at GH hv;refine oP aY (aW (by rw[e1];omega) (by rw[e1];omega) (aeH v8.1 ag e1 GH λh9 g9=>oP aY ?_))
  unfold Lt;rw[e2];refine js ag ?_;have e3:Int.fdiv (y.toNat:Int) (2^(min (Int.toNat ((i%8:Nat):Int)) (IntKind.bits .u8)))=((y.toNat/2^(i%8):Nat):Int):=by
   have:min (Int.toNat ((i%8:Nat):Int)) (IntKind.bits .u8)=i%8:=by
    have:IntKind.bits .u8=8:=rfl;rw[this,fR];omega
   rw[this,Ec _ (HK (Ea aY))]
   norm_cast
  rw[e3];dsimp only;rw[Ux];refine aW ag ag (fin _ h9 ?_ g9);rw[hv];have hx:(if(y.toNat/2^(i%8)%2==1)=true then(1:Int)else 0)=((y.toNat/2^(i%8)%2:Nat):Int):=by
   split
   ·rename_i e;simp only[nv]at e;omega
   ·rename_i e;simp only[nv]at e;omega
  rw[hx]
 ·simp only[sm,reduceCtorEq]at c c2;have hv:f.val d i=.mk false 0 (((dD d.aX 1).drop (i*f.w.toNat)).take f.w.toNat) []:=by
   rw[Jb,oU,aC (by rw[Dy];simp),ay,ay,ay,ay,ay,ay,ay,ay,aI c2]
  have J8:nI f.k f.w f.ix=f.w:=by rw[nI,aI c2]
  rw[ay,ay,J8]at n1;have hw:1<=f.w/\f.w<=16:=ag;have hrw:(i+1)*f.w.toNat<=(d.off+d.len).toNat*f.w.toNat:=pG _ ag;rw[HR,Nat.one_mul]at hrw;have e1:(i:Int)*f.w=((i*f.w.toNat:Nat):Int):=by rw[UU];congr 1;omega
  have ln:(((dD d.aX 1).drop (i*f.w.toNat)).take f.w.toNat).length=f.w.toNat:=by simp;omega
  have hwg:(f.val d i).bq=16+f.w.toNat:=by rw[hv];simp only[aB.bq,bH,ln];omega
  refine OX kl8 ag ag ag λh9 o9 kl9=>?_;have T9:Tn (·=bl) h h9:=T8.trans o9.fr;have ar0:=o9.aZ k8' (by omega:b8≠bl)
  have abY:=o9.aZ J5 (by omega:b9≠bl)
  have ar5:=o9.aZ ab2 (by omega:b10≠bl)
  have v9:dX D h9 u (bv (dD d.aX 1)):=v8.fr o9.fr (λx hx _ e=>dn (e▸hx)) λ_ x=>x;refine sC ar5 (aj abY rfl (aW ag ag (aj abY rfl (alX v9.1 ag e1 (m:=f.w.toNat) ag ag λsj g10=>?_))));have abT:Lc sj bl (L-((f.val d i).bq:Int)):=by
   have:=kl9.ai g10
   rwa [show L-16-f.w=L-((f.val d i).bq:Int) by omega]at this
  rw[hv]at hk abT;exact hk.fin (T9.trans (bh g10)) abT (ar0.ai g10) rfl ag bll (qt _)
 ·simp only[sm,reduceCtorEq]at c c2;have hv:f.val d i=.mk false (zC f.k (dD d.aX 1) i) [] []:=by
   rw[Jb,oU,aC (by rw[Dy];simp),ay,ay,ay,ay,ay,ay,ay,aC c,aC c2]
  have J8:nI f.k f.w f.ix=dL f.k:=by rw[nI,ay,ay]
  rw[ay,ay,J8]at n1;have hrw:(i+1)*(dL f.k).toNat<=(d.off+d.len).toNat*(dL f.k).toNat:=pG _ ag;exact aqh (V.af T8) ag rfl ag ag ag λh9 g9=>fin _ h9 hv g9
end
theorem mF{h g:Hp}{b o n:Nat}{cs:Array Value}{X:Prop}(k:aN h b cs el)(a:aN g b cs el)(x:X):aU h g ⟨b,o,none⟩ n X:=
 ⟨λi _=>by rw[bw,gW a,gW k],x⟩
structure Ls(h6 h:Hp)(b9:Nat)(x:Sl)(vs:aP):Prop where
 k9:aN h b9 #[.bool false,ah 0,.string (bs []),Sl.v x] dh
 ss:∃ss:List Sl,ss.length=vs.length/\eT h6.size 4 h x (List.zipWith aB.row vs ss) dh/\∀(j:Nat)(v:aB)(t:Sl),vs[j]? =some v->ss[j]? =some t->aR (λc=>h6.size<=c/\¬x.at c) h t v.items
theorem OU{vs:aP}(j:Nat):bH (vs.take j)=((vs.map aB.bq).take j).sum:=by rw[E6,HG]
section
variable {h:Hp} {b bl:Nat} {o n r L:Int} {K:KV}
end
section
variable {h:Hp} {b bl:Nat} {o n r L:Int} {K:KV}
abbrev KI(K:KV):Value->HP:=λv h'=>∃vO:Bool,∃vM:Int,∃vL:ByteArray,∃C8:Sl,v=(.agg #[(.bool vO),(ah vM),(.string vL),(Sl.v C8)])/\K vO vM vL C8 h'
abbrev CI(t:TypeId)(a:Option Addr)(r:Int)(left:Option Addr)(h:Hp)(K:KV)(Kp:PK):Prop:=fE aD (.iface t (.agg #[])) "colonnade/array.read" [.pointer a,ah r,.pointer left] h (KI K) Kp
theorem axf{e:TypeId}{gi:FuncId}{a left:Option Addr}{r:Int}{h:Hp}{K:de}(l:sX aD e "colonnade/array.read"=some (gi,false))(k:(C6 aD e false&&jV aD gi)=true)
    (j:dP aD gi [(.agg #[]),(.pointer a),(ah r),(.pointer left)] h K Kp):fE aD (.iface e (.agg #[])) "colonnade/array.read" [.pointer a,ah r,.pointer left] h K Kp:=by
  unfold fE;grind
theorem awT{a left:Option Addr}{r:Int}{h:Hp}{K:KV}(c:XV a r left h K Kp):CI H6 a r left h K Kp:=axf aV aV c
end
theorem aqn{h:Hp}{b:Nat}{o n r:Int}{K:fJ}(A:nG D h b f d o n s q)(w:f.arr d)(B:d.off.toNat<=i)(F:i<d.off.toNat+d.len.toNat)(p:r=i)(t:∀v,az h v->K (jC f.k d.aX i) v):NK (bz b) r h K Kp:=by
 have a:=w.C1;have C:=a.l1;have o0:=a.o0;have y:=a.o1;have u:=a.row.hv
 by_cases c:(dD d.aX 0).length=0
 ·exact abc A p u ag (λe=>absurd c e) ag t
 ·have j:0<d.aX.length:=by
   rcases U4 d.aX.length with z|z
   ·have:dD d.aX 0=[]:=by unfold dD;rw[wN z];rfl
    grind
   ·exact z
  have l:=a.FU 0 j;have x:=a.BW 0 j;refine abc A p u ag (λ_=>?_) ag t
  by_cases g:f.k=18
  ·rw[jq,aI g]at l;omega
  ·rw[jq,aC g,ay,aI (.inl rfl)]at l;omega
def DT:Code:=Tryz.f87.body.getD .skip
def K8:Code:=Tryz.f105.body.getD .skip
def zA(c:Code)(i:Nat):Oper:=(oY (sub [0] c)).getD i default
def TV(o:Oper):Call:=match o.op with|.call c=>c|.defer c=>c|_=>default
theorem aGx{c0:Addr}{h:Hp}{K:Hp->Prop}(H:K h):∀w,aT w=h->oe aD 105 [dw c0] .returning w λu2 a=>u2=.returning/\cE w a/\K (aT a):=
 avn (bS:=[]) (D:=kU aD []) (zN _) (id:=0) (r1:=zA K8 0) (r2:=zA K8 1) (call:=TV (zA K8 0)) (rest:=sub [1] K8) (tr:=5) (t2:=2)
  Tryz.func105 aV aV aV aV aV aV aV aV aV aV aV (.inl ⟨rfl,rfl,rfl⟩) aV (cast aV H)
def Qd:wX:=[]
def ON:List Value:=[(.agg #[(.bool false),(ah 0),(.string (bs [])),(.slice none 0 0)]),(ah 0),(ah 0)]
def Sb(K:Bool->Int->ByteArray->Sl->Int->Int->HP):Value->HP:=λv h=>rU v λvs=>rG (vs.getD 0 undef) λK7=>rB (K7.getD 0 undef) λvO=>rI (K7.getD 1 undef) λvM=>rT (K7.getD 2 undef) λvL=>rS (K7.getD 3 undef) λC8=>rI (vs.getD 1 undef) λr1=>rI (vs.getD 2 undef) λr2=>K vO vM vL C8 r1 r2 h
def afP(a:Option Addr)(i:Int)(a4 a6:Addr)(K:Bool->Int->ByteArray->Sl->Int->Int->HP)(h2:Hp):Prop:=
 aH h2 #[(ah 0)] Y6 λa7 h3=>
 St h3 a7 (.int .i64 4194304) λh4=>
 Yv a i (some a7) h4 (λamC amB amA amz h5=>
  dH h5 a4 amC amB amA amz λh6=>
  bJ h6 a4 λJp Jo Jn Jm=>
  Ld h6 a7 mI λt12=>
  aO ((4194304:Int)-t12) λt13=>
  dH h6 a4 Jp Jo Jn Jm λh7=>
  aU h6 h7 a7 1 <|
  St h7 a6 (.int .i64 0) λh8=>
  bJ h8 a4 λvO vM vL C8=>
  Ld h8 a6 mI λr2=>
  K vO vM vL C8 t13 r2 h8) (λ_ _=>False)
abbrev DX(ord:wX)(fn:Func)(c2:Code)(zs:bg)(Kv:de)(o:Operand)(fr:Fr)(h:Hp):Prop:=
 ∃(caps:bg)(KpX:PK),iH (ev fr) [o]=some caps/\fV aD [] (kU aD ord) none c2 (mM aD fn.results.toList zs Kv) KpX fr h/\
  (∀w,oe aD 105 caps .returning w λu' w'=>u'=.returning/\cE w w'/\aT w'=aT w)/\
  (∀ch w,KpX ch (aT w)->oe aD 105 caps (.panicking ch) w λu' w'=>settle u'=.returning/\cE w w'/\lC aD fn.results.toList (Du [] fr) (aT w') λvs=>nN zs (mO vs) λv=>Kv v (aT w'))
theorem DX.of{z:wX}{fn:Func}{c2:Code}{zs:bg}{Kv:de}{o:Operand}{fr:Fr}{h:Hp}(h1:iH (ev fr) [o]=some [dw a])(B:fV aD [] (kU aD z) none c2 (mM aD fn.results.toList zs Kv) (λ_ _=>False) fr h):DX z fn c2 zs Kv o fr h:=
 ⟨_,λ_ _=>False,h1,B,λw=>aGx (K:=λb=>b=aT w) rfl w rfl,λ_ _ q=>q.elim⟩
def acR(a:Option Addr)(i:Int)(a4 a6:Addr):Fr:=[some (.pointer a),some (.int .i64 i),none,none,some (.pointer (some a4)),some (.int .i64 0),some (.pointer (some a6)),none,none,none,none,none,none,none]
theorem aDh{a:Option Addr}{i:Int}{h:Hp}{K:Bool->Int->ByteArray->Sl->Int->Int->HP}(H:aH h fU dh λz h1=>aH h1 #[(ah 0)] HX λq B=>afP a i z q K B):Xd a i h K Kp:=by
 have:=aud (bS:=[]) (D:=kU aD Qd) (zN _) (g:=105) (pre:=[sub [0] DT]) (c2:=sub [1,1] DT) (id:=1) (o:=zA (sub [1] DT) 0) (call:=TV (zA (sub [1] DT) 0)) []
  (zs:=ON) (args:=[(.pointer a),(.int .i64 i)]) (h:=h) (Kv:=Sb K) (Kp:=Kp) Tryz.func87 aV aV aV aV aV aV aV aV ?_
 ·exact cast aV this
 ·have X:∀z q h,afP a i z q K h->DX Qd Tryz.f87 (sub [1,1] DT) ON (Sb K) (.tmp 6) (acR a i z q) h:=λz q h b=>DX.of (a:=q) aV (cast aV b);have Y:aH h fU dh λz h1=>aH h1 #[(.int .i64 0)] HX λq B=>DX Qd Tryz.f87 (sub [1,1] DT) ON (Sb K) (.tmp 6) (acR a i z q) B:=X _ _ _ H;exact cast aV Y
structure Av(D:aQ)(h:Hp)(b:Nat)(f:aq)(d:bD)(o n:Nat)(s:Sl)(q:Sl×Sl×Sl):Prop where
 A:nG D h b f d o n s q
 ar:f.arr d
 lo:d.off.toNat<=o
 hi:o+n<=d.off.toNat+d.len.toNat
def kB(f:aq)(d:bD)(o n:Nat):List aB:=(List.range n).map λi=>f.val d (o+i)
theorem LN(f:aq)(d:bD)(o n:Nat):(kB f d o n).length=n:=by simp[kB]
theorem ae3{o n:Nat}(h:i<n):(kB f d o n)[i]? =some (f.val d (o+i)):=by simp[kB,h]
theorem ae4(ar:f.arr d){o n:Nat}(lo:d.off.toNat<=o)(hi:o+n<=d.off.toNat+d.len.toNat):bH (kB f d o n)<=4194304:=by
 have w:=(aq.Ut.1 ar).wt;rw[<-wG]at w;have e:bH (kB f d o n)=(((AM f.val d).drop (o-d.off.toNat)).take n).sum:=by
  rw[akI ag,E6,kB,L0]
  congr 1
  refine B4 λi _=>?_;simp only[Function.comp,nW];rw[show d.off.toNat+(o-d.off.toNat+i)=o+i by omega]
 rw[e];exact iY (Zv _ _) w
section
variable {h:Hp} {b:Nat} {o n:Nat}
theorem Av.gr(V:Av D h b f d o n s q)(g:az h H):Av D H b f d o n s q:=⟨V.A.gr g,V.ar,V.lo,V.hi⟩
theorem Av.bd(V:Av D h b f d o n s q):o+n<=4096:=by
 have a:=V.ar.C1;have i:=a.l0;have g:=a.o0;have e:=a.e1;have c:=V.hi;omega
theorem Av.wt(V:Av D h b f d o n s q){i:Nat}(hi:i<n):(f.val d (o+i)).bq<=4194304:=by
 have:=ae4 V.ar (o:=o+i) (n:=1) (by have:=V.lo;omega) (by have:=V.hi;omega)
 simpa[kB,bH]using this
theorem jz.b2(t:jz h):2<h.size:=TT ((t.a 0 ag).1)
theorem Av.whole(A:nG D h b f d d.off d.len s q)(ar:f.arr d):Av D h b f d d.off.toNat d.len.toNat s q:=by
 have so:=ar.C1;have h1:=so.l0;have h2:=so.o0;refine⟨?_,ar,bP _,bP _⟩;rw[yH h1,yH h2];exact A
theorem Av.fr{D':aQ}(V:Av D h b f d o n s q)(t:Tn S h h')(hb:¬S b)(hn:∀x,D x->¬S x)(hD:∀x,D x->D' x):Av D' h' b f d o n s q:=⟨V.A.fr t hb hn hD,V.ar,V.lo,V.hi⟩
theorem Av.lt(V:Av D h b f d o n s q):Av (λx=>D x/\x<h.size) h b f d o n s q:=⟨V.A.lt,V.ar,V.lo,V.hi⟩
theorem atU{K:Bool->Int->ByteArray->Sl->Int->Int->HP}(ow:Cn f)(V:Av D h b f d o n s q)(tb:jz h)(hx:x=i)(hi:i<n)(hk:∀t h',az h h'->aR (Nw h) h' t (f.val d (o+i)).items->K (f.val d (o+i)).au (f.val d (o+i)).num (bs (f.val d (o+i)).text) t (f.val d (o+i)).bq 0 h'):Xd (bz b) x h K Kp:=by
 have wt:=V.wt hi;have ab:=V.A.k.lt;refine aDh (aG λb4 h1 e1 g1 k4 _=>aG λb6 h2 e2 g2 k6 _=>aG λb7 h3 e3 g3 k7 _=>dc k7 aA rfl λh4 o4 k7=>?_);have g4:=bE g3 o4 ag;have G4:=ak (ak g1 g2) g4;have k4:=(k4.ai g2).ai g4;have k6:=k6.ai g4;have k7:=k7;refine ow (i:=o+i) ⟨V.A.lt.gr G4,by omega,λe=>by have:=e.2;omega,V.ar,by have:=V.lo;omega,by have:=V.hi;omega,k7,by omega,by omega,tb.ai G4,by omega⟩ ag λt h5 t5 Sc w5=>?_
 have k4':=t5.aZ k4 (by omega:b4≠b7)
 have k6':=t5.aZ k6 (by omega:b6≠b7)
 have G5:=((bh G4:Tn No h h4).trans' t5 λz hz eW=>by omega).ai
 have k7l:=k7.lt;refine lT k4' rfl λh6 o6 k4=>eY k4 (aj (o6.aZ Sc ag) rfl (aW ag ag (lT k4 rfl λh7 o7 k4=>mF (o6.aZ Sc ag) (o7.aZ (o6.aZ Sc ag) ag) ?_)));have k6:=o7.aZ (o6.aZ k6' ag) ag;refine dc k6 aA rfl λh8 o8 k6=>eY (o8.aZ k4 ag) (aj k6 rfl ?_);have e:(4194304:Int)-(4194304-((f.val d (o+i)).bq:Int))=((f.val d (o+i)).bq:Int):=ag;rw[e];apply hk t h8 (bE (bE (bE G5 o6 ag) o7 ag) o8 ag);have w6:=aR.fr o6.fr (λz hz _ e=>by omega) (λ_ z=>z) _ w5
 have w7:=aR.fr o7.fr (λz hz _ e=>by omega) (λ_ z=>z) _ w6
 exact aR.fr o8.fr (λz hz _ e=>by omega) (λz hz=>by have:=G4.1;show h.size<=z;omega) _ w7
end
def W9{α:Type}(P:Program)(fv:Value)(xs:List α)(E:α->List Value->Hp->HP)(tZ:Hp->Prop):Prop:=
 ∀(l:Nat)(J:List α->HP)(h:Hp),h.size=l+1->J [] h->(∀pre h1,J pre h1->tZ h1)->(∀pre h1 h2,az h1 h2->J pre h1->J pre h2)->
  (∀pre x gE hp h1 args,J pre hp->az hp h1->E x args hp h1->xs=pre++x::gE->wS P l args h1 (λv h2=>v=.bool true/\J (pre++[x]) h2) qA)->
  uo P fv [.func (.yield l) #[] #[]] h (λ_ h2=>J xs h2) qA
theorem ao2{P:Program}{bS:fS}{D:Nat->Array Oper->(Fr->HP)->PK->Fr->HP}(hD:∀r,vr P r D){g:Operand}{ps:Array Tmp}{assign body:Code}{Q:Qt}
  {Kp:PK} {fr:Fr} {h:Hp} {fv:Value} (uM:ev fr g=some fv) {α:Type} {xs:List α} {E:α->List Value->Hp->HP} {tZ:Hp->Prop} (v7:W9 P fv xs E tZ) (acA:∀x args hp h1,E x args hp h1->args.length=ps.size)
  (I:List α->HP) (h0:I [] h) (hG:∀pre h1 h2,az h1 h2->I pre h1->I pre h2)
  (hI:∀l pre h1 h2,h.size<=l->Tw l h1 h2->I pre h1->I pre h2) (tB:∀pre h1,I pre h1->tZ h1)
  (GC:∀l pre x gE hp h1 args,I pre hp->az hp h1->E x args hp h1->xs=pre++x::gE->h.size<=l->(∃r,h1[l]? =some (.loop r))->∀(N:Hp->Prop)(X:Code->HP),(∀h' h2,Tw l h1 h'->h2[l]? =h'[l]?->I (pre++[x]) h2->N h2)->
   PG P bS D l (bS.find (iF assign+4000) fr) ps assign body args N X h1)
  (done:∀h2,I xs h2->Q .normal (bS.find (iF assign+4000) fr) h2):fV P bS D none (.rangeFunc g ps assign body) Q Kp fr h:=by
 simp only[fV,uM];intro fn tm xT;simp only[DM];have ng:h.size<=(h.push (.deferred none)).size:=by simp
 have Br:az h (h.push (.deferred none)):=qW _ _;have key:∀(hh:Hp)(d:Nat),az h hh->uo P fv [.func (.yield hh.size) #[] #[]] (hh.push (.loop {state:=.ready,pending:=none,fn,tmps:=tm,params:=ps,assign,body,defers:=d}))
   (λ_ h'=>zM hh.size h' λjump qn=>match jump with
    |none=>Q .normal (bS.find (iF assign+4000) fr) qn
    |some .ret=>Q .ret (bS.find (iF assign+4000) fr) qn
    |some (.exit id)=>Q (.exit id) (bS.find (iF assign+4000) fr) qn
    |_=>False) Kp:=by
  intro hh d Br;have ng:=Br.1;have SI:(hh.push _)[hh.size]? =some (.loop {state:=.ready,pending:=none,fn,tmps:=tm,params:=ps,assign,body,defers:=d}):=PX rfl
  let aq:Loop->Prop:=λr=>r.tmps=tm/\r.params=ps/\r.assign=assign/\r.body=body
  refine ajG (v7 hh.size (λpre h1=>I pre h1/\∃r,h1[hh.size]? =some (.loop r)/\r.state=.ready/\r.pending=none/\aq r) _
   aA ⟨hG _ _ _ (ak Br (qW _ _)) h0,_,SI,rfl,rfl,rfl,rfl,rfl,rfl⟩ (λpre h1 hj=>tB pre h1 hj.1) ?_ ?_) ?_ (λ_ _ hp=>hp.elim)
  ·rintro pre h1 h2 hg ⟨hi,r,hr,Sy⟩;exact⟨hG _ _ _ hg hi,r,GK hg hr,Sy⟩
  ·rintro pre x gE hp h1 args ⟨hi,r,Gq,si,Bo,f1,f2,f3,f4⟩ hg hE tA;have hr:=GK hg Gq;have hb:=GC hh.size pre x gE hp h1 args hi hg hE tA ng ⟨r,hr⟩
    (λh2=>I (pre++[x]) h2/\∃r2,h2[hh.size]? =some (.loop r2)/\aq r2) (λ_ _=>False) ?_
   ·refine afl (bS:=bS) hD (fr:=bS.find (iF assign+4000) fr) hr si (by rw[f2];exact acA x args hp h1 hE) (by rw[f1];exact xT) (by rw[f2,f3,f4];exact hb) ?_ ?_
    ·rintro h2 ⟨Gy,r2,SA,g1,g2,g3,g4⟩;refine⟨r2,SA,rfl,hI _ _ _ _ ng (AS SA) Gy,{r2 with state:=.ready,pending:=none},?_,rfl,rfl,g1,g2,g3,g4⟩
     rw[vg];simp[(kS.1 SA).1]
    ·exact λc h2 q=>q.elim
   ·rintro h' h2 ⟨_,_,r',ZI,pd',Gp,Sx⟩ heq Gy;rw[hr]at Gp;cases Gp;exact⟨Gy,_,heq.trans Sx,f1,f2,f3,f4⟩
  ·rintro v h2 ⟨hi,r,hr,si,Bo,_⟩;simp only[zM,hr,si,Bo];exact⟨by simp,done _ (hI _ _ _ _ ng (AS hr) hi)⟩
 exact key _ _ Br
theorem ayC{p:Addr}{V:Value}{K:Sl->HP}{h:Hp}{α:Type}{u:List α}(E:α->Int->Bool->Int->ByteArray->Sl->Hp->HP){q:Hp->Prop}(x:W9 aD V u (λy d m b=>∃k j i f e,d=[(ah k),(.agg #[(.bool j),(ah i),(.string f),(Sl.v e)])]/\E y k j i f e m b) q)(I:List α->HP)(G:I [] h)
  (F:∀a b c,az b c->I a b->I a c) (C:∀l a b c,h.size<=l->Tw l b c->I a b->I a c) (t:∀a b,I a b->q b)
  (o:∀l a y n m b k j i f e,I a m->az m b->E y k j i f e m b->u=a++y::n->h.size<=l->(∃r,b[l]? =some (.loop r))->∀(N:Hp->Prop)(X:Code->HP),(∀A c,Tw l b A->c[l]? =A[l]?->I (a++[y]) c->N c)->afR l N X s p V k j i f e b)
  (done:∀c,I u c->afT K Kp s p V c):afV K Kp s p V h:=
 Eq.mp aV (ao2 (bS:=Uv) (D:=(kU aD Qe)) (λ_=>zN _) (g:=.tmp 7) (ps:=#[8,9]) (assign:=sub [1,1,0,1,0,0] TP) (body:=sub [1,1,0,1,0,1] TP) (Q:=tF aD Uv (kU aD Qe) none Kp [1,1,0,1,0] TP [] (mM aD Tryz.f37.results.toList OO (arR K))) (Kp:=Kp) (fr:=([nO,nO,vS s,vP p,nO,nO,nO,some V]++nn 9)) aV
  x (λ_ _ _ _ w=>by obtain⟨_,_,_,_,_,rfl,_⟩:=w;rfl) I G F C t
  (by
   intro l a y n m b d e0 z w e1 L J N X hN;obtain⟨k,j,i,f,e,rfl,H⟩:=w;exact Eq.mp aV (o l a y n m b k j i f e e0 z H e1 L J N X hN))
  (λc B=>Eq.mp aV (done c B)))
theorem awY{h:Hp}{v:Value}{l:Nat}{r:Loop}(c:cell h a=some v)(hl:h[l]? =some (.loop r)):a.block≠l:=by
 intro e;unfold Go.Sh.cell at c;rw[e,hl]at c;simp at c
section
variable {h:Hp} {l:Nat} {r:Loop}
theorem VA.nlb(hl:h[l]? =some (.loop r)){a:Addr}{v:aB}(b:VA D h a v):a.block≠l:=by
 have⟨s,c,_⟩:=b.row;exact awY (Cs.c0 c) hl
mutual
theorem aR.nl(hl:h[l]? =some (.loop r)):∀{s:Sl}(vs:aP),aR D h s vs->aR (λb=>D b/\b≠l) h s vs
  |_,[],hh=>by unfold aR at hh ⊢;exact hh
  | _,v::vs,hh=>by
    unfold aR at hh⊢
    have⟨a,b,p,e,q,x,y⟩:=hh
    exact⟨a,b,p,e,⟨q,x.nlb hl⟩,VA.nl hl v x,iA.nl hl vs y⟩
theorem iA.nl(hl:h[l]? =some (.loop r)):∀{a:Addr}{i:Nat}(vs:aP),iA D h a i vs->iA (λb=>D b/\b≠l) h a i vs
 |_,_,[],_=>by unfold iA;trivial
 |_,i,v::vs,hh=>by unfold iA at hh ⊢;exact⟨VA.nl hl v hh.1,iA.nl hl vs hh.2⟩
theorem VA.nl(hl:h[l]? =some (.loop r)):∀{a:Addr}(v:aB),VA D h a v->VA (λb=>D b/\b≠l) h a v
  | _,.mk n x t vs,hh=>by
    unfold VA at hh⊢
    have⟨s,hc,h1⟩:=hh
    exact⟨s,hc,aR.nl hl vs h1⟩
end
theorem aR.tw(t:Tw l h h'){s:Sl}{vs:aP}(v:aR D h s vs):aR D h' s vs:=by
 have⟨r,_,_,hr,_⟩:=t.2.2;exact aR.fr t.only.fr (λb hb _ e=>hb.2 e) (λb hb=>hb.1) _ (aR.nl hr _ v)
end
structure Lv(h0 h:Hp)(x:Sl)(vs:aP):Prop where
 ss:∃ss:List Sl,ss.length=vs.length/\eT h0.size 4 h x (List.zipWith aB.row vs ss) dh/\∀(j:Nat)(v:aB)(t:Sl),vs[j]? =some v->ss[j]? =some t->aR (λc=>h0.size<=c/\¬x.at c) h t v.items
theorem Lv.gr{h:Hp}{x:Sl}{vs:aP}(v:Lv h0 h x vs)(g:az h h'):Lv h0 h' x vs:=by
 have⟨ss,q1,q2,q3⟩:=v;exact⟨ss,q1,q2.ai g,λj v t e1 e2=>(q3 j v t e1 e2).gr g⟩
theorem Lv.tw{h:Hp}{x:Sl}{vs:aP}{l:Nat}(v:Lv h0 h x vs)(t:Tw l h h'):Lv h0 h' x vs:=by
 have⟨ss,q1,q2,q3⟩:=v;exact⟨ss,q1,⟨q2.len,q2.n,(q2.sh.tw t).wide (bP _) (Ei t.1.symm)⟩,λj v u e1 e2=>aR.tw t (q3 j v u e1 e2)⟩
theorem Lv.at{h:Hp}{x:Sl}{vs:aP}(v:Lv h0 h x vs){c:Nat}(hc:x.at c):h0.size<=c/\c<h.size:=by
 have⟨ss,q1,q2,q3⟩:=v;exact q2.at hc
theorem Lv.n{h:Hp}{x:Sl}{vs:aP}(v:Lv h0 h x vs):x.n=vs.length:=by
 have⟨ss,q1,q2,q3⟩:=v;have:=q2.n;rw[oG,q1,Ef]at this;exact this
abbrev afb(a1:Nat):Value:=.func (.func 86) #[] #[bI a1]
abbrev EV(v:aB)(_:Int)(y1:Bool)(y2:Int)(y3:ff)(y4:Sl)(hp h1:Hp):Prop:=y1=v.au/\y2=v.num/\y3=bs v.text/\aR (Nw hp) h1 y4 v.items
theorem ak0{hb:Hp}{b a1 b3:Nat}{o n:Nat}(ow:Cn f)(V:Av D hb b f d o n s q)(tb:jz hb)(k1:aN hb a1 #[bI b] Vk)(GI:¬D b3/\b≠b3/\a1≠b3/\2<b3):W9 aD (afb a1) (kB f d o n) (λv args hp h1=>∃y0 y1 y2 y3 y4,args=[(ah y0),(.agg #[(.bool y1),(ah y2),(.string y3),(Sl.v y4)])]/\EV v y0 y1 y2 y3 y4 hp h1) (λh=>Tn (·=b3) hb h):=by
 intro lb J h ng Kt tB hG Y;have bd:=V.bd;have fu:jV aD 86=true:=by kernel_rfl
 unfold uo afb;simp only[Ai];refine dP.mono (aGq ?_) (λ_ _ hh=>hh.2) (λ_ _ hh=>hh);have t0:=tB _ _ Kt;have fr:∀{h':Hp},Tn (·=b3) hb h'->Av D h' b f d o n s q/\aN h' a1 #[bI b] Vk/\jz h':=λt=>
  ⟨V.fr t GI.2.1 (λz hz e=>GI.1 (e▸hz)) λ_ z=>z,t.aZ k1 GI.2.2.1,tb.fr t (by have:=GI.2.2.2;omega) (by have:=GI.2.2.2;omega)⟩
 apply aj (fr t0).2.1 rfl;simp only[ob,bw];apply aj (fr t0).1.A.k rfl;have tot:=ae4 V.ar V.lo V.hi;have amG:∀j,bH _<=bH (kB f d o n):=λj=>by rw[OU,E6];have:=Zv (l:=(kB f d o n).map aB.bq) 0 j;simpa using this
 apply aAw (λx3 I7 h'=>∃i:Nat,I7=i/\i<=n/\x3=4194304-(bH ((kB f d o n).take i):Nat)/\J ((kB f d o n).take i) h') (λ_ I7 _=>n-I7.toNat) ⟨0,rfl,by omega,by simp[bH],by simpa using Kt⟩
 rintro x3 I7 h1 ⟨i,rfl,hi,rfl,j1⟩ N1 hN;have⟨V1,tq,tb1⟩:=fr (tB _ _ j1);refine aE (λc=>?_) λc=>?_
 ·have c:=aM c;have kK:i<n:=ag;have Su:=ae3 (f:=f) (d:=d) (o:=o) kK;have hvw:((kB f d o n).map aB.bq)[i]? =some (f.val d (o+i)).bq:=by simp[Su]
  have hss:=amH hvw;rw[<-OU,<-OU]at hss;have hsl:=amG (i+1);have lE:(kB f d o n).take (i+1)=(kB f d o n).take i++[f.val d (o+i)]:=by rw[L3,Su];rfl
  have tA:kB f d o n=(kB f d o n).take i++f.val d (o+i)::(kB f d o n).drop (i+1):=by
   conv=>lhs;rw[<-Eg (i+1) (kB f d o n),lE]
   simp
  refine aj tq rfl (atU ow V1 tb1 rfl kK λt h2 g2 w2=>aG λb5 h3 e5 g3 k5 _=>lT k5 rfl λh4 o4 k5=>aW ag ag (bu rfl ?_));have g4:=bE g3 o4 ag;have e0:decide ((4194304:Int)-(bH ((kB f d o n).take i):Nat)-((f.val d (o+i)).bq:Int)<0)=false:=by rw[wP];omega
  rw[e0];refine aC0 (bu rfl (eY k5 ?_));unfold cX;simp only[Ai];refine wS.mono (Y ((kB f d o n).take i) (f.val d (o+i)) _ h1 h4 _ j1 (ak g2 g4) ⟨_,_,_,_,_,rfl,rfl,rfl,rfl,w2.gr g4⟩ tA) (λv h5 hv=>?_) (λ_ _ q=>q);obtain⟨rfl,j5⟩:=hv;refine⟨true,rfl,bu rfl (aW ag ag (hN _ _ _ ⟨i+1,by omega,by omega,by omega,by rw[lE];exact j5⟩ ag))⟩
 ·have c:=aM c;obtain rfl:i=n:=ag;rw[qu (by rw[LN];omega)]at j1
  exact j1
theorem afC{h:Hp}{b:Nat}{o n:Nat}{K:Sl->HP}(ow:Cn f)(V:Av D h b f d o n s q)(tb:jz h)(hk:∀t h',az h h'->aR (Nw h) h' t (kB f d o n)->K t h'):Ow (bz b) h K Kp:=by
 have ab:=V.A.k.lt;have t2:=tb.b2;have bd:=V.bd;refine aFt (aG λb3 h1 e3 g1 k3 s3=>aDj (aG λa1 hb e1 g2 k1 s1=>?_));have G:=ak g1 g2;have k3:=k3.ai g2;have Vb:=V.lt.gr G;refine ayC EV (ak0 ow Vb (tb.ai G) k1 ⟨λe=>by have:=e.2;omega,by omega,by omega,by omega⟩) (λpre h1=>Tn (·=b3) hb h1/\∃x,aN h1 b3 #[Sl.v x] Me/\Lv hb h1 x pre)
  ⟨iX _ _,Sl.nil,k3,⟨[],rfl,qY _ _ _ _,by simp⟩⟩ ?_ ?_ (λpre h1 hi=>hi.1) ?_ ?_
 ·rintro pre h1 h2 g ⟨t,x,k,v⟩;exact⟨t.trans (bh g),x,k.ai g,v.gr g⟩
 ·rintro l pre h1 h2 hl tw ⟨t,x,k,v⟩;exact⟨t.trans' tw.only.fr λz hz eW=>by omega,x,tw.only.aZ k ag,v.tw tw⟩
 ·rintro l pre y gE hp h1 y0 y1 y2 y3 y4 ⟨tp,x,kp,vp⟩ Tj ⟨rfl,rfl,rfl,w1⟩ tA hl acn N X hN;have SH:l<h1.size:=by have⟨r,hr⟩:=acn;exact(kS.1 hr).1
  have tps:=tp.1;have xn:=vp.n;have pl:pre.length<n:=by have:=tP List.length tA;rw[LN]at this;simp at this;omega
  unfold afR;refine aG λb5 h2 e5 g12 k5 _=>lT k5 rfl λh3 o3 k5=>?_;have g13:=bE g12 o3 ag;have aIp:=g13.1;refine⟨g13.2 l SH,λh4 t4=>?_⟩;have o4:=t4.only;have s4:h4.size=h3.size:=t4.1;have k5:=o4.aZ k5 ag;have Sj:=o4.aZ ((kp.ai Tj).ai g13) ag;have v4:=((vp.gr Tj).gr g13).tw t4;have w4:=aR.tw t4 (w1.gr g13);have⟨ht,alY,auZ⟩:=Tw.back g13 t4 acn;refine aj Sj rfl (eY k5 (aG λb13 h5 e13 g5 k13 _=>bM k5 g5 (bM Sj g5 ?_)));have⟨ss,q1,q2,q3⟩:=v4;have Be:=q2.sh.Be t4;have OQ:∀c,x.at c->hb.size<=c/\c<hp.size:=λc hc=>vp.at hc;have hz1:(List.zipWith aB.row pre ss).length=pre.length:=by rw[oG,q1,Ef]
  refine(q2.ai g5).ap ag rfl (new:=[[.bool false,.int .i64 0,.string (bs []),Sl.v Sl.nil]]) rfl (λr hr=>by simp at hr;subst hr;rfl) (λr hr=>by simp at hr;subst hr;intro v hv;simp at hv;rcases hv with rfl|rfl|rfl|rfl <;> rfl) (iM k13 rfl) ag ag λs' h6 f6 Hv o6=>?_
  have f6s:=f6.1;rcases o6.cases with⟨_,e⟩|⟨bb,Kr,oR⟩
  ·exact absurd e aA
  have sat:s'.at bb:=⟨(aJ bb),oR.a,rfl⟩;have sat':∀c,s'.at c->c=bb:=by
   rintro c ⟨a,ha,rfl⟩;rw[oR.a]at ha;cases ha;rfl
  have k36:=f6.aZ (Sj.ai g5) λhc=>by have:=OQ _ hc;omega
  have hlen:pre.length<(List.zipWith aB.row pre ss++[[.bool false,ah 0,.string (bs []),Sl.v Sl.nil]]).length:=by simp;omega
  have aci:(List.zipWith aB.row pre ss++[[.bool false,ah 0,.string (bs []),Sl.v Sl.nil]]).set pre.length (y.row y4)=List.zipWith aB.row (pre++[y]) (ss++[y4]):=by
   rw[HO ag,wK _ _ ag,hz1];simp
  have nbl:bb≠l:=λe=>by
   rcases Hv _ sat with z|z
   ·exact Be (e▸z)
   ·omega
  have l6:=(f6.2 l ag Be).trans (g5.2 l ag)
  -- the end of both ways
  have fin:∀h8,lY 4 h8 s' bb (List.zipWith aB.row (pre++[y]) (ss++[y4])) dh->aN h8 b3 #[Sl.v s'] Me->Tn (λc=>c=bb\/c=b3) h6 h8->N h8:=by
   intro h8 Bd Sg t8;refine hN ht h8 alY ?_ ⟨?_,s',Sg,⟨ss++[y4],by simp[q1],⟨Bd.len,Bd.n,.inr ⟨bb,Kr,Bd.lt,Bd.own⟩⟩,λj v u e1 e2=>?_⟩⟩
   ·rw[t8.2 l ag ag,l6];exact auZ
   ·refine(((((tp.trans (bh Tj)).trans (bh g13)).trans' o4.fr λz hz eW=>by omega).trans (bh g5)).trans' f6 λz hz eW=>by have:=OQ z hz;omega).trans' t8 λz hz eW=>?_
    rcases hz with rfl|rfl
    ·omega
    ·rfl
   ·have new:∀{u:Sl}{ws:aP},aR (λc=>hb.size<=c/\¬x.at c) h4 u ws->aR (λc=>hb.size<=c/\¬s'.at c) h8 u ws:=λ{u ws}z=>by
     have z1:=aR.fr (bh g5) (λ_ _ _=>id) (λ_ q=>q) _ (aR.lt _ z);have z2:=aR.fr (D':=λc=>hb.size<=c/\¬s'.at c) f6 (λb hb _ q=>hb.1.2 q) (λb hb=>⟨hb.1.1,λq=>by
      rcases Hv b q with q|q
      ·exact hb.1.2 q
      ·have:=hb.2;omega⟩) _ z1
     exact aR.fr t8 (λb hb _ e=>by
      rcases e with rfl|rfl
      ·exact hb.2 sat
      ·have:=hb.1;omega) (λ_ q=>q) _ z2
    by_cases hj:j<pre.length
    ·rw[iQ hj]at e1;rw[iQ ag]at e2;exact new (q3 j v u e1 e2)
    ·have SN:=(cU.1 e1).1;simp only[ij,jw]at SN;obtain rfl:j=pre.length:=ag;rw[gm (bP _)]at e1;rw[<-q1,gm (bP _)]at e2;simp at e1 e2;subst e1 e2;exact new (w4.mo λc(hc:hp.size<=c)=>⟨by omega,λq=>by have:=OQ c q;omega⟩)
  refine oR.ix ag hlen ⟨yD (oR.set hlen (r:=y.row y4) rfl (AO y y4) λh7 o7 oR7=>?_),?_⟩
  ·rw[aci]at oR7;refine dc (o7.aZ k36 ag) aA rfl λh8 o8 Sg=>fin h8 (oR7.fr o8.fr ag) (by simpa using Sg) ((o7.fr.mono λ_ z _=>.inl z).trans (o8.fr.mono λ_ z _=>.inr z))
  ·refine dc k36 aA rfl λh7 o7 Si=>yD ((oR.fr o7.fr ag).set hlen (r:=y.row y4) rfl (AO y y4) λh8 o8 Bd=>?_);rw[aci]at Bd;have Si:aN h7 b3 #[Sl.v s'] Me:=by simpa using Si
   exact fin h8 Bd (o8.aZ Si ag) ((o7.fr.mono λ_ z _=>.inr z).trans (o8.fr.mono λ_ z _=>.inl z))
 ·rintro h2 ⟨t,x,k,ss,q1,q2,q3⟩;unfold afT;exact aj k rfl (hk x h2 (((bh G:Tn No h hb).trans' t λz hz eW=>by omega).ai) (aR.snoc q2 q1 (λc hc=>by show h.size<=c;omega) λj v u e1 e2=>(q3 j v u e1 e2).mo λc hc=>by have:=hc.1;show h.size<=c;omega))
abbrev Or(T:aQ)(h:Hp):Nat->Prop:=λc=>T c\/h.size<=c
def Os(T:aQ)(h:Hp)(s:Sl)(vs:bg)(el:TypeId):Prop:=s=Sl.nil/\vs=[]\/∃b,T b/\gU h s b vs el
section
variable {T T':aQ} {h:Hp} {s0:Sl} {vs l0:bg}
theorem Os.nil:Os T h Sl.nil [] el:=.inl ⟨rfl,rfl⟩
theorem Os.fr(o:Os T h s vs el)(f:Tn S h h')(z:∀c,T c->c<h.size->¬S c):Os T h' s vs el:=
 o.imp id λ⟨b,t,o⟩=>⟨b,t,o.fr f (z b t o.lt)⟩
theorem Os.mono(o:Os T h s vs el)(hT:∀c,T c->T' c):Os T' h s vs el:=o.imp id λ⟨b,t,o⟩=>⟨b,hT b t,o⟩
theorem Os.gr(o:Os T h s vs el)(g:az h h'):Os T h' s vs el:=o.imp id λ⟨b,t,o⟩=>⟨b,t,o.ai g⟩
theorem Os.n(o:Os T h s vs el):s.n=vs.length:=by
 rcases o with⟨rfl,rfl⟩|⟨b,_,o⟩
 ·rfl
 ·exact o.2.1
theorem Os.sv(o:Os T h s vs el):Sv h s vs:=by
 rcases o with⟨rfl,rfl⟩|⟨b,_,o⟩
 ·exact yF h
 ·exact o.sv
theorem Os.at(o:Os T h s vs el){c:Nat}(z:s.at c):T c/\c<h.size:=by
 obtain⟨a,d,rfl⟩:=z;rcases o with⟨rfl,_⟩|⟨b,t,o⟩
 ·cases d
 ·have:=o.1;rw[this]at d;cases d;exact⟨t,o.lt⟩
structure Old(T:aQ)(h:Hp)(s s0:Sl)(l0:bg)(el:TypeId):Prop where
 le:s0.n<=s.n
 fG:s0=Sl.nil/\l0=[]\/∃b cs,T b/\s0.a=some (aJ b)/\s0.n=l0.length/\aN h b cs el/\s0.n<=s0.c/\cs.size=s0.c/\∀i,i+1<s0.n->cs[i]? =l0[i]?
theorem Old.of(o:Os T h s vs el):Old T h s s vs el:=by
 refine⟨bP _,o.imp id ?_⟩;rintro⟨b,t,g,f,cs,e,d,c,a⟩;grind
theorem Old.fr(o:Old T h s s0 l0 el)(f:Tn S h h')(z:∀c,T c->c<h.size->¬S c):Old T h' s s0 l0 el:=
 ⟨o.le,o.fG.imp id λ⟨b,cs,t,g,e,a,d⟩=>⟨b,cs,t,g,e,f.aZ a (z b t a.lt),d⟩⟩
theorem Old.mono(o:Old T h s s0 l0 el)(hT:∀c,T c->T' c):Old T' h s s0 l0 el:=
 ⟨o.le,o.fG.imp id λ⟨b,cs,t,x⟩=>⟨b,cs,hT b t,x⟩⟩
theorem Os.ap{bytes:Nat}{x:Value}{f:List Value->Prop}{z:Array Value}{K:Sl->HP}(o:Os T h s vs el)(W:z.size=1)(Y:one x=true)(J:f [x])
  (E:(s.n+1+(s.n+1)/4+192)*bytes<=2^48) (Z:s.n+1<2^63)
  (L:∀u h',Tn T h h'->Os (Or T h) h' u (vs++[x]) el->(∀{s0:Sl}{l0:bg},Old T h s s0 l0 el->Old (Or T h) h' u s0 l0 el)->K u h'):Ap h el z 1 bytes s 1 f K:=by
 have g:∀fG:List Value,rd h s.a (s.n*1) fG->fG=vs->s.c<s.n+1->Ap h el z 1 bytes s 1 f K:=by
  intro fG A p k;subst p;have hl:=o.n;refine⟨[x],J,.inr ⟨k,?_,Z,fG,A,?_⟩⟩
  ·have:=nextslicecap_le_wide k;have h7:=pG bytes this;omega
  ·intro r B a';refine L _ _ (bh (qW h _)) (.inr ⟨h.size,.inr (bP _),rfl,?_,_,by simp only[aN,L7];rfl,B,?_,λi j=>?_⟩) λq=>?_
   ·simp[hl]
   ·simp[Builtin.zeroCells,hl,W];omega
   ·grind
   ·exact⟨by have:=q.le;grind,(((q.fr (bh (qW h _)) λ_ _ _=>id).mono λ_ c=>.inl c).fG)⟩
 rcases o with⟨rfl,rfl⟩|⟨b,t,N,h2,cs,w,h4,h5,M⟩
 ·exact g [] rfl rfl (by simp only[Sl.nil];omega)
 ·by_cases k:s.n+1<=s.c
  ·refine⟨[x],J,.inl ⟨k,?_⟩⟩;rw[N]
   show ji h _ 0 [x] _
   rw[bw];refine wW [x] w cj dM λh' m I H G F=>L _ h' (I.fr.mono λd X _=>X▸t) (.inr ⟨b,.inl t,rfl,by simp[h2],m,H,k,by rw[G,h5],λi j=>?_⟩) λq=>⟨?_,?_⟩
   ·grind
   ·have:=q.le;grind
   ·apply q.fG.imp id;rintro⟨y,l,D,V,U,R,Q,P,O⟩
    by_cases e:y=b
    ·subst e;have:l=cs:=by have:=R.symm.trans w;simpa using this
     subst this;refine⟨y,m,.inl D,V,U,H,Q,by rw[G,P],λi j=>?_⟩
     have:=q.le;grind
    ·exact⟨y,l,.inl D,V,U,I.aZ R e,Q,P,O⟩
  ·refine g vs ?_ rfl ag;rw[N];refine⟨ag,λi v j=>?_⟩
   have:i<vs.length:=bU;rw[bw,cz,gW w,M i ag];exact j
theorem Os.Jy{v:Value}{K:HP}(o:Os T h s vs el)(D:0<s.n)(I:∃b,s.a=some (aJ b)/\a=⟨b,s.n-1,none⟩)(C:one v=true)
  (E:∀h',Tn T h h'->Os T h' s (vs.set (s.n-1) v) el->(∀{s0:Sl}{l0:bg},Old T h s s0 l0 el->Old T h' s s0 l0 el)->K h'):St h a v K:=by
 rcases o with⟨rfl,rfl⟩|⟨b,t,o⟩
 ·simp[Sl.nil]at D
 ·obtain⟨g,l,rfl⟩:=I;have e:g=b:=by have:=l.symm.trans o.1;simpa using this
  subst e;obtain⟨O,N,cs,r,M,L,J⟩:=o;refine dc r ag C λh' p k=>E h' (p.fr.mono λd H _=>H▸t) (.inr ⟨g,t,O,by simp[N],_,k,M,by simp[L],λj F=>?_⟩) λq=>⟨q.le,q.fG.imp id ?_⟩
  ·grind
  ·rintro⟨f,c,m,B,A,z,y,w,u⟩
   by_cases e:f=g
   ·subst e;have:c=cs:=by have:=z.symm.trans r;simpa using this
    subst this;refine⟨f,_,m,B,A,k,y,by simp[w],λi G=>?_⟩
    have:=q.le;grind
   ·exact⟨f,c,m,B,A,p.aZ z e,y,w,u⟩
theorem Old.back{x:Value}{K:HP}(o:Old T h s s0 l0 el)(p:0<s0.n)(l:l0[s0.n-1]? =some x)(u:∃b,s0.a=some (aJ b)/\a=⟨b,s0.n-1,none⟩)(m:one x=true)
  (q:∀h',Tn T h h'->Os T h' s0 l0 el->K h'):St h a x K:=by
 rcases o.fG with⟨rfl,rfl⟩|⟨b,cs,t,f,A,z,y,w,v⟩
 ·simp[Sl.nil]at p
 ·obtain⟨g,c,rfl⟩:=u;have e:g=b:=by have:=c.symm.trans f;simpa using this
  subst e;refine dc z ag m λh' i k=>q h' (i.fr.mono λd r _=>r▸t) (.inr ⟨g,t,f,A,_,k,y,by simp[w],λj B=>?_⟩)
  grind
theorem Old.axU(o:Old T h s s0 l0 el)(g:¬0<s0.n):Os T h s0 l0 el:=by
 rcases o.fG with q|⟨b,cs,t,f,e,d,c,a,k⟩
 ·exact .inl q
 ·exact .inr ⟨b,t,f,e,cs,d,c,a,λi j=>ag⟩
end
def m9(k:Int)(au:Bool)(L:List Bool):Bool:=if k=20/\L.length=1 then L.getD 0 false else au&&decide (k≠18)
mutual
def aq.lets:aq->Bool
 |.mk _ au k _ _ _ cs=>m9 k au (vV cs)
def vV:List aq->List Bool
 |[]=>[]
 |f::fs=>f.lets::vV fs
end
def ze(k w:Int)(l:Bool)(W:cG):Nat:=
 if l then 16 else min 4194305 (if k=14 then 16+w.toNat else if k=16 then 16+w.toNat*W.getD 0 0 else if k=17 then 16+W.sum else if k=18 then 16+W.getD 0 0 else if k=19\/k=20 then W.getD 0 0 else 16)
mutual
def aq.wz:aq->Nat
 |.mk _ au k w _ _ cs=>ze k w (m9 k au (vV cs)) (I8 cs)
def I8:List aq->List Nat
 |[]=>[]
 |f::fs=>f.wz::I8 fs
end
def CK(k w:Int)(l:Bool)(Z:aP):aB:=
 if l then v0 else if k=14 then .mk false 0 (List.replicate w.toNat 0) []else if k=16 then .mk false 0 [] (List.replicate w.toNat (Z.getD 0 v0))else if k=17 then .mk false 0 [] Z
 else if k=18 then .mk false 0 [] [Z.getD 0 v0]else if k=19\/k=20 then Z.getD 0 v0 else .mk false 0 [] []
mutual
def aq.zv:aq->aB
 |.mk _ au k w _ _ cs=>CK k w (m9 k au (vV cs)) (I2 cs)
def I2:List aq->List aB
 |[]=>[]
 |f::fs=>f.zv::I2 fs
end
def AP:aB:=.mk false 0 [] []
def aq.bZ(f:aq):aB:=if f.wz<=4194304 then f.zv else AP
def aq.small(f:aq):Bool:=decide (f.wz<=4194304)
def kW(k n:Int):Bool:=
 if k=6\/k=10\/k=11 then decide (-9223372036854775808<=n)&&decide (n<=9223372036854775807)else if 3<=k/\k<=5 then decide (-(2^(8*(dL k).toNat-1))<=n)&&decide (n<2^(8*(dL k).toNat-1))else decide (0<=n)&&decide (n<2^(8*(dL k).toNat))
def sx:List (aB->Bool)->List aB->Bool
 |F::Fs,v::vs=>F v&&sx Fs vs
 |[],[]=>true
 |_,_=>false
def uD:aB->Bool:=λ_=>false
def fD(k w:Int)(l:Bool)(F:List (aB->Bool))(v:aB):Bool:=
 decide (v.items.length<=4096)&&
 (if v.au then decide (v.num=0)&&decide (v.text.length=0)&&decide (v.items.length=0)&&l
 else if k=19\/k=20 then F.getD 0 uD v
 else if k=18 then decide (v.text.length=0)&&(decide (0<=v.num)&&(decide (v.num<F.length)&&(decide (v.items.length=1)&&F.getD v.num.toNat uD (v.items.getD 0 v0))))
 else if k=15 then decide (v.num=0)&&(decide (v.text.length=0)&&v.items.all (F.getD 0 uD))
 else if k=16 then decide (v.num=0)&&(decide (v.text.length=0)&&(decide (v.items.length=w.toNat)&&v.items.all (F.getD 0 uD)))
 else if k=17 then decide (v.num=0)&&(decide (v.text.length=0)&&sx F v.items)
 else if k=12\/k=13\/k=14 then decide (v.num=0)&&(decide (v.items.length=0)&&((decide (k≠12)||iD v.text)&&(decide (k≠14)||decide (v.text.length=w.toNat))))
 else decide (v.text.length=0)&&(decide (v.items.length=0)&&(if k=2 then decide (v.num=0\/v.num=1)else decide (3<=k/\k<=11)&&kW k v.num)))
mutual
def aq.fit:aq->aB->Bool
 |.mk _ au k w _ _ cs=>fD k w (m9 k au (vV cs)) (fits cs)
def fits:List aq->List (aB->Bool)
 |[]=>[]
 |f::fs=>f.fit::fits fs
end
structure Rb where
 rows:Nat
 ck:Nat
 bits:List UInt8
 bB:Nat
 dV:List Nat
 texts:List (List UInt8)
 ends:List Nat
 all:List UInt8
 aF:List aB
inductive Raw
 |mk (b:Rb) (kids:List Raw)
def Raw.b:Raw->Rb|.mk b _=>b
def Raw.kids:Raw->List Raw|.mk _ k=>k
def C7:Rb:=⟨0,0,[],0,[],[],[],[],[]⟩
def r0:Raw:=.mk C7 []
def Raw.aL(r:Raw)(i:Nat):Raw:=r.kids.getD i r0
def Raw.fk(r:Raw)(i:Nat)(c:Raw):Raw:=.mk r.b (r.kids.set i c)
def Raw.up(r:Raw)(g:Rb->Rb):Raw:=.mk (g r.b) r.kids
def oW(l:dB)(i:Nat):List UInt8:=l.set (i/8) (UInt8.ofNat ((l.getD (i/8) 0).toNat|||2^(i%8)))
def Rb.row(au:Bool)(b:Rb):Rb:=
 {b with rows:=b.rows+1,ck:=if au then b.ck+1 else b.ck,bits:=if au then(if b.rows%8=0 then b.bits++[0]else b.bits)else oW (if b.rows%8=0 then b.bits++[0]else b.bits) b.rows}
def cR(x:Int×Raw)(g:Raw->Int×Raw):Int×Raw:=if x.1=0 then g x.2 else x
def eO(au:Bool)(r:Raw):Int×Raw:=if 4096<=r.b.rows then(3,r)else(0,r.up (Rb.row au))
def fB(n:Nat)(r:Raw):Int×Raw:=(if 4194304<r.b.bB+n then 3 else 0,r.up λb=>{b with bB:=b.bB+n})
def di(i:Nat)(g:Raw->Int×Raw)(r:Raw):Int×Raw:=((g (r.aL i)).1,r.fk i (g (r.aL i)).2)
def fm:List (Raw->Int×Raw)->Raw->Int×Raw
 |[],r=>(0,r)
 |g::gs,r=>cR (g r) (fm gs)
abbrev Mh:=Raw->aB->Int×Raw
abbrev HW:=Raw->Int×Raw
def ou:Mh:=λr _=>(0,r)
def og:HW:=λr=>(0,r)
def eJ(r:Raw)(i:Nat):Nat:=(r.aL i).b.bB
def total(r:Raw):Nat:=(r.kids.map λc=>c.b.bB).sum
def oB(ix:Int):Nat:=if ix=3 then 128 else if ix=7 then 256 else 4097
open Classical in
def gj(v:aB):List aB->Option Nat
 |[]=>none
 |x::xs=>if x=v then some 0 else(gj v xs).map (·+1)
def tg(code:Nat)(g:Raw->Int×Raw)(r:Raw):Int×Raw:=
 cR (eO false r) λr1=>cR (di code g (r1.up λb=>{b with all:=b.all++[UInt8.ofNat code],ends:=b.ends++[(r1.aL code).b.rows]})) λr2=>fB (16+(eJ r2 code-eJ r1 code)) r2
open Classical in
def iE(k w ix:Int)(T:List Mh)(Z:List HW)(r:Raw)(v:aB):Int×Raw:=
 if k=1 then cR (eO true r) (fB 16)
 else if k=12\/k=13 then cR (eO v.au r) λr1=>if 65536<r1.b.all.length+v.text.length then(4,r1)else fB (16+v.text.length) (r1.up λb=>{b with all:=b.all++v.text,ends:=b.ends++[b.all.length+v.text.length]})
 else if k=15 then cR (eO v.au r) λr1=>cR (fm (v.items.map λx=>di 0 λc=>(T.getD 0 ou) c x) r1) λr2=>fB (16+(eJ r2 0-eJ r1 0)) (r2.up λb=>{b with ends:=b.ends++[(r2.aL 0).b.rows]})
 else if k=16 then cR (eO v.au r) λr1=>cR (fm (if v.au then List.replicate w.toNat (di 0 (Z.getD 0 og))else v.items.map λx=>di 0 λc=>(T.getD 0 ou) c x) r1) λr2=>fB (if v.au then 16 else 16+(eJ r2 0-eJ r1 0)) r2
 else if k=17 then cR (eO v.au r) λr1=>cR (fm ((List.range T.length).map λi=>di i (if v.au then Z.getD i og else λc=>(T.getD i ou) c (v.items.getD i v0))) r1) λr2=>fB (if v.au then 16 else 16+(total r2-total r1)) r2
 else if k=18 then tg v.num.toNat (λc=>(T.getD v.num.toNat ou) c (v.items.getD 0 v0)) r
 else if k=19 then cR (eO v.au r) λr1=>
  if v.au then fB 16 (r1.up λb=>{b with ends:=b.ends++[0]})
  else match gj v r1.b.aF with
   |some i=>fB v.bq (r1.up λb=>{b with ends:=b.ends++[i]})
   |none=>if oB ix<=r1.b.aF.length then(102,r1)else cR (di 0 (λc=>(T.getD 0 ou) c v) r1) λr2=>fB v.bq (r2.up λb=>{b with aF:=b.aF++[v],ends:=b.ends++[b.aF.length]})
 else if k=20 then cR (eO false r) λr1=>
  if r1.b.aF.getLast? =some v then fB v.bq (r1.up λb=>{b with ends:=b.ends.dropLast++[b.rows]})
  else cR (di 0 (λc=>(T.getD 0 ou) c v) r1) λr2=>fB v.bq (r2.up λb=>{b with ends:=b.ends++[b.rows],aF:=b.aF++[v]})
 else cR (eO v.au r) λr1=>fB (16+v.text.length) (r1.up λb=>{b with dV:=b.dV++[(v.num%2^64).toNat],texts:=b.texts++[v.text]})
def nH(small:Bool)(k w ix:Int)(tk:Raw->Int×Raw)(Z:List HW)(r:Raw):Int×Raw:=
 if small\/¬(16<=k/\k<=20)then tk r
 else if k=16 then cR (eO false r) λr1=>cR (fm (List.replicate w.toNat (di 0 (Z.getD 0 og))) r1) λr2=>fB (16+(eJ r2 0-eJ r1 0)) r2
 else if k=17 then cR (eO false r) λr1=>cR (fm ((List.range Z.length).map λi=>di i (Z.getD i og)) r1) λr2=>fB (16+(total r2-total r1)) r2
 else if k=18 then tg 0 (Z.getD 0 og) r
 else if k=19 then cR (eO false r) λr1=>if oB ix<=r1.b.aF.length then(102,r1)else cR (di 0 (Z.getD 0 og) r1) λr2=>(3,r2)
 else cR (eO false r) λr1=>cR (di 0 (Z.getD 0 og) r1) λr2=>(3,r2)
mutual
def aq.tk:aq->Mh
 |.mk _ _ k w _ ix cs=>iE k w ix (Fg cs) (CN cs)
def Fg:List aq->List Mh
 |[]=>[]
 |f::fs=>f.tk::Fg fs
def aq.zk:aq->HW
 |.mk nm au k w id ix cs=>nH (aq.small (.mk nm au k w id ix cs)) k w ix (λr=>iE k w ix (Fg cs) (CN cs) r (aq.bZ (.mk nm au k w id ix cs))) (CN cs)
def CN:List aq->List HW
 |[]=>[]
 |f::fs=>f.zk::CN fs
end
def iU(x n:Nat):List UInt8:=(List.range n).map λi=>UInt8.ofNat (x/2^(8*i))
def laidB(l:cG)(n:Nat):List UInt8:=l.flatMap λx=>iU x n
def dF(b:Rb):List UInt8:=if b.ck=0 then[]else b.bits
def qU(l:cG):List UInt8:=l.zipIdx.foldl (λb x=>if x.1%2=1 then oW b x.2 else b) (List.replicate ((l.length+7)/8) 0)
def mh(w:Nat)(l:ig):List UInt8:=l.flatMap λt=>if t=[]then List.replicate w 0 else t
def wB(k:Int):Nat:=if k=3\/k=7 then 1 else if k=4\/k=8 then 2 else if k=5\/k=9 then 4 else 8
def mT(k w ix:Int)(D:List (Raw->bD))(r:Raw):bD:=
 if k=1 then .mk r.b.rows 0 r.b.ck [] [] []
 else if k=12\/k=13 then .mk r.b.rows 0 r.b.ck [dF r.b,laidB r.b.ends 4,r.b.all] [] []
 else if k=15 then .mk r.b.rows 0 r.b.ck [dF r.b,laidB r.b.ends 4] ((List.range D.length).map λi=>(D.getD i λ_=>wu) (r.aL i)) []
 else if k=16\/k=17 then .mk r.b.rows 0 r.b.ck [dF r.b] ((List.range D.length).map λi=>(D.getD i λ_=>wu) (r.aL i)) []
 else if k=18 then .mk r.b.rows 0 r.b.ck [r.b.all,laidB r.b.ends 4] ((List.range D.length).map λi=>(D.getD i λ_=>wu) (r.aL i)) []
 else if k=19 then .mk r.b.rows 0 r.b.ck [dF r.b,laidB r.b.ends (wB ix)] [] ((List.range D.length).map λi=>(D.getD i λ_=>wu) (r.aL i))
 else if k=20 then .mk r.b.rows 0 0 [] (.mk r.b.ends.length 0 0 [[],laidB r.b.ends 4] [] []::(List.range D.length).map λi=>(D.getD i λ_=>wu) (r.aL i)) []
 else if k=2 then .mk r.b.rows 0 r.b.ck [dF r.b,qU r.b.dV] [] []
 else if k=14 then .mk r.b.rows 0 r.b.ck [dF r.b,mh w.toNat r.b.texts] [] []
 else .mk r.b.rows 0 r.b.ck [dF r.b,laidB r.b.dV (wB k)] [] []
mutual
def aq.dn:aq->Raw->bD
 |.mk _ _ k w _ ix cs=>mT k w ix (KY cs)
def KY:List aq->List (Raw->bD)
 |[]=>[]
 |f::fs=>f.dn::KY fs
end
mutual
def aq.begun:aq->Raw
 |.mk _ _ k _ _ _ cs=>.mk {C7 with ends:=if k=12\/k=13\/k=15 then[0]else[]} (LK cs)
def LK:List aq->List Raw
 |[]=>[]
 |f::fs=>f.begun::LK fs
end
theorem apP(a:m<256)(b:i<8):m|||2^i<256:=
 HJ a (LZ aY b)
theorem C2(l:dB)(i:Nat):(oW l i).length=l.length:=by simp[oW]
theorem LJ(l:dB)(r:Nat):gI l r=(l.getD (r/8) 0).toNat.testBit (r%8):=by
 unfold gI;grind
theorem ZZ{l:dB}(h:i/8<l.length)(j:Nat):gI (oW l i) j=(decide (j=i)||gI l j):=by
 rw[LJ,LJ];unfold oW
 by_cases e:j/8=i/8
 ·have e1:(l.set (i/8) (UInt8.ofNat ((l.getD (i/8) 0).toNat|||2^(i%8)))).getD (j/8) 0=UInt8.ofNat ((l.getD (i/8) 0).toNat|||2^(i%8)):=by
   rw[gL,e,El h];rfl
  rw[e1,tM,uY (apP ((l.getD (i/8) 0).toNat_lt) (yM _ aY)),Nat.testBit_or,e,Nat.testBit_two_pow];grind
 grind
theorem axC(l m:dB){j:Nat}(h:j/8<l.length):gI (l++m) j=gI l j:=by
 unfold gI;grind
theorem axB(l:dB){j:Nat}(h:l.length<=j/8):gI (l++[0]) j=false:=by
 unfold gI;have:(l++[0]).getD (j/8) 0=0:=by
  rw[gL,gm h];rcases a:j/8-l.length with _|k <;> simp[a]
 rw[this];simp
def A9(n:Nat)(x:Bool)(b:dB):List UInt8:=if x then oW (if n%8=0 then b++[0]else b) n else(if n%8=0 then b++[0]else b)
def nQ:List Bool->List UInt8
 |[]=>[]
 |x::xs=>A9 xs.length x (nQ xs)
def qJ(l:List Bool):List UInt8:=nQ l.reverse
theorem apx(l:List Bool)(x:Bool):qJ (l++[x])=A9 l.length x (qJ l):=by simp[qJ,nQ]
theorem P8:∀l:List Bool,(nQ l).length=(l.length+7)/8
  |[]=>rfl
  | x::a=>by
    unfold nQ A9;split <;> split <;> simp only[C2,ij,iq,q8,(P8 a)] <;> omega
theorem P9(l:List Bool):(qJ l).length=(l.length+7)/8:=by rw[qJ,P8,List.length_reverse]
theorem aaJ:∀(l:List Bool)(i:Nat),gI (nQ l) i=(decide (i<l.length)&&l.getD (l.length-1-i) false)
  |[],i=>by simp[nQ,gI]
  | x::a,i=>by
    have f:=aaJ a i;have hl:=P8 a;have base:gI (if a.length%8=0 then nQ a++[0]else nQ a) i=gI (nQ a) i:=by
      split
      · by_cases h:i/8<(nQ a).length
        ·exact axC _ _ h
        ·rw[axB _ ag,f];grind
      ·rfl
    have d:a.length/8<(if a.length%8=0 then nQ a++[0]else nQ a).length:=by
      split <;> simp only[ij,iq,hl] <;> omega
    have key:gI (nQ (x::a)) i=((decide (i=a.length)&&x)||gI (nQ a) i):=by
      rw[show nQ _=A9 a.length x (nQ a)from rfl];unfold A9;cases x
      ·simp[*]
      ·simp_all[ZZ]
    grind
theorem aaK(l:List Bool)(i:Nat):gI (qJ l) i=l.getD i false:=by
 rw[qJ,aaJ,List.length_reverse]
 grind
theorem Rb.qI(au:Bool)(b:Rb):(b.row au).bits=A9 b.rows (!au) b.bits:=by
 unfold Rb.row A9;grind
theorem Bi(x n:Nat):(iU x n).length=n:=by simp[iU]
theorem arq(x n:Nat):iU x (n+1)=iU x n++[UInt8.ofNat (x/2^(8*n))]:=by simp[iU,uX]
theorem abF(x:Nat):∀n,jW (iU x n)=x%2^(8*n)
  |0=>by simp[iU,jW,Nat.mod_one]
  | n+1=>by
    rw[arq,abE,Bi,abF x n,tM,show 8*(n+1)=8*n+8 by omega,HN,Nat.mod_mul,HM _ (_%_)]
theorem Ga(l:cG)(n:Nat):(laidB l n).length=l.length*n:=by
 simp[laidB,B2,Bi,List.map_const']
theorem abO(x:Nat)(l:cG)(n:Nat):laidB (x::l) n=iU x n++laidB l n:=by simp[laidB]
theorem abP{n:Nat}:∀{l:cG}{i x:Nat},l[i]? =some x->((laidB l n).drop (i*n)).take n=iU x n
  |[],i,x,h=>by simp at h
  | y::l,0,x,h=>by
    simp_all[mC,abO,Bi]
  | y::l,i+1,x,h=>by
    simp only[Af]at h;rw[abO,rf,LY,<-B7,List.drop_left' (Bi y n)];exact abP h
theorem R8{l:cG}{n:Nat}(h:l[i]? =some m):oZ (laidB l n) (i*n) n=m%2^(8*n):=by
 unfold oZ;rw[abP h,abF]
theorem Sa{l:cG}{n:Nat}(h:l[i]? =some n)(a:n<2^31):i32 (laidB l 4) i=n:=by
 unfold i32;rw[HM,R8 h,uY ag];unfold sg;omega
theorem aeS(l:cG):(qU l).length=(l.length+7)/8:=by
 unfold qU;have:∀(m:List (Nat×Nat))(b:dB),(m.foldl (λb x=>if x.1%2=1 then oW b x.2 else b) b).length=b.length:=by
  intro m
  induction m with
  |nil=>simp
  |cons x m a=>grind[C2]
 simp[*]
theorem axy(l:cG):∀(k:Nat)(b:dB),(∀j,k<=j->j<k+l.length->j/8<b.length)->∀i,gI ((l.zipIdx k).foldl (λb x=>if x.1%2=1 then oW b x.2 else b) b) i=(gI b i||decide (k<=i/\l.getD (i-k) 0%2=1)):=by
  induction l with
  |nil=>simp
  | cons x l m=>
    intro k b g i;rw[List.zipIdx_cons,List.foldl_cons];have f:∀j,k+1<=j->j<k+1+l.length->j/8<(if x%2=1 then oW b k else b).length:=by
      intro j a d;have:=g j ag bU
      grind[C2]
    rw[m _ _ f i];have e0:gI (if x%2=1 then oW b k else b) i=(gI b i||(decide (i=k)&&decide (x%2=1))):=by
      split
      ·rename_i h;rw[ZZ (g k (bP _) aA)];grind
      ·simp[*]
    grind
theorem aeT(l:cG)(i:Nat):gI (qU l) i=decide (l.getD i 0%2=1):=by
 unfold qU;rw[axy l 0 _ (λj _ h=>bU) i]
 have:gI (List.replicate ((l.length+7)/8) (0:UInt8)) i=false:=by
  unfold gI;have:(List.replicate ((l.length+7)/8) (0:UInt8)).getD (i/8) 0=0:=by
   rw[gL,List.getElem?_replicate];split <;> rfl
  rw[this];simp
 simp[*]
theorem acX(w:Nat)(t:dB)(l:ig):mh w (t::l)=(if t=[]then List.replicate w 0 else t)++mh w l:=by simp[mh]
theorem Kz{w:Nat}:∀{l:ig},(∀t∈l,t=[]\/t.length=w)->(mh w l).length=l.length*w
  |[],_=>by simp[mh]
  | t::l,h=>by
    have a:=Kz (l:=l) λx b=>h x (by simp[b])
    have c:(if t=[]then List.replicate w (0:UInt8)else t).length=w:=by
      rcases h t aA with q|q
      ·simp[q]
      ·split <;> simp_all
    rw[acX,ij,c,a,iq,rf,LY]
theorem acY{w:Nat}:∀{l:ig}{i:Nat}{t:dB},(∀t∈l,t=[]\/t.length=w)->l[i]? =some t->t.length=w->((mh w l).drop (i*w)).take w=t
  |[],i,t,_,h,_=>by simp at h
  | u::l,i,t,b,h,a=>by
    have d:(if u=[]then List.replicate w (0:UInt8)else u).length=w:=by
      rcases b u aA with q|q
      ·simp[q]
      ·split <;> simp_all
    rw[acX];cases i with
    | zero=>
      grind
    | succ i=>
      simp only[Af]at h;rw[rf,LY,<-B7,List.drop_left' d];exact acY (λx c=>b x (by simp[c])) h a
theorem ab4:∀{a b:List Pl}{d c:List Int},a.map Pl.f=b.map Pl.f->(∀x∈c,x∈d)->∀x∈kY c b,x∈kY d a
  |[],[],d,c,_,i=>i
  |[],_::_,_,_,h,_=>by simp at h
  |_::_,[],_,_,h,_=>by simp at h
  | x::a,y::b,d,c,h,i=>by
    simp only[rm,UR]at h;unfold kY;refine ab4 h.2 λz g=>?_;grind[xF]
structure VZ(d d':Nat)(ins Gj:Bool):Prop where
 d:d'<=d
 i:Gj=true->ins=true
abbrev VS(f:aq):Prop:=∀{d d':Nat}{ins Gj:Bool}{n n':Nat}{ids ab6:List Int},VZ d d' ins Gj->n'<=n->(∀x∈ab6,x∈ids)->gN n ids (f.places d [] ins)->
 gN n' ab6 (f.places d' [] Gj)/\(f.places d [] ins).map Pl.f=(f.places d' [] Gj).map Pl.f
theorem apm{cs:cC}(j:∀f∈cs,VS f){d d':Nat}{c a:Bool}(l:VZ d d' c a):∀{n n':Nat}{e b:List Int},n'<=n->(∀x∈b,x∈e)->gN n e (lO d c cs)->
    gN n' b (lO d' a cs)/\(lO d c cs).map Pl.f=(lO d' a cs).map Pl.f:=by
  induction cs with
  |nil=>intro n n' e b _ _ _;simp[lO,gN]
  | cons f s k=>
    intro n n' e b m i h;simp only[lO,EW]at h ⊢;obtain⟨q,e1⟩:=j f aA l m i h.1;have el:(f.places d [] c).length=(f.places d' [] a).length:=by simpa using tP List.length e1
    obtain⟨p,r⟩:=k (λg o=>j g (by simp[o])) (n':=n'+(f.places d' [] a).length) ag (ab4 e1 i) h.2
    simp[*]
theorem apq{l:cC}{d:Nat}:∀{ahead:cC},(dY d ahead B l).map Pl.f=(lO d B l).map Pl.f:=by
  induction l with
  |nil=>intro a;rfl
  | cons f l b=>
    intro a;have:(f.places d a B).map Pl.f=(f.places d [] B).map Pl.f:=by cases f;unfold aq.places;simp
    simp only[dY,lO,kR,b,this]
theorem P4:∀f:aq,VS f
  | .mk r au k w id ix cs=>by
    rename_i d t m c n n' o g
    intro l J j h;have I:∀f∈cs,VS f:=λf _=>P4 f;have s:d<=64:=by unfold aq.places at h;exact h.1.1
    have b:=iY l.d s;rw[De s]at h ⊢;rw[De b];obtain⟨L,K,H,G,F,E,D,u⟩:=h.1;obtain⟨C,b2⟩:=EX.1 h.2;have z:VZ (d+1) (t+1) (m||k==19) (c||k==19):=⟨by have:=l.d;omega,λq=>by
      rcases(HS _ _).mp q with q|q
      ·rw[l.i q];rfl
      simp[*]⟩
    have p:∀x∈xF g (.mk r au k w id ix cs),x∈xF o (.mk r au k w id ix cs):=by
      intro x a;unfold xF at a ⊢;split
      ·grind
      ·grind
    obtain⟨B,A⟩:=apm I z (n':=n'+1) ag p b2;refine⟨⟨⟨b,ag,H,G,F,E,?_,λe=>⟨(u e).1,λq=>(u e).2 (j _ q)⟩⟩,EX.2 ⟨C,B⟩⟩,?_⟩
    ·rintro⟨y,v⟩;exact D ⟨l.i y,v⟩
    grind[apq]
theorem bC.places(h:bC f):gN 0 [] (f.places 1 [] false):=by
 have:=h.2.2.2.2
 simpa only[lO,oH]using this
theorem bC.aqc(h:gN 0 [] (f.places 1 [] false)):bC f:=by
 refine⟨aA,aA,λj m c=>by simp at c,?_,by simpa only[lO,oH]using h⟩
 intro i j a b e d g;grind
abbrev LR:=@bC.aqc
theorem bC.aL(h:bC f)(u:c∈f.cs):bC c:=by
 obtain⟨i,au,k,w,id,ix,cs⟩:=f;have a:=h.places;rw[De ag]at a;obtain⟨n,g,e⟩:=aaG (EX.1 a.2).2 c u;exact LR (P4 c ⟨ag,λq=>by cases q⟩ (dN _) (λx b=>by simp at b) e).1
theorem bC.right(h:bC f):Shaped f.k f.w f.id f.ix f.cs.length/\At f.k f.au f.cs/\(f.k=19->∃c,f.cs[0]? =some c/\c.au=false):=by
 obtain⟨b,au,k,w,id,ix,cs⟩:=f;have a:=h.places;rw[De ag]at a;exact⟨a.1.2.2.2.2.1,a.1.2.2.2.2.2.1,λe=>(a.1.2.2.2.2.2.2.2 e).1⟩
theorem abf:EA (bs [97]):=by
 refine⟨by decide,by decide,λj b h=>?_⟩
 rcases j with _|j
 ·have a:=h;cases a;exact .inl (.inl aY)
 ·rw[getElem?_neg _ _ (by show¬j+1<1;omega)]at h;cases h
theorem bC.ty(h:bC f):tW f.k f.w f.id f.ix f.cs:=by
 obtain⟨p,au,k,w,id,ix,cs⟩:=f;have d:=h.places;apply LR;unfold Tb;rw[De ag]at d ⊢;obtain⟨⟨o,n,s,r,m,l,j,i⟩,b⟩:=d;refine⟨⟨o,n,abf,aA,m,⟨λe=>?_,λe=>?_,λe=>?_⟩,j,i⟩,b⟩
 ·simp only[aq.k]at e;subst e;simp[gP,aq.au,aq.k]
 ·simp only[aq.k]at e;subst e;simp[gP,aq.au,aq.k]
 ·simp only[aq.k]at e;subst e;obtain⟨c,a,_⟩:=l.2.2 rfl;refine⟨c,a,?_⟩;simp only[aq.cs]at a;cases cs with
  |nil=>simp at a
  |cons g q=>simp at a;subst a;simp[gP,aq.au,aq.k,aq.cs]
def eu(k:Int)(v:aB):Bool:=if k=1 then true else if k=18\/k=20 then false else v.au
open Classical in
def qS(l:aP)(v:aB):List aB:=if v.au then l else match gj v l with|some _=>l|none=>l++[v]
def dS(vs:aP):List aB:=vs.foldl qS []
open Classical in
def xz(x:List aB×List Nat)(v:aB):List aB×List Nat:=
 if x.1.getLast? =some v then(x.1,x.2.dropLast++[x.2.getLastD 0+1])else(x.1++[v],x.2++[x.2.getLastD 0+1])
def cO(vs:aP):List aB×List Nat:=vs.foldl xz ([],[])
theorem x9(vs:aP)(v:aB):dS (vs++[v])=qS (dS vs) v:=by simp[dS]
theorem AY(vs:aP)(v:aB):cO (vs++[v])=xz (cO vs) v:=by simp[cO]
def kj(g:aB->Nat)(vs:aP):List Nat:=(List.range (vs.length+1)).map λi=>((vs.take i).map g).sum
theorem aG7{α:Type}(vs:List α)(v:α){i:Nat}(h:i<=vs.length):(vs++[v]).take i=vs.take i:=UQ h
theorem Jq(g:aB->Nat)(vs:aP)(v:aB):kj g (vs++[v])=kj g vs++[((vs++[v]).map g).sum]:=by
 unfold kj;rw[ij,jw,uX,kR]
 congr 1
 all_goals grind[List.map_congr_left]
theorem Pb{vs:aP}(h:i<=vs.length):(kj g vs)[i]? =some ((vs.take i).map g).sum:=by
 unfold kj;grind
theorem CW(g:aB->Nat)(vs:aP):(kj g vs).length=vs.length+1:=by simp[kj]
def fL(v:aB):Nat:=v.num.toNat
def dJ(k w:Int)(N:aP)(j:Nat)(vs:aP):List aB:=
 if k=15 then vs.flatMap aB.items
 else if k=16 then vs.flatMap λv=>if v.au then List.replicate w.toNat (N.getD 0 v0)else v.items
 else if k=17 then vs.map λv=>if v.au then N.getD j v0 else v.items.getD j v0
 else if k=18 then(vs.filter λv=>decide (fL v=j)).map λv=>v.items.getD 0 v0
 else if k=19 then dS vs
 else(cO vs).1
def fH(k:Int):Bool:=!(k==1||k==12||k==13||k==15||k==16||k==17||k==18||k==19||k==20)
def aK(k:Int)(vs:aP):Rb where
 rows:=vs.length
 ck:=vs.countP (eu k)
 bits:=qJ (vs.map λv=>!eu k v)
 bB:=bH vs
 dV:=if fH k then vs.map λv=>(v.num%2^64).toNat else[]
 texts:=if fH k then vs.map aB.text else[]
 ends:=if k=12\/k=13 then kj (λv=>v.text.length) vs else if k=15 then kj (λv=>v.items.length) vs
  else if k=18 then(List.range vs.length).map λi=>((vs.take i).filter λv=>decide (fL v=fL (vs.getD i v0))).length
  else if k=19 then vs.map λv=>if v.au then 0 else(gj v (dS vs)).getD 0 else if k=20 then(cO vs).2 else[]
 all:=if k=12\/k=13 then vs.flatMap aB.text else if k=18 then vs.map λv=>UInt8.ofNat (fL v)else[]
 aF:=if k=19 then dS vs else if k=20 then(cO vs).1 else[]
abbrev Ml:=List aB->Raw
def ZH:Ml:=λ_=>r0
def ZG(k w:Int)(N:aP)(S:List Ml)(vs:aP):Raw:=.mk (aK k vs) ((List.range S.length).map λj=>(S.getD j ZH) (dJ k w N j vs))
def dI:List aq->List aB:=List.map aq.bZ
mutual
def aq.st:aq->Ml
 |.mk _ _ k w _ _ cs=>ZG k w (dI cs) (Js cs)
def Js:List aq->List Ml
 |[]=>[]
 |f::fs=>f.st::Js fs
end
abbrev Mn:=List aB->Prop
structure OkK(k w ix:Int)(N:aP)(F:aB->Bool)(O:List Mn)(vs:aP):Prop where
 fit:∀v∈vs,F v=true
 n4:vs.length<=4096
 wt:bH vs<=4194304
 tx:k=12\/k=13->(vs.flatMap aB.text).length<=65536
 ds:k=19->(dS vs).length<=oB ix
 aL:∀(j:Nat)(o:Mn),O[j]? =some o->o (dJ k w N j vs)
mutual
def aq.can:aq->Mn
 |.mk nm au k w id ix cs=>OkK k w ix (dI cs) (aq.fit (.mk nm au k w id ix cs)) (Lb cs)
def Lb:List aq->List Mn
 |[]=>[]
 |f::fs=>f.can::Lb fs
end
theorem Zw:∀a:List aq,Js a=a.map aq.st
 |[]=>rfl
 |f::a=>by simp[Js,Zw a]
theorem adT:∀a:List aq,Lb a=a.map aq.can
 |[]=>rfl
 |f::a=>by simp[Lb,adT a]
theorem Zg:∀a:List aq,Fg a=a.map aq.tk
 |[]=>rfl
 |f::a=>by simp[Fg,Zg a]
theorem OH:∀a:List aq,CN a=a.map aq.zk
 |[]=>rfl
 |f::a=>by simp[CN,OH a]
theorem adt:∀a:List aq,KY a=a.map aq.dn
 |[]=>rfl
 |f::a=>by simp[KY,adt a]
theorem ac0:∀a:List aq,fits a=a.map aq.fit
 |[]=>rfl
 |f::a=>by simp[fits,ac0 a]
theorem abA:∀a:List aq,vV a=a.map aq.lets
 |[]=>rfl
 |f::a=>by simp[vV,abA a]
theorem YN:∀a:List aq,I8 a=a.map aq.wz
 |[]=>rfl
 |f::a=>by simp[I8,YN a]
theorem YD:∀a:List aq,I2 a=a.map aq.zv
 |[]=>rfl
 |f::a=>by simp[I2,YD a]
theorem aeW:∀a:List aq,LK a=a.map aq.begun
 |[]=>rfl
 |f::a=>by simp[LK,aeW a]
theorem aq.amV(f:aq)(vs:aP):f.st vs=.mk (aK f.k vs) ((List.range f.cs.length).map λj=>((f.cs.map aq.st).getD j ZH) (dJ f.k f.w (dI f.cs) j vs)):=by
 obtain⟨a,au,k,w,id,ix,cs⟩:=f;simp only[aq.st,ZG,Zw,cm];rfl
abbrev Hx:=@aq.amV
theorem aq.awZ(f:aq)(vs:aP):f.can vs↔OkK f.k f.w f.ix (dI f.cs) f.fit (f.cs.map aq.can) vs:=by
 obtain⟨a,au,k,w,id,ix,cs⟩:=f;simp only[aq.can,adT];exact Iff.rfl
abbrev gk:=@aq.awZ
theorem aq.alL(f:aq):f.tk=iE f.k f.w f.ix (f.cs.map aq.tk) (f.cs.map aq.zk):=by
 obtain⟨a,au,k,w,id,ix,cs⟩:=f;simp only[aq.tk,Zg,OH];rfl
abbrev kD:=@aq.alL
theorem aq.aj0(f:aq):f.zk=nH f.small f.k f.w f.ix (λr=>f.tk r f.bZ) (f.cs.map aq.zk):=by
 obtain⟨a,au,k,w,id,ix,cs⟩:=f;simp only[aq.zk,aq.tk,OH];rfl
abbrev sy:=@aq.aj0
theorem aq.avg(f:aq):f.dn=mT f.k f.w f.ix (f.cs.map aq.dn):=by
 obtain⟨a,au,k,w,id,ix,cs⟩:=f;simp only[aq.dn,adt];rfl
abbrev qX:=@aq.avg
theorem aq.aum(f:aq):f.fit=fD f.k f.w f.lets (f.cs.map aq.fit):=by
 obtain⟨a,au,k,w,id,ix,cs⟩:=f;simp only[aq.fit,aq.lets,ac0];rfl
abbrev eL:=@aq.aum
theorem aq.arn(f:aq):f.lets=m9 f.k f.au (f.cs.map aq.lets):=by
 obtain⟨a,au,k,w,id,ix,cs⟩:=f;simp only[aq.lets,abA];rfl
abbrev yB:=@aq.arn
theorem aq.akD(f:aq):f.wz=ze f.k f.w f.lets (f.cs.map aq.wz):=by
 obtain⟨a,au,k,w,id,ix,cs⟩:=f;simp only[aq.wz,aq.lets,YN];rfl
abbrev Aa:=@aq.akD
theorem aq.I5(f:aq):f.zv=CK f.k f.w f.lets (f.cs.map aq.zv):=by
 obtain⟨a,au,k,w,id,ix,cs⟩:=f;simp only[aq.zv,aq.lets,YD];rfl
theorem aq.axF(f:aq):f.begun=.mk {C7 with ends:=if f.k=12\/f.k=13\/f.k=15 then[0]else[]} (f.cs.map aq.begun):=by
 obtain⟨a,au,k,w,id,ix,cs⟩:=f;simp only[aq.begun,aeW];rfl
abbrev LQ:=@aq.axF
theorem aq.ZC(a:f.cs[j]? =some c)(vs:aP):(f.st vs).aL j=c.st (dJ f.k f.w (dI f.cs) j vs):=by
 have b:=(cU.1 a).1;rw[Hx];simp only[Raw.aL,Raw.kids,gL,fh,Eh b,a,pH,oI]
abbrev mW:=@aq.ZC
theorem aq.TU(a:f.cs[j]? =some c){vs:aP}(h:f.can vs):c.can (dJ f.k f.w (dI f.cs) j vs):=
 ((gk f vs).1 h).aL j c.can dM
abbrev fy:=@aq.TU
theorem TN(k w:Int)(N:aP)(j:Nat):dJ k w N j []=[]:=by unfold dJ dS cO;simp
theorem PJ(k:Int):aK k []={C7 with ends:=if k=12\/k=13\/k=15 then[0]else[]}:=by
 simp only[aK,C7,Cb,bH,qJ,nQ,List.reverse_nil,dS,cO,kj]
 grind
theorem ZB:∀f:aq,f.st []=f.begun
  | .mk d au k w id ix cs=>by
    have b:∀c∈cs,c.st []=c.begun:=λc _=>ZB c;rw[Hx,LQ]
    congr 1
    ·exact PJ k
    · refine sE λj=>?_;simp only[aq.cs,aq.k,TN]
      by_cases a:j<cs.length
      all_goals simp[*]
theorem bC.one(h:bC f)(d:f.k=15\/f.k=16\/f.k=19\/f.k=20):∃c,f.cs=[c]/\bC c:=by
 match a:f.cs,(h.right.1.2.2.2.2.2.2.2.1 d)with
 |[c],_=>exact⟨c,rfl,h.aL (by rw[a];simp)⟩
theorem bC.ks(h:bC f):1<=f.k/\f.k<=20:=⟨h.right.1.1,h.right.1.2.1⟩
theorem oT(a b:aP):bH (a++b)=bH a+bH b:=by
 induction a with
 |nil=>simp[bH]
 |cons v a c=>simp only[yJ,bH];omega
theorem YQ(n:Nat)(v:aB):bH (List.replicate n v)=n*v.bq:=by
 induction n with
 |zero=>simp[bH]
 |succ n a=>rw[HF,bH,a,rf];omega
theorem gV(v:aB):v.bq=16+v.text.length+bH v.items:=by cases v;rfl
theorem ac2:fD k w true F v0=true:=by
 unfold fD v0;simp[aB.au,aB.num,aB.text,aB.items]
theorem YO:∀{cs:cC},(∀c∈cs,c.wz=min 4194305 c.zv.bq)->min 4194305 (16+(cs.map aq.wz).sum)=min 4194305 (16+bH (cs.map aq.zv))
  |[],_=>rfl
  | c::cs,h=>by
    have h1:=h c aA;have h2:=YO (cs:=cs) λx hx=>h x (by simp[hx])
    simp only[rm,UP,bH];omega
theorem ae8:∀{cs:cC},(∀c∈cs,c.fit c.zv=true)->sx (cs.map aq.fit) (cs.map aq.zv)=true
  |[],_=>rfl
  | c::cs,h=>by
    simp only[rm,sx,h c aA];exact ae8 λx a=>h x (by simp[a])
theorem sY:∀f:aq,bC f->f.lets=f.au
  | .mk n au k w id ix cs,h=>by
    have i:∀c∈cs,c.lets=c.au:=λc m=>sY c (h.aL m);obtain⟨_,b,_⟩:=h.right;have one:=λl=>bC.one h l;rw[yB]
    show m9 k au (cs.map aq.lets)=au
    simp only[aq.k,aq.cs,aq.au]at b one;unfold m9
    by_cases e:k=20
    · obtain⟨c,rfl,_⟩:=one (by simp[e])
      obtain⟨d,g,j⟩:=b.2.2 e;grind
    · rw[aC (λq:k=20/\_=>e q.1)]
      by_cases a:k=18
      ·have:=b.2.1 a;simp[*]
      ·simp[a]
theorem YF:∀f:aq,bC f->f.au=false->f.zv.au=false
  | .mk o au k w id ix cs,h,g=>by
    have l:∀c∈cs,c.au=false->c.zv.au=false:=λc n=>YF c (h.aL n);obtain⟨_,j,i⟩:=h.right;have one:=λm=>bC.one h m;rw[aq.I5,(sY _ h),g];simp only[aq.w,aq.cs]at j i one g ⊢;simp only[CK,mD,lJ];split
    ·rfl
    split
    ·rfl
    split
    ·rfl
    split
    ·rfl
    split
    · rename_i e
      obtain⟨c,rfl,_⟩:=one ag;simp only[rm,Cb];apply l c aA;rcases e with rfl|rfl
      ·obtain⟨d,b,a⟩:=i rfl;simp only[B9,mC]at b;subst b;exact a
      ·obtain⟨d,b,a⟩:=j.2.2 rfl;grind
    ·rfl
theorem DG{l:Bool}(h:fD k w l F v=true):v.items.length<=4096:=by
 unfold fD at h;grind
theorem YE:∀f:aq,bC f->f.fit f.zv=true/\f.wz=min 4194305 f.zv.bq
  | .mk nm au k w id ix cs,h=>by
    have ih:∀c∈cs,c.fit c.zv=true/\c.wz=min 4194305 c.zv.bq:=λc hc=>YE c (h.aL hc);rw[eL,aq.I5,Aa];obtain⟨⟨s1,s2,s3,s4,s5,s6,s7,s8,s9,Z5,s11⟩,n1,n2⟩:=h.right;have one:=λhk=>bC.one h hk;simp only[aq.k,aq.w,aq.cs,aq.au]at s1 s2 s3 s4 s5 s6 s7 s8 s9 Z5 s11 n1 n2 one ⊢;generalize hl:(aq.mk nm au k w id ix cs).lets=l;have hl':l=m9 k au (cs.map aq.lets):=by rw[<-hl,yB];rfl
    cases l with
    |true=>exact⟨by simpa[CK]using ac2,by simp[ze,CK,v0,aB.bq,bH]⟩
    | false =>
      have k1:k≠1:=by
        rintro rfl;simp[m9,n1.1]at hl'
      simp only[CK,ze,mD,lJ]
      by_cases DO:k=14
      ·subst DO;have:=s3 rfl;simp[fD,aB.au,aB.num,aB.text,aB.items,aB.bq,bH]
      rw[aC DO,aC DO]
      by_cases KW:k=16
      · subst KW;have:=s4 rfl;obtain⟨c,rfl,hc⟩:=one aA;obtain⟨h1,h2⟩:=ih c aA;simp only[gu,rm,Cb,HD,aB.bq,YQ,h2];refine⟨?_,?_⟩
        ·simp only[fD,aB.au,aB.num,aB.text,aB.items,HC];simp[h1,uD];omega
        · have hw:1<=w.toNat:=ag;generalize w.toNat=n at hw
          by_cases hc:c.zv.bq<=4194305
          ·grind
          ·have q2:n*4194305<=n*c.zv.bq:=UO _ ag;grind
      rw[aC KW,aC KW]
      by_cases KU:k=17
      ·subst KU;have wj:=s9 rfl;simp only[gu,aB.bq,q8,Eo];refine⟨?_,YO λc hc=>(ih c hc).2⟩;simp only[fD,aB.au,aB.num,aB.text,aB.items,cm,ae8 λc hc=>(ih c hc).1];simp;omega
      rw[aC KU,aC KU]
      by_cases KS:k=18
      · subst KS;have wj:=Z5 rfl;obtain⟨c,TJ,rfl⟩:∃c TJ,cs=c::TJ:=by
          cases cs with
          |nil=>simp at wj
          |cons c TJ=>simp
        obtain⟨h1,h2⟩:=ih c aA;simp only[gu,rm,HD,aB.bq,bH,q8,h2];refine⟨?_,ag⟩
        simp only[fD,aB.au,aB.num,aB.text,aB.items,cm,iq,q8];simp[h1]
      rw[aC KS,aC KS]
      by_cases DN:k=19\/k=20
      · obtain⟨c,rfl,hc⟩:=one ag;obtain⟨h1,h2⟩:=ih c aA;simp only[DN,gu,rm,Cb,HD,h2];refine⟨?_,ag⟩
        have hn:c.zv.au=false:=by
          apply YF c hc;have hll:=sY _ h;rw[hl]at hll;rcases DN with rfl|rfl
          ·obtain⟨d,hd,Dz⟩:=n2 rfl;simp only[B9,mC]at hd;subst hd;exact Dz
          ·obtain⟨d,hd,Dz⟩:=n1.2.2 rfl;simp only[B9,mC]at hd;subst hd;rw[<-Dz];exact hll.symm
        have hlen:=h1;rw[eL]at hlen;have hlen:=DG hlen;unfold fD;simp_all
      rw[aC DN,aC DN];refine⟨?_,by simp[aB.bq,bH]⟩
      simp only[not_or]at DN;have hu:iD []=true:=rfl;unfold fD;simp only[aB.au,aB.num,aB.text,aB.items,q8,lJ,mD,DN,KS,KW,KU,DO,hu]
      by_cases e15:k=15
      ·simp[e15]
      · by_cases e12:k=12\/k=13
        ·simp[*]
        · by_cases e2:k=2
          ·simp[e2]
          · simp only[e15,e12,DO,e2];have:kW k 0=true:=by
              unfold kW;split
              ·rfl
              ·have hp:∀n:Nat,(0:Int)<2^n:=λn=>Ea aY;grind
            grind
theorem sP(h:bC f)(b:f.small=true):f.bZ=f.zv/\f.fit f.bZ=true/\f.bZ.bq=f.wz/\f.wz<=4194304:=by
 have a:f.wz<=4194304:=by simpa[aq.small]using b
 have e:f.bZ=f.zv:=by unfold aq.bZ;simp[*]
 obtain⟨c,d⟩:=YE f h;grind
theorem jT{x:Int×Raw}{g:Raw->Int×Raw}(h:(cR x g).1=0):x.1=0/\(g x.2).1=0/\cR x g=g x.2:=by
 unfold cR at h ⊢;grind
theorem aoF{n:Bool}{r:Raw}(h:(eO n r).1=0):r.b.rows<4096/\(eO n r).2=r.up (Rb.row n):=by
 unfold eO at h ⊢;grind
theorem pX{n:Nat}{r:Raw}(h:(fB n r).1=0):r.b.bB+n<=4194304/\(fB n r).2=r.up λb=>{b with bB:=b.bB+n}:=by
 grind[fB]
theorem Rb.eq{a b:Rb}(o:a.rows=b.rows)(n:a.ck=b.ck)(k:a.bits=b.bits)(h:a.bB=b.bB)(g:a.dV=b.dV)(f:a.texts=b.texts)(e:a.ends=b.ends)(d:a.all=b.all)(c:a.aF=b.aF):a=b:=by
 cases a;cases b;simp_all
abbrev tK:=@Rb.eq
theorem lz{r:Raw}{c:Raw}(h:i<r.kids.length):(r.fk i c).aL i=c:=by
 cases r;simp only[Raw.fk,Raw.aL,Raw.kids]at h ⊢;simp[*]
theorem vJ{r:Raw}{c:Raw}:(r.fk i c).kids.length=r.kids.length:=by cases r;simp[Raw.fk,Raw.kids]
theorem anG{r:Raw}{c d:Raw}:(r.fk i c).fk i d=r.fk i d:=by cases r;simp[Raw.fk,Raw.kids,Raw.b]
theorem m5{r:Raw}{c:Raw}:(r.fk i c).b=r.b:=rfl
theorem AU{r:Raw}{c:Raw}(h:i≠j):(r.fk i c).aL j=r.aL j:=by
 cases r;simp only[Raw.fk,Raw.aL,Raw.kids];simp[*]
theorem anH{r:Raw}(h:i<r.kids.length):r.fk i (r.aL i)=r:=by
  cases r with
  | mk b ks=>
    simp only[Raw.fk,Raw.aL,Raw.kids,Raw.b]at h⊢
    simp[*]
theorem iT{r:Raw}{g:Rb->Rb}:(r.up g).aL i=r.aL i:=by cases r;rfl
theorem jS{r:Raw}{g:Rb->Rb}:(r.up g).kids=r.kids:=by cases r;rfl
theorem gq{r:Raw}{g:Rb->Rb}:(r.up g).b=g r.b:=by cases r;rfl
theorem Raw.eq{a b:Raw}(d:a.b=b.b)(c:a.kids=b.kids):a=b:=by
 cases a;cases b;simp only[Raw.b,Raw.kids]at d c;rw[d,c]
def dU(c:aq)(g:Raw->Int×Raw)(x:aB):Prop:=∀vs,c.can vs->(g (c.st vs)).1=0->c.can (vs++[x])/\(g (c.st vs)).2=c.st (vs++[x])
theorem vW{g:Raw->Int×Raw}{Y:aB}(b:dU c g Y){r:Raw}{i:Nat}{kv:aP}(a:r.aL i=c.st kv)(d:c.can kv)(h:(di i g r).1=0):c.can (kv++[Y])/\(di i g r).2=r.fk i (c.st (kv++[Y])):=by
 unfold di at h ⊢;rw[a]at h ⊢;obtain⟨f,e⟩:=b kv d h;simp[*]
theorem Fm{G:aB->Raw->Int×Raw}:∀{xs:aP},(∀x∈xs,dU c (G x) x)->∀{r:Raw}{kv:aP},i<r.kids.length->r.aL i=c.st kv->c.can kv->(fm (xs.map λx=>di i (G x)) r).1=0->
    c.can (kv++xs)/\(fm (xs.map λx=>di i (G x)) r).2=r.fk i (c.st (kv++xs))
  |[],_,r,kv,a,b,d,_=>by rw[oH];exact⟨d,by rw[<-b,anH a];rfl⟩
  | x::xs,f,r,kv,a,b,d,h=>by
    simp only[rm,fm]at h ⊢;obtain⟨m,g,l⟩:=jT h;obtain⟨j,e⟩:=vW (f x aA) b d m;rw[l,e];rw[e]at g;have:=Fm (λy k=>f y (by simp[k])) (by rw[vJ];exact a) (lz a) j g
    grind[List.append_assoc,anG]
theorem JA:∀(a:List (Raw->Int×Raw))(g:Raw->Int×Raw)(r:Raw),fm (a++[g]) r=cR (fm a r) g
  | [],g,r=>by
    simp only[Ai,fm,cR];grind
  | f::a,g,r=>by
    simp only[yJ,fm,cR];split
    ·rw[JA a g];rfl
    simp
theorem D6{cs:cC}{G:Nat->Raw->Int×Raw}{x:Nat->aB}{kv:Nat->List aB}{r:Raw}(hl:r.kids.length=cs.length)(j:∀i c,cs[i]? =some c->r.aL i=c.st (kv i)/\c.can (kv i))(k:∀i c,cs[i]? =some c->dU c (G i) (x i)):∀m,m<=cs.length->(fm ((List.range m).map λi=>di i (G i)) r).1=0->(fm ((List.range m).map λi=>di i (G i)) r).2.b=r.b/\(fm ((List.range m).map λi=>di i (G i)) r).2.kids.length=cs.length/\
      ∀i c,cs[i]? =some c->(i<m->c.can (kv i++[x i]))/\(fm ((List.range m).map λi=>di i (G i)) r).2.aL i=if i<m then c.st (kv i++[x i])else c.st (kv i)
  |0,_,_=>⟨rfl,hl,λi c d=>⟨λq=>ag,by rw[ay];exact(j i c d).1⟩⟩
  | m+1,y,h=>by
    rw[uX,kR,HA,JA]at h ⊢;obtain⟨t,s,p⟩:=jT h;obtain⟨w,v,l⟩:=D6 hl j k m ag t;have a:cs[m]? =some cs[m]:=aA;have f:=(l m _ a).2;rw[ay]at f;obtain⟨o,n⟩:=vW (k m _ a) f (j m _ a).2 s;rw[p,n];refine⟨w,by rw[vJ];exact v,λi c d=>?_⟩
    by_cases e:i=m
    ·subst e;rw[a]at d;cases d;exact⟨λ_=>o,by rw[lz ag,dR]⟩
    ·obtain⟨u,b2⟩:=l i c d;refine⟨λq=>u ag,?_⟩;grind[AU]
theorem kz{l:Bool}(h:fD k w l F v=true)(a:v.au=true):v=v0/\l=true:=by
 unfold fD at h;simp only[a,gu,dm,dQ]at h;obtain⟨_,⟨⟨d,c⟩,b⟩,e⟩:=h;obtain⟨n,x,t,s⟩:=v;simp only[aB.num,jv]at a d c b;subst a d c b;exact⟨rfl,e⟩
theorem OZ:v0.bq=16:=rfl
theorem lN(vs:aP)(v:aB):bH (vs++[v])=bH vs+v.bq:=by rw[oT];simp[bH]
theorem tH{vs:aP}(h:f.can vs)(g:f.fit v=true)(l:vs.length<4096)(b:bH vs+v.bq<=4194304)(tx:f.k=12\/f.k=13->(vs.flatMap aB.text).length+v.text.length<=65536)
  (ds:f.k=19->(dS (vs++[v])).length<=oB f.ix) (aL:∀(j:Nat)c,f.cs[j]? =some c->c.can (dJ f.k f.w (dI f.cs) j (vs++[v]))):f.can (vs++[v]):=by
 refine(gk f _).2 ⟨λu d=>?_,by simp;omega,by rw[lN];exact b,λe=>bU,ds,λj o a=>?_⟩
 ·rcases nt.1 d with q|q
  ·exact((gk f vs).1 h).fit u q
  grind
 ·rw[fh,tU]at a;obtain⟨c,i,rfl⟩:=a;simp[*]
theorem sO{vs:aP}{r:Raw}(g:r.b=aK f.k vs)(hl:r.kids.length=f.cs.length)(e:∀(j:Nat)c,f.cs[j]? =some c->r.aL j=c.st (dJ f.k f.w (dI f.cs) j vs)):r=f.st vs:=by
  rw[Hx];refine Raw.eq g (sE λj=>?_)
  show r.kids[j]? =((List.range f.cs.length).map _)[j]?
  rw[fh]
  by_cases a:j<f.cs.length
  · have d:f.cs[j]? =some f.cs[j]:=aA;have:=e j _ d;rw[Eh a];simp only[pH,gL,fh,d,oI];rw[<-this];cases r with
    | mk b ks=>
      have h:ks.length=f.cs.length:=hl
      show ks[j]? =some (ks.getD j r0)
      simp[*]
  simp[*]
theorem fF(f:aq)(vs:aP):(f.st vs).b=aK f.k vs:=by rw[Hx];rfl
theorem amU(f:aq)(vs:aP):(f.st vs).kids.length=f.cs.length:=by rw[Hx];simp[Raw.kids]
theorem sS(k:Int)(vs:aP)(v:aB)(n:Bool):((aK k vs).row n).rows=(aK k (vs++[v])).rows:=by simp[Rb.row,aK]
theorem sU{vs:aP}{n:Bool}(h:eu k v=n):((aK k vs).row n).ck=(aK k (vs++[v])).ck:=by
 simp only[Rb.row,aK];grind
theorem qI{vs:aP}{n:Bool}(h:eu k v=n):((aK k vs).row n).bits=(aK k (vs++[v])).bits:=by
 rw[Rb.qI];simp only[aK,kR,rm,Cb,apx,cm,h]
theorem mN(vs:aP):(fH k=false->(aK k vs).dV=[]/\(aK k vs).texts=[])/\(¬(k=12\/k=13\/k=15\/k=18\/k=19\/k=20)->(aK k vs).ends=[])/\(¬(k=12\/k=13\/k=18)->(aK k vs).all=[])/\(¬(k=19\/k=20)->(aK k vs).aF=[]):=by
 refine⟨λh=>by simp[aK,h],λh=>?_,λh=>?_,λh=>?_⟩ <;> simp only[not_or]at h <;> simp[aK,h]
structure jj(f:aq)(vs:aP)(v:aB)(n:Bool)(r1:Raw):Prop where
 lt:vs.length<4096
 b:r1.b=(aK f.k vs).row n
 kids:r1.kids=(f.st vs).kids
theorem jj.of{vs:aP}{n:Bool}(h:(eO n (f.st vs)).1=0):jj f vs v n (eO n (f.st vs)).2:=by
 obtain⟨b,a⟩:=aoF h;rw[fF]at b;exact⟨b,by rw[a,gq,fF],by rw[a,jS]⟩
theorem jj.aL{vs:aP}{n:Bool}{a:Raw}(R:jj f vs v n a){j:Nat}{c:aq}(u:f.cs[j]? =some c):a.aL j=c.st (dJ f.k f.w (dI f.cs) j vs):=by
 rw[<-mW u];unfold Raw.aL;rw[R.kids]
theorem jj.len{vs:aP}{n:Bool}{h:Raw}(R:jj f vs v n h):h.kids.length=f.cs.length:=by rw[R.kids,amU]
theorem qk(c:aq)(vs:aP):(c.st vs).b.bB=bH vs:=by rw[fF];rfl
theorem AT(c:aq)(vs:aP):(c.st vs).b.rows=vs.length:=by rw[fF];rfl
theorem Zz(T:bC f)(S:f.k≠15/\f.k≠16/\f.k≠17/\f.k≠18/\f.k≠19/\f.k≠20){v:aB}(i:f.fit v=true):dU f (λr=>f.tk r v) v:=by
  intro vs O h;dsimp only at h ⊢;obtain⟨q,p,o,l,n,m⟩:=S;have a:f.cs=[]:=by
    have:=T.right.1.2.2.2.2.2.2.2.2.2.2 ⟨q,p,n,m,o,l⟩;exact jv.1 this
  rw[kD]at h ⊢;rw[eL]at i;have A:f.fit v=true:=by rw[eL];exact i
  unfold iE at h⊢
  by_cases x:f.k=1
  · simp only[aI x]at h ⊢;obtain⟨I,y,H⟩:=jT h;have R:=jj.of (v:=v) I;obtain⟨u,E⟩:=pX y;have t:v.au=true:=by
      cases t:v.au with
      |true=>rfl
      |false=>unfold fD at i;simp[t,x]at i
    obtain⟨rfl,_⟩:=kz i t;rw[R.b]at u;have w:eu f.k v0=true:=by simp[eu,x]
    refine⟨tH O A R.lt ?_ ag ag λj c d=>bU,?_⟩
    ·have:((aK f.k vs).row true).bB=bH vs:=rfl;rw[OZ];omega
    · rw[H,E];refine sO ?_ (by rw[jS,R.len]) λj c d=>bU
      rw[gq,R.b];obtain⟨C,L,K,F⟩:=mN vs;obtain⟨D,N,M,G⟩:=mN _;have s:fH f.k=false:=by simp[fH,x]
      refine tK (sS f.k vs v0 true) (sU w) (qI w) ?_ ((C s).1.trans (D s).1.symm) ((C s).2.trans (D s).2.symm) ((L ag).trans (N ag).symm) ((K ag).trans (M ag).symm) ((F ag).trans (G ag).symm)
      show bH vs+16=bH _
      rw[lN,OZ]
  simp only[aC x]at h⊢
  by_cases g:f.k=12\/f.k=13
  · simp only[aI g]at h ⊢;obtain⟨I,y,H⟩:=jT h;have R:=jj.of (v:=v) I;rw[H];have Q:(eO v.au (f.st vs)).2.b.all=vs.flatMap aB.text:=by rw[R.b];show(aK f.k vs).all=_;simp[aK,g]
    rw[Q]at y ⊢;split at y
    ·simp at y
    rename_i P
    rw[aC P];obtain⟨u,E⟩:=pX y;rw[gq,R.b]at u;have u:bH vs+(16+v.text.length)<=4194304:=u;have B:v.items=[]:=by
      cases t:v.au with
      |true=>rw[(kz i t).1];rfl
      | false=>
        unfold fD at i;grind
    have z:v.bq=16+v.text.length:=by rw[gV,B];rfl
    have w:eu f.k v=v.au:=by unfold eu;simp[*]
    refine⟨tH O A R.lt ag (λ_=>ag) ag λj c d=>bU,?_⟩
    rw[E];refine sO ?_ (by rw[jS,jS,R.len]) λj c d=>bU
    rw[gq,gq,R.b];obtain⟨C,L,K,F⟩:=mN vs;obtain⟨D,N,M,G⟩:=mN (vs++[v]);have s:fH f.k=false:=by rcases g with e|e <;> simp[fH,e]
    refine tK (sS f.k vs v v.au) (sU w) (qI w) ?_ ((C s).1.trans (D s).1.symm) ((C s).2.trans (D s).2.symm) ?_ ?_ ((F ag).trans (G ag).symm)
    · show bH vs+(16+v.text.length)=bH (vs++[v])
      rw[lN,z]
    · show(aK f.k vs).ends++[(aK f.k vs).all.length+v.text.length]=(aK f.k (vs++[v])).ends
      simp only[aK,aI g,Jq];simp
    · show(aK f.k vs).all++v.text=(aK f.k (vs++[v])).all
      simp[aK,g]
  simp only[aC g,aC q,aC p,aC o,aC l,aC n,aC m]at h ⊢;obtain⟨I,y,H⟩:=jT h;have R:=jj.of (v:=v) I;rw[H];obtain⟨u,E⟩:=pX y;rw[gq,R.b]at u;have u:bH vs+(16+v.text.length)<=4194304:=u;have B:v.items=[]:=by
    cases t:v.au with
    |true=>rw[(kz i t).1];rfl
    | false=>
      unfold fD at i
      grind
  have z:v.bq=16+v.text.length:=by rw[gV,B];rfl
  have w:eu f.k v=v.au:=by unfold eu;simp[*]
  refine⟨tH O A R.lt ag ag ag λj c d=>bU,?_⟩
  rw[E];refine sO ?_ (by rw[jS,jS,R.len]) λj c d=>bU
  rw[gq,gq,R.b];obtain⟨C,L,K,F⟩:=mN vs;obtain⟨D,N,M,G⟩:=mN (vs++[v]);have s:fH f.k=true:=by
    simp only[not_or]at g;simp[fH,x,g,q,p,o,l,n,m]
  refine tK (sS f.k vs v v.au) (sU w) (qI w) ?_ ?_ ?_ ((L ag).trans (N ag).symm) ((K ag).trans (M ag).symm) ((F ag).trans (G ag).symm)
  · show bH vs+(16+v.text.length)=bH (vs++[v])
    rw[lN,z]
  · show(aK f.k vs).dV++_=(aK f.k (vs++[v])).dV
    simp[aK,s]
  · show(aK f.k vs).texts++_=(aK f.k (vs++[v])).texts
    simp[aK,s]
theorem zR{vs:aP}:dJ 15 w X j vs=vs.flatMap aB.items:=by simp[dJ]
theorem BK{vs:aP}:dJ 16 w X j vs=vs.flatMap λv=>if v.au then List.replicate w.toNat (X.getD 0 v0)else v.items:=by simp[dJ]
theorem DS{vs:aP}:dJ 17 w X j vs=vs.map λv=>if v.au then X.getD j v0 else v.items.getD j v0:=by simp[dJ]
theorem DR{vs:aP}:dJ 18 w X j vs=(vs.filter λv=>decide (fL v=j)).map λv=>v.items.getD 0 v0:=by simp[dJ]
theorem BJ{vs:aP}:dJ 19 w X j vs=dS vs:=by simp[dJ]
theorem DQ{vs:aP}:dJ 20 w X j vs=(cO vs).1:=by simp[dJ]
theorem RS(vs:aP):(vs.map aB.bq).sum=bH vs:=(E6 vs).symm
theorem Bc(a:f.cs=[c]){j:Nat}{d:aq}(h:f.cs[j]? =some d):j=0/\d=c:=by
 grind
theorem ac3(b:f.cs=[c])(g:f.k=15){v:aB}(a:f.fit v=true):v.text=[]/\∀x∈v.items,c.fit x=true:=by
  rw[eL]at a;cases d:v.au with
  |true=>rw[(kz a d).1];exact⟨rfl,λx e=>by simp[v0,aB.items]at e⟩
  | false=>
    simp_all[fD]
theorem KC(b:f.cs=[c])(e:f.k=16){v:aB}(a:f.fit v=true)(d:v.au=false):v.text=[]/\v.items.length=f.w.toNat/\∀x∈v.items,c.fit x=true:=by
 rw[eL]at a;simp_all[fD]
theorem afa:∀{F:List (aB->Bool)}{vs:aP},sx F vs=true->F.length=vs.length/\∀(i:Nat)g,F[i]? =some g->g (vs.getD i v0)=true
  |[],[],_=>⟨rfl,λi g h=>by simp at h⟩
  |[],_::_,h=>by simp[sx]at h
  |_::_,[],h=>by simp[sx]at h
  | g::F,v::vs,h=>by
    simp only[sx,dm]at h;obtain⟨c,b⟩:=afa h.2;refine⟨by simp[c],λi d a=>?_⟩
    cases i with
    |zero=>grind
    |succ i=>simp at a;grind
theorem DF(h:f.k=17){v:aB}(a:f.fit v=true)(d:v.au=false):v.text=[]/\v.items.length=f.cs.length/\∀(i:Nat)c,f.cs[i]? =some c->c.fit (v.items.getD i v0)=true:=by
 rw[eL]at a;unfold fD at a;rw[h]at a;simp[d]at a;obtain⟨g,e⟩:=afa a.2.2.2;simp_all
theorem KH(j:f.k=18)(hl:f.lets=false){v:aB}(a:f.fit v=true):v.au=false/\v.text=[]/\0<=v.num/\∃c x,f.cs[fL v]? =some c/\v.items=[x]/\c.fit x=true:=by
  rw[eL]at a;cases g:v.au with
  |true=>have:=(kz a g).2;grind
  | false=>
    unfold fD at a;rw[j]at a;simp[g]at a;obtain⟨_,m,l,o,i,h⟩:=a;have b:fL v<f.cs.length:=by unfold fL;omega
    obtain⟨x,d⟩:∃x,v.items=[x]:=by
      match n:v.items,i with
      |[x],_=>simp
    refine⟨rfl,m,l,f.cs[fL v],x,bx b,d,?_⟩;have e:v.num.toNat=fL v:=rfl;simp_all
theorem sW(a:f.k≠1)(b:f.k≠18)(nS:f.k≠20):eu f.k v=v.au:=by unfold eu;simp[*]
theorem amO(X:bC f)(a:f.cs=[c])(l:f.k=15)(U:∀x,c.fit x=true->dU c (λr=>c.tk r x) x){v:aB}(A:f.fit v=true):dU f (λr=>f.tk r v) v:=by
 intro vs B h;dsimp only at h ⊢;have n:f.cs[0]? =some c:=by rw[a];rfl
 rw[kD]at h ⊢;unfold iE at h ⊢;rw[ay,ay,aI l]at h ⊢;obtain⟨T,D,S⟩:=jT h;have R:=jj.of (v:=v) T;rw[S];have hT:(f.cs.map aq.tk).getD 0 ou=c.tk:=by rw[a];rfl
 rw[hT]at D ⊢;obtain⟨Q,C,P⟩:=jT D;obtain⟨M,N⟩:=ac3 a l A;have m:=R.aL n;obtain⟨F,E⟩:=Fm (λx L=>U x (N x L)) (by rw[R.len,a];simp) m (fy n B) Q
 rw[P];rw[E]at C ⊢;obtain⟨o,t⟩:=pX C;have g:0<(eO v.au (f.st vs)).2.kids.length:=by rw[R.len,a];simp
 have O:eJ (((eO v.au (f.st vs)).2).fk 0 (c.st (dJ f.k f.w (dI f.cs) 0 vs++v.items))) 0-eJ (eO v.au (f.st vs)).2 0=bH v.items:=by
  unfold eJ;rw[lz g,m,qk,qk,oT];omega
 rw[O]at o t ⊢;rw[gq,m5,R.b]at o;have o:bH vs+(16+bH v.items)<=4194304:=o;have s:v.bq=16+bH v.items:=by rw[gV,M];rfl
 have u:eu f.k v=v.au:=sW ag ag ag;have e:dJ f.k f.w (dI f.cs) 0 (vs++[v])=dJ f.k f.w (dI f.cs) 0 vs++v.items:=by rw[l,zR,zR];simp
 refine⟨tH B A R.lt ag ag ag λj d q=>?_,?_⟩
 ·grind[Bc]
 ·rw[t];refine sO ?_ (by rw[jS,jS,vJ,R.len]) λj d q=>?_
  ·rw[gq,gq,m5,R.b];obtain⟨y,V,I,H⟩:=mN vs;obtain⟨z,W,K,J⟩:=mN _;have p:fH f.k=false:=by rw[l];rfl
   refine tK (sS f.k vs v v.au) (sU u) (qI u) ?_ ((y p).1.trans (z p).1.symm) ((y p).2.trans (z p).2.symm) ?_ ((I ag).trans (K ag).symm) ((H ag).trans (J ag).symm)
   ·show bH vs+(16+bH v.items)=bH _
    rw[lN,s]
   ·show(aK f.k vs).ends++[((((eO v.au _).2).fk 0 _).aL 0).b.rows]=(aK f.k (vs++[v])).ends
    rw[lz g,AT,<-e,l,zR];simp[aK,Jq,B2]
  grind[Bc,iT,lz]
theorem JE{α β:Type}(n:Nat)(a:α)(b:β):List.replicate n b=(List.replicate n a).map λ_=>b:=aA
theorem ZJ(a:f.cs=[c])(S:f.k=16){vs:aP}{v:aB}{n:Bool}{m:Raw}(R:jj f vs v n m)(E:f.can vs)(Q:f.fit v=true)(D:eu f.k v=n){l:aP}{G:aB->Raw->Int×Raw}(O:∀x∈l,dU c (G x) x)
  (o:dJ f.k f.w (dI f.cs) 0 (vs++[v])=dJ f.k f.w (dI f.cs) 0 vs++l) {s:Raw->Nat} (P:∀e,(∃C,e=m.fk 0 (c.st C)/\C=dJ f.k f.w (dI f.cs) 0 vs++l)->s e=v.bq) (h:(cR (fm (l.map λx=>di 0 (G x)) m) λe=>fB (s e) e).1=0):f.can (vs++[v])/\(cR (fm (l.map λx=>di 0 (G x)) m) λe=>fB (s e) e).2=f.st (vs++[v]):=by
 have p:f.cs[0]? =some c:=by rw[a];rfl
 obtain⟨U,u,T⟩:=jT h;have g:0<m.kids.length:=by rw[R.len,a];simp
 obtain⟨H,z⟩:=Fm O g (R.aL p) (fy p E) U;rw[T];have y:=P _ ⟨_,z,rfl⟩;rw[y]at u ⊢;rw[z]at u ⊢;obtain⟨q,F⟩:=pX u;rw[m5,R.b]at q;have q:=q;refine⟨tH E Q R.lt q ag ag λj d t=>?_,?_⟩
 ·grind
 ·rw[F];refine sO ?_ (by rw[jS,vJ,R.len]) λj d t=>?_
  ·rw[gq,m5,R.b];obtain⟨A,K,J,I⟩:=mN vs;obtain⟨B,N,M,L⟩:=mN _;have r:fH f.k=false:=by rw[S];rfl
   refine tK (sS f.k vs v n) (sU D) (qI D) ?_ ((A r).1.trans (B r).1.symm) ((A r).2.trans (B r).2.symm) ((K ag).trans (N ag).symm) ((J ag).trans (M ag).symm) ((I ag).trans (L ag).symm)
   show bH vs+v.bq=bH _
   rw[lN]
  grind[Bc,iT,lz]
theorem GA(a:f.cs=[c]){vs:aP}{v:aB}{n:Bool}{d i:Raw}(R:jj f vs v n d){kv h:aP}(j:i=d.fk 0 (c.st kv))(e:kv=dJ f.k f.w (dI f.cs) 0 vs++h):eJ i 0-eJ d 0=bH h:=by
 have g:f.cs[0]? =some c:=by rw[a];rfl
 have b:0<d.kids.length:=by rw[R.len,a];simp
 subst j e;unfold eJ;rw[lz b,R.aL g,qk,qk,oT];omega
theorem amM(C:bC f)(a:f.cs=[c])(d:f.k=16)(z:∀x,c.fit x=true->dU c (λr=>c.tk r x) x)(y:dU c c.zk c.bZ){v:aB}(g:f.fit v=true):dU f (λr=>f.tk r v) v:=by
  intro vs n h;dsimp only at h ⊢;rw[kD]at h ⊢;unfold iE at h ⊢;rw[ay,ay,ay,aI d]at h ⊢;obtain⟨t,e,s⟩:=jT h;have R:=jj.of (v:=v) t;rw[s];have hT:(f.cs.map aq.tk).getD 0 ou=c.tk:=by rw[a];rfl
  have q:(f.cs.map aq.zk).getD 0 og=c.zk:=by rw[a];rfl
  have hN:(dI f.cs).getD 0 v0=c.bZ:=by rw[a];rfl
  rw[hT,q]at e ⊢;have i:eu f.k v=v.au:=sW ag ag ag;cases b:v.au with
  | true=>
    simp only[b,gu]at e ⊢;rw[b]at R i;have l:v=v0:=by rw[eL]at g;exact(kz g b).1
    rw[JE f.w.toNat c.bZ]at e ⊢;exact ZJ a d R n g i (λx j=>by simp_all) (by rw[d,BK,BK,hN];simp[b]) (λ_ _=>by rw[l];rfl) e
  | false=>
    simp only[b,mD]at e ⊢;rw[b]at R i;obtain⟨o,hl,p⟩:=KC a d g b;refine ZJ a d R n g i (λx j=>z x (p x j)) (by rw[d,BK,BK,hN];simp[b]) (λA m=>?_) e
    grind[GA,gV]
theorem sum_add(g h:Nat->Nat):∀n,((List.range n).map λi=>g i+h i).sum=((List.range n).map g).sum+((List.range n).map h).sum
  |0=>rfl
  | n+1=>by
    rw[uX,kR,kR,kR,Hz,Hz,Hz,sum_add g h n];simp;omega
theorem Jr{g h:Nat->Nat}{n:Nat}(e:∀i,i<n->g i=h i):((List.range n).map g).sum=((List.range n).map h).sum:=by
 grind[List.map_congr_left]
theorem Fj{α:Type}(g:α->Nat)(d:α):∀l:List α,((List.range l.length).map λi=>g (l.getD i d)).sum=(l.map g).sum
  |[]=>rfl
  | a::l=>by
    rw[iq,List.range_succ_eq_map,rm,L0,UP,rm,UP]
    congr 1
    rw[<-Fj g d l];rfl
theorem pZ(r:Raw):total r=((List.range r.kids.length).map λi=>(r.aL i).b.bB).sum:=by
 unfold total Raw.aL;rw[Fj (λc:Raw=>c.b.bB)]
theorem Zx(Q:f.k=17){vs:aP}{v:aB}{n:Bool}{l:Raw}(R:jj f vs v n l)(E:f.can vs)(P:f.fit v=true)(D:eu f.k v=n){x:Nat->aB}{G:Nat->Raw->Int×Raw}(N:∀i c,f.cs[i]? =some c->dU c (G i) (x i))
  (o:∀i,i<f.cs.length->dJ f.k f.w (dI f.cs) i (vs++[v])=dJ f.k f.w (dI f.cs) i vs++[x i]) {s:Raw->Nat} (O:∀e,(total e-total l=((List.range f.cs.length).map λi=>(x i).bq).sum)->s e=v.bq) (h:(cR (fm ((List.range f.cs.length).map λi=>di i (G i)) l) λe=>fB (s e) e).1=0):f.can (vs++[v])/\(cR (fm ((List.range f.cs.length).map λi=>di i (G i)) l) λe=>fB (s e) e).2=f.st (vs++[v]):=by
 obtain⟨V,t,U⟩:=jT h;obtain⟨z,y,u⟩:=D6 R.len (λi c a=>⟨R.aL a,fy a E⟩) N f.cs.length (bP _) V;rw[U];generalize(fm ((List.range f.cs.length).map λi=>di i (G i)) l).2=e at t z y u;have g:∀(i:Nat)c,f.cs[i]? =some c->e.aL i=c.st (dJ f.k f.w (dI f.cs) i vs++[x i]):=bU
 have T:total e-total l=((List.range f.cs.length).map λi=>(x i).bq).sum:=by
  rw[pZ,pZ,y,R.len];have W:((List.range f.cs.length).map λi=>(e.aL i).b.bB).sum=((List.range f.cs.length).map λi=>(l.aL i).b.bB+(x i).bq).sum:=Jr λi S=>by
   have a:f.cs[i]? =some f.cs[i]:=aA;rw[g i _ a,R.aL a,qk,qk,lN]
  rw[W,sum_add];omega
 have A:=O e T;rw[A]at t ⊢;obtain⟨q,F⟩:=pX t;rw[z,R.b]at q;have q:=q;refine⟨tH E P R.lt q ag ag λj d m=>?_,?_⟩
 ·grind
 ·rw[F];refine sO ?_ (by rw[jS,y]) λj d m=>?_
  ·rw[gq,z,R.b];obtain⟨B,J,I,H⟩:=mN vs;obtain⟨C,M,L,K⟩:=mN _;have r:fH f.k=false:=by rw[Q];rfl
   refine tK (sS f.k vs v n) (sU D) (qI D) ?_ ((B r).1.trans (C r).1.symm) ((B r).2.trans (C r).2.symm) ((J ag).trans (M ag).symm) ((I ag).trans (L ag).symm) ((H ag).trans (K ag).symm)
   show bH vs+v.bq=bH _
   rw[lN]
  grind[iT,List.getElem?_eq_some_iff]
theorem mS{α:Type}{cs:cC}{g:aq->α}{d:α}(h:cs[i]? =some c):(cs.map g).getD i d=g c:=by
 simp[*]
theorem amK(y:bC f)(d:f.k=17)(u:∀c∈f.cs,∀x,c.fit x=true->dU c (λr=>c.tk r x) x)(t:∀c∈f.cs,dU c c.zk c.bZ){v:aB}(e:f.fit v=true):dU f (λr=>f.tk r v) v:=by
  intro vs o h;dsimp only at h ⊢;rw[kD]at h ⊢;unfold iE at h ⊢;rw[ay,ay,ay,ay,aI d]at h ⊢;obtain⟨s,g,q⟩:=jT h;have R:=jj.of (v:=v) s;rw[q];rw[cm]at g ⊢;have j:eu f.k v=v.au:=sW ag ag ag;cases b:v.au with
  | true=>
    simp only[b,gu]at g ⊢;rw[b]at R j;have m:v=v0:=by rw[eL]at e;exact(kz e b).1
    refine Zx d R o e j (x:=λi=>(dI f.cs).getD i v0) (λi c a=>?_) (λi l=>by rw[d,DS,DS];simp[b]) (λ_ _=>by rw[m];rfl) g
    rw[mS a,dI,mS a];grind
  | false=>
    simp only[b,mD,lJ]at g ⊢;rw[b]at R j;obtain⟨p,hl,l⟩:=DF d e b;refine Zx d R o e j (x:=λi=>v.items.getD i v0) (λi c a=>?_) (λi l=>by rw[d,DS,DS];simp[b]) (λw n=>?_) g
    ·rw[mS a];grind
    ·rw[n,<-hl,Fj aB.bq v0,RS,gV,p];rfl
theorem aIj{α:Type}{l m:List α}{d:α}(h:i<l.length):(l++m).getD i d=l.getD i d:=by
 grind
theorem atV{α:Type}{l:List α}{d a:α}:(l++[a]).getD l.length d=a:=by
 simp
theorem arG(z:f.k=18){vs:aP}{v x:aB}{a:Nat}{g:Raw->Int×Raw}(m:fL v=a)(t:v.items=[x])(P:v.text=[])(n:f.cs[a]? =some c)(S:dU c g x)(C:f.can vs)(O:f.fit v=true)
  (h:(tg a g (f.st vs)).1=0):f.can (vs++[v])/\(tg a g (f.st vs)).2=f.st (vs++[v]):=by
 unfold tg at h ⊢;obtain⟨X,W,V⟩:=jT h;have R:=jj.of (v:=v) X;rw[V];obtain⟨I,A,U⟩:=jT W;rw[U];generalize(eO false (f.st vs)).2=p at R I A;have u:a<p.kids.length:=by rw[R.len];exact(cU.1 n).1
 obtain⟨L,K⟩:=vW S (by rw[iT];exact R.aL n) (fy n C) I
 rw[K]at A ⊢;have o:a<(p.up λb=>{b with all:=b.all++[UInt8.ofNat a],ends:=b.ends++[(p.aL a).b.rows]}).kids.length:=by rw[jS];exact u
 have T:eJ ((p.up λb=>{b with all:=b.all++[UInt8.ofNat a],ends:=b.ends++[(p.aL a).b.rows]}).fk a (c.st (dJ f.k f.w (dI f.cs) a vs++[x]))) a-eJ p a=x.bq:=by
  unfold eJ;rw[lz o,R.aL n,qk,qk,lN];omega
 rw[T]at A ⊢;obtain⟨B,J⟩:=pX A;rw[m5,gq,R.b]at B;have B:bH vs+(16+x.bq)<=4194304:=B;have D:v.bq=16+x.bq:=by rw[gV,P,t];simp[bH]
 have F:eu f.k v=false:=by unfold eu;grind
 have l:∀j,dJ f.k f.w (dI f.cs) j (vs++[v])=if j=a then dJ f.k f.w (dI f.cs) j vs++[x]else dJ f.k f.w (dI f.cs) j vs:=by
  intro j;rw[z,DR,DR];simp only[List.filter_append,kR];split
  ·grind
  ·grind
 refine⟨tH C O R.lt ag ag ag λj d s=>?_,?_⟩
 ·grind[aq.TU]
 ·rw[J];refine sO ?_ (by rw[jS,vJ,jS,R.len]) λj d s=>?_
  ·rw[gq,m5,gq,R.b];obtain⟨G,Z,Y,M⟩:=mN vs;obtain⟨H,m2,m3,N⟩:=mN _;have y:fH f.k=false:=by rw[z];rfl
   refine tK (sS f.k vs v false) (sU F) (qI F) ?_ ((G y).1.trans (H y).1.symm) ((G y).2.trans (H y).2.symm) ?_ ?_ ((M ag).trans (N ag).symm)
   ·show bH vs+(16+x.bq)=bH _
    rw[lN,D]
   ·show(aK f.k vs).ends++[(p.aL a).b.rows]=(aK f.k _).ends
    rw[R.aL n,AT,z,DR];simp only[aK];simp only[show¬((18:Int)=15) by omega,gu]
    rw[ij,jw,uX,kR]
    congr 1
    ·grind[List.map_congr_left]
    ·simp[atV,m]
   ·show(aK f.k vs).all++[UInt8.ofNat a]=(aK f.k (vs++[v])).all
    rw[z];simp[aK,m]
  ·rw[iT]
   by_cases e:j=a
   ·simp_all[lz,aI]
   ·rw[AU (λq=>e q.symm),iT,R.aL s,l,aC e]
theorem amR(i:bC f)(b:f.k=18)(o:∀c∈f.cs,∀x,c.fit x=true->dU c (λr=>c.tk r x) x){v:aB}(d:f.fit v=true):dU f (λr=>f.tk r v) v:=by
 intro vs m h;dsimp only at h ⊢;rw[kD]at h ⊢;unfold iE at h ⊢;rw[ay,ay,ay,ay,ay,aI b]at h ⊢;have hl:f.lets=false:=by rw[sY f i];exact i.right.2.1.2.1 b
 obtain⟨_,l,_,c,x,a,g,j⟩:=KH b hl d;have e:v.num.toNat=fL v:=rfl;have n:(f.cs.map aq.tk).getD _ ou=c.tk:=mS a;rw[e,n,g]at h ⊢;exact arG b rfl g l a (o c (bL a) x j) m d h
theorem Dd:∀{l:aP}{i:Nat},gj v l=some i->l[i]? =some v/\∀j,j<i->l[j]? ≠some v
  |[],i,h=>by simp[gj]at h
  | x::f,i,h=>by
    unfold gj at h;split at h
    ·grind
    · rename_i e
      rw[tU]at h;obtain⟨k,a,rfl⟩:=h;obtain⟨d,c⟩:=Dd a;grind
theorem vQ:∀{l:aP},gj v l=none↔v∉l
  |[]=>by simp[gj]
  | x::a=>by
    unfold gj;split
    ·simp[*]
    · rename_i e
      rw[Option.map_eq_none_iff,vQ];grind
theorem P1{m:aP}:∀{l:aP}{i:Nat},gj v l=some i->gj v (l++m)=some i
  |[],i,h=>by simp[gj]at h
  | x::b,i,h=>by
    unfold gj at h;simp only[yJ];unfold gj;split
    ·grind
    · rename_i e
      rw[aC e,tU]at h;obtain⟨k,a,rfl⟩:=h;rw[P1 a];rfl
theorem P0:∀{l:aP},gj v l=none->gj v (l++[v])=some l.length
  |[],_=>by simp[gj]
  | x::a,h=>by
    unfold gj at h;split at h
    ·cases h
    · rename_i e
      rw[Option.map_eq_none_iff]at h;simp only[yJ];unfold gj;rw[aC e,P0 h];rfl
theorem avi{l:aP}{Y:aB}(h:Y∈l):Y∈qS l v:=by
 unfold qS;grind
theorem avh{l:aP}(h:v.au=false):v∈qS l v:=by
 unfold qS;rw[aC (by simp[h])]
 split
 ·rename_i i a;exact bL (Dd a).1
 ·simp
theorem JZ:∀(n:Nat)(vs:aP),vs.length=n->∀u∈vs,u.au=false->u∈dS vs
  | 0,vs,b,u,d,_=>by
    grind
  | n+1,vs,b,u,d,h=>by
    have a:vs≠[]:=by intro e;subst e;simp at b
    obtain⟨c,w,rfl⟩:∃c w,vs=c++[w]:=⟨vs.dropLast,vs.getLast a,(Ae a).symm⟩;rw[x9];rcases nt.1 d with q|q
    ·exact avi (JZ n c bU u q h)
    grind[avh]
theorem AZ:∀(n:Nat)(vs:aP),vs.length=n->(cO vs).2.getLastD 0=vs.length/\(cO vs).1.length=(cO vs).2.length
  | 0,vs,c=>by
    have:vs=[]:=wN c;subst this;exact⟨rfl,rfl⟩
  | n+1,vs,c=>by
    have b:vs≠[]:=by intro e;subst e;simp at c
    obtain⟨a,w,rfl⟩:∃a w,vs=a++[w]:=⟨vs.dropLast,vs.getLast b,(Ae b).symm⟩;obtain⟨f,d⟩:=AZ n a (by simp at c;omega)
    grind[AY,xz,List.eq_nil_of_length_eq_zero,List.length_pos_iff,List.getLastD_concat,List.length_append,List.length_dropLast,List.length_singleton]
theorem KE(b:f.cs=[c])(e:f.k=19\/f.k=20){v:aB}(a:f.fit v=true)(d:v.au=false):c.fit v=true:=by
 rw[eL]at a;simp_all[fD]
theorem amQ(hf:bC f)(n:f.cs=[c])(B:f.k=19)(IH:∀x,c.fit x=true->dU c (λr=>c.tk r x) x){v:aB}(G:f.fit v=true):dU f (λr=>f.tk r v) v:=by
  intro vs C h;dsimp only at h ⊢;have I:f.cs[0]? =some c:=by rw[n];rfl
  have J:=(gk f vs).1 C;rw[kD]at h ⊢;unfold iE at h ⊢;rw[ay,ay,ay,ay,ay,ay,aI B]at h ⊢;obtain⟨h1,q,h3⟩:=jT h;have R:=jj.of (v:=v) h1;rw[h3];have hT:(f.cs.map aq.tk).getD 0 ou=c.tk:=by rw[n];rfl
  rw[hT]at q ⊢;have A:eu f.k v=v.au:=sW ag ag ag;generalize(eO v.au (f.st vs)).2=T at R q;have L:0<T.kids.length:=by rw[R.len,n];simp
  have D:T.b.aF=dS vs:=by rw[R.b];show(aK f.k vs).aF=_;simp[aK,B]
  obtain⟨E,n2,M,n4⟩:=mN vs;obtain⟨F,m2,N,m4⟩:=mN (k:=f.k) _;have p:fH f.k=false:=by rw[B];rfl
  have cont:∀j o,dJ f.k f.w (dI f.cs) j o=dS o:=λj o=>by rw[B,BJ]
  have y:∀o,(aK f.k o).ends=o.map λu=>if u.au then 0 else(gj u (dS o)).getD 0:=λo=>by rw[B];simp[aK]
  have a:∀o,(aK f.k o).aF=dS o:=λo=>by simp[aK,B]
  have O:∀u∈vs,(if u.au then 0 else(gj u (dS (vs++[v]))).getD 0)=if u.au then 0 else(gj u (dS vs)).getD 0:=by
    intro u X;cases S:u.au with
    |true=>rfl
    | false=>
      simp only[mD,lJ];cases s:gj u (dS vs)with
      |none=>simp_all[JZ,vQ]
      | some i=>
        grind[x9,qS,P1]
  have g:(aK f.k (vs++[v])).ends=(aK f.k vs).ends++[if v.au then 0 else(gj v (dS (vs++[v]))).getD 0]:=by
    rw[y,y,kR,HA]
    congr 1
    exact B4 O
  cases z:v.au with
  | true=>
    rw[z]at R A g;simp only[z,gu]at q ⊢;obtain⟨m,H⟩:=pX q;rw[gq,R.b]at m;have m:bH vs+16<=4194304:=m;have Q:v=v0:=by rw[eL]at G;exact(kz G z).1
    have P:v.bq=16:=by rw[Q];rfl
    have l:dS (vs++[v])=dS vs:=by rw[x9];unfold qS;rw[aI z]
    refine⟨tH C G R.lt ag ag (λe=>by rw[l];exact J.ds e) λj d t=>by rw[cont,l,<-cont];exact fy t C,?_⟩
    rw[H];refine sO ?_ (by rw[jS,jS,R.len]) λj d t=>by rw[iT,iT,R.aL t,cont,cont,l]
    rw[gq,gq,R.b];refine tK (sS f.k vs v true) (sU A) (qI A) ?_ ((E p).1.trans (F p).1.symm) ((E p).2.trans (F p).2.symm) ?_ ((M ag).trans (N ag).symm) ?_
    · show bH vs+16=bH (vs++[v])
      rw[lN,P]
    · show(aK f.k vs).ends++[0]=(aK f.k (vs++[v])).ends
      rw[g];rfl
    · show(aK f.k vs).aF=(aK f.k (vs++[v])).aF
      rw[a,a,l]
  | false =>
    rw[z]at R A g;simp only[z,mD,lJ]at q g ⊢;rw[D]at q ⊢;cases s:gj v (dS vs)with
    | some i=>
      simp only[s]at q ⊢;obtain⟨m,H⟩:=pX q;rw[gq,R.b]at m;have m:=m;have l:dS (vs++[v])=dS vs:=by rw[x9];unfold qS;rw[aC (by simp[z]),s]
      refine⟨tH C G R.lt m ag (λe=>by rw[l];exact J.ds e) λj d t=>by rw[cont,l,<-cont];exact fy t C,?_⟩
      rw[H];refine sO ?_ (by rw[jS,jS,R.len]) λj d t=>by rw[iT,iT,R.aL t,cont,cont,l]
      rw[gq,gq,R.b];refine tK (sS f.k vs v false) (sU A) (qI A) ?_ ((E p).1.trans (F p).1.symm) ((E p).2.trans (F p).2.symm) ?_ ((M ag).trans (N ag).symm) ?_
      · show bH vs+v.bq=bH (vs++[v])
        rw[lN]
      · show(aK f.k vs).ends++[i]=(aK f.k (vs++[v])).ends
        rw[g,l,s];rfl
      · show(aK f.k vs).aF=(aK f.k (vs++[v])).aF
        rw[a,a,l]
    | none=>
      simp only[s]at q ⊢;split at q
      ·simp at q
      rename_i K
      rw[aC K];obtain⟨Z,U,Y⟩:=jT q;rw[Y];obtain⟨W,V⟩:=vW (IH v (KE n (.inl B) G z)) (R.aL I) (fy I C) Z;rw[V]at U ⊢;obtain⟨m,H⟩:=pX U;rw[gq,m5,R.b]at m;have m:=m;have l:dS (vs++[v])=dS vs++[v]:=by rw[x9];unfold qS;rw[aC (by simp[z]),s]
      refine⟨tH C G R.lt m ag (λ_=>by rw[l];simp;omega) λj d t=>?_,?_⟩
      ·obtain⟨rfl,rfl⟩:=Bc n t;rw[cont,l,<-cont 0];exact W
      rw[H];refine sO ?_ (by rw[jS,jS,vJ,R.len]) λj d t=>?_
      · rw[gq,gq,m5,R.b];refine tK (sS f.k vs v false) (sU A) (qI A) ?_ ((E p).1.trans (F p).1.symm) ((E p).2.trans (F p).2.symm) ?_ ((M ag).trans (N ag).symm) ?_
        · show bH vs+v.bq=bH (vs++[v])
          rw[lN]
        · show(aK f.k vs).ends++[(aK f.k vs).aF.length]=(aK f.k (vs++[v])).ends
          rw[g,l,P0 s,a];rfl
        · show(aK f.k vs).aF++[v]=(aK f.k (vs++[v])).aF
          rw[a,a,l]
      ·obtain⟨rfl,rfl⟩:=Bc n t;rw[iT,iT,lz L,cont 0 (vs++[v]),l,<-cont 0]
theorem amN(I:bC f)(l:f.cs=[c])(q:f.k=20)(Z:∀x,c.fit x=true->dU c (λr=>c.tk r x) x){v:aB}(F:f.fit v=true):dU f (λr=>f.tk r v) v:=by
  intro vs G h;dsimp only at h ⊢;have u:f.cs[0]? =some c:=by rw[l];rfl
  rw[kD]at h ⊢;unfold iE at h ⊢;rw[ay,ay,ay,ay,ay,ay,ay,aI q]at h ⊢;obtain⟨X,t,W⟩:=jT h;have R:=jj.of (v:=v) X;rw[W];have hT:(f.cs.map aq.tk).getD 0 ou=c.tk:=by rw[l];rfl
  rw[hT]at t ⊢;have C:eu f.k v=false:=by unfold eu;rw[ay,dR]
  generalize(eO false (f.st vs)).2=L at R t;have B:0<L.kids.length:=by rw[R.len,l];simp
  have Y:c.fit v=true:=by
    cases O:v.au with
    |false=>exact KE l (.inr q) F O
    | true=>
      have z:=F;rw[eL]at z;obtain⟨rfl,hl⟩:=kz z O;have K:c.lets=true:=by
        rw[sY f I]at hl;obtain⟨d,P,J⟩:=I.right.2.1.2.2 q;rw[u]at P;cases P;rw[sY c (I.aL (by rw[l];simp)),<-J];exact hl
      rw[eL,K];exact ac2
  have y:L.b.aF=(cO vs).1:=by rw[R.b];show(aK f.k vs).aF=_;simp[aK,q]
  obtain⟨D,n2,M,n4⟩:=mN vs;obtain⟨E,m2,N,m4⟩:=mN _;have p:fH f.k=false:=by rw[q];rfl
  have cont:∀j m,dJ f.k f.w (dI f.cs) j m=(cO m).1:=λj m=>by rw[q,DQ]
  have g:∀m,(aK f.k m).ends=(cO m).2:=λm=>by rw[q];simp[aK]
  have a:∀m,(aK f.k m).aF=(cO m).1:=λm=>by simp[aK,q]
  have A:=(AZ _ vs rfl).1;rw[y]at t⊢
  by_cases e:(cO vs).1.getLast? =some v
  · simp only[e,gu]at t ⊢;obtain⟨n,H⟩:=pX t;rw[gq,R.b]at n;have n:=n;have o:cO (vs++[v])=((cO vs).1,(cO vs).2.dropLast++[(cO vs).2.getLastD 0+1]):=by rw[AY];unfold xz;rw[aI e]
    refine⟨tH G F R.lt n ag ag λj d s=>by rw[cont,o,<-cont j vs];exact fy s G,?_⟩
    rw[H];refine sO ?_ (by rw[jS,jS,R.len]) λj d s=>by rw[iT,iT,R.aL s,cont,cont,o]
    rw[gq,gq,R.b];refine tK (sS f.k vs v false) (sU C) (qI C) ?_ ((D p).1.trans (E p).1.symm) ((D p).2.trans (E p).2.symm) ?_ ((M ag).trans (N ag).symm) ?_
    · show bH vs+v.bq=bH _
      rw[lN]
    · show(aK f.k vs).ends.dropLast++[(aK f.k vs).rows+1]=(aK f.k (vs++[v])).ends
      rw[g,g,o,A];rfl
    · show(aK f.k vs).aF=(aK f.k (vs++[v])).aF
      rw[a,a,o]
  · simp only[e,lJ]at t ⊢;obtain⟨V,Q,U⟩:=jT t;rw[U];obtain⟨T,S⟩:=vW (Z v Y) (R.aL u) (fy u G) V;rw[S]at Q ⊢;obtain⟨n,H⟩:=pX Q;rw[gq,m5,R.b]at n;have n:=n;have o:cO (vs++[v])=((cO vs).1++[v],(cO vs).2++[(cO vs).2.getLastD 0+1]):=by rw[AY];unfold xz;rw[aC e]
    refine⟨tH G F R.lt n ag ag λj d s=>?_,?_⟩
    ·grind[Bc]
    rw[H];refine sO ?_ (by rw[jS,jS,vJ,R.len]) λj d s=>?_
    · rw[gq,gq,m5,R.b];refine tK (sS f.k vs v false) (sU C) (qI C) ?_ ((D p).1.trans (E p).1.symm) ((D p).2.trans (E p).2.symm) ?_ ((M ag).trans (N ag).symm) ?_
      · show bH vs+v.bq=bH (vs++[v])
        rw[lN]
      · show(aK f.k vs).ends++[(aK f.k vs).rows+1]=(aK f.k (vs++[v])).ends
        rw[g,g,o,A];rfl
      · show(aK f.k vs).aF++[v]=(aK f.k (vs++[v])).aF
        rw[a,a,o]
    grind[Bc,iT,lz]
def vj(c:aq):Prop:=∀vs,c.can vs->(c.zk (c.st vs)).1=0->c.small=true
theorem CZ(f:aq):f.small=true↔f.wz<=4194304:=by simp[aq.small]
theorem Pg(b:bC f)(c:¬(16<=f.k/\f.k<=20)):f.small=true:=by
 rw[CZ,Aa];unfold ze;split
 ·omega
 ·have a:=b.right.1.2.2.1;grind
theorem akE(a:¬f.small=true):f.lets=false:=by
  cases hl:f.lets with
  |false=>rfl
  | true=>
    exfalso;apply a
    rw[CZ,Aa,ze,hl];simp
theorem ajX(H:bC f)(J:∀c∈f.cs,dU c c.zk c.bZ/\vj c):vj f:=by
  intro vs u h;apply yL;intro O;have hk:=yL λq=>O (Pg H q);have j:4194304<f.wz:=by rw[CZ]at O;omega
  rw[Aa,ze,(akE O)]at j;rw[sy]at h;unfold nH at h;rw[aC (by simp[O,hk])]at h
  simp only[mD,lJ]at j;rw[ay]at j
  by_cases A:f.k=16
  · obtain⟨c,o,D⟩:=H.one ag;have s4:=H.right.1.2.2.2.1 A;have d:f.cs[0]? =some c:=by rw[o];rfl
    obtain⟨T,B⟩:=J c (by rw[o];simp)
    rw[aI A]at h j;have hZ:(f.cs.map aq.zk).getD 0 og=c.zk:=by rw[o];rfl
    have hW:(f.cs.map aq.wz).getD 0 0=c.wz:=by rw[o];rfl
    rw[hZ]at h;rw[hW]at j;obtain⟨y,p,P⟩:=jT h;have R:=jj.of (v:=v0) y;obtain⟨n,l,h6⟩:=jT p;have s:0<(eO false (f.st vs)).2.kids.length:=by rw[R.len,o];simp
    have hw:f.w.toNat=(f.w.toNat-1)+1:=ag;have C:c.small=true:=by
      rw[hw,HF,fm]at n;obtain⟨V,_,_⟩:=jT n;unfold di at V;rw[R.aL d]at V;exact B _ (fy d u) V
    rw[JE f.w.toNat c.bZ]at n l;obtain⟨q1,S⟩:=Fm (λx hx=>by grind) s (R.aL d) (fy d u) n
    obtain⟨_,_,W,_⟩:=sP D C;rw[GA o R S rfl,YQ,W]at l;obtain⟨Y,_⟩:=pX l;omega
  rw[aC A]at h j
  by_cases L:f.k=17
  · rw[aI L]at h j;obtain⟨y,p,P⟩:=jT h;have R:=jj.of (v:=v0) y;obtain⟨n,l,h6⟩:=jT p;rw[cm]at n l;have N:∀m,m<=f.cs.length->(fm ((List.range m).map λi=>di i ((f.cs.map aq.zk).getD i og)) (eO false (f.st vs)).2).1=0->∀i c,i<m->f.cs[i]? =some c->c.small=true:=by
      intro m
      induction m with
      |zero=>omega
      | succ m ih=>
        intro hm hh i c t r;rw[uX,kR,HA,JA]at hh;obtain⟨g1,I,g3⟩:=jT hh
        by_cases e:i<m
        ·exact ih ag g1 i c e r
        · obtain rfl:i=m:=ag;have E:∀i c,f.cs[i]? =some c->dU c ((f.cs.map aq.zk).getD i og) (c.bZ):=by grind[mS,List.mem_of_getElem?]
          obtain⟨_,_,Q⟩:=D6 (x:=λi=>(dI f.cs).getD i v0) R.len (λi c a=>⟨R.aL a,fy a u⟩) (λi c a=>by rw[dI,mS (g:=aq.bZ) a];exact E i c a) i ag g1
          have:=(Q i c r).2;rw[ay]at this;unfold di at I;dsimp only at this I;rw[mS r]at I
          erw[this]at I
          exact(J c (bL r)).2 _ (fy r u) I
    obtain⟨a1,a2,Q⟩:=D6 (x:=λi=>(dI f.cs).getD i v0) R.len (λi c a=>⟨R.aL a,fy a u⟩) (λi c a=>by rw[dI,mS a,mS a];grind[List.mem_of_getElem?]) f.cs.length (bP _) n
    generalize(fm ((List.range f.cs.length).map λi=>di i ((f.cs.map aq.zk).getD i og)) (eO false (f.st vs)).2).2=Z at l a1 a2 Q;have U:total Z-total (eO false (f.st vs)).2=((List.range f.cs.length).map λi=>((dI f.cs).getD i v0).bq).sum:=by
      rw[pZ,pZ,a2,R.len];have e2:((List.range f.cs.length).map λi=>(Z.aL i).b.bB).sum=((List.range f.cs.length).map λi=>((eO false (f.st vs)).2.aL i).b.bB+((dI f.cs).getD i v0).bq).sum:=Jr λi t=>by
        have a:=bx t;have:=(Q i _ a).2;rw[aI t]at this;rw[this,R.aL a,qk,qk,lN]
      rw[e2,sum_add];omega
    have X:((List.range f.cs.length).map λi=>((dI f.cs).getD i v0).bq).sum=(f.cs.map aq.wz).sum:=by
      rw[<-Fj aq.wz (.mk (bs []) false 0 0 0 0 []) f.cs];refine Jr λi t=>?_;have a:=bx t;rw[dI,mS a,(sP (H.aL (kE t)) ((N f.cs.length (bP _) n) i _ t a)).2.2.1,gL,a];rfl
    rw[U,X]at l;obtain⟨Y,_⟩:=pX l;omega
  rw[aC L]at h j
  by_cases z:f.k=18
  · rw[aI z]at h j;have a':=H.right.1.2.2.2.2.2.2.2.2.2.1 z;have d:f.cs[0]? =some f.cs[0]:=bx ag;generalize f.cs[0]=c at d;have D:=H.aL (bL d);obtain⟨T,B⟩:=J c (bL d);rw[mS d]at h j;unfold tg at h;obtain⟨y,p,P⟩:=jT h;have R:=jj.of (v:=v0) y;obtain⟨n,l,h6⟩:=jT p;generalize(eO false (f.st vs)).2=F at R n l;have s:0<F.kids.length:=by rw[R.len];omega
    have M:(F.up λb=>{b with all:=b.all++[UInt8.ofNat 0],ends:=b.ends++[(F.aL 0).b.rows]}).aL 0=c.st (dJ f.k f.w (dI f.cs) 0 vs):=by rw[iT];exact R.aL d
    obtain⟨q1,S⟩:=vW T M (fy d u) n;have C:c.small=true:=by
      unfold di at n;rw[M]at n;exact B _ (fy d u) n
    rw[S]at l;have U:eJ ((F.up λb=>{b with all:=b.all++[UInt8.ofNat 0],ends:=b.ends++[(F.aL 0).b.rows]}).fk 0 (c.st (dJ f.k f.w (dI f.cs) 0 vs++[c.bZ]))) 0-eJ F 0=c.bZ.bq:=by
      unfold eJ;rw[lz (by rw[jS];exact s),R.aL d,qk,qk,lN];omega
    rw[U,(sP D C).2.2.1]at l;obtain⟨Y,_⟩:=pX l;omega
  rw[aC z]at h
  by_cases K:f.k=19
  ·rw[aI K]at h;grind[jT]
  ·rw[aC K]at h;grind[jT]
theorem ajZ(g:bC f)(d:vj f)(c:∀v,f.fit v=true->dU f (λr=>f.tk r v) v):dU f f.zk f.bZ:=by
 intro vs b h;have a:=d vs b h;have e:f.zk=λr=>f.tk r f.bZ:=by
  rw[sy];funext r;unfold nH;simp[*]
 rw[e]at h ⊢;exact c _ (sP g a).2.1 vs b h
theorem mb:∀f:aq,bC f->(∀v,f.fit v=true->dU f (λr=>f.tk r v) v)/\dU f f.zk f.bZ/\vj f
  | .mk q au k w id ix cs,b=>by
    have d:∀c∈cs,(∀v,c.fit v=true->dU c _ v)/\dU c c.zk c.bZ/\vj c:=λc e=>mb c (b.aL e);generalize s:aq.mk q au k w id ix cs=f at b;have d:∀c∈f.cs,(∀v,c.fit v=true->dU c (λr=>c.tk r v) v)/\dU c c.zk c.bZ/\vj c:=by rw[<-s];exact d
    have p:∀v,f.fit v=true->dU f (λr=>f.tk r v) v:=by
      intro v g;have ks:=b.ks
      by_cases h:f.k=15
      ·obtain⟨c,a,_⟩:=b.one (.inl h);grind[amO]
      by_cases n:f.k=16
      ·obtain⟨c,a,_⟩:=b.one ag;grind[amM]
      by_cases m:f.k=17
      ·grind[amK]
      by_cases l:f.k=18
      ·grind[amR]
      by_cases j:f.k=19
      ·obtain⟨c,a,_⟩:=b.one ag;grind[amQ]
      by_cases i:f.k=20
      ·obtain⟨c,a,_⟩:=b.one ag;grind[amN]
      exact Zz b ⟨h,n,m,l,j,i⟩ g
    grind[ajX,ajZ]
theorem arT{cs:cC}{r:Raw}(a:cs[j]? =some c):((List.range (cs.map aq.dn).length).map λi=>((cs.map aq.dn).getD i λ_=>wu) (r.aL i))[j]? =some (c.dn (r.aL j)):=by
 have b:=(cU.1 a).1;simp_all
theorem au4{ix:Int}{D:List (Raw->bD)}{r:Raw}:(mT k w ix D r).off=0:=by unfold mT;repeat' (first|rfl|split)
theorem au6{ix:Int}{D:List (Raw->bD)}{r:Raw}:(mT k w ix D r).len=r.b.rows:=by unfold mT;repeat' (first|rfl|split)
theorem au5{ix:Int}{D:List (Raw->bD)}{r:Raw}(h:k=20->r.b.ck=0):(mT k w ix D r).au=r.b.ck:=by
 unfold mT
 repeat' (first|rfl|(rename_i e;rw[h e];rfl)|split)
theorem zO(f:aq)(r:Raw):(f.dn r).off=0:=by rw[qX,au4]
theorem xZ(f:aq)(vs:aP):(f.dn (f.st vs)).len=vs.length:=by rw[qX,au6,AT]
theorem aII{α:Type}(p:α->Bool)(l:List α):l.countP p<=l.length:=List.countP_le_length
theorem TA(f:aq)(vs:aP):(f.dn (f.st vs)).au=vs.countP (eu f.k):=by
 have:(f.st vs).b.ck=vs.countP (eu f.k):=by rw[fF];rfl
 have nS:f.k=20->vs.countP (eu f.k)=0:=λe=>by
  rw[UN];intro v _;simp[eu,e]
 rw[qX,au5 ag,this]
theorem atW{vs:aP}(a:vs[i]? =some v):(vs.map λv=>!eu k v).getD i false=!eu k v:=by
 simp[*]
theorem CS{vs:aP}{aX:ig}(a:mR k=true)(f:dD aX 0=dF (aK k vs)){i:Nat}{v:aB}(b:vs[i]? =some v):jC k aX i=eu k v:=by
 have d:(k==1)=false:=by
  unfold mR at a;cases h:k==1 with
  |false=>rfl
  |true=>grind
 unfold jC;rw[a,f,d];unfold dF;have g:=(cU.1 b).1;split
 ·rename_i c
  have:eu k v=false:=by
   have:=(UN.1 c) v (bL b)
   simpa using this
  simp[*]
 ·rename_i c
  have e:gI (aK k vs).bits i=!eu k v:=by
   show gI (qJ _) i=_
   rw[aaK,atW b]
  have l:(aK k vs).bits.length≠0:=by
   show(qJ _).length≠0
   rw[P9,cm];omega
  simp[*]
theorem Ky{α:Type}(g:aB->List α):∀{vs:aP}{i:Nat}{v:aB},vs[i]? =some v->((vs.flatMap g).drop ((vs.take i).map λu=>(g u).length).sum).take (g v).length=g v
  |[],i,v,h=>by simp at h
  | u::vs,0,v,h=>by
    grind
  | u::vs,i+1,v,h=>by
    simp only[Af]at h;have:=Ky g h;simp_all
theorem acW{α:Type}(g:aB->List α){vs:aP}{i j:Nat}{v:aB}(h:vs[i]? =some v)(a:j<(g v).length):(vs.flatMap g)[((vs.take i).map λu=>(g u).length).sum+j]? =(g v)[j]? :=by
 have:=Ky g h;grind
theorem Fi(g:aB->Nat){vs:aP}{i:Nat}{v:aB}(h:vs[i]? =some v):((vs.take (i+1)).map g).sum=((vs.take i).map g).sum+g v:=by
 rw[L3,h];simp
theorem Jk(g:aB->Nat)(vs:aP)(i:Nat):((vs.take i).map g).sum<=(vs.map g).sum:=by
 grind[List.take_append_drop]
theorem JI{α:Type}{l:List α}{n:Nat}{g:Nat->α}(c:l.length=n)(h:∀i a,l[i]? =some a->g i=a):(List.range n).map g=l:=by
 refine sE λi=>?_;grind
theorem Zt{vs:aP}(h:(vs.map g).sum<2^31){i:Nat}(a:i<=vs.length):i32 (laidB (kj g vs) 4) i=((vs.take i).map g).sum:=
 Sa (Pb a) (by have:=Jk g vs i;omega)
theorem Zr{vs:aP}(h:(vs.map g).sum<2^31){d:bD}(b:dD d.aX 1=laidB (kj g vs) 4){i:Nat}(a:i<=vs.length):sV d i=((vs.take i).map g).sum:=by
 unfold sV;rw[b,Zt h a];rfl
theorem ZU{w:Nat}(a:w=1\/w=2\/w=4\/w=8){n:Int}(c: -(2^(8*w-1))<=n)(b:n<2^(8*w-1)):sg w ((n%2^64).toNat%2^(8*w))=n:=by
 grind[sg]
theorem alb{w:Nat}(a:w=1\/w=2\/w=4){n:Int}(c:0<=n)(b:n<2^(8*w)):sg 8 ((n%2^64).toNat%2^(8*w))=n:=by
 unfold sg;rcases a with rfl|rfl|rfl <;> omega <;> split <;> omega
theorem CP(h:3<=k/\k<=11):(dL k).toNat=wB k/\(wB k=1\/wB k=2\/wB k=4\/wB k=8)/\(k=6\/k=10\/k=11↔wB k=8):=by
 have:k=3\/k=4\/k=5\/k=6\/k=7\/k=8\/k=9\/k=10\/k=11:=ag;rcases this with rfl|rfl|rfl|rfl|rfl|rfl|rfl|rfl|rfl <;> decide
theorem aqj(f:3<=k/\k<=11){l:cG}{i:Nat}{n:Int}(g:l[i]? =some (n%2^64).toNat)(a:kW k n=true):zC k (laidB l (wB k)) i=n:=by
 obtain⟨e1,h,e⟩:=CP f;unfold zC;rw[e1,R8 g];unfold kW at a;rw[e1]at a
 by_cases c:k=6\/k=10\/k=11
 ·rw[aI c]at a;have d:=e.1 c;rw[d];simp only[dm,dQ]at a;have:=ZU (w:=8) ag (n:=n) cj cj;omega
 ·rw[aC c]at a;have d:wB k≠8:=ag
  by_cases b:3<=k/\k<=5
  ·rw[aI b]at a;simp only[dm,dQ]at a;rw[dR];exact ZU h a.1 a.2
  ·rw[aC b]at a;simp only[dm,dQ]at a;rw[ay];exact alb ag a.1 a.2
def ie(f:aq)(vs:aP):List bD:=(List.range (f.cs.map aq.dn).length).map λi=>((f.cs.map aq.dn).getD i λ_=>wu) ((f.st vs).aL i)
theorem uG{vs:aP}(a:f.cs[j]? =some c):(ie f vs)[j]? =some (c.dn (c.st (dJ f.k f.w (dI f.cs) j vs))):=by
 grind[ie,arT,aq.ZC]
theorem Ds(f:aq)(vs:aP):(ie f vs).length=f.cs.length:=by simp[ie]
section
variable {vs:aP}
theorem GU(h:f.k=1):f.dn (f.st vs)=.mk vs.length 0 (aK f.k vs).ck [] [] []:=by
 rw[qX];unfold mT;rw[aI h,fF];rfl
theorem wq(h:f.k=12\/f.k=13):f.dn (f.st vs)=.mk vs.length 0 (aK f.k vs).ck [dF (aK f.k vs),laidB (aK f.k vs).ends 4,(aK f.k vs).all] [] []:=by
 rw[qX];unfold mT;rw[ay,aI h,fF];rfl
theorem GS(h:f.k=15):f.dn (f.st vs)=.mk vs.length 0 (aK f.k vs).ck [dF (aK f.k vs),laidB (aK f.k vs).ends 4] (ie f vs) []:=by
 rw[qX];unfold mT;rw[ay,ay,aI h,fF];rfl
theorem BG(h:f.k=16\/f.k=17):f.dn (f.st vs)=.mk vs.length 0 (aK f.k vs).ck [dF (aK f.k vs)] (ie f vs) []:=by
 rw[qX];unfold mT;rw[ay,ay,ay,aI h,fF];rfl
theorem K0(h:f.k=18):f.dn (f.st vs)=.mk vs.length 0 (aK f.k vs).ck [(aK f.k vs).all,laidB (aK f.k vs).ends 4] (ie f vs) []:=by
 rw[qX];unfold mT;rw[ay,ay,ay,ay,aI h,fF];rfl
theorem GR(h:f.k=19):f.dn (f.st vs)=.mk vs.length 0 (aK f.k vs).ck [dF (aK f.k vs),laidB (aK f.k vs).ends (wB f.ix)] [] (ie f vs):=by
 rw[qX];unfold mT;rw[ay,ay,ay,ay,ay,aI h,fF];rfl
theorem KZ(h:f.k=20):f.dn (f.st vs)=.mk vs.length 0 0 [] (.mk (aK f.k vs).ends.length 0 0 [[],laidB (aK f.k vs).ends 4] [] []::ie f vs) []:=by
 rw[qX];unfold mT;rw[ay,ay,ay,ay,ay,ay,aI h,fF];rfl
theorem BE(h:f.k=2):f.dn (f.st vs)=.mk vs.length 0 (aK f.k vs).ck [dF (aK f.k vs),qU (aK f.k vs).dV] [] []:=by
 rw[qX];unfold mT;rw[ay,ay,ay,ay,ay,ay,ay,aI h,fF];rfl
theorem BH(h:f.k=14):f.dn (f.st vs)=.mk vs.length 0 (aK f.k vs).ck [dF (aK f.k vs),mh f.w.toNat (aK f.k vs).texts] [] []:=by
 rw[qX];unfold mT;rw[ay,ay,ay,ay,ay,ay,ay,ay,aI h,fF];rfl
theorem zP(h:3<=f.k/\f.k<=11):f.dn (f.st vs)=.mk vs.length 0 (aK f.k vs).ck [dF (aK f.k vs),laidB (aK f.k vs).dV (wB f.k)] [] []:=by
 rw[qX];unfold mT;rw[ay,ay,ay,ay,ay,ay,ay,ay,ay,fF];rfl
end
abbrev ny(c:aq):Prop:=∀us,c.can us->∀(i:Nat)v,us[i]? =some v->c.val (c.dn (c.st us)) i=v
theorem BX(h:ny c){a:aP}(d:c.can a){i:Nat}{v:aB}(b:a[i]? =some v):nW c.val (c.dn (c.st a)) i=v:=by
 unfold nW;rw[zO];simp[*]
theorem DH(m:f.k≠1/\f.k≠15/\f.k≠16/\f.k≠17/\f.k≠18/\f.k≠19/\f.k≠20){v:aB}(a:f.fit v=true)(l:v.au=false):v.items=[]/\(f.k=12\/f.k=13\/f.k=14->v.num=0/\(f.k=12->iD v.text=true)/\(f.k=14->v.text.length=f.w.toNat))/\(¬(f.k=12\/f.k=13\/f.k=14)->v.text=[]/\(f.k=2->v.num=0\/v.num=1)/\(f.k≠2->(3<=f.k/\f.k<=11)/\kW f.k v.num=true)):=by
 rw[eL]at a;unfold fD at a;grind
theorem val_mk(v:aB):v=.mk v.au v.num v.text v.items:=by cases v;rfl
theorem awD(b:bC f)(a:f.k=18){v:aB}(d:f.fit v=true):fL v<32/\fL v<f.cs.length:=by
 have hl:f.lets=false:=by rw[sY f b];exact b.right.2.1.2.1 a
 obtain⟨_,_,_,c,_,e,_⟩:=KH a hl d;have g:=(cU.1 e).1;have h:=(b.right.1.2.2.2.2.2.2.2.2.2.1 a).2;omega
theorem abv(R:bC f)(P:f.k≠15/\f.k≠16/\f.k≠17/\f.k≠18/\f.k≠19/\f.k≠20):ny f:=by
  intro vs T i v z;have I:=(gk f vs).1 T;have y:=I.fit v (bL z);have W:=(cU.1 z).1;obtain⟨r,p,m,g,l,d⟩:=P;have ks:=R.ks;rw[wG];unfold oU
  by_cases x:f.k=1
  · rw[GU x,aI (by unfold jC;simp[x])]
    have h:v.au=true:=by
      cases h:v.au with
      |true=>rfl
      |false=>simp_all[eL,fD]
    rw[eL]at y;exact(kz y h).1.symm
  have K:eu f.k v=v.au:=sW x g d;have L:mR f.k=true:=by unfold mR;simp[x,g,d]
  have M:dD (f.dn (f.st vs)).aX 0=dF (aK f.k vs):=by
    by_cases a:f.k=12\/f.k=13
    ·rw[wq a];rfl
    · by_cases A:f.k=2
      ·rw[BE A];rfl
      · by_cases b:f.k=14
        ·rw[BH b];rfl
        ·rw[zP ag];rfl
  rw[CS L M z,K];cases h:v.au with
  | true=>
    rw[aI rfl];rw[eL]at y;exact(kz y h).1.symm
  | false=>
    obtain⟨s,D,G⟩:=DH ⟨x,r,p,m,g,l,d⟩ y h;rw[aC aA]
    by_cases a:f.k=12\/f.k=13
    · rw[aI a,wq a];have J:=I.tx a;have S:(aK f.k vs).ends=kj (λv=>v.text.length) vs:=by simp[aK,a]
      have V:(aK f.k vs).all=vs.flatMap aB.text:=by simp[aK,a]
      have O:(vs.map λv=>v.text.length).sum<2^31:=by
        rw[B2]at J;omega
      have o:∀{j},j<=vs.length->sV (bD.mk vs.length 0 (aK f.k vs).ck [dF (aK f.k vs),laidB (aK f.k vs).ends 4,(aK f.k vs).all] [] []) j=((vs.take j).map λv=>v.text.length).sum:=λQ=>Zr O (by rw[S];rfl) Q
      rw[o ag,o ag,Fi _ z,afe]
      show aB.mk false 0 (((aK f.k vs).all.drop _).take _) []=v
      rw[V,Ky aB.text z];rw[val_mk v,h,(D ag).1,s];rfl
    rw[aC a,aC r,aC p,aC m,aC g,aC l,aC d]
    by_cases A:f.k=2
    · rw[aI A,BE A];obtain⟨E,U,_⟩:=G ag
      show aB.mk false (if gI (qU (aK f.k vs).dV) i=true then 1 else 0) [] []=v
      have c:(aK f.k vs).dV=vs.map λv=>(v.num%2^64).toNat:=by simp[aK,A,fH]
      grind[aeT,val_mk]
    rw[aC A]
    by_cases b:f.k=14
    · rw[aI b,BH b];have c:(aK f.k vs).texts=vs.map aB.text:=by simp[aK,b,fH]
      show aB.mk false 0 (((mh f.w.toNat (aK f.k vs).texts).drop (i*f.w.toNat)).take f.w.toNat) []=v
      rw[c,acY (λt E=>?_) bU ((D ag).2.2 b)]
      ·rw[val_mk v,h,(D ag).1,s];rfl
      · obtain⟨u,N,rfl⟩:=lU.1 E;have C:=I.fit u N;cases F:u.au with
        |true=>rw[eL]at C;rw[(kz C F).1];exact .inl rfl
        |false=>exact .inr (((DH ⟨x,r,p,m,g,l,d⟩ C F).2.1 ag).2.2 b)
    rw[aC b];obtain⟨E,_,H⟩:=G ag;obtain⟨B,H⟩:=H A;rw[zP B];have c:(aK f.k vs).dV=vs.map λv=>(v.num%2^64).toNat:=by
      simp only[not_or]at a;simp[aK,fH,x,a,r,p,m,g,l,d]
    show aB.mk false (zC f.k (laidB (aK f.k vs).dV (wB f.k)) i) [] []=v
    rw[aqj B bU H,val_mk v,h,E,s];rfl
theorem anr{α:Type}{n:Nat}{l:List α}(h:l.length=n+1):∃b w,l=b++[w]/\b.length=n:=by
 have a:l≠[]:=by intro e;subst e;simp at h
 exact⟨l.dropLast,l.getLast a,(Ae a).symm,by simp[h]⟩
structure ayA(vs:aP):Prop where
 len:(cO vs).1.length=(cO vs).2.length
 pos:∀(j e:Nat),(cO vs).2[j]? =some e->0<e/\e<=vs.length
 inc:∀(i j e e':Nat),i<j->(cO vs).2[i]? =some e->(cO vs).2[j]? =some e'->e<e'
 row:∀(i:Nat)v,vs[i]? =some v->∃j e:Nat,(cO vs).1[j]? =some v/\(cO vs).2[j]? =some e/\i<e/\∀j2 e2:Nat,j2<j->(cO vs).2[j2]? =some e2->e2<=i
theorem Z7:∀(n:Nat)(vs:aP),vs.length=n->ayA vs
  | 0,vs,G=>by
    have:vs=[]:=wN G;subst this;exact⟨rfl,λj e h=>by simp[cO]at h,λi j e Q _ h=>by simp[cO]at h,λi v h=>by simp at h⟩
  | n+1,vs,G=>by
    obtain⟨c,w,rfl,K⟩:=anr G;obtain⟨len,p,C,D⟩:=Z7 n c K;have f:=(AZ n c K).1;have g:=AY c w;unfold xz at g
    by_cases e:(cO c).1.getLast? =some w
    · rw[aI e,f]at g;have L:(cO c).2≠[]:=by
        intro q;rw[q]at len;have O:=wN (by simpa using len)
        rw[O]at e;simp at e
      have P:=LX.2 L;have get:∀j,((cO c).2.dropLast++[c.length+1])[j]? =if j<(cO c).2.length-1 then(cO c).2[j]? else if j=(cO c).2.length-1 then some (c.length+1)else none:=by
        intro j;have I:(cO c).2.dropLast.length=(cO c).2.length-1:=aA
        by_cases r:j<(cO c).2.length-1
        ·simp_all[iQ]
        · rw[aC r,gm ag,I];split
          ·rename_i u;subst u;simp
          simp[cj];omega
      have J:(cO c).2[(cO c).2.length-1]? =some c.length:=by
        have:(cO c).2.getLast? =(cO c).2[(cO c).2.length-1]? :=UM;rw[<-this];rw[afd]at f;cases N:(cO c).2.getLast? with
        |none=>simp_all
        |some x=>rw[N]at f;simp at f;rw[f]
      refine⟨?_,?_,?_,?_⟩
      ·rw[g];simp[len];omega
      · intro j x h;rw[g]at h;rw[get]at h;rw[ij,jw];split at h
        ·obtain⟨a,b⟩:=p j x h;omega
        · split at h
          ·cases h;omega
          ·cases h
      · intro i j x y z m l;rw[g]at m l;rw[get]at m l;split at l
        ·rw[dR]at m;exact C i j x y z m l
        · split at l
          ·rw[dR]at m;cases l;have:=(p i x m).2;omega
          ·cases l
      · intro i v o;rw[g]
        by_cases r:i<c.length
        · rw[iQ r]at o;obtain⟨j,x,F,B,H,E⟩:=D i v o;have M:=(cU.1 B).1
          by_cases u:j<(cO c).2.length-1
          · refine⟨j,x,F,by rw[get,aI u];exact B,H,λt s k d=>?_⟩
            rw[get,dR]at d;exact E t s k d
          · refine⟨j,c.length+1,F,by rw[get,aC u,dR],ag,λt s k d=>?_⟩
            rw[get,dR]at d;exact E t s k d
        · have A:i=c.length:=by have:=(cU.1 o).1;simp at this;omega
          subst A;rw[gm (bP _)]at o;simp at o;subst o;refine⟨(cO c).2.length-1,c.length+1,?_,aA,ag,λt s k d=>?_⟩
          ·have:(cO c).1.getLast? =(cO c).1[(cO c).1.length-1]? :=UM;rw[<-len,<-this,e]
          ·rw[get,aI k]at d;exact(p t s d).2
    · rw[aC e,f]at g;have get:∀j,((cO c).2++[c.length+1])[j]? =if j<(cO c).2.length then(cO c).2[j]? else if j=(cO c).2.length then some (c.length+1)else none:=by
        intro j
        by_cases r:j<(cO c).2.length
        ·rw[aI r,iQ r]
        · rw[aC r,gm ag];split
          ·rename_i u;subst u;simp
          simp[cj];omega
      refine⟨?_,?_,?_,?_⟩
      ·simp[*]
      · intro j x h;rw[g]at h;rw[get]at h;rw[ij,jw];split at h
        ·obtain⟨a,b⟩:=p j x h;omega
        · split at h
          ·cases h;omega
          ·cases h
      · intro i j x y z m l;rw[g]at m l;rw[get]at m l;split at l
        ·rw[dR]at m;exact C i j x y z m l
        · split at l
          ·rw[dR]at m;cases l;have:=(p i x m).2;omega
          ·cases l
      · intro i v o;rw[g]
        by_cases r:i<c.length
        · rw[iQ r]at o;obtain⟨j,x,F,B,H,E⟩:=D i v o;have M:=(cU.1 B).1;refine⟨j,x,by rw[iQ ag];exact F,by rw[get,aI M];exact B,H,λt s k d=>?_⟩
          rw[get,dR]at d;exact E t s k d
        · have A:i=c.length:=by have:=(cU.1 o).1;simp at this;omega
          subst A;rw[gm (bP _)]at o;simp at o;subst o;refine⟨(cO c).2.length,c.length+1,dM,aA,ag,λt s k d=>?_⟩
          rw[get,aI k]at d;exact(p t s d).2
theorem ac7(c:Nat):∀{vs:aP}{i:Nat}{v:aB},vs[i]? =some v->fL v=c->(vs.filter λu=>decide (fL u=c))[((vs.take i).filter λu=>decide (fL u=c)).length]? =some v
  |[],i,v,h,_=>by simp at h
  | u::vs,0,v,h,a=>by
    grind
  | u::vs,i+1,v,h,a=>by
    simp only[Af]at h;have b:=ac7 c h a;grind
theorem adO{w:Nat}{vs:aP}(h:∀v∈vs,g v=w):∀i,i<=vs.length->((vs.take i).map g).sum=i*w
  |0,_=>aA
  | i+1,b=>by
    have a:vs[i]? =some vs[i]:=aA;rw[Fi g a,adO h i ag,h _ (bL a),rf]
theorem Dg{l:Int}{b:ig}{cs:jG}{c:bD}(h:cs[j]? =some c):part (.mk l x y b cs []) j=c:=by
 unfold part xA;rw[aC (by simp[bD.ds])];exact Ti h
theorem apv{l:Int}{b:ig}{cs ds:jG}{c:bD}(h:ds[j]? =some c):part (.mk l x y b cs ds) j=c:=by
 have:ds.length>0:=by have:=(cU.1 h).1;omega
 unfold part xA;rw[aI (by simpa[bD.ds]using this)];exact Ti h
theorem FN{cs:cC}(h:k≠20):rX k cs=cs:=by unfold rX;simp[*]
theorem DB{cs:cC}(h:cs[j]? =some c):(cs.map aq.val).getD j vz=c.val:=by
 simp[*]
theorem awA{vs:aP}(h:vs[i]? =some v)(a:v.au=false):(dJ 17 w X j vs)[i]? =some (v.items.getD j v0):=by
 grind[DS]
theorem aq9(y:bC f)(p:f.cs=[c])(d:f.k=15)(r:ny c):ny f:=by
  intro vs q i v e;have m:=((gk f vs).1 q).fit v (bL e);have u:=(cU.1 e).1;have b:f.cs[0]? =some c:=by rw[p];rfl
  have h:=fy b q;rw[wG];unfold oU;rw[GS d,CS (by rw[d];rfl) rfl e,sW ag ag ag]
  cases n:v.au with
  |true=>rw[aI rfl];rw[eL]at m;exact(kz m n).1.symm
  | false=>
    rw[aC aA,ay,aI d,FN ag,DB b,Dg (uG b)];have a:=m;rw[eL]at a;unfold fD at a;rw[d]at a;simp[n]at a;have g:dJ f.k f.w (dI f.cs) 0 vs=vs.flatMap aB.items:=by rw[d,zR]
    have t:(aK f.k vs).ends=kj (λv=>v.items.length) vs:=by simp[aK,d]
    have s:(vs.map λv=>v.items.length).sum<2^31:=by
      have:=((gk c _).1 h).n4;rw[g,B2]at this;omega
    have o:∀{j},j<=vs.length->sV (bD.mk vs.length 0 (aK f.k vs).ck [dF (aK f.k vs),laidB (aK f.k vs).ends 4] (ie f vs) []) j=((vs.take j).map λv=>v.items.length).sum:=λl=>Zr s (by rw[t];rfl) l
    rw[o ag,o ag,Fi _ e,afe];grind[JI,BX,acW,List.getElem?_eq_some_iff,val_mk]
theorem am5(a:f.cs=[c])(e:f.k=16){vs:aP}(g:f.can vs):∀v∈vs,(if v.au then List.replicate f.w.toNat ((dI f.cs).getD 0 v0)else v.items).length=f.w.toNat:=by
 intro v b;cases d:v.au with
 |true=>simp
 |false=>simpa using(KC a e (((gk f vs).1 g).fit v b) d).2.1
theorem aq7(u:bC f)(d:f.cs=[c])(b:f.k=16)(r:ny c):ny f:=by
  intro vs n i v m;have a:=((gk f vs).1 n).fit v (bL m);have t:=(cU.1 m).1;have g:f.cs[0]? =some c:=by rw[d];rfl
  rw[wG];unfold oU;rw[BG (.inl b),CS (by rw[b];rfl) rfl m,sW ag ag ag]
  cases h:v.au with
  |true=>rw[aI rfl];rw[eL]at a;exact(kz a h).1.symm
  | false=>
    rw[aC aA,ay,ay,aI b,FN ag,DB g,Dg (uG g)];obtain⟨s,hl,_⟩:=KC d b a h;have l:v.num=0:=by
      rw[eL]at a;unfold fD at a;rw[b]at a;simp[h]at a;exact a.2.1
    have p:dJ f.k f.w (dI f.cs) 0 vs=vs.flatMap λv=>if v.au then List.replicate f.w.toNat ((dI f.cs).getD 0 v0)else v.items:=by rw[b,BK]
    have:(List.range f.w.toNat).map (λj=>nW c.val (c.dn (c.st (dJ f.k f.w (dI f.cs) 0 vs))) (i*f.w.toNat+j))=v.items:=by
      refine JI hl λj x q=>BX r (fy g n) ?_;have e:=acW (λv=>if v.au then List.replicate f.w.toNat ((dI f.cs).getD 0 v0)else v.items) m (j:=j) bU
      rw[adO (am5 d b n) i ag]at e;rw[p,e];simpa[h]using q
    rw[this,val_mk v,h,s,l];rfl
theorem aq5(q:bC f)(d:f.k=17)(o:∀c∈f.cs,ny c):ny f:=by
  intro vs n i v l;have a:=((gk f vs).1 n).fit v (bL l);rw[wG];unfold oU;rw[BG (.inr d),CS (by rw[d];rfl) rfl l,sW ag ag ag]
  cases e:v.au with
  |true=>rw[aI rfl];rw[eL]at a;exact(kz a e).1.symm
  | false=>
    rw[aC aA,ay,ay,ay,aI d,FN ag,cm];obtain⟨p,hl,_⟩:=DF d a e;have h:v.num=0:=by
      rw[eL]at a;unfold fD at a;rw[d]at a;simp[e]at a;exact a.2.1
    have:(List.range f.cs.length).map (λj=>nW ((f.cs.map aq.val).getD j vz) (part (bD.mk vs.length 0 (aK f.k vs).ck [dF (aK f.k vs)] (ie f vs) []) j) i)=v.items:=by
      refine JI hl λj x m=>?_;have g:j<f.cs.length:=by have:=(cU.1 m).1;omega
      have b:f.cs[j]? =some f.cs[j]:=aA;rw[DB b,Dg (uG b)];apply BX (o _ (kE g)) (fy b n);rw[d,awA l e,Ti m]
    rw[this,val_mk v,e,p,h];rfl
theorem arc(l:bC f)(a:f.k=18)(s:∀c∈f.cs,ny c):ny f:=by
 intro vs o i v e;have p:=(gk f vs).1 o;have n:=p.fit v (bL e);have m:=(cU.1 e).1;have B:=p.n4;have hl:f.lets=false:=by rw[sY f l];exact l.right.2.1.2.1 a
 obtain⟨w,t,A,c,x,b,g,C⟩:=KH a hl n;have r:=(awD l a n).1;rw[wG];unfold oU;rw[K0 a,aC (by unfold jC mR;simp[a]),ay,ay,ay,ay,aI a,FN ag]
 have z:(aK f.k vs).all=vs.map λv=>UInt8.ofNat (fL v):=by simp[aK,a]
 have y:(aK f.k vs).ends=(List.range vs.length).map λi=>((vs.take i).filter λv=>decide (fL v=fL (vs.getD i v0))).length:=by simp[aK,a]
 have d:GW (bD.mk vs.length 0 (aK f.k vs).ck [(aK f.k vs).all,laidB (aK f.k vs).ends 4] (ie f vs) []) i=fL v:=by
  show(((aK f.k vs).all.getD i 0)).toNat=_
  rw[z,gL,fh,e];simp only[pH,oI,tM];omega
 have j:(aK f.k vs).ends[i]? =some ((vs.take i).filter λu=>decide (fL u=fL v)).length:=by
  rw[y,fh,Eh m,pH,gL,e];rfl
 have q:((vs.take i).filter λu=>decide (fL u=fL v)).length<=4096:=by
  have:=UL (λu=>decide (fL u=fL v)) (vs.take i);rw[kP]at this;omega
 have h:sV (bD.mk vs.length 0 (aK f.k vs).ck [(aK f.k vs).all,laidB (aK f.k vs).ends 4] (ie f vs) []) i=((vs.take i).filter λu=>decide (fL u=fL v)).length:=by
  show(i32 (laidB (aK f.k vs).ends 4) i).toNat=_
  rw[Sa j ag];rfl
 rw[d,h,DB b,Dg (uG b),BX (s c (bL b)) (fy b o) (v:=x) (by rw[a,DR,fh,ac7 _ e rfl,pH,g];rfl)]
 rw[val_mk v,w,t,g];have:((fL v:Nat):Int)=v.num:=by unfold fL;omega
 simp only[aB.mk.injEq,true_and,Em];rw[show fL (aB.mk false v.num [] [x])=fL v from rfl,this]
theorem arb(A:bC f)(r:f.cs=[c])(b:f.k=19)(z:ny c):ny f:=by
  intro vs u i v g;have y:=(gk f vs).1 u;have t:=y.fit v (bL g);have e:f.cs[0]? =some c:=by rw[r];rfl
  have j:=fy e u;have E:=A.right.1.2.2.2.2.2.1 b;rw[wG];unfold oU;rw[GR b,CS (by rw[b];rfl) rfl g,sW ag ag ag]
  cases n:v.au with
  |true=>rw[aI rfl];rw[eL]at t;exact(kz t n).1.symm
  | false=>
    rw[aC aA,ay,ay,ay,ay,ay,aI b,FN ag,DB e,apv (uG e)];obtain⟨e1,D,H⟩:=CP (k:=f.ix) ag;have B:(aK f.k vs).ends=vs.map λv=>if v.au then 0 else(gj v (dS vs)).getD 0:=by simp[aK,b]
    obtain⟨p,m⟩:∃p,gj v (dS vs)=some p:=by
      cases m:gj v (dS vs)with
      |none=>exact absurd (JZ _ vs rfl v (bL g) n) (vQ.1 m)
      |some p=>exact⟨p,rfl⟩
    have l:(aK f.k vs).ends[i]? =some p:=by rw[B,fh,g];simp[n,m]
    have a:=(Dd m).1;have F:=(cU.1 a).1;have d:=y.ds b;have h:dJ f.k f.w (dI f.cs) 0 vs=dS vs:=by rw[b,BJ]
    have o:=((gk c _).1 j).n4;rw[h]at o;have C:p<2^(8*wB f.ix):=by
      unfold oB at d;rcases D with q|q|q|q <;> rw[q] <;> simp <;> (try omega)
      have:f.ix=3\/f.ix=7:=by
        unfold wB at q
        by_cases x:f.ix=3\/f.ix=7
        ·exact x
        ·rw[aC x]at q;split at q <;> (try omega);split at q <;> omega
      rcases this with s|s <;> rw[s]at d <;> simp at d <;> omega
    show nW c.val _ (oZ (laidB (aK f.k vs).ends (wB f.ix)) (i*(dL f.ix).toNat) (dL f.ix).toNat)=v
    grind[R8,Nat.mod_eq_of_lt,BX]
theorem adl{l:cG}(hl:∀x∈l,x<=4096){n u:Int}{b:dB}{i x:Nat}(a:l[i]? =some x):BC (.mk n 0 u [b,laidB l 4] [] []) i=x:=by
 have:=hl x (bL a)
 show i32 _ (0+i)=x
 rw[cz];exact Sa a ag
theorem aq8(D:bC f)(d:f.cs=[c])(a:f.k=20)(t:ny c):ny f:=by
 intro vs r i v q;have g:f.cs[0]? =some c:=by rw[d];rfl
 have C:=((gk f vs).1 r).n4;have R:=Z7 _ vs rfl;have y:(aK f.k vs).ends=(cO vs).2:=by rw[a];simp[aK]
 have b:∀x∈(cO vs).2,x<=4096:=λx h=>by
  obtain⟨j,u⟩:=ri.1 h;have:=(R.pos j x u).2;omega
 rw[wG];unfold oU;rw[KZ a,aC (by unfold jC mR;simp[a]),ay,ay,ay,ay,ay,ay,aI a]
 have m:(rX f.k f.cs)[1]? =some c:=by unfold rX;rw[aI a,d];rfl
 rw[DB m,Dg (c:=c.dn (c.st (dJ f.k f.w (dI f.cs) 0 vs))) (by grind[List.getElem?_cons_succ,uG]),Dg rfl,y]
 obtain⟨j,e,A,s,E,z⟩:=R.row i v q;have n:=(cU.1 s).1;rw[aov (by simpa[bD.len]using n) (by rw[adl b s];omega) (λp o=>by
  grind[adl])]
 grind[BX,aq.TU,DQ]
theorem abu:∀f:aq,bC f->ny f
  | .mk m au k w id ix cs,b=>by
    have d:∀c∈cs,ny c:=λc n=>abu c (b.aL n);generalize o:aq.mk m au k w id ix cs=f at b;have d:∀c∈f.cs,ny c:=by rw[<-o];exact d
    by_cases e:f.k=15
    ·obtain⟨c,a,_⟩:=b.one (.inl e);grind[aq9]
    by_cases l:f.k=16
    ·obtain⟨c,a,_⟩:=b.one ag;grind[aq7]
    by_cases j:f.k=17
    ·exact aq5 b j d
    by_cases i:f.k=18
    ·exact arc b i d
    by_cases h:f.k=19
    ·obtain⟨c,a,_⟩:=b.one ag;grind[arb]
    by_cases g:f.k=20
    ·obtain⟨c,a,_⟩:=b.one ag;grind[aq8]
    grind[abv]
end
end Go.Proofs.YtmjochipbmgljaaGreatDoor
