import Derived.Test.YtbahbhkogflhbaaGreatDoorMakesJ1
set_option linter.all false
set_option maxRecDepth 99999
set_option maxHeartbeats 999999
noncomputable section
namespace Go.Proofs.YtbahbhkogflhbaaGreatDoor
open Go Go.Sh Go.WideShapes
section
variable {S D E:aQ} {h' h0 H:Hp} {lb j m i:Nat} {c1 a:Addr} {xs:List Pl} {J Jx:List Pl->HP} {fs:cN} {u t s:Sl} {Kp:PK} {el:TypeId} {k w x y e:Int} {q p:Sl×Sl×Sl} {f c:aq} {B:Bool}
def PlE(h0:Hp)(x:Pl)(y0 y1:Sl)(y2:fh)(y3:Bool)(y4 y5 y6 y7:Int)(y8:Sl)(y9:Bool):Prop:=
 (y0.n=x.deep∧y0.n≤y0.c)∧cH h0 y1 x.ahead∧y2=x.f.name∧y3=x.f.au∧y4=x.f.k∧y5=x.f.w∧y6=x.f.id∧y7=x.f.ix∧cH h0 y8 x.f.cs∧y9=x.ins∧x.f.name.size≤jO∧x.ahead.length≤jO
def PlA(h0:Hp)(x:Pl)(args:bq):Prop:=∃y0 y1 y2 y3 y4 y5 y6 y7 y8 y9,args=[(.agg #[(Sl.v y0),(Sl.v y1),(.string y2),(.bool y3),(ah y4),(ah y5),(ah y6),(ah y7),(Sl.v y8),(.bool y9)])]∧PlE h0 x y0 y1 y2 y3 y4 y5 y6 y7 y8 y9
def HK(a3 a4:Nat)(c1:Addr):Value:=.func (.func 65) #[] #[(bH a3),(c9 c1),(bH a4)]
structure MO(h0:Hp)(lb a3 a4:Nat)(c1:Addr)(xs:List Pl)(J Jx:List Pl→HP):Prop where
 pre:∀p h1,J p h1→az h0 h1∧cell h1 c1=some (ah 65)
 ai:∀p h1 h2,az h1 h2→J p h1→J p h2
 aIY:∀p h1 h2,az h1 h2→Jx p h1→Jx p h2
 y:∀p x gq h1 args,PlA h0 x args→xs=p++x::gq→J p h1→wL aE lb args h1 (fun v h2=>Tn (fun c=>c≤lb) h1 h2∧((v=.bool true∧J (p++[x]) h2)∨(v=.bool false∧Jx (p++[x]) h2))) qI
 l3:lb<a3
 l4:lb<a4
structure CT(h:Hp)(a3 a4 lb:Nat)(c1:Addr):Prop where
 k3:aN h a3 #[.func (.yield lb) #[] #[]] af2
 k4:aN h a4 #[HK a3 a4 c1] af1
theorem CT.fr{h:Hp}{a3 a4:Nat}(o:CT h a3 a4 lb c1)(f:Tn S h h')(h3:¬S a3)(h4:¬S a4):CT h' a3 a4 lb c1:=⟨f.aZ o.k3 h3,f.aZ o.k4 h4⟩
theorem CT.ai{h:Hp}{a3 a4:Nat}(o:CT h a3 a4 lb c1)(g:az h h'):CT h' a3 a4 lb c1:=o.fr (S:=No) (bg g) id id
def Jz(h0:Hp)(lb a3 a4:Nat)(c1:Addr)(xs:List Pl)(J Jx:List Pl→HP)(cs:cN):Prop:=
 ∀{h1:Hp}{path l:Sl}{vs:bq}{ins:Bool}{d lo:Nat}{p gq:List Pl}{K:Bool→HP},cH h0 l cs→Sh lo h1.size 1 h1 path vs Y6→lb<lo→lo≤h1.size→(∀v∈vs,one v=true)→vs.length=d→d≤64→CT h1 a3 a4 lb c1→cs.length≤jO→hY cs→
  xs=p++(eB (d+1) [] ins cs++gq)→J p h1→(∀h2,Tn (fun c=>c≤lb) h1 h2→J (p++eB (d+1) [] ins cs) h2→K true h2)→(∀h2 p' s',xs=p'++s'→Jx p' h2→K false h2)→
  aj4 path l ins (aJ a3) c1 (aJ a4) h1 K qI
theorem ad7{a3 a4:Nat}(W:MO h0 lb a3 a4 c1 xs J Jx){cs:cN}(IH:∀f∈cs,Jz h0 lb a3 a4 c1 xs J Jx f.cs):Jz h0 lb a3 a4 c1 xs J Jx cs:=by
 intro h1 path l vs ins d lo p gq K hf op hlo atZ KR hvl hd own vZ tD tC hJ hT hX
 have TA:=hf.n
 have vZ:cs.length≤9223372036854775807:=vZ
 have ff:jV aE 65=true:=by kernel_rfl
 apply aGv
 apply aDe
 apply aA0 (fun x h'=>∃i:Nat,x=(i:Int)∧i≤cs.length∧Tn (fun c=>c≤lb) h1 h'∧J (p++eB (d+1) [] ins (cs.take i)) h') (fun x _=>cs.length-x.toNat) ⟨0,rfl,ag,iV _ _,by simpa[eB]using hJ⟩
 rintro x h2 ⟨i,rfl,hi,f2,hJ2⟩ N1 hN
 have QW:=op.fr f2 fun b hb _ _=>ag
 have QW:=QW.wide (bX _) f2.1
 have abp:=own.fr f2 (by have:=W.l3;show¬a3≤lb;omega) (by have:=W.l4;show¬a4≤lb;omega)
 have aIt:=jE atZ f2.1
 have aIv:lb<h2.size:=by have:=abp.k3.lt;have:=W.l3;omega
 apply aDd
 refine aG (fun c=>?_) fun c=>?_
 ·simp only[sm,reduceCtorEq]at c
  have dQ:i<cs.length:=ag
  have hj:=bJ dQ
  have lH:=kS dQ
  have xF:cs=cs.take i++(cs[i]::cs.drop (i+1)):=by rw[←CC dQ,EL]
  have BJ:=kH dQ
  generalize cs[i]=f at hj lH xF BJ
  have Th:eB (d+1) [] ins cs=eB (d+1) [] ins (cs.take i)++(f.places (d+1) (cs.take i) ins++eB (d+1) (cs.take i++[f]) ins (cs.drop (i+1))):=by
   have q:=tQ (eB (d+1) [] ins) xF
   rw[q,Kr];simp[eB]
  have ac9:eB (d+1) [] ins (cs.take (i+1))=eB (d+1) [] ins (cs.take i)++f.places (d+1) (cs.take i) ins:=by rw[lH,Kr];simp[eB]
  have hsf:=tD.get f BJ
  have BL:f.places (d+1) (cs.take i) ins=⟨d+1,cs.take i,f,ins⟩::(if d+1<65 then eB (d+2) [] (ins||f.k==19) f.cs else[]):=by cases f;rfl
  have nB:f.name.size≤jO∧f.cs.length≤jO∧hY f.cs:=by cases f;unfold aq.fN at hsf;exact hsf
  have IHf:Jz h0 lb a3 a4 c1 xs J Jx f.cs:=IH f BJ
  refine hf.ix rfl hj fun a ha=>?_
  obtain⟨u,hu,c0,c1',c2,c3,c4,c5,c6⟩:=ha.cells
  have G:=(W.pre _ _ hJ2).1
  refine⟨_,G.cell c0,_,G.cell c1',_,G.cell c2,_,G.cell c3,_,G.cell c4,_,G.cell c5,_,G.cell c6,?_⟩
  refine aF fun b11 hx eb gx kx _=>oO kx rfl fun h3 o3 tu=>?_
  have g3:=o3.ai gx ag
  have aIK:h2.size≤b11:=ag
  have aIJ:=tu.lt
  apply aDc
  refine axO ((QW.ai g3).wide (bX _) g3.1) KR ag fun t21 h4 g4 o4=>?_
  have g4:=ak g3 g4
  have tu:=tu.ai (ak (cQ _) ‹az h3 h4›)
  refine alD o4 ‹az h3 h4›.1 ag fun Pw h5 f5 o5 hn5=>?_
  have tu:=f5.aZ tu (fun q=>by have:=q.1;omega)
  have g5:az h2 h5:=((bg g4:Tn No h2 h4).trans' f5 fun c hc eC=>by have:=hc.1;have:=g3.1;omega).ai
  have abo:=abp.ai g5
  have hJ5:=W.ai _ _ _ g5 hJ2
  have G5:=(W.pre _ _ hJ5).1
  apply aDb
  try simp only[bz,Nat.reduceAdd]
  apply aj (x:=Value.func (.yield lb) #[] #[]) abo.k3 rfl
  refine⟨aA,aA,by simp;try omega,by simp;try omega,?_⟩
  apply dO tu
  have hE:PlE h0 ⟨d+1,cs.take i,f,ins⟩ Pw ⟨kV l.a ((none:Option Int).getD 0).toNat ((none:Option Int).getD l.c).toNat 7,((some (i:Int)).getD l.n).toNat-((none:Option Int).getD 0).toNat,((none:Option Int).getD l.c).toNat-((none:Option Int).getD 0).toNat⟩ f.name f.au f.k f.w f.id f.ix u ins:=by
   refine⟨⟨show Pw.n=d+1 by omega,o5.cap⟩,hf.take hi ?_ ?_ ?_,rfl,rfl,rfl,rfl,rfl,rfl,hu,rfl,nB.1,by simp only[m8];omega⟩
   ·simp only[kV,wG,MB,Nat.zero_mul]
    split
    ·rfl
    ·cases l.a with
     |none=>rfl
     |some a=>simp[add_zero']
   ·simp
   ·simp
  unfold cZ
  refine wL.mono (W.y _ _ ((if d+1<65 then eB (d+2) [] (ins||f.k==19) f.cs else[])++(eB (d+1) (cs.take i++[f]) ins (cs.drop (i+1))++gq)) _ _ ⟨_,_,_,_,_,_,_,_,_,_,rfl,hE⟩ (by rw[tC,Th,BL];simp) hJ5) (fun v h6 hv=>?_) (fun _ _ q=>q)
  obtain⟨f6,(⟨rfl,TJ⟩|⟨rfl,hX6⟩)⟩:=hv
  ·refine⟨true,rfl,bu rfl ?_⟩
   have f26:=(bg g5:Tn (fun c=>c≤lb) h2 h5).trans f6
   have tu:=f6.aZ tu (show¬b11≤lb by omega)
   have abn:=abo.fr f6 (by have:=W.l3;show¬a3≤lb;omega) (by have:=W.l4;show¬a4≤lb;omega)
   have o6:=(o5.fr f6 fun b hb _ (e:b≤lb)=>by have:=g3.1;omega).wide (bX _) f6.1
   have auu:=(W.pre _ _ TJ).2
   apply aDa
   try simp only[bz,Nat.reduceAdd]
   refine⟨_,auu,?_⟩
   have fin:∀h7,Tn (fun c=>c≤lb) h2 h7→J (p++eB (d+1) [] ins (cs.take (i+1))) h7→aP ((i:Int)+1) fun t55=>N1 (zI path l ins (aJ a3) c1 (aJ a4) l (l.n:Int) t55) h7:=fun h7 f7 j7=>
    aX ag ag (hN _ _ ⟨i+1,aA,ag,f2.trans f7,j7⟩ ag)
   refine aG (fun c=>?_) fun c=>?_
   ·simp only[sm,reduceCtorEq]at c
    have aun:d+1<65:=ag
    rw[aK aun]at BL
    have aaU:∀(b:Bool),b=(ins||f.k==19)→cZ aE (HK a3 a4 c1) [Sl.v Pw,Sl.v u,.bool b] h6 (fun r h1=>∃t52:Bool,r=.bool t52∧If (!t52) (K false h1) (aP ((i:Int)+1) fun t55=>N1 (zI path l ins (aJ a3) c1 (aJ a4) l (l.n:Int) t55) h1)) qI:=by
     intro b hb
     unfold cZ HK
     simp only[ff,ER]
     refine IHf (d:=d+1) (gq:=eB (d+1) (cs.take i++[f]) ins (cs.drop (i+1))++gq)
      (K:=fun t52 h1=>If (!t52) (K false h1) (aP ((i:Int)+1) fun t55=>N1 (zI path l ins (aJ a3) c1 (aJ a4) l (l.n:Int) t55) h1)) hu o6 (by have:=g3.1;omega) (by have:=g5.1;have:=f6.1;have:=‹az h3 h4›.1;have:=f5.1;omega)
      (fun v hv=>by rcases nh.1 hv with q|q;exact KR v q;simp only[ng]at q;subst q;rfl) (by simp;omega) ag abn nB.2.1 nB.2.2 (by rw[tC,Th,BL,hb];simp) TJ (fun h7 f7 j7=>?_) (fun h7 p' s' e j=>?_)
     ·refine bu rfl (fin h7 (f26.trans f7) ?_)
      rw[ac9,BL,←hb]
      simpa using j7
     ·exact bS rfl (hX h7 p' s' e j)
    refine aj abn.k4 rfl (aj tu rfl ?_)
    cases ins
    ·refine bu rfl (aj tu rfl ?_)
     exact aaU _ aA
    ·exact bS rfl (aaU _ aA)
   ·simp only[sm,reduceCtorEq]at c
    apply fin h6 f26
    rw[ay]at BL
    rw[ac9,BL]
    simpa using TJ
  ·exact⟨false,rfl,bS rfl (hX h6 _ ((if d+1<65 then eB (d+2) [] (ins||f.k==19) f.cs else[])++(eB (d+1) (cs.take i++[f]) ins (cs.drop (i+1))++gq)) (by rw[tC,Th,BL];simp) hX6)⟩
 ·simp only[sm,reduceCtorEq]at c
  have:i=cs.length:=ag
  simp_all
theorem ad8{a3 a4:Nat}(W:MO h0 lb a3 a4 c1 xs J Jx):∀f:aq,Jz h0 lb a3 a4 c1 xs J Jx f.cs
 |.mk _ _ _ _ _ _ cs=>ad7 W (cs:=cs) fun f _=>ad8 W f
def UZ(c1 c2:Addr):Value:=.func (.func 64) #[] #[(c9 c1),(c9 c2)]
theorem av1{a3 a4:Nat}(W:MO h0 lb a3 a4 c1 xs J Jx)(cs:cN):Jz h0 lb a3 a4 c1 xs J Jx cs:=ad7 W fun f _=>ad8 W f
theorem ay3{c2:Addr}{l:Sl}{cs:cN}(hf:cH h0 l cs)(vZ:cs.length≤jO)(tD:hY cs):Xz aE (UZ c1 c2) (eB 1 [] false cs) (PlA h0) (fun h=>az h0 h∧cell h c1=some (ah 65)∧cell h c2=some (Sl.v l)):=by
 intro lb J Jx h nB Le qX hG hGx Y
 have ff:jV aE 64=true:=by kernel_rfl
 have aIl:jV aE 65=true:=by kernel_rfl
 unfold uq UZ
 simp only[ER]
 refine dX.mono (aGw ?_) (fun _ _ hh=>hh.2) (fun _ _ hh=>hh)
 refine aF fun a3 h1 e3 g1 k3 _=>aF fun a4 h2 e4 g2 k4 _=>?_
 have k3:=k3.ai g2
 have xD:a3≠a4:=by have:=k3.lt;have:=g1.1;omega
 refine⟨rfl,?_⟩
 refine dI k4 aA rfl fun h3 o3 k4=>?_
 have k3:=o3.aZ k3 xD
 have hg:az h h3:=by grind[eJ.ai,az.trans]
 have hJ3:=hG _ _ _ hg Le
 refine aj (x:=HK a3 a4 c1) k4 rfl ⟨_,(qX _ _ hJ3).2.2,?_⟩
 have W:MO h0 lb a3 a4 c1 _ J Jx:=⟨fun p h1 j=>⟨(qX p h1 j).1,(qX p h1 j).2.1⟩,hG,hGx,fun p x gq h1 args hA e j=>Y p x gq h1 args hA e j,ag,by have:=g1.1;omega⟩
 unfold cZ HK
 simp only[ER]
 refine dX.mono (av1 W cs (path:=Sl.nil) (d:=0) (gq:=[]) (K:=fun _ h2=>J (eB 1 [] false cs) h2∨∃pre gq,eB 1 [] false cs=pre++gq∧Jx pre h2) hf (Sh.nil _ _ _ _ _) (by have:=hg.1;omega) (bX _) aA rfl ag ⟨k3,k4⟩ vZ tD aA hJ3
  (fun h4 _ j=>.inl (by simpa using j)) (fun h4 p' s' e j=>.inr ⟨p',s',e,j⟩)) (fun _ _ hh=>?_) (fun _ _ hh=>hh)
 obtain⟨b,rfl,hh⟩:=hh
 exact⟨b,rfl,hh⟩
theorem Tw.back{l:Nat}{h1 BQ zW:Hp}(g:az h1 BQ)(t:Tw l BQ zW)(hl:∃r,h1[l]? =some (.loop r)):∃h',Tw l h1 h'∧zW[l]? =h'[l]? :=by
 obtain⟨r,hr⟩:=hl
 obtain⟨_,_,r',st,pd,e1,e2⟩:=t
 rw[Hy g hr]at e1
 cases e1
 refine⟨h1.setIfInBounds l (.loop {r with state:=st,pending:=pd}),A9 hr,?_⟩
 grind
abbrev C9(h:Hp)(b:Nat)(e:Int)(s:Sl)(n:Int):Prop:=aN h b #[ah e,Sl.v s,ah n] kI
theorem apM{h:Hp}{D a6 r:Nat}{s7:Sl}{c2:Addr}{K:Int->Sl->Int->HP}(ht:lP H)(hf:cH H u fs)(w':fs.length<=jO)(q':hY fs)(g:az H h)
  (l2:H.size<=j) (l5:H.size<=D) (lr:H.size<=r) (k2:C9 h j 0 s7 0) (k5:aN h D #[ah 0] Y6) (k6:aN h a6 #[.map (some r)] VW) (hm:pZ h r []) (n25:j≠D) (n26:j≠a6) (n56:D≠a6) (n2r:j≠r) (n5r:D≠r) (n6r:a6≠r) (y':cell h c1=some (ah 65)) (x':cell h c2=some (Sl.v u))
  (d12:c1.block≠j) (d15:c1.block≠D) (d1r:c1.block≠r) (d22:c2.block≠j) (d25:c2.block≠D) (d2r:c2.block≠r)
  (hk:∀(e:Int)(s:Sl)n h',az H h'->s.n<=s.c->(e=0↔gP 0 [] (eB 1 [] false fs))->K e s n h'):Wg K Kp (aJ j) (aJ D) (aJ a6) (UZ c1 c2) h:=by
 have i2:=k2.lt;have i5:=k5.lt;have i6:=k6.lt;have ir:r<h.size:=by obtain⟨_,_,e,_⟩:=hm;exact(jD.1 e).1
 refine azs (α:=Pl) _ (ay3 hf w' q')
  (λz y=>Tn (λc=>c=D\/c=r) h y/\aN y D #[ah (z.length:Int)] Y6/\pZ y r (lG [] z)/\gP 0 [] z)
  (λz y=>Tn (λc=>c=j\/c=D\/c=r) h y/\∃(e:Int)(s:Sl),C9 y j e s 0/\e≠0/\s.n<=s.c/\¬gP 0 [] z) ⟨iV _ _,k5,hm,trivial⟩ ?_ ?_ ?_ ?_ ?_ ?_ ?_ ?_
 ·rintro z y h2 g ⟨f,b,m,a⟩;exact⟨f.trans' (bg (S:=No) g) λ_ t=>t.elim,b.ai g,m.ai g,a⟩
 ·rintro l z y h2 hl t ⟨f,b,m,a⟩;exact⟨f.trans' t.only.fr λd A R=>ag,t.only.aZ b ag,m.fr t.only.fr ag,a⟩
 ·rintro z y ⟨f,_⟩;refine⟨⟨jE g.1 f.1,λc Q=>(f.2 c ag ag).trans (g.2 c Q)⟩,f.cell y' ag,f.cell x' ag⟩
 ·rintro z y h2 g ⟨f,e,s,b,q⟩;exact⟨f.trans' (bg (S:=No) g) λ_ t=>t.elim,e,s,b.ai g,q⟩
 ·rintro l z y h2 hl t ⟨f,e,s,b,q⟩;exact⟨f.trans' t.only.fr λd A R=>ag,e,s,t.only.aZ b ag,q⟩
 ·rintro l z x p' y y0 y1 y2 y3 y4 y5 y6 y7 y8 y9 hE g' hl Z ⟨L,M,P,a1⟩ N X hN hX;obtain⟨⟨hp,s'⟩,ha,rfl,rfl,rfl,rfl,rfl,rfl,r',rfl,u',z'⟩:=hE;have v':l<y.size:=by obtain⟨q,hq⟩:=Z;exact(jD.1 hq).1
  have G1:az H y:=⟨jE g.1 L.1,λc Q=>(L.2 c ag ag).trans (g.2 c Q)⟩
  have Y:=L.aZ k6 ag;have b2:=L.aZ k2 ag;have hlen:=Y1 a1 ag;unfold agu;have p:=jM.start No y;refine p.new λb7 _ hb7 _ p=>?_;refine p.st 0 rfl rfl rfl λ_ _ p=>?_;simp only[kj,oP]at p;refine p.oH 0 rfl rfl rfl λ_ _ p=>?_;simp only[kj,oP]at p;refine p.oH 0 rfl rfl rfl λ_ _ p=>?_;simp only[cF,kj,tP,oP]at p;refine p.oH 0 rfl rfl rfl λ_ _ p=>?_;simp only[cF,kj,tP,oP]at p;refine p.oH 0 rfl rfl rfl λ_ _ p=>?_;simp only[cF,kj,tP,oP]at p;refine p.oH 0 rfl rfl rfl λ_ _ p=>?_;simp only[cF,kj,tP,oP]at p;refine p.oH 0 rfl rfl rfl λ_ _ p=>?_;simp only[cF,kj,tP,oP]at p;refine p.oH 0 rfl rfl rfl λ_ _ p=>?_;simp only[cF,kj,tP,oP]at p;refine p.oH 0 rfl rfl rfl λ_ _ p=>?_;simp only[cF,kj,tP,oP]at p;refine p.oH 0 rfl rfl rfl λ_ _ p=>?_;simp only[cF,kj,tP,oP]at p
  rename_i c' _
  have C:aN c' b7 #[Sl.v y0,Sl.v y1,.string x.f.name,.bool x.f.au,ah x.f.k,ah x.f.w,ah x.f.id,ah x.f.ix,Sl.v y8,.bool x.ins] VV:=p.aZ (i:=0) rfl;have I:=p.ai;clear p;refine⟨(I.2 l v'),λj' f'=>?_⟩;have F:=f'.only;have C:=F.aZ C ag;have M:=F.aZ (M.ai I) ag;have Y:=F.aZ (Y.ai I) ag;have b2:=F.aZ (b2.ai I) ag;have P:=(P.ai I).fr F.fr ag;obtain⟨h',t',e'⟩:=Tw.back I f' Z;have W:=(bg I:Tn (λc=>c=l) y c').trans' F.fr λd A _=>A;have G12:az H j':=⟨jE G1.1 W.1,λc Q=>(W.2 c ag ag).trans (G1.2 c Q)⟩
  clear F
  try simp only[bz,Nat.reduceAdd]
  refine aj C rfl (aj C rfl (aj C rfl (aj C rfl (aj C rfl (aj C rfl (aj C rfl (aj C rfl (aj C rfl (aj C rfl (aj M rfl (aj Y rfl (alr G12 ht hp ha r' z' u' P λe i' G he=>?_))))))))))));have m':=W.trans' (bg (S:=No) G) λ_ t=>t.elim;have C:=C.ai G;have M:=M.ai G;have Y:=Y.ai G;have b2:=b2.ai G;have P:=P.ai G;have el:i'[l]? =h'[l]? :=(G.2 l (by have:=W.1;omega)).trans e'
  have a':gP 0 [] (z++[x])↔e=0:=by
   rw[FD];simp only[gP,EP,cF];exact⟨λq=>he.2 q.2,λq=>⟨a1,he.1 q⟩⟩
  refine cE (λc=>?_) λc=>?_
  ·refine aj C rfl (dI b2 aA rfl λO B b2=>dI b2 aA rfl λV E b2=>dI b2 aA rfl λU b' b2=>?_);have o:=(B.trans E).trans b';have k':Tn (λc=>c=l\/c=j) y U:=(m'.mono λd A _=>.inl A).trans' o.fr λd A _=>.inr A;exact hX h' U t' ((o.2 l ag).trans el) (k'.mono λd A _=>ag)
    ⟨(L.mono λd A _=>.inr A).trans' k' λd A R=>ag,e,y0,by simpa using b2,c,s',λq=>c (a'.1 q)⟩
  ·refine aj M rfl (aX ag ag (dI M aA rfl λO B M=>?_));have C:=B.aZ C ag;have Y:=B.aZ Y ag;have P:=P.fr B.fr ag;have d':Tn (λc=>c=l\/c=D) y O:=(m'.mono λd A _=>.inl A).trans' B.fr λd A _=>.inr A;have M:aN O D #[ah ((z++[x]).length:Int)] Y6:=by simpa using M
   have n':=a'.2 c;refine aj C rfl (cE (λJ=>?_) λJ=>?_)
   ·refine aj Y rfl (aj C rfl (aj M rfl (azj P λV E m2=>?_)));have l':Tn (λc=>c=l\/c=D\/c=r) y V:=(d'.mono λd A _=>ag).trans' E.fr λd A _=>.inr (.inr A)
    refine hN h' V t' ((E.2 l ag).trans ((B.2 l ag).trans el)) (l'.mono λd A _=>ag) ⟨L.trans' l' λd A R=>ag,E.aZ M ag,?_,n'⟩
    rw[acQ]
    simpa[lG,xw,J]using m2
   ·refine hN h' O t' ((B.2 l ag).trans el) (d'.mono λd A _=>ag) ⟨L.trans' d' λd A R=>ag,M,?_,n'⟩
    rw[acQ]
    simpa[lG,xw,J]using P
 ·rintro y ⟨L,M,P,a1⟩;have b2:C9 y j 0 s7 0:=L.aZ k2 ag;have G1:az H y:=⟨jE g.1 L.1,λc Q=>(L.2 c ag ag).trans (g.2 c Q)⟩
  unfold agw
  try simp only[bz,Nat.reduceAdd]
  refine dI b2 aA rfl λO B b2=>dI b2 aA rfl λV E b2=>dI b2 aA rfl λU b' b2=>?_;have b2:C9 U j 0 Sl.nil 0:=by simp at b2;exact b2
  exact aj b2 rfl (aj b2 rfl (aj b2 rfl (hk _ _ _ _ (bI G1 ((B.trans E).trans b') l2) (bX _) ⟨λ_=>a1,λ_=>rfl⟩)))
 ·rintro z p' y g' ⟨L,e,s,b2,he,o',na⟩;have G1:az H y:=⟨jE g.1 L.1,λc Q=>(L.2 c ag ag).trans (g.2 c Q)⟩
  unfold ags
  try simp only[bz,Nat.reduceAdd]
  refine aj b2 rfl (aj b2 rfl (aj b2 rfl (hk _ _ _ _ G1 o' ⟨λq=>absurd q he,λq=>?_⟩)));grind[FD]
theorem azv{h:Hp}{K:Nat->HP}(b:∀r a,r=h.size->az h a->pZ a r []->K r a):E8 h K:=
 b _ _ rfl (qx _ _) ⟨#[],0,aA,aA,aA⟩
theorem axT{ms:List Md}{h:Hp}{K:Int->Sl->Int->HP}(ht:lP H)(f':hY fs)(g:az H h)(hf:cH H t fs)(h2:Wa H u 2 (ms.map arK))
  (hk:∀(e:Int)(s:Sl)n F,az H F->s.n<=s.c->(e=0↔E6 fs ms)->K e s n F):YQ t u h K Kp:=by
 apply aG1;have r':=hf.n;have q':u.n=ms.length:=by simpa using h2.1
 refine aF λb1 h3 e1 g1 l _=>aF λb2 U e2 g2 p _=>?_;have l:=l.ai g2;have g4:=ak g (ak g1 g2);have l2:H.size<=b2:=by have:=g.1;have:=g1.1;omega
 have n':b1<b2:=by have:=l.lt;have:=g1.1;omega
 try simp only[Nat.reduceAdd]
 have p:C9 U b2 0 Sl.nil 0:=p;have b:∀(e n:Int)(d:Hp)(X:Sl)(e7 n7:Int),e≠0->¬E6 fs ms->C9 d b2 e7 X n7->az H d->St d (aJ b2) (ah e) λh3=>St h3 ⟨b2,1,none⟩ (.slice none 0 0) λU=>St U ⟨b2,2,none⟩ (ah n) λd=>Ld d (aJ b2) mI λS=>Ld d ⟨b2,1,none⟩ (Sl.v) λR=>Ld d ⟨b2,2,none⟩ mI λQ=>K S R Q d:=by
  intro e n d X e7 n7 Y i' k G;refine dI k aA rfl λw' c' k=>dI k aA rfl λu' b' k=>dI k aA rfl λm' a' k=>?_;have k:C9 m' b2 e Sl.nil n:=by simp at k;exact k
  exact aj k rfl (aj k rfl (aj k rfl (hk _ _ _ _ (bI G ((c'.trans b').trans a') l2) (bX _) ⟨λq=>absurd q Y,λq=>absurd q i'⟩)))
 refine aj l rfl (aG (λc=>?_) λc=>?_)
 ·have c:=aS c;exact b _ _ _ _ _ _ bw (λq=>by have:=q.1;omega) p g4
 refine aj l rfl (aG (λc2=>?_) λc2=>?_)
 ·have c2:=aS c2;exact b _ _ _ _ _ _ bw (λq=>by have:=q.2.1;omega) p g4
 simp only[sm,reduceCtorEq]at c c2;apply aDL
 try simp only[Nat.reduceAdd]
 refine aj l rfl (aBg (λx F=>az U F/\∃i:Nat,x=i/\i<=ms.length/\∀(j:Nat)v,j<i->ms[j]? =some v->Wp v) (λx _=>ms.length-x.toNat) ⟨cQ _,0,rfl,ag,λj v hj=>ag⟩ ?_)
 rintro x d ⟨G,i,rfl,hi,A⟩ N1 hN;have l:=l.ai G;have p:=p.ai G;have B:=ak g4 G
 try simp only[Nat.reduceAdd]
 refine cE (λM=>?_) λM=>?_
 ·have l':i<ms.length:=ag;have L:=bJ l';generalize ms[i]=v at L;refine h2.ix rfl L λa ha=>⟨_,B.cell (Cs.c0 ha),_,B.cell (ha 1 _ rfl),?_⟩;have f:=jM.start No d;refine f.new λb6 _ t' _ f=>f.st 0 rfl rfl rfl λ_ _ f=>?_;simp only[cF,kj,tP,oP]at f;refine f.oH 0 rfl rfl rfl λ_ _ f=>?_;simp only[cF,kj,tP,oP]at f
  rename_i Z _
  have w:=f.aZ (i:=0) rfl;have z:=f.ai;clear f
  try simp only[bz,Nat.reduceAdd]
  refine aj w rfl (aG (λW=>?_) λW=>?_)
  ·have W:=aS W;exact b _ _ _ _ _ _ bw (λq=>by have:=(q.2.2.1 i v L).1;omega) (p.ai z) (ak B z)
  refine aj w rfl (aG (λV=>?_) λV=>?_)
  ·have V:=aS V;exact b _ _ _ _ _ _ bw (λq=>by have:=(q.2.2.1 i v L).2;omega) (p.ai z) (ak B z)
  simp only[sm,reduceCtorEq]at W V;refine aX ag ag (hN _ _ ⟨ak G z,i+1,aA,ag,λj' v' s' I=>?_⟩ ag)
  by_cases e:j'=i
  ·subst e;rw[L]at I;cases I;exact⟨ag,ag⟩
  ·exact A j' v' ag I
 ·have k':∀(j:Nat)m,ms[j]? =some m->Wp m:=by grind[List.getElem?_eq_some_iff]
  refine aDK (aF λa5 Z e5 z E _=>dI E aA rfl λJ o7 E=>?_);have E:aN J a5 #[ah 0] Y6:=by simpa using E
  have g7:=bI z o7 ag;refine azv λr h8 er g8 hm=>?_;subst er;have p':J.size<h8.size:=by obtain⟨_,_,e,_⟩:=hm;exact(jD.1 e).1
  refine aF λa6 h9 e6 g9 w _=>dI w aA rfl λN d' w=>?_;have w:aN N a6 #[.map (some J.size)] VW:=by simpa using w
  have y:=bI g9 d' ag;have D:=ak g7 (ak g8 y);have l:=l.ai D;have i2:=p.lt;have i5:=E.lt;refine aj l rfl (aGL (aF λc2 y' z' P C _=>aF λc1 x' ec1 O e' _=>?_));have o:=ak P O;have C:=C.ai O;have:=y.1;have:=P.1;refine apM ht hf (by show _<=9223372036854775807;omega) f' (ak B (ak D o)) l2 (by have:=B.1;omega) (by have:=B.1;omega) (p.ai (ak D o)) (E.ai (ak g8 (ak y o))) (w.ai o) (hm.ai (ak y o))
   ag ag ag ag ag ag (by rw[ia e'];rfl) (by rw[ia C];rfl) (by simp only;omega) (by simp only;omega) (by simp only;omega) (by simp only;omega) (by simp only;omega) (by simp only;omega) λe s n F g' T Y=>hk e s n F g' T (Y.trans ?_)
  rw[FE];exact⟨λq=>⟨ag,ag,k',q⟩,λq=>q.2.2.2⟩
theorem bQ{h:Hp}{b o n:Nat}{cs:Array Value}{X:Prop}(k:aN h b cs el)(g:az h H)(x:X):aT h H ⟨b,o,none⟩ n X:=
 ⟨λi _=>by rw[bz,ia (k.ai g),ia k],x⟩
theorem CY{h h1:Hp}{v:Value}{X:Prop}(hc:cell h a=some v)(g:az h h1)(x:X):aT h h1 a 1 X:=
  ⟨fun i hi => by obtain rfl:i=0:=ag
                  rw[add_zero',hc,g.cell hc],x⟩
theorem cH.gr{h:Hp}(c:cH h s fs)(g:az h H):cH H s fs:=cH.ai g fs c
def bB(f:aq):Prop:=E6 [f] []
theorem LQ{l:fh}{au:Bool}{id ix:Int}{cs:cN}{h:Hp}{K:Int->Sl->Int->HP}{Q:PK}(J:lP h)(y:(aq.mk l au k w id ix cs).fN)(L:cH h s cs)
  (m:∀e p n o,az h o->(e=0↔bB (.mk l au k w id ix cs))->K e p n o):Fm l au k w id ix s h K Q:=by
 refine aD2 (aF λb1 Y e1 E H _=>aF λb2 X e2 D a _=>dO (H.ai D) (aF λb5 W Z C G _=>?_));have u:=ak E (ak D C);have hl:h.size<=b2:=by have:=E.1;omega
 refine axT (fs:=[.mk l au k w id ix cs]) (ms:=[]) (J.ai u) ⟨y,trivial⟩ (cQ _) ?_ ⟨rfl,bX _,λj r M=>by simp at M⟩ λe p n V B R N=>?_
 ·unfold cH;exact⟨rfl,bX _,_,rfl,⟨s,λi v I=>by rw[bz,cF,ia G];simpa[nU]using I,L.gr u⟩,trivial⟩
 have a:=(a.ai C).ai B;have t:=ak u B;have m:=λp n o g=>m e p n o g N;refine aF λP U e3 A d _=>mZ d rfl λT z d=>?_;have f:b2≠P:=by have:=a.lt;omega
 have a:=z.aZ (a.ai A) f;have F:=bI (ak t A) z (by have:=t.1;omega)
 simp only[bz];refine aj d rfl (aG (λc=>?_) λc=>?_)
 ·have c:=aS c;refine aj d rfl ⟨aA,by simp;omega,by simp;omega,aA,(dI d aA rfl λS x d=>?_)⟩
  have a:=x.aZ a f;exact oN d (mZ a rfl λO q a=>oN a (m _ _ _ (bI (bI F x (by have:=t.1;omega)) q hl)))
 grind[eO.b,dZ.b,eJ.ai]
def gR(k:Int)(cs:cN):Bool:=k==1||(k==20&&match cs with|f::_=>f.au|[]=>false)
def TM(k w id ix:Int)(cs:cN):aq:=.mk (bs [97]) (gR k cs) k w id ix cs
theorem atN{id ix:Int}{cs:cN}{h:Hp}{K:ByteArray->Bool->Int->Int->Int->Int->Sl->HP}{Y:PK}(M:cH h s cs)
    (S:∀O,az h O->K (bs [97]) (gR k cs) k w id ix s O):Yn k w id ix s h K Y:=by
  refine aGh (aF λX h1 e1 P d _=>aF λb2 h2 e2 H q _=>yq (d.ai H) (aF λJ h3 e3 G t _=>oO t rfl λU D t=>?_));have a':X<b2:=by have:=d.lt;omega
  have Z:b2<J:=by have:=q.lt;omega
  have hl:h.size<=b2:=by have:=P.1;omega
  have d:=D.aZ ((d.ai H).ai G) ag;have q:=D.aZ (q.ai G) ag;have Q:=bI (ak P (ak H G)) D ag;have N:=M.n;have fin:∀b:Bool,b=gR k cs->St U ⟨J,1,none⟩ (.bool b) λF=>bR F (aJ J) λp o m l j g e=>jN F (aJ b2) p o m l j g e λE=>bR E (aJ b2) λC B A z y x v=>K C B A z y x v E:=by
    rintro b rfl;exact dI t aA rfl λF L t=>dO t (oO (L.aZ q ag) rfl λE R q=>dO q (S _ (bI (bI Q L ag) R hl)))
  simp only[bz];refine aj d rfl (aG (λc=>fin _ ?_) λc=>aj d rfl (aG (λr=>aj d rfl (aG (λI=>aj d rfl ?_) λI=>fin _ ?_)) λr=>fin _ ?_))
  ·simp[gR,c]
  · simp only[sm,reduceCtorEq]at c r I;cases cs with
    |nil=>have:=N.1;simp at this;omega
    | cons f V=>
      refine M.ix rfl rfl λa T=>?_;obtain⟨u,_,_,W,_⟩:=T.cells;exact⟨_,Q.cell W,fin _ (by simp[gR,r])⟩
  · simp only[sm,reduceCtorEq]at c r I;cases cs with
    |nil=>simp[gR,r]
    |cons f V=>have:=N.1;simp at this;omega
  ·simp[gR,c,r]
def tX(k w id ix:Int)(cs:cN):Prop:=bB (TM k w id ix cs)
theorem QZ{id ix:Int}{cs:cN}{h:Hp}{K:fB}{q:PK}(i:lP h)(hl:cs.length<=jO)(a:hY cs)(c:cH h s cs)
  (j:∀b d,az h d->(b=true↔tX k w id ix cs)->K b d):Jr k w id ix s h K q:=by
 refine aGp (aF λv u e1 f g _=>yq g (atN (c.gr f) λt o=>?_));have G:=ak f o;refine LQ (i.ai G) ⟨by decide,hl,a⟩ (c.gr G) λe p n r m l=>j _ _ (ak G m) ?_
 rw[oh];exact l
def aq.row(f:aq)(u:Sl):List Value:=nU f.name f.au f.k f.w f.id f.ix u
theorem Gc(f:aq)(u:Sl):(f.row u).length=7:=rfl
theorem row_one(f:aq)(u:Sl):∀v∈f.row u,one v=true:=by intro v a;simp[aq.row,nU]at a;rcases a with rfl|rfl|rfl|rfl|rfl|rfl|rfl <;> rfl
mutual
def bM(D:aQ)(h:Hp)(s:Sl):List aq->Prop
 |[]=>s.n=0/\s.n<=s.c
 |f::fs=>s.n=fs.length+1/\s.n<=s.c/\∃a,s.a=some a/\D a.block/\jy D h a f/\iC D h a 1 fs
def iC(D:aQ)(h:Hp)(a:Addr)(i:Nat):List aq->Prop
 |[]=>True
 |f::fs=>jy D h (a.add (i*7)) f/\iC D h a (i+1) fs
def jy(D:aQ)(h:Hp)(a:Addr):aq->Prop
 |.mk n au k w id ix cs=>∃s,Cs h a (nU n au k w id ix s)/\bM D h s cs
end
mutual
theorem bM.h{D:aQ}{h:Hp}:∀{s:Sl}(fs:cN),bM D h s fs->cH h s fs
  |_,[],hh=>by grind[bM,cH]
  | _,f::fs,hh=>by
    unfold bM at hh;unfold cH
    obtain⟨a,b,p,e,_,x,y⟩:=hh
    exact⟨a,b,p,e,jy.h f x,iC.h fs y⟩
theorem iC.h{D:aQ}{h:Hp}:∀{a:Addr}{i:Nat}(fs:cN),iC D h a i fs->iB h a i fs
 |_,_,[],_=>by unfold iB;trivial
 |_,_,f::fs,hh=>by unfold iC at hh;unfold iB;exact⟨jy.h f hh.1,iC.h fs hh.2⟩
theorem jy.h{D:aQ}{h:Hp}:∀{a:Addr}(f:aq),jy D h a f->jR h a f
  | _,.mk n au k w id ix cs,hh=>by
    unfold jy at hh;unfold jR
    obtain⟨s,c,x⟩:=hh
    exact⟨s,c,bM.h cs x⟩
end
mutual
theorem bM.fr{D S E:aQ}{h h':Hp}(f:Tn S h h')(hn:∀b,D b->¬S b)(hE:∀b,D b->E b):∀{s:Sl}(fs:cN),bM D h s fs->bM E h' s fs
  |_,[],hh=>by unfold bM at hh ⊢;exact hh
  | _,g::fs,hh=>by
    unfold bM at hh⊢
    obtain⟨a,b,p,e,d,x,y⟩:=hh
    exact⟨a,b,p,e,hE _ d,jy.fr f hn hE (hn _ d) g x,iC.fr f hn hE (hn _ d) fs y⟩
theorem iC.fr{D S E:aQ}{h h':Hp}(f:Tn S h h')(hn:∀b,D b->¬S b)(hE:∀b,D b->E b):∀{a:Addr}(ha:¬S a.block){i:Nat}(fs:cN),iC D h a i fs->iC E h' a i fs
  |_,_,_,[],_=>by unfold iC;trivial
  | _,ha,i,g::fs,hh=>by
    unfold iC at hh⊢
    exact⟨jy.fr f hn hE (by rw[CG];exact ha) g hh.1,iC.fr f hn hE ha fs hh.2⟩
theorem jy.fr{D S E:aQ}{h h':Hp}(f:Tn S h h')(hn:∀b,D b->¬S b)(hE:∀b,D b->E b):∀{a:Addr}(ha:¬S a.block)(g:aq),jy D h a g->jy E h' a g
  | _,ha,.mk n au k w id ix cs,hh=>by
    unfold jy at hh⊢
    obtain⟨s,c,x⟩:=hh
    exact⟨s,c.fr f ha,bM.fr f hn hE cs x⟩
end
theorem bM.gr{h:Hp}(c:bM D h s fs)(g:az h H):bM D H s fs:=bM.fr (bg g) (λ_ _=>id) (λ_=>id) fs c
abbrev lM:=@bM.gr
theorem iC.of{h:Hp}:∀{fs:cN}{i:Nat},(∀j f,fs[j]? =some f->jy D h (a.add ((i+j)*7)) f)->iC D h a i fs
  |[],_,_=>by unfold iC;trivial
  | f::fs,i,H=>by
    unfold iC;refine⟨H 0 f rfl,iC.of λj g b=>?_⟩;have:=H (j+1) g dG
    grind
theorem bM.of{h:Hp}{b:Nat}{cs:cN}{q:List Sl}(o:me 7 h s b (List.zipWith aq.row cs q) el)(hl:q.length=cs.length)(B:D b)(z:∀(j:Nat)(f:aq)(u:Sl),cs[j]? =some f->q[j]? =some u->bM D h u f.cs):bM D h s cs:=by
  have i:=o.n;rw[m7,hl,Ax]at i;have key:∀j f,cs[j]? =some f->jy D h ⟨b,j*7,none⟩ f:=by
    intro j f l;have t:=(de.1 l).1;have d:q[j]? =some q[j]:=aA;have p:(List.zipWith aq.row cs q)[j]? =some (f.row q[j]):=by rw[MA,l,d]
    have c:=o.cs p;have m:=z j f _ l d;generalize q[j]=u at c m;obtain⟨n,au,k,w,id,ix,ds⟩:=f;unfold jy;exact⟨u,c,m⟩
  cases cs with
  |nil=>unfold bM;simp[*]
  | cons f v=>
    unfold bM;refine⟨ag,o.cap,_,o.a,B,by simpa using key 0 f rfl,iC.of λj g r=>?_⟩
    rw[bz,cF];have:=key (j+1) g dG
    have e:1+j=j+1:=ag;rw[e];exact this
theorem bM.sub{h:Hp}{l:cN}(b:bM D h s l)(k:t.a=s.a)(e:t.n=s.n)(g:t.n<=t.c):bM D h t l:=by
 cases l with
 |nil=>unfold bM at b ⊢;omega
 |cons f l=>unfold bM at b ⊢;grind
theorem bM.n{h:Hp}(z:bM D h s fs):s.n=fs.length/\s.n<=s.c:=(bM.h fs z).n
theorem aoc(p:Option Addr)(m a:Nat):kV p 0 m a=p:=by
 unfold kV;simp[add_zero']
theorem axQ{h:Hp}{K:Sl->HP}{d:PK}(e:s.n<=s.c)(b:K ⟨s.a,s.n,s.n⟩ h):Yg s h K d:=by
 refine aF6 ⟨aA,aA,aA,by simp;omega,?_⟩
 simpa[aoc]using b
mutual
def aq.jG:aq->Prop
 |.mk _ _ _ _ _ _ cs=>cs.length<=70000/\jG cs
def jG:List aq->Prop
 |[]=>True
 |f::fs=>f.jG/\jG fs
end
theorem jG.get:∀{c:cN},jG c->∀f∈c,f.jG
  |[],_,_,h=>by simp at h
  | g::b,a,f,h=>by
    unfold jG at a;rcases mE.1 h with rfl|h
    ·exact a.1
    ·exact jG.get a.2 f h
theorem aq.jG.cs(h:f.jG):f.cs.length<=70000/\YtbahbhkogflhbaaGreatDoor.jG f.cs:=by cases f;unfold aq.jG at h;exact h
theorem aqh{cs:cN}{d:Nat}(b:∀f∈cs,∀(n:Nat)(a:List Int),gP n a (f.places d [] B)->f.jG):∀{n:Nat}{a:List Int},gP n a (lV d B cs)->jG cs:=by
  induction cs with
  |nil=>intro n a _;unfold jG;trivial
  | cons f j c=>
    intro n a h;simp only[lV,FD]at h;grind[jG]
theorem abe:∀(f:aq)(d:Nat)(b:Bool)(n:Nat)(a:List Int),gP n a (f.places d [] b)->f.jG
  | .mk g au k w id ix cs,d,b,n,a,h=>by
    have e:∀f∈cs,∀(n:Nat)(a:List Int),gP n a _->f.jG:=λf _ n a=>abe f (d+1) (b||k==19) n a;have c:d<=64:=by unfold aq.places at h;exact h.1.1
    rw[DH c]at h;have nC:=h.1.2.2.2.2.1;simp only[aq.w,aq.cs]at nC;unfold Shaped at nC;unfold aq.jG;exact⟨ag,(aqh e ((FE.1 h.2).2))⟩
theorem bB.jG(h:bB f):f.jG:=by
 have:=h.2.2.2.2;simp only[lV,qA]at this;grind[abe]
theorem bB.self(h:bB f):Shaped f.k f.w f.id f.ix f.cs.length/\AH f.k f.au f.cs/\(f.k=19->∃c,f.cs[0]? =some c/\c.au=false):=by
 have:=h.2.2.2.2;obtain⟨n,au,k,w,id,ix,cs⟩:=f;simp only[lV,qA]at this;unfold aq.places at this;have q:=this.1;exact⟨q.2.2.2.2.1,q.2.2.2.2.2.1,λe=>(q.2.2.2.2.2.2.2 e).1⟩
theorem aeo{h:Hp}{v:Value}(hc:cell h a=some v):a.block<h.size:=by
 unfold Go.Sh.cell at hc;split at hc
 ·rename_i e;exact(jD.1 e).1
 ·simp at hc
theorem Cs.lt{h:Hp}{v:Value}{vs:bq}(c:Cs h a (v::vs)):a.block<h.size:=aeo (Cs.c0 c)
mutual
theorem bM.lt{D:aQ}{h:Hp}:∀{s:Sl}(fs:cN),bM D h s fs->bM (λb=>D b/\b<h.size) h s fs
  |_,[],hh=>by unfold bM at hh ⊢;exact hh
  | _,g::fs,hh=>by
    unfold bM at hh⊢
    have⟨a,b,p,e,d,x,y⟩:=hh
    refine⟨a,b,p,e,⟨d,?_⟩,jy.lt g x,iC.lt fs y⟩
    have⟨n,au,k,w,id,ix,cs⟩:=g
    unfold jy at x
    have⟨s,c,_⟩:=x
    exact Cs.lt c
theorem iC.lt{D:aQ}{h:Hp}:∀{a:Addr}{i:Nat}(fs:cN),iC D h a i fs->iC (λb=>D b/\b<h.size) h a i fs
 |_,_,[],_=>by unfold iC;trivial
 |_,i,g::fs,hh=>by unfold iC at hh ⊢;exact⟨jy.lt g hh.1,iC.lt fs hh.2⟩
theorem jy.lt{D:aQ}{h:Hp}:∀{a:Addr}(g:aq),jy D h a g->jy (λb=>D b/\b<h.size) h a g
  | _,.mk n au k w id ix cs,hh=>by
    unfold jy at hh⊢
    have⟨s,c,x⟩:=hh
    exact⟨s,c,bM.lt cs x⟩
end
theorem jR.row{h:Hp}(c:jR h a f):∃u,Cs h a (f.row u)/\cH h u f.cs:=by cases f;exact c
abbrev Nw(h:Hp):Nat->Prop:=λb=>h.size<=b
def MV(cs:cN):Prop:=∀{h:Hp}{s:Sl}{K:Sl->HP}{Kp:PK},cH h s cs->cs.length<=70000->jG cs->(∀t h',az h h'->bM (Nw h) h' t cs->K t h')->O0 s h K Kp
theorem acF{cs:cN}(IH:∀f∈cs,MV f.cs):MV cs:=by
  intro h s K Kp hs hl hln hk;have hn:=hs.n;refine aGg (aAY (λx3 x h1=>∃(i:Nat)(us:List Sl),x=i/\i<=cs.length/\us.length=i/\az h h1/\eW h.size 7 h1 x3 (List.zipWith aq.row (cs.take i) us) gO/\
      ∀(j:Nat)(f:aq)(u:Sl),cs[j]? =some f->us[j]? =some u->bM (λb=>h.size<=b/\¬x3.at b) h1 u f.cs)
    (λx3 x _=>cs.length-x.toNat) ⟨0,[],rfl,by omega,rfl,cQ _,tL _ _ _ _,by simp⟩ ?_)
  rintro x3 x h1 ⟨i,us,rfl,hi,KU,g1,o1,hu⟩ N1 hN;have o1n:=o1.n;rw[m7,m8]at o1n;refine aG (λc=>?_) λc=>?_
  · have c:=aS c;have dQ:i<cs.length:=ag;have hj:=bJ dQ;have lH:=kS dQ;have BJ:=kH dQ;generalize cs[i]=f at hj lH BJ;refine hs.ix rfl hj λa ha=>?_;have⟨u,c,hfu⟩:=ha.row;refine gH (c.ai g1) (aF λb5 hx eb gx kx _=>oO kx rfl λh2 o2 k5=>?_);have g2:=bI gx o2 ag;simp only[bz];have hfl:=(hln.get f BJ).cs;refine aj k5 rfl (IH f BJ ((hfu.gr g1).gr g2) hfl.1 hfl.2 λt h3 g3 ht=>dI (k5.ai g3) aA rfl λh4 o4 k5=>dO k5 (aF λUM h5 e5 g5 KO _=>?_));have b5l:h1.size<=b5:=ag;have aJt:b5<h2.size:=by rw[o2.1];exact kx.lt
    have g4:=bI (ak g2 g3) o4 b5l;have G5:=ak g4 g5;have ht5:=lM (bM.fr o4.fr (λb hb e=>by omega) (λ_ hb=>hb) _ ht) g5
    refine(o1.ai G5).ap (by have:=g1.1;have:=G5.1;omega) rfl (new:=[f.row t]) rfl (λr hr=>by simp at hr;subst hr;rfl) (λr hr=>by simp at hr;subst hr;exact row_one f t) (by simpa[aq.row,nU]using iJ KO rfl) ag ag λs' h6 f6 Ih o6=>aX ag ag (hN _ _ _ ⟨i+1,us++[t],by simp,by omega,by simp[KU],?_,?_,?_⟩ ag)
    ·exact(((bg (ak g1 G5):Tn No h h5)).trans' f6 λd hd eC=>by have:=((o1.ai G5).at hd).1;omega).ai
    ·rw[lH,CB cy];exact o6
    · intro j g v hg hv;have sz5:=G5.1
      by_cases e:j<i
      · rw[gN ag]at hv;refine bM.fr f6 (λb hb=>hb.1.2) (λb hb=>⟨hb.1.1,λq=>?_⟩) _ (lM (bM.lt _ (hu j g v hg hv)) G5);rcases Ih b q with q|q
        ·exact hb.1.2 q
        ·have:=hb.2;omega
      · have hj':=(de.1 hv).1;simp only[iA,jC]at hj';have:j=i:=ag;subst this;rw[fU ag,KU]at hv;simp only[yz,CA,mF]at hv;subst hv;rw[hj]at hg;cases hg;refine bM.fr f6 (λb hb q=>by have:=(o1.at q).2;have:=g2.1;have:=hb.1;omega) (λb hb=>⟨by have:=g1.1;have:=g2.1;have:=hb.1;omega,λq=>?_⟩) _ (bM.lt _ ht5)
        rcases Ih b q with q|q
        ·have:=(o1.at q).2;have:=g2.1;have:=hb.1;omega
        ·have:=hb.2;omega
  · have c:=aS c;have:i=cs.length:=ag;subst this;rw[m5]at o1;refine axQ o1.cap (hk _ _ g1 ?_);rcases o1.cases with⟨rfl,e⟩|⟨b,hb,o⟩
    · have:cs=[]:=by
        cases cs with
        |nil=>rfl
        | cons f fs=>cases us with
          |nil=>simp at KU
          |cons=>simp at e
      subst this;unfold bM;exact⟨rfl,bX _⟩
    ·exact bM.sub (bM.of o KU hb λj f u hf BE=>bM.fr (iV _ _) (λ_ _=>id) (λb hb=>hb.1) _ (hu j f u hf BE)) rfl rfl (bX _)
theorem acG:∀f:aq,MV f.cs
 |.mk _ _ _ _ _ _ cs=>acF (cs:=cs) λf _=>acG f
theorem asN(cs:cN):MV cs:=acF λf _=>acG f
def kR(k:Int):Int:=if k=1\/k=20 then 0 else if k=12\/k=13 then 3 else if k=16\/k=17 then 1 else 2
def dN(k:Int):Int:=if k=3\/k=7 then 1 else if k=4\/k=8 then 2 else if k=5\/k=9 then 4 else if k=6\/k=10\/k=11 then 8 else 0
structure mH(h:Hp):Prop where
 k:lP h
 b:∀i:Nat,1<=i->i<=20->cell h ⟨0,i*4+2,none⟩=some (ah (kR i))
 w:∀i:Nat,1<=i->i<=20->cell h ⟨0,i*4+1,none⟩=some (ah (dN i))
theorem mH.ai{h:Hp}(t:mH h)(g:az h H):mH H:=⟨t.k.ai g,λi c a=>g.cell (t.b i c a),λi c a=>g.cell (t.w i c a)⟩
theorem tX.kinds{id ix:Int}{cs:cN}(h:tX k w id ix cs):Shaped k w id ix cs.length/\(cs.length<=32/\jG cs):=by
 have q:=bB.self h;have l:=(bB.jG h).cs;simp only[TM,aq.k,aq.cs]at q l;refine⟨q.1,?_,l.2⟩;have:=q.1;unfold Shaped at this;omega
def sw(k:Int)(cs:cN):Nat:=if k=19 then 0 else if k=20 then cs.length+1 else cs.length
def uP(k:Int):Nat:=if k=19 then 1 else 0
theorem aqo{id ix:Int}{cs:cN}{h:Hp}{K:Sl->HP}(ht:lP h)(ff:tX k w id ix cs)(tD:hY cs)(hs:cH h s cs)
  (hk:∀t h',az h h'->t.n=sw k cs->K t h'):Yt k w id ix s h K Kp:=by
 have hq:=ff.kinds;refine aGo (aF λb1 h1 e1 g1 k1 _=>yq k1 (QZ (ht.ai g1) (by show _<=9223372036854775807;omega) tD (hs.gr g1) λb h2 g2 hb=>?_))
 have k1:=k1.ai g2;have G:=ak g1 g2;obtain rfl:=hb.2 ff;refine bu rfl (aj k1 rfl (aG (λc=>hk _ _ G ?_) λc=>aC9 ?_))
 ·have c:=aS c;simp[sw,c]
 have c:=aS c;simp only[bz];refine aj k1 rfl (asN cs (hs.gr G) ag hq.2.2 λt h3 g3 D0=>aj (k1.ai g3) rfl (aG (λc2=>?_) λc2=>?_))
 ·have c2:=aS c2;refine aF λUM h4 e4 g4 KO _=>?_;have GZ:=D0.n;have K9:cs.length=1:=by have:=hq.1;unfold Shaped at this;omega
  obtain⟨f,hf⟩:∃f,cs[0]? =some f:=⟨cs[0],bJ ag⟩;have⟨a,ha,hfa⟩:=(bM.h cs (D0.gr g4)).get hf;have⟨u,c,_⟩:=hfa.row;have o:eW 0 7 h4 ⟨some ⟨UM,0,none⟩,1,1⟩ [[.string (bs [101,110,100,115]),.bool false,.int .i64 5,.int .i64 0,.int .i64 0,.int .i64 0,.slice none 0 0]] gO:=
   ⟨λr hr=>by simp at hr;subst hr;rfl,rfl,.inr ⟨UM,eu _,KO.lt,rfl,rfl,_,KO,bX _,rfl,λi _=>by simp⟩⟩
  refine o.ap (eu _) rfl (new:=[f.row u]) cy (λr hr=>by simp at hr;subst hr;rfl) (λr hr=>by simp at hr;subst hr;exact row_one f u) ?_ cy cy λs' h5 f5 _ o5=>hk _ _ ?_ ?_
  ·rw[ha,GZ.1,K9];refine⟨by simp[Gc],λi v hv=>?_⟩
   have:=c i v (by simpa using hv)
   simpa[add_zero']using this
  ·exact ak G (ak g3 (((bg g4:Tn No h3 h4).trans' f5 λd hd eC=>by have⟨a,ha,hd⟩:=hd;cases ha;simp at hd;omega).ai))
  ·have:=o5.n;simp at this;simp[sw,c2,K9,this]
 ·have c2:=aS c2;apply hk _ _ (ak G g3);rw[D0.n.1];simp[sw,c,c2]
theorem aof{id ix:Int}{cs:cN}{h:Hp}{K:Int->Int->Int->HP}(ht:mH h)(hl:cs.length<=jO)(tD:hY cs)(hs:cH h s cs)
  (hf:¬tX k w id ix cs->∀h',az h h'->K (-1) (-1) (-1) h') (hk:tX k w id ix cs->∀h',az h h'->K (kR k) (sw k cs) (uP k) h'):YF k w id ix s h K Kp:=by
 refine aGJ (aF λb1 h1 e1 g1 k1 _=>yq k1 (QZ (ht.k.ai g1) hl tD (hs.gr g1) λb h2 g2 hb=>?_));have k1:=k1.ai g2;have G:=ak g1 g2;cases b
 ·exact bS rfl (hf (λq=>absurd (hb.2 q) aA) _ G)
 have ff:=hb.1 rfl;have hq:=ff.kinds.1;have j1:∀d:Int,d=uP k->N7 K Kp (aJ b1) d h2:=by
  rintro d rfl;refine aDr (aj k1 rfl ⟨by unfold Shaped at hq;omega,by unfold Shaped at hq;omega,?_⟩)
  simp only[bz,cF];have hc:=(ht.ai G).b k.toNat (by unfold Shaped at hq;omega) (by unfold Shaped at hq;omega)
  rw[yy (by unfold Shaped at hq;omega)]at hc
  refine⟨_,hc,yq k1 (aqo (ht.k.ai G) ff tD (hs.gr G) λt h3 g3 GZ=>CY hc g3 (bQ k1 g3 ?_))⟩;rw[GZ];exact hk ff _ (ak G g3)
 refine bu rfl (aj k1 rfl (aG (λc=>j1 _ ?_) λc=>j1 _ ?_))
 ·have c:=aS c;simp[uP,c]
 ·have c:=aS c;simp[uP,c]
def nS(k w ix:Int):Int:=if k=14 then w else if k=19 then dN ix else dN k
theorem alv{id ix:Int}{cs:cN}{h:Hp}{K:cK}(ht:mH h)(tD:hY cs)(hs:cH h s cs)(ff:tX k w id ix cs)
  (hk:∀h',az h h'->K (nS k w ix) h'):Yr k w id ix s h K Kp:=by
 have hq:=ff.kinds;have hl:=hq.2.1;replace hq:=hq.1;refine aGm (aF λb1 h1 e1 g1 k1 _=>yq k1 (QZ (ht.k.ai g1) (by show _<=9223372036854775807;omega) tD (hs.gr g1) λb h2 g2 hb=>?_))
 have k1:=k1.ai g2;have G:=ak g1 g2;obtain rfl:=hb.2 ff;have JW:∀x:Int,1<=x->x<=20->dN x=nS k w ix->Ix (bC 0) 21 4 x λa16=>Ld h2 (a16.add 1) mI λt18=>K t18 h2:=by
  intro x h1 h2' e;refine⟨by omega,by omega,?_⟩
  simp only[bz,cF];have hc:=(ht.ai G).w x.toNat ag ag;rw[yy ag,e]at hc;exact⟨_,hc,hk _ G⟩
 unfold Shaped at hq;simp only[bz];refine bu rfl (aj k1 rfl (aG (λc=>aj k1 rfl ?_) λc=>aG (λc2=>aj k1 rfl (JW _ ?_ ?_ ?_)) λc2=>aj k1 rfl (JW _ ?_ ?_ ?_)))
 ·have c:=aS c;have:=hk _ G;simp only[c]at this;exact this
 all_goals simp only[sm,reduceCtorEq]at c c2
 all_goals first|omega|simp[nS,c,c2]
theorem apD{sz n:Nat}{h:Hp}{rows:List (List Value)}(d:0<sz)(hl:uc sz rows)(f:rows.length=n)(g:∀(j:Nat)(r:bq),rows[j]? =some r->Cs h (a.add (j*sz)) r):rd h (some a) (n*sz) rows.flatten:=by
  refine⟨by rw[hl.flat,f],λi v c=>?_⟩
  obtain⟨e,k⟩:=adB d;have q:=Hz hl k (i:=i/sz);rw[<-e,c]at q;cases b:rows[i/sz]? with
  |none=>rw[b]at q;cases q
  | some r=>
    rw[b]at q;have:=g _ r b _ v q.symm
    rwa [afU,<-e]at this
inductive bG
 |mk (len off au:Int) (aY:iz) (cs ds:List bG)
abbrev kF:=List bG
variable {d:bG}
def bG.len:bG->Int|.mk n _ _ _ _ _=>n
def bG.off:bG->Int|.mk _ o _ _ _ _=>o
def bG.au:bG->Int|.mk _ _ u _ _ _=>u
def bG.aY:bG->List (List UInt8)|.mk _ _ _ b _ _=>b
def bG.cs:bG->List bG|.mk _ _ _ _ c _=>c
def bG.ds:bG->List bG|.mk _ _ _ _ _ x=>x
def zd(n o u:Int)(b c x:Sl):List Value:=[ah n,ah o,ah u,Sl.v b,Sl.v c,Sl.v x]
def bG.row(d:bG)(p:Sl×Sl×Sl):List Value:=zd d.len d.off d.au p.1 p.2.1 p.2.2
theorem ad5(d:bG)(p:Sl×Sl×Sl):∀v∈d.row p,one v=true:=by intro v a;simp[bG.row,zd]at a;rcases a with rfl|rfl|rfl|rfl|rfl|rfl <;> rfl
def eD(E:aQ)(h:Hp)(s:Sl)(vs:bq):Prop:=Sv h s vs/\(vs≠[]->∀a,s.a=some a->E a.block)
theorem eD.fr{E':aQ}{h:Hp}{vs:bq}(v:eD E h s vs)(f:Tn S h h')(z:∀b,E b->b<h.size->¬S b)(B:∀b,E b->E' b):eD E' h' s vs:=by
 obtain⟨⟨g,l,k⟩,e⟩:=v;refine⟨⟨g,l,λx i=>?_⟩,λj a d=>B _ (e j a d)⟩;obtain⟨a,d,c⟩:=k x i;cases vs with
 |nil=>grind
 |cons w m=>exact⟨a,d,c.fr f (z _ (e aA a d) (Cs.lt c))⟩
theorem eD.lt{h:Hp}{vs:bq}(v:eD E h s vs):eD (λb=>E b/\b<h.size) h s vs:=by
 obtain⟨⟨i,l,g⟩,k⟩:=v;refine⟨⟨i,l,g⟩,λe a f=>⟨k e a f,?_⟩⟩;cases vs with
 |nil=>grind
 |cons w j=>obtain⟨m,d,c⟩:=g j.length ag;rw[f]at d;cases d;exact Cs.lt c
def fH(D E:aQ)(h:Hp)(s:Sl)(aY:iz):Prop:=
 ∃ss:List Sl,ss.length=aY.length/\eD D h s (ss.map Sl.v)/\∀(j:Nat)(t:Sl)(l:dy),ss[j]? =some t->aY[j]? =some l->eD E h t (bv l)
mutual
def dD(D E:aQ)(h:Hp)(s:Sl):List bG->Prop
 |[]=>s.n=0/\s.n<=s.c
 |d::ds=>s.n=ds.length+1/\s.n<=s.c/\∃a,s.a=some a/\D a.block/\iG D E h a d/\jz D E h a 1 ds
def jz(D E:aQ)(h:Hp)(a:Addr)(i:Nat):List bG->Prop
 |[]=>True
 |d::ds=>iG D E h (a.add (i*6)) d/\jz D E h a (i+1) ds
def iG(D E:aQ)(h:Hp)(a:Addr):bG->Prop
 |.mk n o u aY cs ds=>∃b c x,Cs h a (zd n o u b c x)/\fH D E h b aY/\dD D E h c cs/\dD D E h x ds
end
structure eR(D E:aQ)(h:Hp)(p:Sl×Sl×Sl)(d:bG):Prop where
 b:fH D E h p.1 d.aY
 c:dD D E h p.2.1 d.cs
 x:dD D E h p.2.2 d.ds
theorem iG.row{h:Hp}(e:iG D E h a d):∃p,Cs h a (d.row p)/\eR D E h p d:=by
 obtain⟨n,o,u,aY,cs,ds⟩:=d;unfold iG at e;obtain⟨b,c,x,f,j,i,g⟩:=e;exact⟨(b,c,x),f,j,i,g⟩
theorem iG.of{h:Hp}(c:Cs h a (d.row p))(v:eR D E h p d):iG D E h a d:=by
 obtain⟨n,o,u,aY,cs,ds⟩:=d;unfold iG;exact⟨_,_,_,c,v.1,v.2,v.3⟩
section
variable {D' E':aQ} {h:Hp}
theorem fH.fr(f:Tn S h h')(z:∀b,D b->b<h.size->¬S b)(B:∀b,E b->b<h.size->¬S b)(H:∀b,D b->D' b)(G:∀b,E b->E' b){s:Sl}{aY:iz}(v:fH D E h s aY):fH D' E' h' s aY:=by
 obtain⟨a,hl,c,d⟩:=v;exact⟨a,hl,c.fr f z H,λj t l g e=>(d j t l g e).fr f B G⟩
theorem fH.lt{aY:iz}(v:fH D E h s aY):fH (λb=>D b/\b<h.size) (λb=>E b/\b<h.size) h s aY:=by
 obtain⟨a,hl,c,d⟩:=v;exact⟨a,hl,c.lt,λj t l f e=>(d j t l f e).lt⟩
mutual
theorem dD.fr(f:Tn S h h')(hn:∀b,D b->b<h.size->¬S b)(hm:∀b,E b->b<h.size->¬S b)(hD:∀b,D b->D' b)(hE:∀b,E b->E' b):∀{s:Sl}(ds:kF),dD D E h s ds->dD D' E' h' s ds
  |_,[],hh=>by unfold dD at hh ⊢;exact hh
  | _,d::ds,hh=>by
    unfold dD at hh⊢
    obtain⟨a,b,p,e,q,x,y⟩:=hh
    have eC:p.block<h.size:=by obtain⟨n,o,u,aY,cs,es⟩:=d;unfold iG at x;obtain⟨_,_,_,c,_⟩:=x;exact Cs.lt c
    exact⟨a,b,p,e,hD _ q,iG.fr f hn hm hD hE (hn _ q eC) d x,jz.fr f hn hm hD hE (hn _ q eC) ds y⟩
theorem jz.fr(f:Tn S h h')(hn:∀b,D b->b<h.size->¬S b)(hm:∀b,E b->b<h.size->¬S b)(hD:∀b,D b->D' b)(hE:∀b,E b->E' b):∀{a:Addr}(ha:¬S a.block){i:Nat}(ds:kF),jz D E h a i ds->jz D' E' h' a i ds
  |_,_,_,[],_=>by unfold jz;trivial
  | _,ha,i,d::ds,hh=>by
    unfold jz at hh⊢
    exact⟨iG.fr f hn hm hD hE (by rw[CG];exact ha) d hh.1,jz.fr f hn hm hD hE ha ds hh.2⟩
theorem iG.fr(f:Tn S h h')(hn:∀b,D b->b<h.size->¬S b)(hm:∀b,E b->b<h.size->¬S b)(hD:∀b,D b->D' b)(hE:∀b,E b->E' b):∀{a:Addr}(ha:¬S a.block)(d:bG),iG D E h a d->iG D' E' h' a d
  | _,ha,.mk n o u aY cs ds,hh=>by
    unfold iG at hh⊢
    obtain⟨b,c,x,hc,h1,h2,h3⟩:=hh
    exact⟨b,c,x,hc.fr f ha,h1.fr f hn hm hD hE,dD.fr f hn hm hD hE cs h2,dD.fr f hn hm hD hE ds h3⟩
end
mutual
theorem dD.lt:∀{s:Sl}(ds:kF),dD D E h s ds->dD (λb=>D b/\b<h.size) (λb=>E b/\b<h.size) h s ds
  |_,[],hh=>by unfold dD at hh ⊢;exact hh
  | _,d::ds,hh=>by
    unfold dD at hh⊢
    obtain⟨a,b,p,e,q,x,y⟩:=hh
    have eC:p.block<h.size:=by obtain⟨n,o,u,aY,cs,es⟩:=d;unfold iG at x;obtain⟨_,_,_,c,_⟩:=x;exact Cs.lt c
    exact⟨a,b,p,e,⟨q,eC⟩,iG.lt d x,jz.lt ds y⟩
theorem jz.lt:∀{a:Addr}{i:Nat}(ds:kF),jz D E h a i ds->jz (λb=>D b/\b<h.size) (λb=>E b/\b<h.size) h a i ds
 |_,_,[],_=>by unfold jz;trivial
 |_,i,d::ds,hh=>by unfold jz at hh ⊢;exact⟨iG.lt d hh.1,jz.lt ds hh.2⟩
theorem iG.lt:∀{a:Addr}(d:bG),iG D E h a d->iG (λb=>D b/\b<h.size) (λb=>E b/\b<h.size) h a d
  | _,.mk n o u aY cs ds,hh=>by
    unfold iG at hh⊢
    obtain⟨b,c,x,hc,h1,h2,h3⟩:=hh
    exact⟨b,c,x,hc,h1.lt,dD.lt cs h2,dD.lt ds h3⟩
end
theorem dD.gr{ds:kF}(v:dD D E h s ds)(g:az h h'):dD D E h' s ds:=dD.fr (bg g) (λ_ _ _=>id) (λ_ _ _=>id) (λ_ q=>q) (λ_ q=>q) ds v
theorem eR.fr(f:Tn S h h')(z:∀b,D b->b<h.size->¬S b)(B:∀b,E b->b<h.size->¬S b)(H:∀b,D b->D' b)(G:∀b,E b->E' b){p:Sl×Sl×Sl}{d:bG}(v:eR D E h p d):eR D' E' h' p d:=
 ⟨v.b.fr f z B H G,dD.fr f z B H G _ v.c,dD.fr f z B H G _ v.x⟩
theorem eR.lt(v:eR D E h p d):eR (λb=>D b/\b<h.size) (λb=>E b/\b<h.size) h p d:=⟨v.b.lt,dD.lt _ v.c,dD.lt _ v.x⟩
theorem eR.gr(v:eR D E h p d)(g:az h h'):eR D E h' p d:=v.fr (bg g) (λ_ _ _=>id) (λ_ _ _=>id) (λ_ q=>q) (λ_ q=>q)
theorem fH.gr{aY:iz}(v:fH D E h s aY)(g:az h h'):fH D E h' s aY:=v.fr (bg g) (λ_ _ _=>id) (λ_ _ _=>id) (λ_ q=>q) (λ_ q=>q)
theorem eR.mo(v:eR D E h p d)(c:∀b,D b->D' b)(a:∀b,E b->E' b):eR D' E' h p d:=v.fr (iV _ _) (λ_ _ _=>id) (λ_ _ _=>id) c a
theorem jz.get:∀{a:Addr}{ds:kF}{i:Nat},jz D E h a i ds->∀(j:Nat)d,ds[j]? =some d->iG D E h (a.add ((i+j)*6)) d
  |_,[],_,_,_,_,b=>by simp at b
  |_,f::k,i,c,0,g,b=>by grind[jz]
  | _,f::k,i,c,j+1,g,b=>by
    unfold jz at c;have:=jz.get c.2 j g (by simpa using b)
    grind
theorem dD.get{ds:kF}(f:dD D E h s ds){j:Nat}{d:bG}(c:ds[j]? =some d):∃a,s.a=some a/\iG D E h (a.add (j*6)) d:=by
  cases ds with
  |nil=>simp at c
  | cons g l=>
    unfold dD at f;obtain⟨_,_,a,b,_,k,i⟩:=f;refine⟨a,b,?_⟩;cases j with
    |zero=>simp_all[add_zero']
    | succ j=>
      have:=i.get j d (by simpa using c)
      grind
theorem dD.n{ds:kF}(z:dD D E h s ds):s.n=ds.length/\s.n<=s.c:=by
 cases ds with
 |nil=>unfold dD at z;exact z
 |cons g a=>unfold dD at z;grind
theorem dD.ix{ds:kF}(g:dD D E h s ds){x:Int}{i:Nat}(B:x=(i:Int)){d:bG}(z:ds[i]? =some d){K:Addr->Prop}(C:∀a p,Cs h a (d.row p)->eR D E h p d->K a):Ix s.a s.n 6 x K:=by
 obtain⟨a,e,b⟩:=g.get z;obtain⟨p,c,v⟩:=b.row;have f:=g.n;have j:i<ds.length:=bZ;subst B;rw[e];exact⟨ag,ag,by rw[gf];exact C _ _ c v⟩
theorem jz.of:∀{ds:kF}{i:Nat},(∀j d,ds[j]? =some d->iG D E h (a.add ((i+j)*6)) d)->jz D E h a i ds
  |[],_,_=>by unfold jz;trivial
  | f::c,i,H=>by
    unfold jz;refine⟨H 0 f rfl,jz.of λj g b=>?_⟩;have:=H (j+1) g dG
    grind
theorem dD.of{b:Nat}{ds:kF}{q:List (Sl×Sl×Sl)}(o:me 6 h s b (List.zipWith bG.row ds q) el)(hl:q.length=ds.length)(B:D b)
    (z:∀(j:Nat)(d:bG)(p:Sl×Sl×Sl),ds[j]? =some d->q[j]? =some p->eR D E h p d):dD D E h s ds:=by
  have f:=o.n;rw[m7,hl,Ax]at f;have key:∀j d,ds[j]? =some d->iG D E h ⟨b,j*6,none⟩ d:=by
    intro j d i;have l:=(de.1 i).1;have c:q[j]? =some q[j]:=aA;exact iG.of (o.cs bZ) (z j d _ i c)
  cases ds with
  |nil=>unfold dD;simp[*]
  | cons d ds=>
    unfold dD;refine⟨ag,o.cap,_,o.a,B,by simpa using key 0 d rfl,jz.of λj g k=>?_⟩
    rw[bz,cF];have:=key (j+1) g dG
    grind
theorem dD.nil(h:Hp):dD D E h Sl.nil []:=by unfold dD;exact⟨rfl,bX _⟩
abbrev jA:=@dD.nil
theorem dD.snoc{n:Nat}{ds:kF}{a:List (Sl×Sl×Sl)}(o:eW n 6 h s (List.zipWith bG.row ds a) el)(hl:a.length=ds.length)(g:∀b,n<=b->D b)
    (c:∀(j:Nat)(d:bG)(p:Sl×Sl×Sl),ds[j]? =some d->a[j]? =some p->eR D E h p d):dD D E h s ds:=by
  rcases o.cases with⟨rfl,e⟩|⟨b,f,o⟩
  · have:ds=[]:=by
      cases ds with
      |nil=>rfl
      |cons d ds=>simp_all
    subst this;exact jA h
  ·exact dD.of o hl (g b f) c
end
abbrev K6:=Int->Int->Int->Sl->Sl->Sl->HP
theorem PR{α β γ:Type}{g:α->β->γ}{l:List α}{m:List β}{x:α}{y:β}(a:l[i]? =some x)(d:m.length=i):List.zipWith g (l.take (i+1)) (m++[y])=List.zipWith g (l.take i) m++[g x y]:=by
 have c:=(de.1 a).1;have b:l.take (i+1)=l.take i++[x]:=by
  rw[kS c];rw[bJ c]at a;cases a;rfl
 rw[b,CB cy];rfl
theorem zn{α:Type}{m:List α}{y v:α}(c:m.length=i)(a:(m++[y])[j]? =some v):(j<i/\m[j]? =some v)\/(j=i/\v=y):=by
 grind
theorem Ss(vs:bq):(vs.map λv=>[v]).flatten=vs:=by induction vs <;> simp_all
theorem abB(vs:bq):uc 1 (vs.map λv=>[v]):=by intro r a;grind
theorem an9(b:List Sl):∀r∈(b.map Sl.v).map λv=>[v],∀v∈r,one v=true:=by
 intro r d v a;obtain⟨w,c,rfl⟩:=kZ.1 d;obtain⟨t,_,rfl⟩:=kZ.1 c;simp at a;subst a;rfl
theorem eW.lq{n:Nat}{h:Hp}{vs:bq}(o:eW n 1 h s (vs.map λv=>[v]) el):eD (λb=>n<=b) h s vs:=by
 refine⟨?_,λ_ a c=>(o.at ⟨a,c,rfl⟩).1⟩;have:=o.sh;rw[Ss]at this;exact this.sv
theorem axP{g h:Hp}{aY:iz}{K:Sl->HP}{G:PK}(u:az g h)(y:fH D E g s aY)(hl:aY.length<=70000)
  (p:∀t m,az h m->fH (Nw h) E m t aY->K t m):Yj s h K G:=by
 obtain⟨i,f,b,A⟩:=y;have o:=b.1.1;rw[cr]at o;refine aGa (aG (λc=>?_) λc=>?_)
 ·refine p _ h (cQ _) ⟨[],?_,⟨yu h,λq=>absurd rfl q⟩,λj t l e=>by simp at e⟩
  rcases b.1.na with q|q
  all_goals simp_all
 ·refine aF λJ e F n x _=>(eW.start x (EN F.symm)).ap ag rfl (by simp[o]) (abB _) (an9 i) ?_ cy cy λt k C I w=>?_
  ·rw[Ss];exact(b.1.ai (ak u n)).Bj b.1.na
  ·have r:=((bg n:Tn No h e).trans' C λd⟨a,B,z⟩H=>bZ).ai
   exact p t k r ⟨i,f,(eW.lq w),λj t l e k=>(A j t l e k).fr (bg (ak u r)) (λ_ _ _=>id) λ_ q=>q⟩
theorem ayq(l:dy):∀r∈(bv l).map λv=>[v],∀v∈r,one v=true:=by
 grind[ayr]
abbrev B33(h:Hp)(b:Nat)(d:bG)(p:Sl×Sl×Sl):Prop:=aN h b #[ah d.len,ah d.off,ah d.au,Sl.v p.1,Sl.v p.2.1,Sl.v p.2.2] ck
abbrev Tt:Nat->Prop:=λ_=>True
abbrev C8(h:Hp)(p:Sl×Sl×Sl)(d:bG):Prop:=eR Tt Tt h p d
def jX:List UInt8->Nat
 |[]=>0
 |b::l=>b.toNat+256*jX l
theorem SD(l:dy):jX l<2^(8*l.length):=by
  induction l with
  |nil=>simp[jX]
  | cons b l a=>
    have c:=b.toNat_lt;have e:2^(8*(l.length+1))=256*2^(8*l.length):=by rw[Nat.mul_add,IA,Iz]
    simp only[jX,iN];omega
theorem acj(l:dy)(b:UInt8):jX (l++[b])=jX l+b.toNat*2^(8*l.length):=by
  induction l with
  |nil=>simp[jX]
  | cons c l a=>
    have e:2^(8*(l.length+1))=256*2^(8*l.length):=by rw[Nat.mul_add,IA,Iz]
    simp only[yA,jX];grind
def sg(w x:Nat):Int:=if x<2^(8*w-1)then x else(x:Int)-2^(8*w)
def pH(l:dy)(i w:Nat):Nat:=jX ((l.drop i).take w)
theorem abT(l:dy)(i w:Nat):pH l i w<2^(8*w):=m9 (SD _) (EK bw cy)
def i32(l:dy)(i:Nat):Int:=sg 4 (pH l (4*i) 4)
def gK(l:dy)(r:Nat):Bool:=(l.getD (r/8) 0).toNat/2^(r%8)%2==1
theorem UU(x:Nat):gJ .and .u8 (x:Int) 1=((x%2:Nat):Int):=by
 have a:(BitVec.ofInt 8 (x:Int)&&&BitVec.ofInt 8 1).toNat=x%2:=by
  have e1:BitVec.ofInt 8 (x:Int)=BitVec.ofNat 8 x:=aA
  have b:BitVec.ofInt 8 1=BitVec.ofNat 8 1:=by decide
  rw[e1,b,Vl,wE,wE];have:1%2^8=1:=by decide
  rw[this,Nat.and_one_is_mod];omega
 show IntKind.wrap .u8 ((BitVec.ofInt 8 (x:Int)&&&BitVec.ofInt 8 1).toNat:Int)=_
 rw[a,IntKind.wrap_u8];omega
theorem abv(x y:Nat)(b:x<2^64)(a:y<2^64):gJ .or .u64 (x:Int) (y:Int)=((x|||y:Nat):Int):=by
 have e:(BitVec.ofInt 64 (x:Int)|||BitVec.ofInt 64 (y:Int)).toNat=x|||y:=by
  rw[BitVec.toNat_or,EJ,EJ,wE,wE,uY b,uY a]
 show IntKind.u64.wrap ((BitVec.ofInt 64 (x:Int)|||BitVec.ofInt 64 (y:Int)).toNat:Int)=_
 rw[e];simp only[IntKind.wrap,IntKind.signed,IntKind.bits];simp;omega
theorem aqD{n k:Nat}(a:n<2^k):n|||(m*2^k)=n+m*2^k:=by
 have:=Nat.shiftLeft_add_eq_or_of_lt a m;rw[Nat.shiftLeft_eq]at this;grind
theorem pY{k:IntKind}{x:Nat}{K:Int->Prop}(b:k.signed=false)(a:x<2^k.bits)(c:K x):Wr k (x:Int) K:=by
 have:k.wrap (x:Int)=x:=by
  unfold IntKind.wrap;rw[b];have e:((2^k.bits:Nat):Int)=(2:Int)^k.bits:=by norm_cast
  have d:(x:Int)%(2:Int)^k.bits=x:=by rw[<-e];exact Int.emod_eq_of_lt ag ag
  simp[d]
 unfold Wr;simp[*]
theorem ays(l:dy)(i:Nat):(bv l)[i]? =(l[i]?).map λb=>Value.int .u8 b.toNat:=by simp[bv]
theorem agp{h:Hp}{vs:bq}{p g o:Option Int}{K:Sl->Prop}(v:Sv h s vs){a b m:Nat}(e:p.getD 0=(a:Int))(j:g.getD s.n=(b:Int))(l:o.getD s.c=(m:Int))(E:a<=b)(D:b<=vs.length)(C:b<=m)(B:m<=s.c)
  (u:∀t:Sl,t.n=b-a->t.c=m-a->(∀x,t.a=some x->∃y,s.a=some y/\x.block=y.block)->Sv h t ((vs.drop a).take (b-a))->K t):jo s 1 p g o K:=by
 obtain⟨A,z,q⟩:=v;refine⟨ag,ag,ag,ag,u _ bZ dG ?_ ⟨?_,?_,?_⟩⟩
 ·intro x d;simp only[kV]at d;split at d
  ·simp[*]
  ·cases f:s.a with
   |none=>grind
   |some y=>rw[f]at d;cases d;exact⟨y,rfl,CG _ _⟩
 ·grind
 ·grind
 ·intro x d;simp only[e,j]at d ⊢;obtain⟨y,r,c⟩:=q (s.n-1) ag;refine⟨y.add _,by rw[kV,ay,r];rfl,λi w k=>?_⟩
  rw[vi,afU];have g:i<b-a:=by have:=(de.1 k).1;simp at this;omega
  rw[afQ g,Iy]at k;exact c _ _ k
theorem afn(l:dy)(a n:Nat):((bv l).drop a).take n=bv ((l.drop a).take n):=by simp[bv]
theorem V6{h:Hp}{l:dy}(v:Sv h s (bv l)){x:Int}{i:Nat}{b:UInt8}(d:x=i)(c:l[i]? =some b){K:Int->Prop}(f:K b.toNat):Ix s.a s.n 1 x λa=>Ld h a (.int .u8) λt=>K t:=by
 have j:=(de.1 c).1;have e:=v.1;rw[fP]at e;subst d;exact v.ix ag ag (by rw[gf,ays,c];rfl) λa g=>⟨_,g,f⟩
theorem arp{n:Nat}{h:Hp}{K:cK}{b:PK}(d:n<=2^40)(a:K ((n+7)/8:Nat) h):Ys (n:Int) h K b:=by
 refine aGn (cE (λc=>?_) λc=>?_)
 ·have:(n+7)/8=0:=ag;rw[this]at a;exact a
 ·have e:Int.tdiv ((n:Int)-1) 8=(((n-1)/8:Nat):Int):=by
   have:(n:Int)-1=((n-1:Nat):Int):=ag;rw[this];rfl
  refine aX ag ag (pg bw (aX ag ag (aX ag ag ?_)))
  rw[e];have:(((n-1)/8:Nat):Int)+1=((n+7)/8:Nat):=ag;rw[this];exact a
theorem ayy{l:dy}{r:Nat}{h:Hp}{K:fB}(v:Sv h s (bv l))(hr:r/8<l.length)(hl:r<=2^40)(hk:K (gK l r) h):YC s (r:Int) h K Kp:=by
 have e1:Int.tdiv (r:Int) 8=((r/8:Nat):Int):=rfl;have e2:Int.tmod (r:Int) 8=((r%8:Nat):Int):=rfl;refine aGD (pg bw (aX (by rw[e1];omega) (by rw[e1];omega) ?_))
 have hb:=bJ hr;have hg:l.getD (r/8) 0=l[r/8]:=by simp[hr]
 unfold gK at hk;rw[hg]at hk;generalize l[r/8]=b at hb hk;refine V6 v e1 hb (pg bw ?_);rw[e2];apply jw ag;have e3:Int.fdiv (b.toNat:Int) (2^(min (Int.toNat ((r%8:Nat):Int)) (IntKind.bits .u8)))=((b.toNat/2^(r%8):Nat):Int):=by
  have:min (Int.toNat ((r%8:Nat):Int)) (IntKind.bits .u8)=r%8:=by
   have:IntKind.bits .u8=8:=rfl;rw[this,gf];omega
  rw[this,EI _ (Iw (EH bw))]
  norm_cast
 unfold Lt;rw[e3]
 show K _ h
 rw[UU];have:((((b.toNat/2^(r%8))%2:Nat):Int)==1)=(b.toNat/2^(r%8)%2==1):=by
  rw[ki];simp only[oh];omega
 rw[this];exact hk
theorem ayB{l:dy}{r:Nat}{h:Hp}{K:Bool->Int->HP}{d:PK}(v:Sv h s (bv l))(hl:r<=2^40)(a:∀e,K (gK l r) e h):YM s (r:Int) h K d:=by
 have b:=v.1;rw[fP]at b;have e1:Int.tdiv (r:Int) 8=((r/8:Nat):Int):=rfl;refine aGV (bu aA (pg bw (aX ag ag (cE (λc=>?_) λc=>?_))))
 ·rw[e1]at c;have:gK l r=false:=by
   unfold gK;have:l.getD (r/8) 0=0:=by rw[gV,IF ag];rfl
   rw[this];simp
  have q:=a 2;rw[this]at q;exact q
 ·rw[e1]at c;exact ayy v ag hl (a 0)
def mU(k:Int):Bool:=k !=1&&k !=18&&k !=20
theorem adk{h:Hp}{K:fB}{d:PK}(a:K (mU k) h):O5 k h K d:=by
 unfold mU at a;refine aG5 (aG (λc=>ajn ?_) λc=>ajn (bu rfl ?_))
 ·rw[c,Aw]at a;refine aG (λb=>?_) λb=>?_
  ·rw[b,Aw]at a;exact a
  ·rw[b,EG]at a;exact a
 ·rw[c,EG,EG]at a;exact a
def dB(aY:iz)(j:Nat):List UInt8:=aY.getD j []
theorem ayu{aY:iz}(h:j<aY.length):aY[j]? =some (dB aY j):=by simp[dB,h]
def jF(k:Int)(aY:iz)(r:Nat):Bool:=k==1||(mU k&&((dB aY 0).length !=0&&!gK (dB aY 0) r))
theorem fH.ix{h:Hp}{aY:iz}(v:fH D E h s aY){x:Int}{j:Nat}(g:x=(j:Int))(B:j<aY.length){K:Addr->Prop}(z:∀a t,cell h a=some (Sl.v t)->eD E h t (bv (dB aY j))->K a):Ix s.a s.n 1 x K:=by
 obtain⟨c,hl,d,f⟩:=v;have e:=d.1.1;rw[cr]at e;have b:c[j]? =some c[j]:=aA;subst g;exact d.1.ix ag ag dG λa i=>z a _ i (f j _ _ b (ayu B))
theorem fH.n{h:Hp}{aY:iz}(v:fH D E h s aY):s.n=aY.length/\s.n<=s.c:=by
 obtain⟨b,hl,a,_⟩:=v;have:=a.1.1;rw[cr]at this;exact⟨ag,a.1.2.1⟩
theorem abO{C:fh}{au:Bool}{id ix n z:Int}{b c S:Sl}{aY:iz}{r:Nat}{h:Hp}{K:fB}{J:PK}(v:fH D E h b aY)(A:mU k=true->1<=aY.length)(F:r<=2^40)
  (d:∀B,az h B->K (jF k aY r) B):O6 C au k w id ix s n y z b c S (r:Int) h K J:=by
 refine aHa (aF λO L e1 I q _=>aF λN H M j p _=>?_);simp only[bz];have G:=ak I j;have d:=d H G;unfold jF at d;refine aj (q.ai j) rfl (aG (λm=>?_) λm=>aj (q.ai j) rfl (adk ?_))
 ·rw[m,Bool.true_or]at d;exact d
 rw[m,Vx]at d;refine aG (λf=>?_) λf=>?_
 ·rw[tU]at f;rw[f,EG]at d;exact d
 rw[Vp]at f;rw[f,Aw]at d;refine aj p rfl ((v.gr G).ix rfl (A f) λa t l i=>⟨_,l,?_⟩);have tn:=i.1.1;rw[fP]at tn;refine aG (λg=>?_) λg=>aDN (aj p rfl ((v.gr G).ix rfl (A f) λa t l i=>⟨_,l,ayB i.1 F λe=>?_⟩))
 ·have g:=aS g;simp_all
 ·have g:=aS g;have:((dB aY 0).length !=0)=true:=by rw[yF];omega
  grind
def uS(k:Int)(aY:iz)(o n:Nat):Nat:=(List.range n).countP λi=>jF k aY (o+i)
theorem axE(k:Int)(aY:iz)(o n:Nat):uS k aY o n<=n:=by
 have:=List.countP_le_length (p:=λi=>jF k aY (o+i)) (l:=List.range n);simpa[uS]using this
theorem axD(k:Int)(aY:iz)(o n:Nat):uS k aY o (n+1)=uS k aY o n+if jF k aY (o+n)then 1 else 0:=by
 simp[uS,uX]
theorem axu{q:fh}{au:Bool}{id ix n o u:Int}{b c:Sl}{aY:iz}{N O:Nat}{h:Hp}{K:cK}{I:PK}(v:fH D E h b aY)(F:mU k=true->1<=aY.length)(A:n=N)(r:o=O)
  (hN:N<=2^30) (P:O<=2^30) (B:∀f,az h f->K (uS k aY O N) f):XF q au k w id ix s n o u b c t h K I:=by
 subst A r;refine aD6 (aF λU J e1 H j _=>aF λT C S p g _=>aj g rfl ?_);have G:=ak H p;have j:=j.ai p;apply azV (λy z f=>∃i:Nat,z=i/\i<=N/\y=uS k aY O i/\az C f) (λ_ z _=>N-z.toNat) ⟨0,rfl,ag,rfl,cQ _⟩
 rintro y z R ⟨i,rfl,L,rfl,a⟩ V e;have M:=axE k aY O i;refine cE (λd=>?_) λd=>?_
 ·simp only[bz];refine dO (j.ai a) (fJ (g.ai a) (aj (g.ai a) rfl (aX ag ag ?_)));rw[show _+i=((O+i:Nat):Int) by omega]
  refine abO (v.gr (ak G a)) F ag λQ m=>?_;have cs:=axD k aY O i;refine aG (λl=>?_) λl=>?_
  ·rw[aK l]at cs;exact aX ag ag (aX ag ag (e _ _ _ ⟨i+1,aA,ag,ag,ak a m⟩ ag))
  ·rw[aC (by simp[l])]at cs
   exact aX ag ag (e _ _ _ ⟨i+1,aA,ag,ag,ak a m⟩ ag)
 ·have:i=N:=ag;grind[az.trans]
theorem avy{n:Int}{h:Hp}{K:Int->Sl->Int->HP}{j:PK}(g:∀a,az h a->K e Sl.nil n a):nJ e n h K j:=
 aD1 (aF λb l e1 i f _=>mZ f rfl λk c d=>oN d (g _ (bI i c ag)))
theorem adQ{n:Int}{h:Hp}{b:Nat}{cs:Array Value}{K:Int->Sl->Int->HP}{u:PK}(g:az H h)(k:aN h b cs el)(r:cs.size=3)(t:H.size<=b)(s:∀d,az H d->K e Sl.nil n d):nJ e n h (λl j i c=>dZ c (aJ b) l j i λa=>eO a (aJ b) λr0 o m=>K r0 o m a) u:=
 avy λc f=>mZ (k.ai f) r λa p q=>oN q (s _ (bI (ak g f) p t))
theorem aqU{h:Hp}{b:Nat}{cs:Array Value}{K:Int->Sl->Int->HP}(g:az H h)(k:aN h b cs el)(j:cs.size=3)(m:H.size<=b)(l:∀c,az H c->K 0 Sl.nil 0 c):dZ h (aJ b) 0 bN 0 λa=>eO a (aJ b) λr0 e d=>K r0 e d a:=
 mZ k j λa f i=>oN i (l _ (bI g f m))
def IS(au:Bool)(k:Int)(d:bG):Prop:=d.au=uS k d.aY d.off.toNat d.len.toNat/\(0<uS k d.aY d.off.toNat d.len.toNat->au=true)
theorem aq8{W:fh}{au:Bool}{id ix:Int}{b c:Sl}{h:Hp}{K:Int->Sl->Int->HP}{U:PK}(v:fH D E h b d.aY)(X:mU k=true->1<=d.aY.length)
  (h2:0<=d.len/\d.len<=4096) (h3:0<=d.off/\d.off<=4096) (Q:∀e t n p,az h p->t=Sl.nil->(e=0↔IS au k d)->K e t n p):YD W au k w id ix s d.len d.off d.au b c u h K U:=by
 refine aGH (aF λb2 a' e1 T F _=>aF λb3 Z e2 J C _=>aF λA Y e3 I P _=>?_);have G:=ak T (ak J I);have F:=(F.ai J).ai I;have C:=C.ai I;have B:h.size<=A:=by have:=T.1;have:=J.1;omega
 refine dO F (fJ C (axu (v.gr G) X (N:=d.len.toNat) (O:=d.off.toNat) ag ag ag ag λS r=>?_));have V:=ak G r;simp only[bz];have bad:¬IS au k d->nJ 81 1 S _ U:=λq=>
  adQ V (P.ai r) rfl B λp L=>Q _ _ _ p L rfl ⟨λy=>absurd y bw,λy=>(q y).elim⟩
 have j:IS au k d->dZ S _ 0 bN 0 λH=>eO H _ λg f a=>K g f a H:=λq=>
  aqU V (P.ai r) rfl B λp L=>Q _ _ _ p L rfl ⟨λ_=>q,λ_=>rfl⟩
 refine aj (C.ai r) rfl (aG (λi=>bad λq=>?_) λi=>aG (λM=>aj (F.ai r) rfl (aG (λz=>bad λq=>?_) λz=>j ?_)) λM=>j ?_)
 ·have i:=aS i;exact i q.1
 ·simp only[sm,reduceCtorEq]at M z;have:=q.2 ag;grind
 ·simp only[sm,reduceCtorEq]at i z;exact⟨i,λ_=>z⟩
 ·simp only[sm,reduceCtorEq]at i M;exact⟨i,λq=>absurd q ag⟩
def ju(k w ix:Int)(j e hv:Nat):Nat:=
 if k=18 then e*(1+3*j)else if(j=0/\hv=0)\/j=2 then 0 else if j=0\/k=2 then(e+7)/8 else if k=12\/k=13\/k=15 then 4*(e+1)else e*(nS k w ix).toNat
theorem alC{id ix:Int}{cs:cN}(h:tX k w id ix cs):0<=nS k w ix/\nS k w ix<=16:=by
 have:=h.kinds.1;unfold Shaped at this;have wk:∀y:Int,0<=dN y/\dN y<=8:=by intro y;unfold dN;repeat' omega
 unfold nS;grind
theorem aro{id ix:Int}{cs:cN}{e hv:Nat}{h:Hp}{K:cK}{o:PK}(J:mH h)(v:hY cs)(L:cH h s cs)(n:tX k w id ix cs)(P:j<=3)(D:e<=2^30)(H:x=e)(G:y=hv)
  (a:∀E,az h E->K (ju k w ix j e hv) E):YE k w id ix s (j:Int) x y h K o:=by
 subst H G;refine aGI (aF λr f Q g l _=>aj l rfl (cE (λc=>?_) λc=>?_))
 ·have a:=a f g;rw[ju,aK c]at a;refine aX ag ag (aX ag ag ?_);have e1:(e:Int)*(1+3*(j:Int))=((e*(1+3*j):Nat):Int):=aA
  have O:e*(1+3*j)<=2^30*10:=tO D ag;rw[e1];exact aX ag ag a
 have fS:=c
 -- F B p
 have j3:¬((j=0/\hv=0)\/j=2)->¬(j=0\/k=2)->∀b:Bool,(b=true->k=12\/k=13)->(b=false->k≠12/\k≠13)->N5 K o (e:Int) (aJ r) b f:=by
  intro i C b A z;have fin:(k=12\/k=13\/k=15)->aP ((e:Int)+1) λu=>aP ((4:Int)*u) λt=>K t f:=by
   intro q;have a:=a f g;rw[ju,aC fS,aC i,aC C,aK q]at a;refine aX ag ag (aX ag ag ?_);have e1:(4:Int)*((e:Int)+1)=((4*(e+1):Nat):Int):=ag;rw[e1];exact a
  refine aDo (aG (λc=>fin ?_) λc=>aj l rfl (aG (λd=>fin ?_) λd=>yq l (alv (J.ai g) v (L.gr g) n λM N=>?_)))
  ·grind
  ·grind
  ·have d:=aS d;have:=z c;have a:=a M (ak g N);rw[ju,aC fS,aC i,aC C,ay]at a;have I:=alC n;have e1:(e:Int)*nS k w ix=((e*(nS k w ix).toNat:Nat):Int):=by
    rw[Vk,yy I.1]
   have O:e*(nS k w ix).toNat<=2^30*16:=tO D ag;rw[e1];exact aX ag ag a
 have j2:¬((j=0/\hv=0)\/j=2)->∀b:Bool,(b=true↔(j=0\/k=2))->N6 K o (e:Int) (aJ r) b f:=by
  intro i b m;refine aDp (aG (λc=>arp ag ?_) λc=>aj l rfl (aG (λd=>j3 i ?_ true ?_ ?_) λd=>aj l rfl (j3 i ?_ _ ?_ ?_)))
  ·have a:=a f g;rw[ju,aC fS,aC i,aK (m.1 c)]at a;exact a
  all_goals grind
 have j1:∀b:Bool,(b=true↔((j=0/\hv=0)\/j=2))->Ja K o (j:Int) (e:Int) (aJ r) b f:=by
  intro b m;refine aDq (aG (λc=>?_) λc=>aG (λd=>j2 ?_ true ?_) λd=>aj l rfl (j2 ?_ _ ?_))
  ·have a:=a f g;rw[ju,aC fS,aK (m.1 c)]at a;exact a
  all_goals grind
 refine aG (λc=>aG (λd=>j1 _ ?_) λd=>j1 _ ?_) λc=>j1 _ ?_
 all_goals grind
def xj(d:bG):List bG:=if d.ds.length>0 then d.ds else d.cs
def Lz:aq:=.mk (bs [101,110,100,115]) false 5 0 0 0 []
def r7(k:Int)(cs:cN):List aq:=if k=20 then Lz::cs else cs
theorem aqn{h:Hp}{K:Sl->HP}{g:PK}(v:eR D E h p d)(f:∀s e,az h e->dD D E e s (xj d)->K s e):YV d.len d.off d.au p.1 p.2.1 p.2.2 h K g:=by
 have i:=v.x.n;refine aG8 (aF λk j e1 a b _=>?_);simp only[bz];refine aj b rfl (aG (λc=>aj b rfl (f _ _ a ?_)) λc=>aj b rfl (f _ _ a ?_))
 ·have c:=aS c;rw[xj,dV];exact v.x.gr a
 ·have c:=aS c;rw[xj,ay];exact v.c.gr a
abbrev KF:=ByteArray->Bool->Int->Int->Int->Int->Sl->HP
structure tZ(au:Bool)(k w id ix:Int)(cs:cN)(d:bG):Prop where
 ty:tX k w id ix cs
 nb:(d.aY.length:Int)=kR k
 nc:d.cs.length=sw k cs
 nd:d.ds.length=uP k
 l0:0<=d.len
 o0:0<=d.off
 u0:0<=d.au
 ul:d.au<=d.len
 l1:d.len<=4096
 o1:d.off<=4096
 e1:d.off+d.len<=4096
 Cn:∀j,j<d.aY.length->(dB d.aY j).length<=65536
 need:∀j,j<d.aY.length->ju k w ix j (d.off+d.len).toNat (dB d.aY j).length<=(dB d.aY j).length
 ch:∀(j:Nat)(c:bG),d.cs[j]? =some c->(k=16->(d.off+d.len)*w<=c.len)/\(k=17->d.off+d.len<=c.len)
 nu:IS au k d
structure V8(k w id ix:Int)(cs:cN)(d:bG):Prop where
 ty:tX k w id ix cs
 nb:(d.aY.length:Int)=kR k
 nc:d.cs.length=sw k cs
 nd:d.ds.length=uP k
 l0:0<=d.len
 o0:0<=d.off
 u0:0<=d.au
 ul:d.au<=d.len
 l1:d.len<=4096
 o1:d.off<=4096
 e1:d.off+d.len<=4096
structure Sz(h0 h:Hp)(b2 b3 b4:Nat)(nm:fh)(au:Bool)(k w id ix:Int)(s:Sl)(d:bG)(p:Sl×Sl×Sl):Prop where
 g:az h0 h
 k2:aN h b2 #[.string nm,.bool au,ah k,ah w,ah id,ah ix,Sl.v s] gO
 k3:B33 h b3 d p
 k4:aN h b4 kN kI
 hb:h0.size<=b4
theorem Sz.ai{h:Hp}{b2 b3 b4:Nat}{nm:fh}{au:Bool}{id ix:Int}(z:Sz h0 h b2 b3 b4 nm au k w id ix s d p)(g:az h H):Sz h0 H b2 b3 b4 nm au k w id ix s d p:=
 ⟨ak z.g g,z.k2.ai g,z.k3.ai g,z.k4.ai g,z.hb⟩
theorem PL{h:Hp}{b:Nat}{nm:fh}{au:Bool}{id ix:Int}(z:aN h b #[.string nm,.bool au,ah k,ah w,ah id,ah ix,Sl.v s] el):Cs h ⟨b,2,none⟩ [ah k,ah w,ah id,ah ix,Sl.v s]:=by
 intro i v a;rw[bz,ia z];grind
theorem axU(k:Int)(cs:cN):sw k cs<=cs.length+1:=by
 unfold sw;grind
theorem UK(k:Int):0<=kR k/\kR k<=3:=by unfold kR;omega
section
variable {h:Hp} {b2 b3 b4:Nat} {nm:fh} {au:Bool} {id ix:Int} {cs:cN} {K:Int->Sl->Int->HP}
theorem Sz.bad{n:Int}(z:Sz h0 h b2 b3 b4 nm au k w id ix s d p){P:Prop}(A:e≠0)(B:¬P)(x:∀e t n c,az h0 c->t=Sl.nil->(e=0↔P)->K e t n c):nJ e n h (λq o l C=>dZ C (aJ b4) q o l λf=>eO f (aJ b4) λr0 v u=>K r0 v u f) Kp:=
 adQ z.g z.k4 rfl z.hb λc a=>x _ _ _ c a rfl ⟨λy=>absurd y A,λy=>(B y).elim⟩
theorem anj(z:Sz h0 h b2 b3 b4 nm au k w id ix s d p)(v:C8 h0 p d)(o:V8 k w id ix cs d)(Cn:∀j,j<d.aY.length->(dB d.aY j).length<=65536)(need:∀j,j<d.aY.length->ju k w ix j (d.off+d.len).toNat (dB d.aY j).length<=(dB d.aY j).length)
  (hk:∀e t n h',az h0 h'->t=Sl.nil->(e=0↔tZ au k w id ix cs d)->K e t n h') (x5:Int) (h5:0<=x5/\x5<=5):Xr K Kp (aJ b2) (aJ b3) (aJ b4) x5 (d.off+d.len) h:=by
 obtain⟨ty,nb,nc,nd,l0,o0,u0,ul,l1,o1,e1⟩:=o;have hq:=ty.kinds;have vn:=v.c.n;have vZ:d.cs.length<=33:=by have:=axU k cs;omega
 have hw:k=16->1<=w/\w<=64:=by have:=hq.1;unfold Shaped at this;omega
 apply aDG;simp only[bz];apply aj z.k3 rfl;refine aBf (λx h'=>∃i:Nat,x=i/\i<=d.cs.length/\az h h'/\∀(j:Nat)(c:bG),j<i->d.cs[j]? =some c->(k=16->(d.off+d.len)*w<=c.len)/\(k=17->d.off+d.len<=c.len)) (λx _=>d.cs.length-x.toNat)
  ⟨0,rfl,ag,cQ _,λj c hj=>ag⟩ ?_
 rintro x h1 ⟨i,rfl,hi,g1,xF⟩ N1 hN;have z:=z.ai g1;simp only[bz];refine cE (λc=>?_) λc=>?_
 ·have hj:d.cs[i]? =some d.cs[i]:=aA;generalize d.cs[i]=c' at hj;refine v.c.ix rfl hj λa q ca vq=>cg.c (ca.ai z.g) (aF λb14 hx eb gx kx _=>ig kx rfl λh2 o2 k14=>?_);have g2:=bI gx o2 ag;have z:=z.ai g2;have step:(k=16->(d.off+d.len)*w<=c'.len)/\(k=17->d.off+d.len<=c'.len)->aP ((i:Int)+1) λt157=>N1 _ h2:=λok=>
   aX ag ag (hN _ _ ⟨i+1,aA,ag,ak g1 g2,λj c hjl hc=>by
    grind⟩ ag)
  have bad:¬((k=16->(d.off+d.len)*w<=c'.len)/\(k=17->d.off+d.len<=c'.len))->aP (x5+(i:Int)) λt155=>nJ 82 t155 h2 _ Kp:=λno=>
   aX ag ag (z.bad bw (λq=>no (q.ch i c' hj)) hk)
  have j5:∀b:Bool,(b=true↔k=16/\¬(d.off+d.len)*w<=c'.len)->Ob K Kp N1 (aJ b2) (aJ b3) (aJ b4) x5 (d.off+d.len) (i:Int) (aJ b14) p.2.1 (p.2.1.n:Int) (i:Int) b h2:=by
   intro b hb;apply aDF;simp only[bz];refine aG (λc1=>bad λq=>(hb.1 c1).2 (q.1 (hb.1 c1).1)) λc1=>aj z.k2 rfl (aG (λc2=>aj k14 rfl (aG (λc3=>bad λq=>?_) λc3=>step ?_)) λc2=>step ?_)
   ·grind
   ·grind
   ·grind
  refine aj z.k2 rfl (aG (λc2=>aj k14 rfl (aj z.k2 rfl ?_)) λc2=>j5 _ ?_)
  ·have c2:=aS c2;have e2:0<=(d.off+d.len)*w:=Int.mul_nonneg ag ag;have e3:(d.off+d.len)*w<=4096*64:=Int.mul_le_mul ag ag ag ag;refine aX ag ag (j5 _ ?_);simp[*]
  grind
 ·have hch:∀(j:Nat)(c:bG),d.cs[j]? =some c->(k=16->(d.off+d.len)*w<=c.len)/\(k=17->d.off+d.len<=c.len):=bZ
  have Hx:mU k=true->1<=d.aY.length:=by
   intro q;unfold mU at q;simp only[dw,yF]at q;unfold kR at nb
   repeat' omega
   all_goals omega
  exact dO z.k2 (fJ z.k3 (aq8 (v.b.gr z.g) Hx ⟨l0,l1⟩ ⟨o0,o1⟩ λe t n h2 g2 et he=>mZ (z.ai g2).k4 rfl λh3 o3 k4=>oN k4 (hk _ _ _ _ (bI (z.ai g2).g o3 z.hb) et (he.trans ⟨λq=>⟨ty,nb,nc,nd,l0,o0,u0,ul,l1,o1,e1,Cn,need,hch,q⟩,λq=>q.nu⟩))))
theorem ank(G:mH h0)(u:hY cs)(H:cH h0 s cs)(z:Sz h0 h b2 b3 b4 nm au k w id ix s d p)(v:C8 h0 p d)(o:V8 k w id ix cs d)(y:∀j,j<d.aY.length->(dB d.aY j).length<=65536)
  (A:∀e t n r,az h0 r->t=Sl.nil->(e=0↔tZ au k w id ix cs d)->K e t n r) (m:Int) (I:0<=m/\m<=5):Xs K Kp (aJ b2) (aJ b3) (aJ b4) m (d.off+d.len) h:=by
 have L:=v.b.n;have W:=UK k;have F:=o;obtain⟨ty,_,Q,P,S,o0,N,M,R,O,e1⟩:=o;apply aDH;simp only[bz];apply aj z.k3 rfl;refine aBe (λx r=>∃i:Nat,x=i/\i<=d.aY.length/\az h r/\∀j,j<i->ju k w ix j (d.off+d.len).toNat (dB d.aY j).length<=(dB d.aY j).length) (λx _=>d.aY.length-x.toNat)
  ⟨0,rfl,ag,cQ _,λj B=>ag⟩ ?_
 rintro x V ⟨i,rfl,T,D,f⟩ X hN;have z:=z.ai D;simp only[bz];refine cE (λc=>?_) λc=>?_
 ·refine v.b.ix rfl ag λa t J E=>⟨_,z.g.cell J,nF (PL z.k2) ?_⟩;have tn:=E.1.1;rw[fP]at tn;refine aro (e:=(d.off+d.len).toNat) (hv:=(dB d.aY i).length) (G.ai z.g) u (H.gr z.g) ty ag ag ag ag λU C=>aG (λl=>?_) λl=>?_
  ·have l:=aS l;exact(z.ai C).bad bw (λq=>by have:=q.need i ag;omega) A
  ·refine aX ag ag (hN _ _ ⟨i+1,aA,ag,ak D C,λj B=>?_⟩ ag)
   grind
 ·exact anj z v F y (λj B=>f j ag) A m I
theorem anl(C:mH h0)(u:hY cs)(D:cH h0 s cs)(z:Sz h0 h b2 b3 b4 nm au k w id ix s d p)(v:C8 h0 p d)(o:V8 k w id ix cs d)
  (y:∀e t n r,az h0 r->t=Sl.nil->(e=0↔tZ au k w id ix cs d)->K e t n r) (m:Int) (E:0<=m/\m<=5):Xu K Kp (aJ b2) (aJ b3) (aJ b4) m (d.off+d.len) h:=by
 have G:=v.b.n;have J:=UK k;have nb:=o.nb;apply aDI;simp only[bz];apply aj z.k3 rfl;refine aBd (λx r=>∃i:Nat,x=i/\i<=d.aY.length/\r=h/\∀j,j<i->(dB d.aY j).length<=65536) (λx _=>d.aY.length-x.toNat)
  ⟨0,rfl,ag,rfl,λj A=>ag⟩ ?_
 rintro x I ⟨i,rfl,H,rfl,f⟩ L hN;refine cE (λc=>?_) λc=>?_
 ·refine v.b.ix rfl ag λa t F B=>⟨_,z.g.cell F,?_⟩;have tn:=B.1.1;rw[fP]at tn;refine aG (λl=>?_) λl=>?_
  ·have l:=aS l;exact z.bad bw (λq=>by have:=q.Cn i ag;omega) y
  ·refine aX ag ag (hN _ _ ⟨i+1,aA,ag,rfl,λj A=>?_⟩ ag)
   grind
 ·exact ank C u D z v o (λj A=>f j ag) y m E
theorem aod(F:mH h)(hl:cs.length<=jO)(r:hY cs)(G:cH h s cs)(v:C8 h p d)(H:∀e t n j,az h j->t=Sl.nil->(e=0↔tZ au k w id ix cs d)->K e t n j):YP nm au k w id ix s d.len d.off d.au p.1 p.2.1 p.2.2 h K Kp:=by
 have vb:=v.b.n;have vc:=v.c.n;have vx:=v.x.n;refine aGZ (aF λb2 I e1 J k2 _=>aF λb3 B e2 E Z _=>aF λb4 h3 e3 D Y _=>?_);have z:Sz h h3 b2 b3 b4 nm au k w id ix s d p:=⟨ak J (ak E D),(k2.ai E).ai D,Z.ai D,Y,ag⟩
 simp only[bz];have bad:∀{j:Hp}{e n:Int},Sz h j b2 b3 b4 nm au k w id ix s d p->e≠0->¬tZ au k w id ix cs d->nJ e n j _ Kp:=λz he q=>z.bad he q H;have j8:∀{j:Hp}{N M:Int},Sz h j b2 b3 b4 nm au k w id ix s d p->¬tZ au k w id ix cs d->Jd K Kp (aJ b2) (aJ b3) _ N M true j:=λz q=>ajf (bS rfl (bad z bw q));refine nF (PL z.k2) (aof (F.ai z.g) hl r (G.gr z.g) (λU i C=>?_) λty i C=>?_)
 ·have z:=z.ai C;exact aj z.k3 rfl (aj z.k3 rfl (CO (aj z.k3 rfl (bS (by rw[yF];omega) (Xt (bS rfl (j8 z λq=>U q.ty)))))))
 have z:=z.ai C;refine aj z.k3 rfl (aj z.k3 rfl (CO ?_))
 -- all is L so b':a' u
 have main:(d.aY.length:Int)=kR k->d.cs.length=sw k cs->∀b:Bool,(b=true↔¬d.ds.length=uP k)->Jd K Kp (aJ b2) (aJ b3) (aJ b4) (kR k) (IntKind.i64.wrap (d.off+d.len)) b i:=by
  intro nb W b a;have bk:=UK k;refine ajf (aG (λc=>bad z bw λq=>a.1 c q.nd) λc=>?_);have V:d.ds.length=uP k:=by simp_all
  simp only[bz];have SY:0<=d.len->0<=d.off->0<=d.au->d.au<=d.len->d.len<=4096->∀b:Bool,(b=true↔¬d.off<=4096)->Oe K Kp (aJ b2) (aJ b3) (aJ b4) (kR k) (IntKind.i64.wrap (d.off+d.len)) b i:=by
   intro m o0 A y X b a;refine aji (aG (λc=>bad z bw λq=>a.1 c q.o1) λc=>?_);have T:d.off<=4096:=by simp_all
   have hw:IntKind.i64.wrap (d.off+d.len)=d.off+d.len:=by rw[IntKind.wrap_i64];omega
   rw[hw];refine aG (λf=>bad z bw λq=>?_) λf=>?_
   ·have f:=aS f;have:=q.e1;omega
   ·have f:=aS f;exact anl F r G z v ⟨ty,nb,W,V,m,o0,A,y,X,T,ag⟩ H _ ag
  have j9:0<=d.len->0<=d.off->0<=d.au->∀b:Bool,(b=true↔¬d.au<=d.len)->Jc K Kp (aJ b2) (aJ b3) (aJ b4) (kR k) (IntKind.i64.wrap (d.off+d.len)) b i:=by
   intro m o0 A b a;apply aje;simp only[bz];refine aG (λc=>bad z bw λq=>a.1 c q.ul) λc=>?_;have y:d.au<=d.len:=by simp_all
   refine aj z.k3 rfl (aG (λf=>aji (bS rfl (bad z bw λq=>?_))) λf=>aj z.k3 rfl (SY m o0 A y ?_ _ ?_))
   ·have f:=aS f;have:=q.l1;omega
   ·have f:=aS f;omega
   ·rw[dR];omega
  have o:¬tZ au k w id ix cs d->Jc K Kp (aJ b2) (aJ b3) (aJ b4) (kR k) (IntKind.i64.wrap (d.off+d.len)) true i:=λq=>aje (bS rfl (bad z bw q));have SW:0<=d.len->0<=d.off->∀b:Bool,(b=true↔¬0<=d.au)->Je K Kp (aJ b2) (aJ b3) (aJ b4) (kR k) (IntKind.i64.wrap (d.off+d.len)) b i:=by
   intro m o0 b a;apply ajg;simp only[bz];refine aG (λc=>o λq=>a.1 c q.u0) λc=>aj z.k3 rfl (aj z.k3 rfl (j9 m o0 (Vj λq=>by rw[a.2 q]at c;cases c) _ ?_))
   rw[dR];omega
  have l:¬tZ au k w id ix cs d->Je K Kp (aJ b2) (aJ b3) (aJ b4) (kR k) (IntKind.i64.wrap (d.off+d.len)) true i:=λq=>ajg (bS rfl (o q));have SX:0<=d.len->∀b:Bool,(b=true↔¬0<=d.off)->Od K Kp (aJ b2) (aJ b3) (aJ b4) (kR k) (IntKind.i64.wrap (d.off+d.len)) b i:=by
   intro m b a;apply ajh;simp only[bz];refine aG (λc=>l λq=>a.1 c q.o0) λc=>aj z.k3 rfl (SW m (Vj λq=>by rw[a.2 q]at c;cases c) _ ?_)
   rw[dR];omega
  refine aj z.k3 rfl (aG (λf=>ajh (bS rfl (l λq=>?_))) λf=>aj z.k3 rfl (SX ?_ _ ?_))
  ·have f:=aS f;have:=q.l0;omega
  ·have f:=aS f;omega
  ·rw[dR];omega
 have SV:(d.aY.length:Int)=kR k->∀b:Bool,(b=true↔¬d.cs.length=sw k cs)->Oc K Kp (aJ b2) (aJ b3) (aJ b4) (kR k) (uP k) (IntKind.i64.wrap (d.off+d.len)) b i:=by
  intro nb b a;apply Xt;simp only[bz];refine aG (λc=>j8 z λq=>a.1 c q.nc) λc=>aj z.k3 rfl (main nb (Vj λq=>by rw[a.2 q]at c;cases c) _ ?_)
  rw[yF];omega
 refine aj z.k3 rfl (aG (λc=>Xt (bS rfl (j8 z λq=>?_))) λc=>aj z.k3 rfl (SV ?_ _ ?_))
 ·have c:=aS c;have:=q.nb;omega
 ·have c:=aS c;omega
 ·rw[yF];omega
end
def uF(b:Nat):Nat:=if b<128 then 240 else if b<194 then 241 else if b<224 then 2 else if b=224 then 19 else if b<237 then 3 else if b=237 then 35 else if b<240 then 3 else if b=240 then 52 else if b<244 then 4 else if b=244 then 68 else 241
def FJ(x:Nat):Nat:=if x=1 then 160 else if x=3 then 144 else if x<=4 then 128 else 0
def FK(x:Nat):Nat:=if x=2 then 159 else if x=4 then 143 else if x<=4 then 191 else 0
structure iW(h:Hp):Prop where
 f:∀i:Nat,i<256->cell h ⟨1,i,none⟩=some (.int .u8 (uF i))
 a:∀i:Nat,i<16->cell h ⟨2,i*2,none⟩=some (.int .u8 (FJ i))/\cell h ⟨2,i*2+1,none⟩=some (.int .u8 (FK i))
theorem iW.ai{h:Hp}(t:iW h)(g:az h H):iW H:=⟨λi b=>g.cell (t.f i b),λi b=>⟨g.cell (t.a i b).1,g.cell (t.a i b).2⟩⟩
def rR(b:Nat)(c:UInt8):Bool:=decide (FJ (uF b/16)<=c.toNat)&&decide (c.toNat<=FK (uF b/16))
def uv(c:UInt8):Bool:=decide (128<=c.toNat)&&decide (c.toNat<=191)
def js(b:UInt8)(r:dy):Option (List UInt8):=
 if b.toNat<128 then some r
 else if uF b.toNat%8=2 then match r with|c::r=>if rR b.toNat c then some r else none|_=>none
 else if uF b.toNat%8=3 then match r with|c::e::r=>if rR b.toNat c&&uv e then some r else none|_=>none
 else if uF b.toNat%8=4 then match r with|c::e::f::r=>if rR b.toNat c&&(uv e&&uv f)then some r else none|_=>none
 else none
def A7:Nat->List UInt8->Bool
 |0,_=>true
 |_+1,[]=>true
 |n+1,b::r=>match js b r with|some r'=>A7 n r'|none=>false
theorem PG{b:UInt8}{r r':dy}(h:js b r=some r'):r'.length<=r.length:=by
 unfold js at h
 repeat' split at h
 all_goals first|(cases h;exact bX _)|(cases h;simp only[iN];omega)|cases h
theorem Zx:∀{n m:Nat}{l:dy},l.length<=n->l.length<=m->A7 n l=A7 m l
  |0,0,_,_,_=>rfl
  |0,m+1,l,h,_=>by obtain rfl:=uZ (Nat.le_zero.1 h);rfl
  |n+1,0,l,_,h=>by obtain rfl:=uZ (Nat.le_zero.1 h);rfl
  |n+1,m+1,[],_,_=>rfl
  | n+1,m+1,b::r,h1,h2=>by
    simp only[iN]at h1 h2;simp only[A7];cases hs:js b r with
    |none=>rfl
    |some r'=>have:=PG hs;exact Zx ag ag
def iH(l:dy):Bool:=A7 l.length l
theorem JO(b:UInt8)(r:dy):iH (b::r)=match js b r with|some r'=>iH r'|none=>false:=by
 show A7 (r.length+1) _=_
 simp only[A7];cases hs:js b r with
 |none=>rfl
 |some r'=>exact Zx (PG hs) (bX _)
theorem Zw{b:UInt8}{r:dy}(h:b.toNat<128):iH (b::r)=iH r:=by
 have e:js b r=some r:=by simp[js,h]
 rw[JO,e]
theorem zg:∀{n:Nat}{l:dy},(∀(i:Nat)b,i<n->l[i]? =some b->b.toNat<128)->iH (l.drop n)=iH l
  |0,_,_=>rfl
  |n+1,[],_=>rfl
  | n+1,b::r,h=>by
    rw[List.drop_succ_cons,Zw (h 0 b ag rfl)];exact zg λi c hi hc=>h (i+1) c ag (by simpa using hc)
def yN:Nat:=9259542123273814144
theorem ay1(x y:Nat)(hx:x<2^64)(hy:y<2^64):gJ .and .u64 (x:Int) (y:Int)=((x&&&y:Nat):Int):=by
 have e:(BitVec.ofInt 64 (x:Int)&&&BitVec.ofInt 64 (y:Int)).toNat=x&&&y:=by
  rw[Vl,EJ,EJ,wE,wE,uY hx,uY hy]
 show IntKind.u64.wrap ((BitVec.ofInt 64 (x:Int)&&&BitVec.ofInt 64 (y:Int)).toNat:Int)=_
 rw[e];simp only[IntKind.wrap,IntKind.signed,IntKind.bits];simp;omega
def qM(x:Nat):Prop:=x&&&yN=0
theorem qM.or{x y:Nat}(h:qM (x|||y)):qM x/\qM y:=by
 unfold qM at *;rw[Nat.and_or_distrib_right]at h;constructor
 ·have:=Nat.left_le_or (n:=x&&&yN) (m:=y&&&yN);omega
 ·have:=Nat.right_le_or (n:=x&&&yN) (m:=y&&&yN);omega
theorem qM.bit{x:Nat}(h:qM x){k:Nat}(hk:yN.testBit k=true):x/2^k%2=0:=by
 unfold qM at h;have:=tQ (λy=>y.testBit k) h;simp only[Nat.testBit_and,hk,Bool.and_true,Nat.zero_testBit]at this;rw[Nat.testBit_eq_decide_div_mod_eq,wI]at this;omega
theorem acm:∀{i:Nat}{l:dy}{b:UInt8},l[i]? =some b->jX l/2^(8*i+7)%2=0->b.toNat<128
  |_,[],_,h,_=>by simp at h
  | 0,c::l,b,h,q=>by
    simp only[CA,mF]at h;subst h;have:=c.toNat_lt;simp only[jX]at q;omega
  | i+1,c::l,b,h,q=>by
    have hc:=c.toNat_lt;have e:2^(8*(i+1)+7)=256*2^(8*i+7):=by
      have:8*(i+1)+7=8*i+7+8:=ag;rw[this,IA,Iz]
    have e2:jX (c::l)/256=jX l:=by simp only[jX];omega
    rw[e,<-Nat.div_div_eq_div_mul,e2]at q;exact acm (by simpa using h) q
theorem azQ:∀i,i<8->yN.testBit (8*i+7)=true:=by decide
theorem qM.all{l:dy}(h:qM (jX (l.take 8))):∀(i:Nat)b,i<8->l[i]? =some b->b.toNat<128:=by
 intro i b hi hb;exact acm (by rw[afQ hi];exact hb) (h.bit (azQ i hi))
theorem zo{x b k:Nat}{K:Int->Prop}(e:min (Int.toNat (k:Int)) (IntKind.bits .u64)=k)(h1:x<2^k)(h2:b*2^k<2^64)(h3:x<2^64)(hk:K ((x+b*2^k:Nat):Int)):Nn (k:Int) (Wr .u64 ((b:Int)*2^(min (Int.toNat (k:Int)) (IntKind.bits .u64))) λt=>Lt (gJ .or .u64 (x:Int) t) K):=by
 have sh:(b:Int)*2^(min (Int.toNat (k:Int)) (IntKind.bits .u64))=((b*2^k:Nat):Int):=by rw[e];norm_cast
 apply jw ag;rw[sh];apply pY rfl h2;unfold Lt;rw[abv _ _ h3 h2,aqD h1];exact hk
theorem al1(b:Nat):uF b<256:=by
 unfold uF;split
 all_goals grind
abbrev tx(s:fh):List UInt8:=s.data.toList
theorem yU{s:fh}{b:UInt8}(e:x=i)(a:(tx s)[i]? =some b){K:Int->Prop}(f:K b.toNat):iu s x K:=by
 subst e;refine⟨b,ag,?_,f⟩
 rw[gf];have d:=(de.1 a).1;simp_all[bJ,ByteArray.getElem_eq_getElem_data]
theorem azm{s:fh}{n:Nat}(a:x=n)(d:n<=(tx s).length){K:ByteArray->Prop}(b:∀t,tx t=(tx s).drop n->K t):qG s (some x) none K:=by
 subst a;have c:(tx s).length=s.size:=rfl;refine⟨aA,by simp;omega,aA,b _ ?_⟩
 simp only[wG,tx,ByteArray.data_extract,Array.toList_extract];exact qy aA
theorem alu{s:fh}{h:Hp}{K:cK}{q:PK}(hl:8<=(tx s).length)(a:K (jX ((tx s).take 8)) h):wV s h K q:=by
 refine aF4 (aCY ?_);have ix:∀{i:Nat}{b:UInt8}{K:Int->Prop}{x:Int},x=i->(tx s)[i]? =some b->K b.toNat->iu s x K:=λo p a=>yU o p a;generalize tx s=l at hl a ix;obtain⟨n,l,rfl⟩:∃b M,l=b::M:=by cases l;all_goals grind
 obtain⟨m,l,rfl⟩:∃b M,l=b::M:=by cases l;all_goals grind
 obtain⟨b2,l,rfl⟩:∃b M,l=b::M:=by cases l;all_goals grind
 obtain⟨j,l,rfl⟩:∃b M,l=b::M:=by cases l;all_goals grind
 obtain⟨g,l,rfl⟩:∃b M,l=b::M:=by cases l;all_goals grind
 obtain⟨f,l,rfl⟩:∃b M,l=b::M:=by cases l;simp at hl;simp
 obtain⟨d,l,rfl⟩:∃b M,l=b::M:=by cases l;simp at hl;simp
 obtain⟨c,l,rfl⟩:∃b M,l=b::M:=by cases l;simp at hl;simp
 have A:=n.toNat_lt;have z:=m.toNat_lt;have y:=b2.toNat_lt;have w:=j.toNat_lt;have v:=g.toNat_lt;have u:=f.toNat_lt;have t:=d.toNat_lt;have r:=c.toNat_lt;refine ix rfl rfl (pY rfl (m9 (Au _) bw) (ix rfl rfl (pY rfl (m9 (Au _) bw) (zo (k:=8) rfl ag ag ag (ix rfl rfl (pY rfl (m9 (Au _) bw) (zo (k:=16) rfl ag ag ag (ix rfl rfl (pY rfl (m9 (Au _) bw) (zo (k:=24) rfl ag ag ag (ix rfl rfl (pY rfl (m9 (Au _) bw) (zo (k:=32) rfl ag ag ag (ix rfl rfl (pY rfl (m9 (Au _) bw) (zo (k:=40) rfl ag ag ag (ix rfl rfl (pY rfl (m9 (Au _) bw) (zo (k:=48) rfl ag ag ag (ix (i:=7) rfl rfl (pY rfl (m9 (Au _) bw) (zo (k:=56) rfl ag ag ag ?_))))))))))))))))))))));have e:n.toNat+m.toNat*2^8+b2.toNat*2^16+j.toNat*2^24+g.toNat*2^32+f.toNat*2^40+d.toNat*2^48+c.toNat*2^56=jX ((n::m::b2::j::g::f::d::c::l).take 8):=by
  simp only[Vm,IB,jX];omega
 rw[e];exact a
theorem alK{s:fh}{l:dy}{h:Hp}{K:fB}(tb:iW h)(v:tx s=l)(hl:l.length<=2^40)(hk:∀h',az h h'->K (iH l) h'):Yf s h K Kp:=by
  refine aF5 (aAW (λx0 h'=>∃L,tx x0=L/\iH L=iH l/\az h h'/\L.length<=l.length) (λx0 _=>ByteArray.size x0) ⟨l,v,rfl,cQ _,bX _⟩ ?_);rintro x0 h1 ⟨L,v,hu,g1,hL⟩ N1 hN;have hn:=(show x0.size=L.length by rw[<-v];rfl)
  have next:∀{x:fh}{L':dy}{h':Hp},tx x=L'->iH L'=iH l->az h h'->L'.length<L.length->N1 _ h':=λ{x L' h'}v' BE g' eC=>hN _ _ ⟨L',v',BE,g',ag⟩ (by have:=(show x.size=L'.length by rw[<-v'];rfl);omega)
  refine cE (λc=>?_) λc=>?_;rotate_left
  ·have:L=[]:=uZ ag;rw[this]at hu;have:=hk h1 g1;rw[<-hu]at this;exact this
  obtain⟨b,r,rfl⟩:∃b r,L=b::r:=by cases L with|nil=>simp_all|cons b r=>exact⟨_,_,rfl⟩
  simp only[iN]at hn hL next;have cut:∀{x:fh}{L':dy}{n:Nat}{K:ByteArray->Prop},tx x=L'->n<=L'.length->(∀t,tx t=L'.drop n->K t)->qG x _ none K:=λ{x L' n K}v' Hf k=>azm rfl (by rw[v'];exact Hf) λt ht=>k t (by rw[ht,v'])
  have word:∀{x:fh}{L':dy}{h':Hp}{K:cK},tx x=L'->8<=L'.length->K _ h'->wV x h' K Kp:=λ{x L' h' K}v' Hf k=>alu (by rw[v'];exact Hf) (by rw[v'];exact k)
  have oC:∀L':List UInt8,jX (L'.take 8)<2^64:=λL'=>m9 (SD _) (EK bw cy);have Q1:∀{x:Nat}{K:Int->Prop},x<2^64->K _->Lt (gJ .and .u64 (x:Int) 9259542123273814144) K:=λ{x K}hx k=>by
    unfold Lt;rw[show(9259542123273814144:Int)=((yN:Nat):Int)from rfl,ay1 _ _ hx bw];exact k
  have Kt:∀{x y:Nat}{K:Int->Prop},x<2^64->y<2^64->K _->Lt (gJ .or .u64 (x:Int) (y:Int)) K:=λ{x y K}hx hy k=>by
    unfold Lt;rw[abv _ _ hx hy];exact k
  have UP:∀{x:Nat},(((x&&&yN:Nat):Int)==0)=true->qM x:=λ{x}q=>by
    simp_all[qM]
  have DN:∀{x y:Nat},x<2^64->y<2^64->x|||y<2^64:=λhx hy=>Iv hx hy;refine yU rfl (by rw[v];rfl) ?_
  have hb:=b.toNat_lt;refine cE (λc1=>?_) λc1=>?_
  · have hr:iH r=iH l:=by rw[<-hu,Zw ag]
    refine cut v aA λt22 zf=>?_;rw[List.drop_succ_cons,List.drop_zero]at zf;have n22:=(show t22.size=r.length by rw[<-zf];rfl)
    have j3:∀(q:Bool)h2,az h h2->tx t22=r->(q=true->8<r.length/\qM (jX (r.take 8)))->NS K Kp N1 t22 q h2:=by
      intro q h2 g2 zf hq;refine aC0 (aG (λcq=>?_) λ_=>next zf hr g2 ag);obtain⟨q1,q2⟩:=hq cq;have hr8:iH (r.drop 8)=iH l:=by rw[zg q2.all,hr]
      have l8:(r.drop 8).length=r.length-8:=aA
      refine cut (n:=8) zf ag λt33 ze=>?_;have n33:=(show t33.size=(r.drop 8).length by rw[<-ze];rfl)
      have j4:∀(q:Bool)h3,az h h3->tx t33=r.drop 8->(q=true->16<(r.drop 8).length/\qM (jX ((r.drop 8).take 8))/\qM (jX (((r.drop 8).drop 8).take 8)))->NR K Kp N1 t33 q h3:=by
        intro q h3 g3 ze hq;refine aCZ (aG (λcq=>?_) λ_=>next ze hr8 g3 ag);obtain⟨q1,q2,q3⟩:=hq cq;refine cut (n:=16) ze ag λt48 v48=>?_;have atH:iH ((r.drop 8).drop 16)=iH l:=by
          have e:(r.drop 8).drop 16=((r.drop 8).drop 8).drop 8:=by simp[Cz]
          rw[e,zg q3.all,zg q2.all,hr8]
        refine aAV (λx h'=>∃L',tx x=L'/\iH L'=iH l/\az h h'/\L'.length<=r.length) (λx _=>ByteArray.size x) ⟨_,v48,atH,g3,by simp only[Iu];omega⟩ ?_
        rintro x h4 ⟨L',v',BE,g4,hl'⟩ N2 hN2;have n':=(show x.size=L'.length by rw[<-v'];rfl)
        refine aG (λc5=>?_) λ_=>next v' BE g4 ag;have c5:=aS c5;refine cut (n:=8) v' ag λta va=>cut (n:=16) v' ag λtb vb=>cut (n:=24) v' ag λtc vc=>word v' ag (word va cy (Kt (oC _) (oC _) (word vb cy (word vc cy (Kt (oC _) (oC _) (Kt (DN (oC _) (oC _)) (DN (oC _) (oC _)) (Q1 (DN (DN (oC _) (oC _)) (DN (oC _) (oC _))) (aG (λc6=>?_) λ_=>next v' BE g4 ag))))))));have a:=UP c6;obtain⟨a1,a2⟩:=a.or;obtain⟨b1,b2⟩:=a1.or;obtain⟨b3,b4⟩:=a2.or;refine cut (n:=32) v' ag λtd vd=>hN2 _ _ ⟨_,vd,?_,g4,by simp only[Iu];omega⟩ (by have:=(show td.size=(L'.drop 32).length by rw[<-vd];rfl);simp at this;omega)
        have e1:L'.drop 32=(((L'.drop 8).drop 8).drop 8).drop 8:=by simp[Cz]
        have e2:(L'.drop 8).drop 8=L'.drop 16:=by simp[Cz]
        have e3:(L'.drop 16).drop 8=L'.drop 24:=by simp[Cz]
        rw[e1,zg (by rw[e2,e3];exact b4.all),zg (by rw[e2];exact b3.all),zg b2.all,zg b1.all,BE]
      refine aG (λc3=>?_) λ_=>j4 false _ g2 ze aA;have c3:=aS c3;exact cut (n:=8) ze ag λt41 v41=>word ze ag (word v41 cy (Kt (oC _) (oC _) (Q1 (DN (oC _) (oC _)) (j4 _ _ g2 ze λq=>⟨ag,(UP q).or⟩))))
    refine aG (λc2=>?_) λ_=>j3 false _ g1 zf aA;have c2:=aS c2;exact word zf ag (Q1 (oC _) (j3 _ _ g1 zf λq=>⟨ag,UP q⟩))
  · refine aC1 ⟨ag,ag,?_⟩
    have tb:=tb.ai g1;have hF:uF b.toNat<256:=al1 _;simp only[bz,gf,cF,vi];refine⟨_,tb.f b.toNat hb,?_⟩;have a7:gJ .and .u8 ((uF b.toNat:Nat):Int) 7=((uF b.toNat%8:Nat):Int):=by
      have h:(BitVec.ofInt 8 ((uF b.toNat:Nat):Int)&&&BitVec.ofInt 8 7).toNat=uF b.toNat%8:=by
        have e1:BitVec.ofInt 8 ((uF b.toNat:Nat):Int)=BitVec.ofNat 8 (uF b.toNat):=aA
        have e2:BitVec.ofInt 8 7=BitVec.ofNat 8 7:=by decide
        rw[e1,e2,Vl,wE,wE];have:7%2^8=2^3-1:=by decide
        rw[this,Nat.and_two_pow_sub_one_eq_mod];omega
      show IntKind.wrap .u8 ((BitVec.ofInt 8 ((uF b.toNat:Nat):Int)&&&BitVec.ofInt 8 7).toNat:Int)=_
      rw[h,IntKind.wrap_u8];omega
    have d16:Int.fdiv ((uF b.toNat:Nat):Int) (2^(min (Int.toNat 4) (IntKind.bits .u8)))=((uF b.toNat/16:Nat):Int):=by
      have:min (Int.toNat 4) (IntKind.bits .u8)=4:=rfl;rw[this,EI _ bw];norm_cast
    have l7:∀{K:Int->Prop},K ((uF b.toNat%8:Nat):Int)->Lt (gJ .and .u8 ((uF b.toNat:Nat):Int) 7) K:=λk=>by unfold Lt;rw[a7];exact k
    have n9:∀{K:Int->Prop},K ((uF b.toNat/16:Nat):Int)->Lt (Int.fdiv ((uF b.toNat:Nat):Int) (2^(min (Int.toNat 4) (IntKind.bits .u8)))) K:=λk=>by unfold Lt;rw[d16];exact k
    refine l7 (aX ag ag (jw bw (n9 ⟨ag,ag,?_⟩)))
    have ta:=tb.a (uF b.toNat/16) ag;simp only[bz,gf,cF];refine⟨_,ta.1,_,ta.2,aF λb6 h2 e6 g2 k6 _=>?_⟩;simp only[bz];refine dI k6 aA rfl λh3 o3 k6=>dI k6 aA rfl λh4 o4 k6=>?_;have k6:aN h4 b6 #[.int .u8 (FJ (uF b.toNat/16)),.int .u8 (FK (uF b.toNat/16))] af0:=by simpa using k6
    have G:=bI (bI g2 o3 ag) o4 ag;have G4:=ak g1 G;have v:=v;have bad:js b r=none->K false h4:=λq=>by
      have:=hk h4 G4;grind[JO]
    have TQ:∀{r':dy}{t:fh},js b r=some r'->tx t=r'->N1 (vT t) h4:=λ{r' t}q v'=>by
      refine next v' ?_ G4 (by have:=PG q;omega)
      rw[<-hu,JO,q]
    have n128:¬b.toNat<128:=ag;generalize sj:uF b.toNat=U at *;have sz:∀(m:Nat),(((U%8:Nat):Int)==(m:Int))=decide (U%8=m):=λm=>by rw[ki,oh,dR];omega
    have i1:∀{i:Nat}{e:UInt8}{K:Int->Prop}{x:Int},x=i->(b::r)[i]? =some e->K e.toNat->iu x0 x K:=λhx he k=>yU hx (by rw[v];exact he) k
    refine aG (λs2=>?_) λs2=>aG (λs3=>?_) λs3=>aG (λs4=>?_) λs4=>bad ?_
    · have s2:=aS s2;have s2:U%8=2:=ag;refine aG (λc2=>bad ?_) λc2=>?_
      ·have c2:=aS c2;have:r=[]:=uZ ag;subst this;simp[js,n128,sj,s2]
      have c2:=aS c2;obtain⟨e,r,rfl⟩:∃e r',r=e::r':=by cases r with|nil=>simp only[ry,iN]at hn;omega|cons e r=>exact⟨_,_,rfl⟩
      have lz:js b (e::r)=if rR b.toNat e then some r else none:=by simp[js,n128,sj,s2]
      unfold rR at lz;rw[sj]at lz;refine i1 rfl rfl (aj k6 rfl (aG (λq1=>?_) λq1=>aj k6 rfl (i1 rfl rfl (aG (λq2=>?_) λq2=>?_))))
      ·have q1:=aS q1;exact bad (by rw[lz,aC (by simp only[dw,dR];omega)])
      ·simp only[sm,reduceCtorEq]at q1 q2;exact bad (by rw[lz,aC (by simp only[dw,dR];omega)])
      simp only[sm,reduceCtorEq]at q1 q2;refine cut v aA λt vt=>TQ (by rw[lz,aK (by simp only[dw,dR];omega)]) (by simpa using vt)
    · simp only[sm,reduceCtorEq]at s2 s3;have s3:U%8=3:=ag;refine aG (λc2=>bad ?_) λc2=>?_
      · have c2:=aS c2;cases r with
        |nil=>simp[js,n128,sj,s3]
        | cons e r=>cases r with
          |nil=>simp[js,n128,sj,s3]
          |cons f r=>simp only[ry,iN]at hn;omega
      have c2:=aS c2;obtain⟨e,f,r,rfl⟩:∃e f r',r=e::f::r':=by
        cases r with
        |nil=>simp only[ry,iN]at hn;omega
        | cons e r=>cases r with
          |nil=>simp only[ry,iN]at hn;omega
          |cons f r=>exact⟨_,_,_,rfl⟩
      have lz:js b (e::f::r)=if rR b.toNat e&&uv f then some r else none:=by simp[js,n128,sj,s3]
      unfold rR uv at lz;rw[sj]at lz;refine i1 rfl rfl (aj k6 rfl (aG (λq1=>?_) λq1=>aj k6 rfl (i1 rfl rfl (aG (λq2=>?_) λq2=>?_))))
      ·have q1:=aS q1;exact bad (by rw[lz,aC (by simp only[dw,dR];omega)])
      ·simp only[sm,reduceCtorEq]at q1 q2;exact bad (by rw[lz,aC (by simp only[dw,dR];omega)])
      simp only[sm,reduceCtorEq]at q1 q2;refine i1 rfl rfl (aG (λuz=>?_) λuz=>i1 rfl rfl (aG (λBp=>?_) λBp=>?_))
      ·have uz:=aS uz;exact bad (by rw[lz,aC (by simp only[dw,dR];omega)])
      ·simp only[sm,reduceCtorEq]at uz Bp;exact bad (by rw[lz,aC (by simp only[dw,dR];omega)])
      simp only[sm,reduceCtorEq]at uz Bp;refine cut v aA λt vt=>TQ (by rw[lz,aK (by simp only[dw,dR];omega)]) (by simpa using vt)
    · simp only[sm,reduceCtorEq]at s2 s3 s4;have s4:U%8=4:=ag;refine aG (λc2=>bad ?_) λc2=>?_
      · have c2:=aS c2;cases r with
        |nil=>simp[js,n128,sj,s4]
        | cons e r=>cases r with
          |nil=>simp[js,n128,sj,s4]
          | cons f r=>cases r with
            |nil=>simp[js,n128,sj,s4]
            |cons g r=>simp only[ry,iN]at hn;omega
      have c2:=aS c2;obtain⟨e,f,g,r,rfl⟩:∃e f g r',r=e::f::g::r':=by
        cases r with
        |nil=>simp only[ry,iN]at hn;omega
        | cons e r=>cases r with
          |nil=>simp only[ry,iN]at hn;omega
          | cons f r=>cases r with
            |nil=>simp only[ry,iN]at hn;omega
            |cons g r=>exact⟨_,_,_,_,rfl⟩
      have lz:js b (e::f::g::r)=if rR b.toNat e&&(uv f&&uv g)then some r else none:=by simp[js,n128,sj,s4]
      unfold rR uv at lz;rw[sj]at lz;refine i1 rfl rfl (aj k6 rfl (aG (λq1=>?_) λq1=>aj k6 rfl (i1 rfl rfl (aG (λq2=>?_) λq2=>?_))))
      ·have q1:=aS q1;exact bad (by rw[lz,aC (by simp only[dw,dR];omega)])
      ·simp only[sm,reduceCtorEq]at q1 q2;exact bad (by rw[lz,aC (by simp only[dw,dR];omega)])
      simp only[sm,reduceCtorEq]at q1 q2;refine i1 rfl rfl (aG (λuz=>?_) λuz=>i1 rfl rfl (aG (λBp=>?_) λBp=>?_))
      ·have uz:=aS uz;exact bad (by rw[lz,aC (by simp only[dw,dR];omega)])
      ·simp only[sm,reduceCtorEq]at uz Bp;exact bad (by rw[lz,aC (by simp only[dw,dR];omega)])
      simp only[sm,reduceCtorEq]at uz Bp;refine i1 rfl rfl (aG (λGm=>?_) λGm=>i1 rfl rfl (aG (λQJ=>?_) λQJ=>?_))
      ·have Gm:=aS Gm;exact bad (by rw[lz,aC (by simp only[dw,dR];omega)])
      ·simp only[sm,reduceCtorEq]at Gm QJ;exact bad (by rw[lz,aC (by simp only[dw,dR];omega)])
      simp only[sm,reduceCtorEq]at Gm QJ;refine cut v aA λt vt=>TQ (by rw[lz,aK (by simp only[dw,dR];omega)]) (by simpa using vt)
    ·simp only[sm,reduceCtorEq]at s2 s3 s4;have h2:¬U%8=2:=ag;have h3:¬U%8=3:=ag;have h4:¬U%8=4:=ag;simp[js,n128,sj,h2,h3,h4]
theorem ayT{h:Hp}{K:cK}(h1:1<=k/\k<=20)(hk:K (dN k) h):Yq k h K Kp:=by
 have fin:∀v:Int,v=dN k->K v h:=λv e=>e▸hk;apply aGl;unfold dN at fin
 repeat' first|(with_reducible first|refine aC8 ?_|refine ug ?_|refine uh ?_|refine cE (λc=>?_) λc=>?_)
 all_goals apply fin _
 all_goals simp_all
 all_goals(repeat' split)
 all_goals omega
def atn(ix:Int)(d:bG)(r:Nat):Option Nat:=
 if(ix<=6/\2^(8*(dN ix).toNat-1)<=pH (dB d.aY 1) (r*(dN ix).toNat) (dN ix).toNat)\/(∀c,d.ds[0]? =some c->c.len<=(pH (dB d.aY 1) (r*(dN ix).toNat) (dN ix).toNat:Int))then none
 else some (pH (dB d.aY 1) (r*(dN ix).toNat) (dN ix).toNat)
def Q7(k:Int)(d:bG):Int:=if k=15 then(match d.cs with|c::_=>c.len|[]=>0)else(dB d.aY 2).length
def uC(d:bG)(i:Nat):Int:=i32 (dB d.aY 1) (d.off.toNat+i)
def agB(k:Int)(d:bG):Prop:=(∀i:Nat,i<=d.len.toNat->0<=uC d i/\uC d i<=Q7 k d/\(∀j:Nat,i=j+1->uC d j<=uC d i))/\
 (k=12->∀i:Nat,i<d.len.toNat->jF k d.aY (d.off.toNat+i)=false->iH (((dB d.aY 2).drop (uC d i).toNat).take ((uC d (i+1)).toNat-(uC d i).toNat))=true)
structure azq(k:Int)(d:bG):Prop where
 l0:0<=d.len
 l1:d.len<=4096
 o0:0<=d.off
 o1:d.off<=4096
 hv:mU k=true->1<=d.aY.length
 Cn:∀j,j<d.aY.length->(dB d.aY j).length<=65536
theorem tZ.row{au:Bool}{id ix:Int}{cs:cN}(o:tZ au k w id ix cs d):azq k d:=by
 refine⟨o.l0,o.l1,o.o0,o.o1,λq=>?_,o.Cn⟩;have nb:=o.nb;unfold mU at q;simp only[dw,yF]at q;unfold kR at nb
 omega
section
variable {h:Hp} {b2 b3 b4:Nat} {nm:fh} {au:Bool} {id ix:Int} {K:Int->Sl->Int->HP}
end
def HQ(d:bG)(r:Nat):Nat:=((dB d.aY 0).getD r 0).toNat
structure Wb(k ix:Int)(d:bG):Prop where
 off:k=12\/k=13\/k=15->agB k d
 code:k=18->∀i:Nat,i<d.len.toNat->∃c,d.cs[HQ d (d.off.toNat+i)]? =some c/\0<=uC d i/\uC d i<c.len
 aJm:k=19->∀i:Nat,i<d.len.toNat->jF k d.aY (d.off.toNat+i)=false->∃m,atn ix d (d.off.toNat+i)=some m
section
variable {h:Hp} {b2 b3 b4:Nat} {nm:fh} {au:Bool} {id ix:Int} {cs:cN} {K:Int->Sl->Int->HP}
def BU(e:bG)(i:Nat):Int:=i32 (dB e.aY 1) (e.off.toNat+i)
end
def acr(e:bG):Nat->Int
 |0=>0
 |i+1=>BU e i
def aj9(d:bG):Prop:=∃e v,d.cs[0]? =some e/\d.cs[1]? =some v/\e.len=v.len/\(∀i:Nat,i<e.len.toNat->acr e i<BU e i)/\d.off+d.len<=acr e e.len.toNat
inductive aB
 |mk (au:Bool) (num:Int) (text:dy) (items:List aB)
abbrev aR:=List aB
variable {X:aR} {v:aB} {g:aB->Nat} {F:List (aB->Bool)}
mutual
def aB.bx:aB->Nat
 |.mk _ _ t vs=>16+t.length+bL vs
def bL:List aB->Nat
 |[]=>0
 |v::vs=>v.bx+bL vs
end
theorem FI:∀vs:List aB,bL vs=(vs.map aB.bx).sum
 |[]=>rfl
 |v::vs=>by unfold bL;rw[FI vs];simp
abbrev VF:=bG->Nat->aB
def v0:aB:=.mk true 0 [] []
def vz:VF:=λ_ _=>v0
def wm:bG:=.mk 0 0 0 [] [] []
def part(d:bG)(j:Nat):bG:=(xj d).getD j wm
def og(V:VF)(c:bG)(i:Nat):aB:=V c (c.off.toNat+i)
def runN(e:bG)(r:Nat):Nat:=((List.range e.len.toNat).find? λj=>decide ((r:Int)<BU e j)).getD 0
def zH(k:Int)(l:dy)(r:Nat):Int:=
 if 3<=k/\k<=6 then sg (dN k).toNat (pH l (r*(dN k).toNat) (dN k).toNat)else sg 8 (pH l (r*(dN k).toNat) (dN k).toNat)
def sW(d:bG)(r:Nat):Nat:=(i32 (dB d.aY 1) r).toNat
def pz(k w ix:Int)(V:List VF)(d:bG)(r:Nat):aB:=
 if jF k d.aY r=true then v0
 else if k=12\/k=13 then .mk false 0 (((dB d.aY 2).drop (sW d r)).take (sW d (r+1)-sW d r)) []
 else if k=15 then .mk false 0 [] ((List.range (sW d (r+1)-sW d r)).map λi=>og (V.getD 0 vz) (part d 0) (sW d r+i))
 else if k=16 then .mk false 0 [] ((List.range w.toNat).map λi=>og (V.getD 0 vz) (part d 0) (r*w.toNat+i))
 else if k=17 then .mk false 0 [] ((List.range V.length).map λj=>og (V.getD j vz) (part d j) r)
 else if k=18 then .mk false (HQ d r) [] [og (V.getD (HQ d r) vz) (part d (HQ d r)) (sW d r)]
 else if k=19 then og (V.getD 0 vz) (part d 0) (pH (dB d.aY 1) (r*(dN ix).toNat) (dN ix).toNat)
 else if k=20 then og (V.getD 1 vz) (part d 1) (runN (part d 0) r)
 else if k=2 then .mk false (if gK (dB d.aY 1) r then 1 else 0) [] []
 else if k=14 then .mk false 0 (((dB d.aY 1).drop (r*w.toNat)).take w.toNat) []
 else .mk false (zH k (dB d.aY 1) r) [] []
def DF(k:Int)(V:List VF):List VF:=if k=20 then pz 5 0 0 []::V else V
mutual
def aq.val:aq->VF
 |.mk _ _ k w _ ix cs=>pz k w ix (DF k (zc cs))
def zc:List aq->List VF
 |[]=>[]
 |f::fs=>f.val::zc fs
end
theorem Zt:∀a:List aq,zc a=a.map aq.val
 |[]=>rfl
 |f::a=>by unfold zc;rw[Zt a];rfl
theorem abb(k:Int)(cs:cN):DF k (zc cs)=(r7 k cs).map aq.val:=by
 unfold DF r7;rw[Zt];split
 ·simp[Lz,aq.val,zc,DF]
 ·rfl
def AY(V:VF)(d:bG):List Nat:=(List.range d.len.toNat).map λi=>(og V d i).bx
theorem alm{V:VF}(h:i<d.len.toNat):(AY V d)[i]? =some (og V d i).bx:=by simp[AY,h]
theorem Z2{l:cU}(a m:Nat):((l.drop a).take m).sum<=l.sum:=by
  have e:∀(l:cU)m,(l.take m).sum<=l.sum:=by
    intro l;induction l with
    |nil=>simp
    | cons y c b=>intro m;cases m with
      |zero=>simp
      |succ m=>simp[*]
  have d:∀(l:cU)a,(l.drop a).sum<=l.sum:=by
    intro l;induction l with
    |nil=>simp
    | cons y c b=>intro m;cases m with
      |zero=>simp
      |succ m=>grind
  grind
theorem aln{V:VF}{a:Nat}(h:a+m<=d.len.toNat):((AY V d).drop a).take m=(List.range m).map λi=>(og V d (a+i)).bx:=by
 apply qz;intro i;rw[Vi,eY];split
 ·rename_i b
  rw[Iy,alm ag,EM b];rfl
 simp[*]
theorem ano{l:cU}{n:Nat}(h:l[j]? =some n):(l.take (j+1)).sum=(l.take j).sum+n:=by
 rw[Mz,h];simp
theorem apc{e:bG}{r:Nat}(a:j<e.len.toNat)(d:(r:Int)<BU e j)(c:∀i,i<j->BU e i<=r):runN e r=j:=by
 unfold runN;have:(List.range e.len.toNat).find? (λj=>decide ((r:Int)<BU e j))=some j:=by
  rw[List.find?_range_eq_some];refine⟨dG,dG,λi b=>?_⟩
  have:=c i b;simp;omega
 simp[*]
def iv(l:cU):List Value:=l.map λx:Nat=>ah (x:Int)
theorem atj{l:cU}(h:l[i]? =some m):(iv l)[i]? =some (ah (m:Int)):=by simp[iv,h]
theorem ati(l:cU):(iv l).length=l.length:=by simp[iv]
def Nv(h:Hp)(s:Sl)(l:cU):Prop:=Sv h s (iv l)
theorem Nv.ld{h:Hp}{l:cU}(v:Nv h s l){x:Int}{i y:Nat}(d:x=i)(c:l[i]? =some y){K:Int->Prop}(f:K y):Ix s.a s.n 1 x λa=>Ld h a mI K:=by
 have e:=v.1;have j:=(de.1 c).1;rw[ati]at e;exact v.ix ag ag (by grind[Int.toNat_natCast,atj]) λa g=>⟨_,g,f⟩
structure Ws(h0 h:Hp)(b:Nat)(t:Sl)(n:Nat)(outs:bq):Prop where
 g:az h0 h
 o:gZ h t b outs Y6
 l:outs.length=n
 hb:h0.size<=b
section
variable {h:Hp} {b n:Nat} {outs:bq}
theorem Ws.tn(w:Ws h0 h b t n outs):t.n=n:=by rw[w.o.2.1,w.l]
theorem Ws.ai(w:Ws h0 h b t n outs)(g:az h H):Ws h0 H b t n outs:=⟨ak w.g g,w.o.ai g,w.l,w.hb⟩
theorem Ws.st(w:Ws h0 h b t n outs){x:Int}{i:Nat}(B:x=i)(hi:i<n){y:Int}{K:Hp->Prop}(H:∀z,Ws h0 z b t n (outs.set i (ah y))->K z):Ix t.a t.n 1 x λa=>St h a (ah y) K:=by
 have tn:=w.tn;apply w.o.vX ag ag;rw[B,gf];exact w.o.st ag rfl λz c o=>H z ⟨bI w.g c w.hb,o,by simp[w.l],w.hb⟩
end
theorem aoj{l:bq}{v:Value}(h:i<l.length):(l.set i v)[i]? =some v:=by simp[h]
theorem aoi{l:bq}{v:Value}(h:j≠i):(l.set i v)[j]? =l[j]? :=by
 grind
section
variable {h:Hp} {b n:Nat} {wi:Sl} {us:List Sl} {ls:List (List Nat)} {outs:bq} {a3 a4 a7:Addr} {K:Sl->HP} {N1:Fr->HP}
end
theorem aao{l:bq}{v:Value} (h : l[i]? = some v) : l.set i v = l := by
  have hi := (de.1 h).1
  apply qz; intro k
  by_cases e : k = i
  · subst e; rw [aoj hi, h]
  · rw [aoi e]
theorem IX{h:Hp}{n:Nat}{X:Prop} (x : X) : aT h h a n X := ⟨fun _ _ => rfl, x⟩
section
variable {h:Hp} {nm:fh} {au:Bool} {id ix:Int} {cs:cN} {V:List VF} {wi:Sl} {us:List Sl} {K:Sl->HP}
end
abbrev PF:=bG->Prop
structure O9(au:Bool)(k w id ix:Int)(cs:cN)(V:List VF)(P:List PF)(d:bG):Prop where
 o:tZ au k w id ix cs d
 ro:Wb k ix d
 pt:∀(j:Nat)(c:bG),(xj d)[j]? =some c->∃p,P[j]? =some p/\p c
 eo:k=20->aj9 d
 wt:(AY (pz k w ix V) d).sum<=4194304
def Kn(k:Int)(P:List PF):List PF:=if k=20 then O9 false 5 0 0 0 [] [] []::P else P
mutual
def aq.arr:aq->PF
 |.mk _ au k w id ix cs=>O9 au k w id ix cs (DF k (zc cs)) (Kn k (ET cs))
def ET:List aq->List PF
 |[]=>[]
 |f::fs=>f.arr::ET fs
end
theorem afT:∀a:List aq,ET a=a.map aq.arr
 |[]=>rfl
 |f::a=>by unfold ET;rw[afT a];rfl
theorem avR:Lz.arr=O9 false 5 0 0 0 [] [] []:=by
 grind[Lz,aq.arr,ET,zc,DF,Kn]
theorem ap9(k:Int)(cs:cN):Kn k (ET cs)=(r7 k cs).map aq.arr:=by
 grind[Kn,r7,afT,avR]
theorem aq.UQ:f.arr d↔O9 f.au f.k f.w f.id f.ix f.cs ((r7 f.k f.cs).map aq.val) ((r7 f.k f.cs).map aq.arr) d:=by
 obtain⟨n,au,k,w,id,ix,cs⟩:=f;unfold aq.arr;rw[ap9,abb];exact Iff.rfl
theorem aq.alN(f:aq):f.val=pz f.k f.w f.ix ((r7 f.k f.cs).map aq.val):=by
 obtain⟨n,au,k,w,id,ix,cs⟩:=f;unfold aq.val;rw[abb];rfl
abbrev wC:=@aq.alN
def aB.au:aB->Bool|.mk n _ _ _=>n
def aB.num:aB->Int|.mk _ x _ _=>x
def aB.text:aB->List UInt8|.mk _ _ t _=>t
def aB.items:aB->List aB|.mk _ _ _ l=>l
def uu(n:Bool)(x:Int)(t:dy)(s:Sl):List Value:=[.bool n,ah x,.string (bs t),Sl.v s]
def aB.row(v:aB)(s:Sl):List Value:=uu v.au v.num v.text s
theorem A5(v:aB)(s:Sl):∀x∈v.row s,one x=true:=by intro x a;simp[aB.row,uu]at a;rcases a with rfl|rfl|rfl|rfl <;> rfl
mutual
def aO(D:aQ)(h:Hp)(s:Sl):List aB->Prop
 |[]=>s.n=0/\s.n<=s.c
 |v::vs=>s.n=vs.length+1/\s.n<=s.c/\∃a,s.a=some a/\D a.block/\VA D h a v/\iE D h a 1 vs
def iE(D:aQ)(h:Hp)(a:Addr)(i:Nat):List aB->Prop
 |[]=>True
 |v::vs=>VA D h (a.add (i*4)) v/\iE D h a (i+1) vs
def VA(D:aQ)(h:Hp)(a:Addr):aB->Prop
 |.mk n x t vs=>∃s,Cs h a (uu n x t s)/\aO D h s vs
end
theorem VA.row{h:Hp}(c:VA D h a v):∃s,Cs h a (v.row s)/\aO D h s v.items:=by
 obtain⟨n,x,t,vs⟩:=v;unfold VA at c;exact c
theorem VA.of{h:Hp}(c:Cs h a (v.row s))(w:aO D h s v.items):VA D h a v:=by
 obtain⟨n,x,t,vs⟩:=v;unfold VA;exact⟨s,c,w⟩
section
variable {D':aQ} {h:Hp}
theorem VA.lt(g:VA D h a v):a.block<h.size:=by obtain⟨_,c,_⟩:=g.row;exact Cs.lt c
mutual
theorem aO.fr(f:Tn S h h')(hn:∀b,D b->b<h.size->¬S b)(hD:∀b,D b->D' b):∀{s:Sl}(vs:aR),aO D h s vs->aO D' h' s vs
  |_,[],hh=>by unfold aO at hh ⊢;exact hh
  | _,v::vs,hh=>by
    unfold aO at hh⊢
    obtain⟨a,b,p,e,q,x,y⟩:=hh
    exact⟨a,b,p,e,hD _ q,VA.fr f hn hD (hn _ q x.lt) v x,iE.fr f hn hD (hn _ q x.lt) vs y⟩
theorem iE.fr(f:Tn S h h')(hn:∀b,D b->b<h.size->¬S b)(hD:∀b,D b->D' b):∀{a:Addr}(ha:¬S a.block){i:Nat}(vs:aR),iE D h a i vs->iE D' h' a i vs
  |_,_,_,[],_=>by unfold iE;trivial
  | _,ha,i,v::vs,hh=>by
    unfold iE at hh⊢
    exact⟨VA.fr f hn hD (by rw[CG];exact ha) v hh.1,iE.fr f hn hD ha vs hh.2⟩
theorem VA.fr(f:Tn S h h')(hn:∀b,D b->b<h.size->¬S b)(hD:∀b,D b->D' b):∀{a:Addr}(ha:¬S a.block)(v:aB),VA D h a v->VA D' h' a v
  | _,ha,.mk n x t vs,hh=>by
    unfold VA at hh⊢
    obtain⟨s,hc,h1⟩:=hh
    exact⟨s,hc.fr f ha,aO.fr f hn hD vs h1⟩
end
mutual
theorem aO.lt:∀{s:Sl}(vs:aR),aO D h s vs->aO (λb=>D b/\b<h.size) h s vs
  |_,[],hh=>by unfold aO at hh ⊢;exact hh
  | _,v::vs,hh=>by
    unfold aO at hh⊢
    obtain⟨a,b,p,e,q,x,y⟩:=hh
    exact⟨a,b,p,e,⟨q,x.lt⟩,VA.lt' v x,iE.lt vs y⟩
theorem iE.lt:∀{a:Addr}{i:Nat}(vs:aR),iE D h a i vs->iE (λb=>D b/\b<h.size) h a i vs
 |_,_,[],_=>by unfold iE;trivial
 |_,i,v::vs,hh=>by unfold iE at hh ⊢;exact⟨VA.lt' v hh.1,iE.lt vs hh.2⟩
theorem VA.lt':∀{a:Addr}(v:aB),VA D h a v->VA (λb=>D b/\b<h.size) h a v
  | _,.mk n x t vs,hh=>by
    unfold VA at hh⊢
    obtain⟨s,hc,h1⟩:=hh
    exact⟨s,hc,aO.lt vs h1⟩
end
theorem aO.gr{vs:aR}(v:aO D h s vs)(g:az h h'):aO D h' s vs:=aO.fr (bg g) (λ_ _ _=>id) (λ_ q=>q) vs v
abbrev dU:=@aO.gr
theorem aO.mo{vs:aR}(v:aO D h s vs)(a:∀b,D b->D' b):aO D' h s vs:=aO.fr (iV _ _) (λ_ _ _=>id) a vs v
abbrev sD:=@aO.mo
theorem iE.get:∀{a:Addr}{vs:aR}{i:Nat},iE D h a i vs->∀(j:Nat)v,vs[j]? =some v->VA D h (a.add ((i+j)*4)) v
  |_,[],_,_,_,_,b=>by simp at b
  |_,f::d,i,c,0,g,b=>by grind[iE]
  | _,f::d,i,c,j+1,g,b=>by
    unfold iE at c;have:=iE.get c.2 j g (by simpa using b)
    grind
theorem iE.of:∀{vs:aR}{i:Nat},(∀j v,vs[j]? =some v->VA D h (a.add ((i+j)*4)) v)->iE D h a i vs
  |[],_,_=>by unfold iE;trivial
  | f::c,i,H=>by
    unfold iE;refine⟨H 0 f rfl,iE.of λj g b=>?_⟩;have:=H (j+1) g dG
    grind
theorem aO.n{vs:aR}(z:aO D h s vs):s.n=vs.length/\s.n<=s.c:=by
 cases vs with
 |nil=>unfold aO at z;exact z
 |cons g a=>unfold aO at z;grind
theorem aO.all{vs:aR}(c:aO D h s vs)(d:vs≠[]):∃a,s.a=some a/\D a.block/\∀(j:Nat)v,vs[j]? =some v->VA D h (a.add (j*4)) v:=by
  cases vs with
  |nil=>grind
  | cons g m=>
    unfold aO at c;obtain⟨_,_,a,i,f,l,k⟩:=c;refine⟨a,i,f,λj v b=>?_⟩;cases j with
    |zero=>simp_all[add_zero']
    | succ j=>
      have:=k.get j v (by simpa using b)
      grind
theorem aO.of{vs:aR}(q:s.n=vs.length)(z:s.n<=s.c)(B:vs≠[]->∃a,s.a=some a/\D a.block/\∀(j:Nat)v,vs[j]? =some v->VA D h (a.add (j*4)) v):aO D h s vs:=by
  cases vs with
  |nil=>unfold aO;simp[*]
  | cons g k=>
    obtain⟨a,i,f,b⟩:=B aA;unfold aO;refine⟨q,z,a,i,f,by simpa[add_zero']using b 0 g rfl,iE.of λj v d=>?_⟩
    have:=b (j+1) v dG
    grind
theorem aO.nil(h:Hp):aO D h Sl.nil []:=by unfold aO;exact⟨rfl,bX _⟩
abbrev pL:=@aO.nil
theorem aO.ix{vs:aR}(g:aO D h s vs){x:Int}{i:Nat}(B:x=(i:Int)){v:aB}(z:vs[i]? =some v){K:Addr->Prop}(C:∀a t,Cs h a (v.row t)->aO D h t v.items->K a):Ix s.a s.n 4 x K:=by
 have b:i<vs.length:=bZ;obtain⟨a,f,_,d⟩:=g.all bZ
 obtain⟨p,c,w⟩:=(d i v z).row;have j:=g.n;subst B;rw[f];exact⟨ag,ag,by rw[gf];exact C _ _ c w⟩
theorem aO.QX{b:Nat}{vs:aR}{ss:List Sl}(o:me 4 h s b (List.zipWith aB.row vs ss) el)(hl:ss.length=vs.length)(g:D b)
  (f:∀(j:Nat)(v:aB)(t:Sl),vs[j]? =some v->ss[j]? =some t->aO D h t v.items):aO D h s vs:=by
 have e:=o.n;rw[m7,hl,Ax]at e;refine aO.of e o.cap λ_=>⟨_,o.a,g,λj v d=>?_⟩;have i:=(de.1 d).1;have c:ss[j]? =some ss[j]:=aA;rw[bz,cF];exact VA.of (o.cs bZ) (f j v _ d c)
theorem aO.snoc{n:Nat}{vs:aR}{ss:List Sl}(o:eW n 4 h s (List.zipWith aB.row vs ss) el)(hl:ss.length=vs.length)(f:∀b,n<=b->D b)
    (a:∀(j:Nat)(v:aB)(t:Sl),vs[j]? =some v->ss[j]? =some t->aO D h t v.items):aO D h s vs:=by
  rcases o.cases with⟨rfl,e⟩|⟨b,c,o⟩
  · have:vs=[]:=by
      cases vs with
      |nil=>rfl
      |cons d ds=>simp_all
    subst this;exact pL h
  ·exact aO.QX o hl (f b c) a
end
mutual
def aq.dep:aq->Nat
 |.mk _ _ _ _ _ _ cs=>Ue cs+1
def Ue:List aq->Nat
 |[]=>0
 |f::fs=>max f.dep (Ue fs)
end
theorem aqi{cs:cN}{d:Nat}:∀{n:Nat}{a:List Int},gP n a (lV d B cs)->∀f∈cs,∃(n:Nat)(a:List Int),gP n a (f.places d [] B):=by
  induction cs with
  |nil=>simp
  | cons g e c=>
    intro n a h f b;simp only[lV,FD]at h;grind
theorem TS{α:Type}{l:List α}{x y:α}(h:l[j]? =some x):l.getD j y=x:=by simp[h]
theorem aq.arr.Dr(h:f.arr d):tZ f.au f.k f.w f.id f.ix f.cs d:=(aq.UQ.1 h).o
def xJ(k:Int):Value:=if k=12\/k=13 then .iface af9 (.agg #[])else if k=15\/k=16 then .iface af8 (.agg #[])else if k=17 then .iface af7 (.agg #[])else if k=18 then .iface af6 (.agg #[])else if k=19 then .iface af5 (.agg #[])else if k=20 then .iface af4 (.agg #[])else .iface IL (.agg #[])
theorem avz{h:Hp}{K:di}{r:PK}(u:K (xJ k) h):YX k h K r:=by
 have fin:∀v:Value,v=xJ k->K v h:=λv e=>e▸u;unfold xJ at fin;have j2:∀b:Bool,(b=true↔(k=15\/k=16))->¬(k=12\/k=13)->Of K r k b h:=by
  intro b i g;refine aDP (aG (λc=>fin _ ?_) λc=>?_)
  ·rw[aC g,aK (i.1 c)]
  have t:¬(k=15\/k=16):=λq=>by rw[i.2 q]at c;cases c
  refine aG (λa=>fin _ ?_) λa=>aG (λj=>fin _ ?_) λj=>aG (λl=>fin _ ?_) λl=>aG (λm=>fin _ ?_) λm=>fin _ ?_
  all_goals simp only[sm,reduceCtorEq]at*
  all_goals rw[aC g,aC t]
  ·rw[aK a]
  ·rw[aC a,aK j]
  ·rw[aC a,aC j,aK l]
  ·simp_all
  ·simp_all
 have j1:∀b:Bool,(b=true↔(k=12\/k=13))->Og K r k b h:=by
  intro b i;refine aDQ (aG (λc=>fin _ ?_) λc=>?_)
  ·rw[aK (i.1 c)]
  have g:¬(k=12\/k=13):=λq=>by rw[i.2 q]at c;cases c
  refine aG (λa=>j2 _ ?_ g) λa=>j2 _ ?_ g
  all_goals simp only[sm,reduceCtorEq]at*
  all_goals omega
 grind[aHe,aG,sm]
abbrev ayY(f:aq)(s:Sl)(d:bG)(q:Sl×Sl×Sl)(o n:Int):Array Value:=#[.string f.name,.bool f.au,ah f.k,ah f.w,ah f.id,ah f.ix,Sl.v s,ah d.len,ah d.off,ah d.au,Sl.v q.1,Sl.v q.2.1,Sl.v q.2.2,ah o,ah n,.pointer none,xJ f.k]
structure nP(D:aQ)(h:Hp)(b:Nat)(f:aq)(d:bG)(o n:Int)(s:Sl)(q:Sl×Sl×Sl):Prop where
 k:aN h b (ayY f s d q o n) agc
 fs:bM D h s f.cs
 dv:eR D D h q d
section
variable {D':aQ} {h:Hp} {b:Nat} {o n:Int}
theorem nP.fr(A:nP D h b f d o n s q)(t:Tn S h h')(G:¬S b)(z:∀x,D x->¬S x)(B:∀x,D x->D' x):nP D' h' b f d o n s q:=
 ⟨t.aZ A.k G,bM.fr t z B _ A.fs,A.dv.fr t (λx a _=>z x a) (λx a _=>z x a) B B⟩
theorem nP.gr(A:nP D h b f d o n s q)(g:az h h'):nP D h' b f d o n s q:=A.fr (bg g) (λx=>x) (λ_ _ x=>x) λ_ x=>x
theorem nP.lt(A:nP D h b f d o n s q):nP (λx=>D x/\x<h.size) h b f d o n s q:=⟨A.k,bM.lt _ A.fs,A.dv.lt⟩
theorem iC.get:∀{a:Addr}{l:cN}{i:Nat},iC D h a i l->∀(j:Nat)f,l[j]? =some f->jy D h (a.add ((i+j)*7)) f
  |_,[],_,_,_,_,c=>by simp at c
  |_,f::l,i,k,0,g,c=>by grind[iC]
  | _,f::l,i,k,j+1,g,c=>by
    unfold iC at k;have:=iC.get k.2 j g (by simpa using c)
    grind
theorem jy.row(c:jy D h a f):∃u,Cs h a (f.row u)/\bM D h u f.cs:=by cases f;unfold jy at c;exact c
theorem bM.ix(B:bM D h s fs){x:Int}{i:Nat}(C:x=(i:Int)){g:aq}(z:fs[i]? =some g){K:Addr->Prop}(E:∀a u,Cs h a (g.row u)->bM D h u g.cs->K a):Ix s.a s.n 7 x K:=by
  have r:=B.n;have t:i<fs.length:=bZ;cases fs with
  |nil=>simp at z
  | cons f fs=>
    unfold bM at B;obtain⟨_,_,a,k,_,m,l⟩:=B;have:jy D h (a.add (i*7)) g:=by
      cases i with
      |zero=>simp_all[add_zero']
      | succ j=>
        have:=l.get j g (by simpa using z)
        grind
    obtain⟨u,c,v⟩:=this.row;subst C;rw[k];exact⟨ag,ag,by rw[gf];exact E _ _ c v⟩
theorem aqI{K:Option Addr->HP}(hs:bM D h s f.cs)(v:eR D D h q d)(hk:∀b' h',az h h'->h.size<=b'->nP D h' b' f d d.off d.len s q->K (bC b') h'):XG f.name f.au f.k f.w f.id f.ix s d.len d.off d.au q.1 q.2.1 q.2.2 none h K Kp:=by
 refine aEa (aF λb3 h1 e1 g1 k3 _=>aF λb4 h2 e2 g2 k4 _=>?_);simp only[bz];have G:=ak g1 g2;have k3:=k3.ai g2;refine dO k3 (fJ k4 (aj k4 rfl (aj k4 rfl (aj k3 rfl (avz (IX (IX (IX (IX ?_)))))))));have na:∀{X:Prop},X->NA (xJ f.k) X:=λ{X}hX=>by unfold xJ;(repeat' split) <;> exact⟨rfl,hX⟩
 exact na (aF λb5 h3 e3 g3 k5 _=>hk _ _ (ak G g3) ag ⟨k5,hs.gr (ak G g3),v.gr (ak G g3)⟩)
end
section
variable {h:Hp}
end
section
variable {h:Hp} {l:dy}
theorem eD.gr{vs:bq}(v:eD D h u vs)(g:az h H):eD D H u vs:=v.fr (bg g) (λ_ _ _=>id) λ_ q=>q
theorem aq1{K:Sl->Int->Option Addr->HP}(v:eD D h u (bv l))(B:∀t i,az h i->eD D i t (bv l)->K t 0 none i):YK u h K Kp:=by
 have tn:=v.1.1;rw[fP]at tn;refine aGT (aF λb2 E e1 r c _=>agp (v.1.ai r) (a:=0) rfl rfl rfl (eu _) (by rw[fP];omega) (bX _) v.1.2.1 λt _ _ C k=>sH.b c rfl λF p c=>sE c (B _ _ (bI r p ag) ?_))
 rw[afn,List.drop_zero,qy ag]at k;have w:eD (λx=>x<h.size/\D x) E t _:=⟨k,λA a j=>by
  obtain⟨y,z,e⟩:=C a j;have:=v.lt.2 A y z;simp[*]⟩
 exact w.fr p.fr (λx g _ e=>ag) λx g=>g.2
theorem alE{o:Int}{w m:Option Addr}{K:Sl->Int->Option Addr->HP}(v:eD D h u (bv l))(p:∀g,az h g->eD D g u (bv l)->K u o w g):YJ u o m w h K Kp:=by
 refine aGS (aF λb2 A e1 i a _=>aF λC z B k e _=>?_);simp only[bz];have G:=ak i k;exact dI (a.ai k) aA rfl λy c a=>sE a (sH.b (c.aZ e ag) rfl λx j e=>sE e (p _ (bI (bI G c ag) j ag) (v.gr (bI (bI G c ag) j ag))))
theorem PO{o n:Int}{w:Option Addr}{K:fB}(hl:u.n<=2^40)(j:0<=x)(g:0<=n)(t:x+n<=u.n)(e:∀c,az h c->K true c):Jv u o w x n h K Kp:=by
 refine aGQ (aF λv r e1 i a _=>bS (by simpa using j) (aDB (by
  have p:decide (n>=0)=true:=by simpa using g
  rw[p];refine bS rfl (aj a rfl ?_);have m:decide (x<=(u.n:Int))=true:=by rw[dR];omega
  rw[m];refine aDA (bS rfl (aj a rfl (aX ag ag ?_)));have k:decide (n<=(u.n:Int)-x)=true:=by rw[dR];omega
  rw[k];exact e _ i)))
theorem Qm{o n:Int}{a:Nat}{K:Sl->HP}(v:Sv h u (bv l))(hl:l.length<=2^40)(j:x=a)(k:n=m)(r:a+m<=l.length)(p:∀t c,az h c->Sv c t (bv ((l.drop a).take m))->K t c):Ju u o none x n h K Kp:=by
 subst j k;have un:=v.1;rw[fP]at un;refine aGP (aF λy w e1 i g _=>?_);simp only[bz];refine aj g rfl (bu rfl (aDz (bu rfl (aj g rfl (aX ag ag (aX ag ag (agp (v.ai i) (a:=a) (m:=a+m) aA aA aA ag (by rw[fP];omega) (bX _) (by have:=v.2.1;omega) λt _ _ _ e=>p _ _ i ?_)))))))
 grind[afn]
theorem afh{o:Int}{b:UInt8}{K:Int->Int->HP}(v:Sv h u (bv l))(hl:l.length<=2^40)(p:x=i)(e:l[i]? =some b)(r:∀g,az h g->K b.toNat 0 g):O4 u o none x h K Kp:=by
 have y:=(de.1 e).1;have un:=v.1;rw[fP]at un;refine aG4 (aF λC B e1 j c _=>sE c (PO ag ag ag ag λA a=>bu rfl (sE (c.ai a) (Qm (v.ai (ak j a)) hl p (m:=1) rfl ag λt z w k=>V6 k rfl ?_ (r _ (ak (ak j a) w))))));grind
theorem alw{K:fB}(c:m=1\/m=2\/m=4\/m=8)(a:K true h):YB (m:Int) h K Kp:=by
 rcases c with rfl|rfl|rfl|rfl
 ·exact O3 (bS rfl (N4 (bS rfl (N0 (bS rfl a)))))
 ·exact O3 (bu rfl (N4 (bS rfl (N0 (bS rfl a)))))
 ·exact O3 (bu rfl (N4 (bu rfl (N0 (bS rfl a)))))
 ·exact O3 (bu rfl (N4 (bu rfl (N0 (bu rfl a)))))
theorem aq6{K:cK}(v:Sv h u (bv l))(hl:l.length<=8)(y:K (jX l) h):YA u h K Kp:=by
 have un:=v.1;rw[fP]at un;apply aGB;rw[un];apply aA2 (λr p z=>z=h/\∃i:Nat,p=i/\i<=l.length/\r=jX (l.take i)) (λ_ p _=>l.length-p.toNat) ⟨rfl,0,rfl,by omega,by simp[jX]⟩
 rintro r p B ⟨rfl,i,rfl,A,rfl⟩ C hN;refine cE (λc=>?_) λc=>?_
 ·have g:i<l.length:=ag;have j:=bJ g;have e:=kS g;generalize l[i]=b at j e;have m:=b.toNat_lt;have a:=SD (l.take i);have t:(l.take i).length=i:=by simp;omega
  rw[t]at a;rw[<-un];refine V6 v rfl j (pY rfl (m9 m bw) ?_);rw[show _*(i:Int)=((8*i:Nat):Int) by omega]
  have x:b.toNat*2^(8*i)<2^64:=by
   have w:b.toNat*2^(8*i)<2^8*2^(8*i):=Nat.mul_lt_mul_of_pos_right m (Nat.two_pow_pos _);rw[<-IA]at w;exact m9 w (EK bw ag)
  refine aX ag ag (zo ?_ a x (m9 a (EK bw ag)) ?_)
  ·have:IntKind.bits .u64=64:=rfl;rw[this,gf];omega
  ·rw[un];refine aX ag ag (hN _ _ _ ⟨rfl,i+1,by simp,by omega,?_⟩ ag)
   rw[e,acj,t]
 ·have:i=l.length:=ag;simp_all
theorem acd{o:Int}{a:Nat}{K:Int->Int->HP}(v:Sv h u (bv l))(hl:l.length<=2^40)(r:m=1\/m=2\/m=4\/m=8)(p:x=a)(k:y=m)(z:a+m<=l.length)(w:∀g,az h g->K (pH l a m) 0 g):Fx u o none x y h K Kp:=by
 subst k;have un:=v.1;rw[fP]at un;refine aGR (aF λF E e1 i e _=>alw r (bu rfl (sE e (PO ag ag ag ag λC c=>bu rfl (sE (e.ai c) (Qm (v.ai (ak i c)) hl p rfl z λt B A j=>aq6 j cy (w _ (ak (ak i c) A))))))))
theorem aoh{x:Nat}(hm:m=1\/m=2\/m=4\/m=8)(hx:x<2^(8*m)):Int.fdiv (IntKind.i64.wrap (IntKind.u64.wrap ((x:Int)*2^(64-8*m)))) (2^(64-8*m))=sg m x:=by
 have ax:∀y:Int,Int.fdiv y (2^(64-8*m))=y/2^(64-8*m):=bZ;rw[ax];unfold sg;rcases hm with rfl|rfl|rfl|rfl
 all_goals simp only[IntKind.wrap,IntKind.signed,IntKind.bits]
 all_goals grind
theorem aog{o:Int}{a:Nat}{K:Int->Int->HP}(v:Sv h u (bv l))(hl:l.length<=2^40)(hm:m=1\/m=2\/m=4\/m=8)(hx:x=a)(hy:y=m)(h3:a+m<=l.length)(hk:∀h',az h h'->K (sg m (pH l a m)) 0 h'):YU u o none x y h K Kp:=by
 have eC:=abT l a m;refine aG6 (aF λb3 h1 e1 g1 k3 _=>sE k3 (acd (v.ai g1) hl hm hx hy h3 λh2 g2=>bu rfl ?_));subst hy;have e1:(64:Int)-8*(m:Int)=((64-8*m:Nat):Int):=ag;have e2:min (Int.toNat ((64-8*m:Nat):Int)) 64=64-8*m:=by rw[gf];omega
 refine aX ag ag (aX ag ag ?_);rw[e1];apply jw ag;unfold Wr;apply jw ag;unfold Lt;have e3:IntKind.bits .u64=64:=rfl;have e4:IntKind.bits .i64=64:=rfl;grind[aoh,az.trans]
theorem amC{o n:Int}{a:Nat}{K:ByteArray->Int->HP}(v:Sv h u (bv l))(hl:l.length<=2^40)(k:x=a)(p:n=m)(w:a+m<=l.length)(r:∀i,az h i->K (bs ((l.drop a).take m)) 0 i):Ym u o none x n h K Kp:=by
 have un:=v.1;rw[fP]at un;refine aGf (aF λC B e1 j g _=>sE g (PO ag ag ag ag λA c=>bu rfl (sE (g.ai c) (Qm (v.ai (ak j c)) hl k p w λt z y e=>⟨(l.drop a).take m,?_,r _ (ak (ak j c) y)⟩))));have:=e.Bj e.na;rw[vi]at this;exact this
end
section
variable {h:Hp} {b:Nat} {o n:Int}
theorem Mb{K:Sl->Int->Option Addr->HP}(A:nP D h b f d o n s q)(c:x=j)(E:j<d.aY.length)(C:∀u p,az h p->eD D p u (bv (dB d.aY j))->K u 0 none p):AU (bC b) x h K Kp:=by
 refine aG7 (aF λM L e1 w i _=>?_);simp only[nH,bz];have g:=A.lt.gr w;refine aj g.k rfl (g.dv.b.ix c E λa t F y=>⟨_,F,aj g.k rfl (aq1 y λG J m B=>bQ g.k m (alE B λI v z=>sH.b ((i.ai m).ai v) rfl λH r i=>sE i (C _ _ (bI (ak w (ak m v)) r ag) (z.fr r.fr (λx c _ e=>ag) λx c=>c.1))))⟩)
theorem abP{r:Int}{K:fB}(A:nP D h b f d o n s q)(hr:r=i)(h1:mU f.k=true->1<=d.aY.length)(hl:(dB d.aY 0).length<=2^40)(hi:(dB d.aY 0).length≠0->i/8<(dB d.aY 0).length)(h40:i<=2^40)
  (hk:∀h',az h h'->K (jF f.k d.aY i) h'):Oj (bC b) r h K Kp:=by
 subst hr;apply aD4;simp only[nH,bz];refine aj A.k rfl (aG (λc1=>?_) λc1=>aj A.k rfl (adk ?_))
 ·have:=hk _ (cQ _);simp_all[jF,Bool.true_or]
 refine aG (λc2=>?_) λc2=>?_
 ·rw[tU]at c2;have:=hk _ (cQ _);unfold jF at this;rw[c1,c2,EG,Vx]at this;exact this
 rw[Vp]at c2;have hb:=h1 c2;refine aj A.k rfl (A.dv.b.ix rfl hb λa t ca vt=>⟨_,ca,?_⟩);have tn:=vt.1.1;rw[fP]at tn;refine aG (λc3=>?_) λc3=>aBp (Mb A rfl hb λu h1 g1 v1=>?_)
 ·have c3:=aS c3;simp_all[cQ,jF]
 ·have c3:=aS c3;have xD:(dB d.aY 0).length≠0:=ag;have eC:=hi xD;have e1:Int.tdiv (i:Int) 8=((i/8:Nat):Int):=rfl;have e2:Int.tmod (i:Int) 8=((i%8:Nat):Int):=rfl;have Hv:=bJ eC;have hg:(dB d.aY 0).getD (i/8) 0=(dB d.aY 0)[i/8]:=by simp[eC]
  have hnl:jF f.k d.aY i=!gK (dB d.aY 0) i:=by
   unfold jF;rw[c1,c2];have:((dB d.aY 0).length !=0)=true:=by rw[yF];exact xD
   rw[this];rfl
  rw[hnl]at hk;unfold gK at hk;rw[hg]at hk;generalize(dB d.aY 0)[i/8]=y at Hv hk;refine pg bw (aX (by rw[e1];omega) (by rw[e1];omega) (afh v1.1 hl e1 Hv λh2 g2=>pg bw ?_))
  unfold Lt;rw[e2];apply jw ag;have e3:Int.fdiv (y.toNat:Int) (2^(min (Int.toNat ((i%8:Nat):Int)) (IntKind.bits .u8)))=((y.toNat/2^(i%8):Nat):Int):=by
   have:min (Int.toNat ((i%8:Nat):Int)) (IntKind.bits .u8)=i%8:=by
    have:IntKind.bits .u8=8:=rfl;rw[this,gf];omega
   rw[this,EI _ (Iw (EH bw))]
   norm_cast
  rw[e3]
  show K _ h2
  rw[UU];have:((((y.toNat/2^(i%8))%2:Nat):Int)==0)=!(y.toNat/2^(i%8)%2==1):=by
   rw[ki];simp only[oh,tU,VD];omega
  grind[az.trans]
theorem aq5{r:Int}{K:cK}(A:nP D h b f d o n s q)(hk3:3<=k/\k<=11)(hr:r=i)(hb:1<d.aY.length)(hl:(dB d.aY 1).length<=2^40)(hi:(i+1)*(dN k).toNat<=(dB d.aY 1).length)(hk:∀h',az h h'->K (zH k (dB d.aY 1) i) h'):Yl (bC b) k r h K Kp:=by
 subst hr;have wk:(dN k).toNat=1\/(dN k).toNat=2\/(dN k).toNat=4\/(dN k).toNat=8:=by unfold dN;repeat' omega
 have wi:dN k=((dN k).toNat:Int):=ag;have e0:(i+1)*(dN k).toNat=i*(dN k).toNat+(dN k).toNat:=by rw[IC,Nat.one_mul]
 have e1:(i:Int)*dN k=((i*(dN k).toNat:Nat):Int):=by rw[wi];simp
 have lt:=abT (dB d.aY 1) (i*(dN k).toNat) (dN k).toNat;have l64:pH _ _ (dN k).toNat<2^64:=m9 lt (EK bw ag);have uns:¬(3<=k/\k<=6)->AU _ 1 h (λt0 t1 t2 h2=>aP ((i:Int)*dN k) λt36=>Fx t0 t1 t2 t36 (dN k) h2 (λam8 aHN h3=>Wr .i64 am8 λt42=>K t42 h3) Kp) Kp:=λno=>
  Mb A (j:=1) rfl hb λu h1 g1 v1=>aX ag ag (acd v1.1 hl wk e1 wi ag λh2 g2=>by
   have:=hk _ (ak g1 g2);unfold zH at this;rw[aC no]at this;unfold Wr;have e:IntKind.i64.wrap (pH (dB d.aY 1) (i*(dN k).toNat) (dN k).toNat:Int)=sg 8 (pH (dB d.aY 1) (i*(dN k).toNat) (dN k).toNat):=by
    unfold sg;rw[IntKind.wrap_i64];omega
   rw[e];exact this)
 refine aGd (ayT ag (bS dG (aG (λc=>?_) λc=>uns ?_)))
 ·have c:=aS c;refine Mb A (j:=1) rfl hb λu h1 g1 v1=>aX ag ag (aog v1.1 hl wk e1 wi ag λh2 g2=>?_);have:=hk _ (ak g1 g2);unfold zH at this;rw[aK ⟨hk3.1,c⟩]at this;exact this
 ·have c:=aS c;omega
end
abbrev Lc(h:Hp)(bl:Nat)(L:Int):Prop:=aN h bl #[ah L] Y6
theorem Pv{h:Hp}{bl:Nat}{L n:Int}{K:HP}(k:Lc h bl L)(h0:0<=n)(h1:n<=L)(h2:L<=2^40)(hk:∀h',eJ bl h h'->Lc h' bl (L-n)->K h'):Js (bC bl) n h K Kp:=by
 apply aGC;simp only[nH];refine aj k rfl (aX ag ag (dI k aA rfl λh1 o1 k1=>aj k1 rfl (bu ?_ (hk _ o1 k1))));rw[wI];omega
theorem iW.fr{h:Hp}(t:iW h)(f:Tn S h h')(h1:¬S 1)(h2:¬S 2):iW h':=
 ⟨λi hi=>f.cell (t.f i hi) h1,λi hi=>⟨f.cell (t.a i hi).1 h2,f.cell (t.a i hi).2 h2⟩⟩
abbrev KV:=Bool->Int->ByteArray->Sl->HP
def VK(h:Hp)(bl:Nat)(L:Int)(v:aB)(K:KV):Prop:=∀t h',Tn (·=bl) h h'->Lc h' bl (L-v.bx)->aO (Nw h) h' t v.items->K v.au v.num (bs v.text) t h'
theorem VK.fin{h:Hp}{bl b8:Nat}{L:Int}{K:KV}{cs:Array Value}(hk:VK h0 bl L v K)(t:Tn (·=bl) h0 h)(kl:Lc h bl (L-v.bx))(k8:aN h b8 cs el)(hs:cs.size=4)(h8:h0.size<=b8)(hbl:bl<h0.size)(w:aO (λc=>h0.size<=c/\c≠b8) h u v.items):dL h (aJ b8) v.au v.num (bs v.text) u λh'=>bP h' (aJ b8) λr0 r1 r2 r3=>K r0 r1 r2 r3 h':=
 mC k8 hs λh' o' k8=>fk k8 (hk _ _ (t.trans' o'.fr λd hd eC=>by omega) (o'.aZ kl ag) (aO.fr o'.fr (λx hx _ e=>hx.2 e) (λx hx=>hx.1) _ w))
section
variable {h:Hp} {b:Nat} {o n:Int}
end
structure Vc(D:aQ)(h:Hp)(b bl:Nat)(f:aq)(d:bG)(o n:Int)(s:Sl)(q:Sl×Sl×Sl)(L:Int)(i:Nat):Prop where
 A:nP D h b f d o n s q
 bn:b≠bl
 dn:¬D bl
 ar:f.arr d
 lo:d.off.toNat<=i
 hi:i<d.off.toNat+d.len.toNat
 kl:Lc h bl L
 wl:((f.val d i).bx:Int)<=L
 lm:L<=2^40
 tb:iW h
 b2:2<bl
theorem JN(f:aq)(d:bG)(i:Nat):f.val d i=pz f.k f.w f.ix ((r7 f.k f.cs).map aq.val) d i:=by rw[wC]
theorem JT(l:dy):tx (bs l)=l:=rfl
section
variable {h:Hp} {b bl:Nat} {o n r L:Int} {K:KV}
theorem Vc.gr(V:Vc D h b bl f d o n s q L i)(g:az h H):Vc D H b bl f d o n s q L i:=⟨V.A.gr g,V.bn,V.dn,V.ar,V.lo,V.hi,V.kl.ai g,V.wl,V.lm,V.tb.ai g,V.b2⟩
theorem Vc.bd(V:Vc D h b bl f d o n s q L i):0<=d.len/\d.len<=4096/\0<=d.off/\d.off<=4096/\i<=8192/\d.off+d.len<=4096/\0<=L:=by
 have a:=V.ar.Dr;have m:=a.l0;have l:=a.l1;have k:=a.o0;have j:=a.o1;have g:=V.hi;have e:=a.e1;have c:=V.wl;omega
theorem Vc.af{g:Hp}(V:Vc D h b bl f d o n s q L i)(t:Tn (·=bl) h g):nP D g b f d o n s q:=V.A.fr t V.bn (λx a e=>V.dn (e▸a)) λ_ x=>x
def agf(f:aq):Prop:=∀{D:aQ}{h:Hp}{b bl i:Nat}{d:bG}{o n r L:Int}{s:Sl}{q:Sl×Sl×Sl}{K:KV}{Kp:PK},Vc D h b bl f d o n s q L i->r=i->VK h bl L (f.val d i) K->YL (bC b) r (bC bl) h K Kp
def CS(f:aq):Prop:=∀{D:aQ}{h:Hp}{b bl i:Nat}{d:bG}{o n x L:Int}{s:Sl}{q:Sl×Sl×Sl}{K:KV}{Kp:PK},Vc D h b bl f d o n s q L i->o+x=i->VK h bl L (f.val d i) K->YW (bC b) x (bC bl) h K Kp
theorem aqA(w:agf f):CS f:=by
 intro D h b bl i d o n x L s q K Kp V p u;have bd:=V.bd;have g:=V.kl.lt;refine aG9 (aF λE v e1 a l _=>?_);simp only[nH,bz];have z:=a.1;refine aj (V.A.gr a).k rfl (aX ag ag (w (V.gr a) p λt C j e m=>?_));have y:=l.lt;exact u.fin ((bg a).trans j) e (j.aZ l ag) rfl ag g (m.mo λc(B:v.size<=c)=>⟨by omega,by omega⟩)
theorem avc(V:Vc D h b bl f d o n s q L i)(hr:r=i)(kk:f.k≠12/\f.k≠13/\f.k≠15/\f.k≠16/\f.k≠17/\f.k≠18/\f.k≠19/\f.k≠20)(D7:jF f.k d.aY i=false)(hk:VK h bl L (f.val d i) K):Yk (bC b) r (bC bl) h K Kp:=by
 subst hr;have bd:=V.bd;have V':=V;obtain⟨A,bn,dn,ar,lo,hi,kl,wl,lm,tb,b2⟩:=V';have so:=ar.Dr;have sh:=so.ty.kinds.1;unfold Shaped at sh;have nb:=so.nb;have Tq:f.k≠1:=by intro e;unfold jF at D7;rw[e]at D7;simp at D7
 have BO:d.aY.length=2:=by unfold kR at nb;(repeat' split at nb) <;> omega
 have n1:=so.need 1 ag;rw[ju,ay,ay]at n1;have aJs:=so.Cn 1 ag;have bll:=kl.lt;have w16:16<=(f.val d i).bx:=by
  rcases hv:f.val d i with⟨a1,a2,a3,a4⟩
  simp only[aB.bx];omega
 refine aGc (aF λb4 h1 e1 g1 k4 _=>aF λb8 h2 e2 g2 k8 _=>?_);simp only[nH,bz];have G:=ak g1 g2;have g1s:=g1.1;have k8l:=k8.lt;have ct:Cs h2 ⟨b,2,none⟩ [ah f.k,ah f.w,ah f.id,ah f.ix,Sl.v s]:=by
  intro j v hv;rw[bz,ia (A.gr G).k];rcases j with _|_|_|_|_|j
  all_goals first|exact hv|(simp at hv)
 refine nF ct (aF λb9 h3 e3 g3 k9 _=>pM k9 rfl λh4 o4 k9=>?_);have g4:az h2 h4:=bI g3 o4 ag;have g4s:=g4.1;have G4:=ak G g4;have k9l:=k9.lt;refine Mb (A.gr G4) (j:=1) rfl ag λu h5 g5 v5=>aF λb10 h6 e6 g6 KP _=>sH.b KP rfl λh7 o7 KP=>?_;have g5s:=g5.1;have g7:az h5 h7:=bI g6 o7 ag;have g7s:=g7.1;have aH8:=KP.lt;have G7:=ak G4 (ak g5 g7);refine Pv (kl.ai G7) ag ag lm λh8 o8 kl8=>?_;have T8:Tn _ h h8:=(bg G7).trans o8.fr;have k8':aN h8 b8 fY dh:=o8.aZ (((k8.ai g4).ai g5).ai g7) ag;have KN:=o8.aZ ((k9.ai g5).ai g7) (by omega:b9≠bl)
 have acN:=o8.aZ KP (by omega:b10≠bl)
 have v8:eD D h8 u _:=(v5.gr g7).fr o8.fr (λx hx _ e=>dn (e▸hx)) λ_ x=>x;have fin:∀(x:Int)h9,f.val d i=.mk false x [] []->az h8 h9->dL h9 (aJ b8) false x (bs []) bN λh'=>bP h' (aJ b8) λr0 r1 r2 r3=>K r0 r1 r2 r3 h':=by
  intro x h9 hv g9;rw[hv]at hk;exact hk.fin (T8.trans (bg g9)) (kl8.ai g9) (k8'.ai g9) rfl ag bll (pL _)
 refine aj KN rfl (aG (λc=>sE acN ?_) λc=>aG (λc2=>aj KN rfl ?_) λc2=>aj KN rfl ?_)
 ·have c:=aS c;rw[dV]at n1;have e1:Int.tdiv (i:Int) 8=((i/8:Nat):Int):=rfl;have e2:Int.tmod (i:Int) 8=((i%8:Nat):Int):=rfl;have eC:i/8<(dB d.aY 1).length:=ag;have Hv:(dB d.aY 1)[i/8]? =some (dB d.aY 1)[i/8]:=bJ eC;have hg:(dB d.aY 1).getD (i/8) 0=(dB d.aY 1)[i/8]:=by simp[eC]
  have hv:f.val d i=.mk false (if gK (dB d.aY 1) i then 1 else 0) [] []:=by
   rw[JN,pz,aC (by rw[D7];simp),ay,ay,ay,ay,ay,ay,ay,aK c]
  unfold gK at hv;rw[hg]at hv;generalize(dB d.aY 1)[i/8]=y at Hv hv;refine pg bw (aX (by rw[e1];omega) (by rw[e1];omega) (afh v8.1 ag e1 Hv λh9 g9=>pg bw ?_))
  unfold Lt;rw[e2];refine jw ag ?_;have e3:Int.fdiv (y.toNat:Int) (2^(min (Int.toNat ((i%8:Nat):Int)) (IntKind.bits .u8)))=((y.toNat/2^(i%8):Nat):Int):=by
   have:min (Int.toNat ((i%8:Nat):Int)) (IntKind.bits .u8)=i%8:=by
    have:IntKind.bits .u8=8:=rfl;rw[this,gf];omega
   rw[this,EI _ (Iw (EH bw))]
   norm_cast
  rw[e3];dsimp only;rw[UU];refine aX ag ag (fin _ h9 ?_ g9);rw[hv];have hx:(if(y.toNat/2^(i%8)%2==1)=true then(1:Int)else 0)=((y.toNat/2^(i%8)%2:Nat):Int):=by
   split
   ·rename_i e;simp only[oh]at e;omega
   ·rename_i e;simp only[oh]at e;omega
  rw[hx]
 ·simp only[sm,reduceCtorEq]at c c2;have hv:f.val d i=.mk false 0 (((dB d.aY 1).drop (i*f.w.toNat)).take f.w.toNat) []:=by
   rw[JN,pz,aC (by rw[D7];simp),ay,ay,ay,ay,ay,ay,ay,ay,aK c2]
  have KQ:nS f.k f.w f.ix=f.w:=by rw[nS,aK c2]
  rw[ay,ay,KQ]at n1;have hw:1<=f.w/\f.w<=16:=ag;have hrw:(i+1)*f.w.toNat<=(d.off+d.len).toNat*f.w.toNat:=oQ _ ag;rw[IC,Nat.one_mul]at hrw;have e1:(i:Int)*f.w=((i*f.w.toNat:Nat):Int):=by rw[Vk];congr 1;omega
  have ln:(((dB d.aY 1).drop (i*f.w.toNat)).take f.w.toNat).length=f.w.toNat:=by simp;omega
  have hwg:(f.val d i).bx=16+f.w.toNat:=by rw[hv];simp only[aB.bx,bL,ln];omega
  refine Pv kl8 ag ag ag λh9 o9 kl9=>?_;have T9:Tn (·=bl) h h9:=T8.trans o9.fr;have asQ:=o9.aZ k8' (by omega:b8≠bl)
  have acH:=o9.aZ KN (by omega:b9≠bl)
  have asV:=o9.aZ acN (by omega:b10≠bl)
  have v9:eD D h9 u (bv (dB d.aY 1)):=v8.fr o9.fr (λx hx _ e=>dn (e▸hx)) λ_ x=>x;refine sE asV (aj acH rfl (aX ag ag (aj acH rfl (amC v9.1 ag e1 (m:=f.w.toNat) ag ag λsr g10=>?_))));have acC:Lc sr bl (L-((f.val d i).bx:Int)):=by
   have:=kl9.ai g10
   rwa [show L-16-f.w=L-((f.val d i).bx:Int) by omega]at this
  rw[hv]at hk acC;exact hk.fin (T9.trans (bg g10)) acC (asQ.ai g10) rfl ag bll (pL _)
 ·simp only[sm,reduceCtorEq]at c c2;have hv:f.val d i=.mk false (zH f.k (dB d.aY 1) i) [] []:=by
   rw[JN,pz,aC (by rw[D7];simp),ay,ay,ay,ay,ay,ay,ay,aC c,aC c2]
  have KQ:nS f.k f.w f.ix=dN f.k:=by rw[nS,ay,ay]
  rw[ay,ay,KQ]at n1;have hrw:(i+1)*(dN f.k).toNat<=(d.off+d.len).toNat*(dN f.k).toNat:=oQ _ ag;exact aq5 (V.af T8) ag rfl ag ag ag λh9 g9=>fin _ h9 hv g9
end
theorem mK{h g:Hp}{b o n:Nat}{cs:Array Value}{X:Prop}(k:aN h b cs el)(a:aN g b cs el)(x:X):aT h g ⟨b,o,none⟩ n X:=
 ⟨λi _=>by rw[bz,ia a,ia k],x⟩
structure Ls(h6 h:Hp)(b9:Nat)(x:Sl)(vs:aR):Prop where
 k9:aN h b9 #[.bool false,ah 0,.string (bs []),Sl.v x] dh
 ss:∃ss:List Sl,ss.length=vs.length/\eW h6.size 4 h x (List.zipWith aB.row vs ss) dh/\∀(j:Nat)(v:aB)(t:Sl),vs[j]? =some v->ss[j]? =some t->aO (λc=>h6.size<=c/\¬x.at c) h t v.items
theorem Pr{vs:aR}(j:Nat):bL (vs.take j)=((vs.map aB.bx).take j).sum:=by rw[FI,It]
section
variable {h:Hp} {b bl:Nat} {o n r L:Int} {K:KV}
end
section
variable {h:Hp} {b bl:Nat} {o n r L:Int} {K:KV}
abbrev KI(K:KV):Value->HP:=λv h'=>∃vO:Bool,∃vM:Int,∃vL:ByteArray,∃DC:Sl,v=(.agg #[(.bool vO),(ah vM),(.string vL),(Sl.v DC)])/\K vO vM vL DC h'
abbrev CI(t:TypeId)(a:Option Addr)(r:Int)(left:Option Addr)(h:Hp)(K:KV)(Kp:PK):Prop:=fD aE (.iface t (.agg #[])) "colonnade/array.read" [.pointer a,ah r,.pointer left] h (KI K) Kp
theorem ayd{e:TypeId}{gi:FuncId}{a left:Option Addr}{r:Int}{h:Hp}{K:di}(l:sY aE e "colonnade/array.read"=some (gi,false))(k:(Dz aE e false&&jV aE gi)=true)
    (j:dX aE gi [(.agg #[]),(.pointer a),(ah r),(.pointer left)] h K Kp):fD aE (.iface e (.agg #[])) "colonnade/array.read" [.pointer a,ah r,.pointer left] h K Kp:=by
  unfold fD;grind
theorem axR{a left:Option Addr}{r:Int}{h:Hp}{K:KV}(c:Yk a r left h K Kp):CI IL a r left h K Kp:=ayd aW aW c
end
theorem arb{h:Hp}{b:Nat}{o n r:Int}{K:fB}(A:nP D h b f d o n s q)(w:f.arr d)(B:d.off.toNat<=i)(F:i<d.off.toNat+d.len.toNat)(p:r=i)(t:∀v,az h v->K (jF f.k d.aY i) v):Oj (bC b) r h K Kp:=by
 have a:=w.Dr;have C:=a.l1;have o0:=a.o0;have y:=a.o1;have u:=a.row.hv
 by_cases c:(dB d.aY 0).length=0
 ·exact abP A p u ag (λe=>absurd c e) ag t
 ·have j:0<d.aY.length:=by
   rcases Vt d.aY.length with z|z
   ·have:dB d.aY 0=[]:=by unfold dB;rw[uZ z];rfl
    grind
   ·exact z
  have l:=a.need 0 j;have x:=a.Cn 0 j;refine abP A p u ag (λ_=>?_) ag t
  by_cases g:f.k=18
  ·rw[ju,aK g]at l;omega
  ·rw[ju,aC g,ay,aK (.inl rfl)]at l;omega
def HR:Code:=Tryz.f81.body.getD .skip
def LN:Code:=Tryz.f110.body.getD .skip
def zF(c:Code)(i:Nat):Oper:=(pG (sub [0] c)).getD i default
def Ut(o:Oper):Call:=match o.op with|.call c=>c|.defer c=>c|_=>default
theorem aHj{c0:Addr}{h:Hp}{K:Hp->Prop}(H:K h):∀w,aU w=h->oy aE 110 [c9 c0] .returning w λu2 w'=>u2=.returning/\cG w w'/\K (aU w'):=
 awm (bY:=[]) (D:=kT aE []) (zZ _) (id:=0) (r1:=zF LN 0) (r2:=zF LN 1) (call:=Ut (zF LN 0)) (rest:=sub [1] LN) (tr:=5) (t2:=2)
  Tryz.func110 aW aW aW aW aW aW aW aW aW aW aW (.inl ⟨rfl,rfl,rfl⟩) aW (cast aW H)
def abr:wQ:=[]
def Zh:List Value:=[(.agg #[(.bool false),(ah 0),(.string (bs [])),(.slice none 0 0)]),(ah 0),(ah 0)]
def acy(K:Bool->Int->ByteArray->Sl->Int->Int->HP):Value->HP:=λv h=>rU v λvs=>rG (vs.getD 0 undef) λLM=>rB (LM.getD 0 undef) λvO=>rI (LM.getD 1 undef) λvM=>rT (LM.getD 2 undef) λvL=>rS (LM.getD 3 undef) λDC=>rI (vs.getD 1 undef) λr1=>rI (vs.getD 2 undef) λr2=>K vO vM vL DC r1 r2 h
def agr(a:Option Addr)(i:Int)(a4 a6:Addr)(K:Bool->Int->ByteArray->Sl->Int->Int->HP)(h2:Hp):Prop:=
 aI h2 #[(ah 0)] Y6 λa7 h3=>
 St h3 a7 (ah 4194304) λh4=>
 YW a i (some a7) h4 (λani anh ang anf h5=>
  dL h5 a4 ani anh ang anf λh6=>
  bP h6 a4 λJ0 JZ JY JX=>
  Ld h6 a7 mI λt12=>
  aP ((4194304:Int)-t12) λt13=>
  dL h6 a4 J0 JZ JY JX λh7=>
  aT h6 h7 a7 1 <|
  St h7 a6 (ah 0) λh8=>
  bP h8 a4 λvO vM vL DC=>
  Ld h8 a6 mI λr2=>
  K vO vM vL DC t13 r2 h8) (λ_ _=>False)
abbrev DX(ord:wQ)(fn:Func)(c2:Code)(zs:bq)(Kv:di)(o:Operand)(fr:Fr)(h:Hp):Prop:=
 ∃(caps:bq)(KpX:PK),iL (ev fr) [o]=some caps/\fZ aE [] (kT aE ord) none c2 (mO aE fn.results.toList zs Kv) KpX fr h/\
  (∀w,oy aE 110 caps .returning w λu' w'=>u'=.returning/\cG w w'/\aU w'=aU w)/\
  (∀ch w,KpX ch (aU w)->oy aE 110 caps (.panicking ch) w λu' w'=>settle u'=.returning/\cG w w'/\lD aE fn.results.toList (DZ [] fr) (aU w') λvs=>nZ zs (mQ vs) λv=>Kv v (aU w'))
theorem DX.of{ord:wQ}{fn:Func}{c2:Code}{zs:bq}{Kv:di}{o:Operand}{fr:Fr}{h:Hp}(h1:iL (ev fr) [o]=some [c9 a])(h2:fZ aE [] (kT aE ord) none c2 (mO aE fn.results.toList zs Kv) (λ_ _=>False) fr h):DX ord fn c2 zs Kv o fr h:=
 ⟨_,λ_ _=>False,h1,h2,λw=>aHj (K:=λh'=>h'=aU w) rfl w rfl,λ_ _ q=>q.elim⟩
def au4(a:Option Addr)(i:Int)(a4 a6:Addr):Fr:=[some (.pointer a),some (ah i),none,none,some (c9 a4),some (ah 0),some (c9 a6),none,none,none,none,none,none,none]
theorem aD5{a:Option Addr}{i:Int}{h:Hp}{K:Bool->Int->ByteArray->Sl->Int->Int->HP}(H:aI h fY dh λa4 h1=>aI h1 #[(ah 0)] MN λa6 h2=>agr a i a4 a6 K h2):XE a i h K Kp:=by
 have:=avb (bY:=[]) (D:=kT aE abr) (zZ _) (g:=110) (pre:=[sub [0] HR]) (c2:=sub [1,1] HR) (id:=1) (o:=zF (sub [1] HR) 0) (call:=Ut (zF (sub [1] HR) 0)) []
  (zs:=Zh) (args:=[(.pointer a),(.int .i64 i)]) (h:=h) (Kv:=acy K) (Kp:=Kp) Tryz.func81 aW aW aW aW aW aW aW aW ?_
 ·exact cast aW this
 ·have X:∀a4 a6 h,agr a i a4 a6 K h->DX abr Tryz.f81 (sub [1,1] HR) Zh (acy K) (.tmp 6) (au4 a i a4 a6) h:=λa4 a6 h hh=>DX.of (a:=a6) aW (cast aW hh)
  have Y:=X _ _ _ H;exact cast aW Y
structure Av(D:aQ)(h:Hp)(b:Nat)(f:aq)(d:bG)(o n:Nat)(s:Sl)(q:Sl×Sl×Sl):Prop where
 A:nP D h b f d o n s q
 ar:f.arr d
 lo:d.off.toNat<=o
 hi:o+n<=d.off.toNat+d.len.toNat
def kE(f:aq)(d:bG)(o n:Nat):List aB:=(List.range n).map λi=>f.val d (o+i)
theorem Mp(f:aq)(d:bG)(o n:Nat):(kE f d o n).length=n:=by simp[kE]
theorem afF{o n:Nat}(h:i<n):(kE f d o n)[i]? =some (f.val d (o+i)):=by simp[kE,h]
theorem afG(ar:f.arr d){o n:Nat}(lo:d.off.toNat<=o)(hi:o+n<=d.off.toNat+d.len.toNat):bL (kE f d o n)<=4194304:=by
 have w:=(aq.UQ.1 ar).wt;rw[<-wC]at w;have e:bL (kE f d o n)=(((AY f.val d).drop (o-d.off.toNat)).take n).sum:=by
  rw[aln ag,FI,kE,My]
  congr 1
  refine Cy λi _=>?_;simp only[Function.comp,og];rw[show d.off.toNat+(o-d.off.toNat+i)=o+i by omega]
 rw[e];exact jE (Z2 _ _) w
section
variable {h:Hp} {b:Nat} {o n:Nat}
theorem Av.gr(V:Av D h b f d o n s q)(g:az h H):Av D H b f d o n s q:=⟨V.A.gr g,V.ar,V.lo,V.hi⟩
theorem Av.bd(V:Av D h b f d o n s q):o+n<=4096:=by
 have a:=V.ar.Dr;have i:=a.l0;have g:=a.o0;have e:=a.e1;have c:=V.hi;omega
theorem Av.wt(V:Av D h b f d o n s q){i:Nat}(hi:i<n):(f.val d (o+i)).bx<=4194304:=by
 have:=afG V.ar (o:=o+i) (n:=1) (by have:=V.lo;omega) (by have:=V.hi;omega)
 simpa[kE,bL]using this
theorem iW.b2(t:iW h):2<h.size:=aeo ((t.a 0 ag).1)
theorem Av.whole(A:nP D h b f d d.off d.len s q)(ar:f.arr d):Av D h b f d d.off.toNat d.len.toNat s q:=by
 have so:=ar.Dr;have h1:=so.l0;have h2:=so.o0;refine⟨?_,ar,bX _,bX _⟩;rw[yy h1,yy h2];exact A
theorem Av.fr{D':aQ}(V:Av D h b f d o n s q)(t:Tn S h h')(hb:¬S b)(hn:∀x,D x->¬S x)(hD:∀x,D x->D' x):Av D' h' b f d o n s q:=⟨V.A.fr t hb hn hD,V.ar,V.lo,V.hi⟩
theorem Av.lt(V:Av D h b f d o n s q):Av (λx=>D x/\x<h.size) h b f d o n s q:=⟨V.A.lt,V.ar,V.lo,V.hi⟩
theorem auU{K:Bool->Int->ByteArray->Sl->Int->Int->HP}(ow:CS f)(V:Av D h b f d o n s q)(tb:iW h)(hx:x=i)(hi:i<n)(hk:∀t h',az h h'->aO (Nw h) h' t (f.val d (o+i)).items->K (f.val d (o+i)).au (f.val d (o+i)).num (bs (f.val d (o+i)).text) t (f.val d (o+i)).bx 0 h'):XE (bC b) x h K Kp:=by
 have wt:=V.wt hi;have ab:=V.A.k.lt;refine aD5 (aF λb4 h1 e1 g1 k4 _=>aF λb6 h2 e2 g2 k6 _=>aF λb7 h3 e3 g3 k7 _=>dI k7 aA rfl λh4 o4 k7=>?_);have g4:=bI g3 o4 ag;have G4:=ak (ak g1 g2) g4;have k4:=(k4.ai g2).ai g4;have k6:=k6.ai g4;have k7:=k7;refine ow (i:=o+i) ⟨V.A.lt.gr G4,by omega,λe=>by have:=e.2;omega,V.ar,by have:=V.lo;omega,by have:=V.hi;omega,k7,by omega,by omega,tb.ai G4,by omega⟩ ag λt h5 t5 SL w5=>?_
 have k4':=t5.aZ k4 (by omega:b4≠b7)
 have k6':=t5.aZ k6 (by omega:b6≠b7)
 have G5:=((bg G4:Tn No h h4).trans' t5 λz hz eC=>by omega).ai
 have k7l:=k7.lt;refine mC k4' rfl λh6 o6 k4=>fk k4 (aj (o6.aZ SL ag) rfl (aX ag ag (mC k4 rfl λh7 o7 k4=>mK (o6.aZ SL ag) (o7.aZ (o6.aZ SL ag) ag) ?_)));have k6:=o7.aZ (o6.aZ k6' ag) ag;refine dI k6 aA rfl λh8 o8 k6=>fk (o8.aZ k4 ag) (aj k6 rfl ?_);have e:(4194304:Int)-(4194304-((f.val d (o+i)).bx:Int))=((f.val d (o+i)).bx:Int):=ag;rw[e];apply hk t h8 (bI (bI (bI G5 o6 ag) o7 ag) o8 ag);have w6:=aO.fr o6.fr (λz hz _ e=>by omega) (λ_ z=>z) _ w5
 have w7:=aO.fr o7.fr (λz hz _ e=>by omega) (λ_ z=>z) _ w6
 exact aO.fr o8.fr (λz hz _ e=>by omega) (λz hz=>by have:=G4.1;show h.size<=z;omega) _ w7
end
def XA{α:Type}(P:Program)(fv:Value)(xs:List α)(E:α->List Value->Hp->HP)(qH:Hp->Prop):Prop:=
 ∀(l:Nat)(J:List α->HP)(h:Hp),h.size=l+1->J [] h->(∀pre h1,J pre h1->qH h1)->(∀pre h1 h2,az h1 h2->J pre h1->J pre h2)->
  (∀pre x gq hp h1 args,J pre hp->az hp h1->E x args hp h1->xs=pre++x::gq->wL P l args h1 (λv h2=>v=.bool true/\J (pre++[x]) h2) qI)->
  uq P fv [.func (.yield l) #[] #[]] h (λ_ h2=>J xs h2) qI
theorem apJ{P:Program}{bY:fX}{D:Nat->Array Oper->(Fr->HP)->PK->Fr->HP}(hD:∀r,vr P r D){g:Operand}{ps:Array Tmp}{assign body:Code}{Q:Qt}
  {Kp:PK} {fr:Fr} {h:Hp} {fv:Value} (uO:ev fr g=some fv) {α:Type} {xs:List α} {E:α->List Value->Hp->HP} {qH:Hp->Prop} (tF:XA P fv xs E qH) (adi:∀x args hp h1,E x args hp h1->args.length=ps.size)
  (I:List α->HP) (h0:I [] h) (hG:∀pre h1 h2,az h1 h2->I pre h1->I pre h2)
  (hI:∀l pre h1 h2,h.size<=l->Tw l h1 h2->I pre h1->I pre h2) (qX:∀pre h1,I pre h1->qH h1)
  (BN:∀l pre x gq hp h1 args,I pre hp->az hp h1->E x args hp h1->xs=pre++x::gq->h.size<=l->(∃r,h1[l]? =some (.loop r))->∀(N:Hp->Prop)(X:Code->HP),(∀h' h2,Tw l h1 h'->h2[l]? =h'[l]?->I (pre++[x]) h2->N h2)->
   Qk P bY D l (bY.find (iS assign+4000) fr) ps assign body args N X h1)
  (done:∀h2,I xs h2->Q .normal (bY.find (iS assign+4000) fr) h2):fZ P bY D none (.rangeFunc g ps assign body) Q Kp fr h:=by
 simp only[fZ,uO];intro fn tm xG;simp only[En];have nB:h.size<=(h.push (.deferred none)).size:=by simp
 have BK:az h (h.push (.deferred none)):=qx _ _;have key:∀(hh:Hp)(d:Nat),az h hh->uq P fv [.func (.yield hh.size) #[] #[]] (hh.push (.loop {state:=.ready,pending:=none,fn,tmps:=tm,params:=ps,assign,body,defers:=d}))
   (λ_ h'=>zY hh.size h' λjump qu=>match jump with
    |none=>Q .normal (bY.find (iS assign+4000) fr) qu
    |some .ret=>Q .ret (bY.find (iS assign+4000) fr) qu
    |some (.exit id)=>Q (.exit id) (bY.find (iS assign+4000) fr) qu
    |_=>False) Kp:=by
  intro hh d BK;have nB:=BK.1;have Hh:(hh.push _)[hh.size]? =some (.loop {state:=.ready,pending:=none,fn,tmps:=tm,params:=ps,assign,body,defers:=d}):=Qy rfl
  let aq:Loop->Prop:=λr=>r.tmps=tm/\r.params=ps/\r.assign=assign/\r.body=body
  refine akd (tF hh.size (λpre h1=>I pre h1/\∃r,h1[hh.size]? =some (.loop r)/\r.state=.ready/\r.pending=none/\aq r) _
   aA ⟨hG _ _ _ (ak BK (qx _ _)) h0,_,Hh,rfl,rfl,rfl,rfl,rfl,rfl⟩ (λpre h1 hj=>qX pre h1 hj.1) ?_ ?_) ?_ (λ_ _ hp=>hp.elim)
  ·rintro pre h1 h2 hg ⟨hi,r,hr,Tc⟩;exact⟨hG _ _ _ hg hi,r,Hy hg hr,Tc⟩
  ·rintro pre x gq hp h1 args ⟨hi,r,He,sk,BI,f1,f2,f3,f4⟩ hg hE tC;have hr:=Hy hg He;have hb:=BN hh.size pre x gq hp h1 args hi hg hE tC nB ⟨r,hr⟩
    (λh2=>I (pre++[x]) h2/\∃r2,h2[hh.size]? =some (.loop r2)/\aq r2) (λ_ _=>False) ?_
   ·refine afX hD hr sk (by rw[f2];exact adi x args hp h1 hE) (by rw[f1];exact xG) (by rw[f2,f3,f4];exact hb) ?_ ?_
    ·rintro h2 ⟨Hq,r2,Td,g1,g2,g3,g4⟩;refine⟨r2,Td,rfl,hI _ _ _ _ nB (A9 Td) Hq,{r2 with state:=.ready,pending:=none},?_,rfl,rfl,g1,g2,g3,g4⟩
     rw[sF];simp[(jD.1 Td).1]
    ·exact λc h2 q=>q.elim
   ·rintro h' h2 ⟨_,_,r',st',pd',BG,G9⟩ heq Hq;rw[hr]at BG;cases BG;exact⟨Hq,_,heq.trans G9,f1,f2,f3,f4⟩
  ·rintro v h2 ⟨hi,r,hr,sk,BI,_⟩;simp only[zY,hr,sk,BI];exact⟨by simp,done _ (hI _ _ _ _ nB (A9 hr) hi)⟩
 exact key _ _ BK
theorem azr{x2:Sl}{x3:Addr}{x7:Value}{K:Sl->HP}{h:Hp}{α:Type}{xs:List α}(E:α->Int->Bool->Int->ByteArray->Sl->Hp->HP){qH:Hp->Prop}(tF:XA aE x7 xs (λy args hp h1=>∃y0 y1 y2 y3 y4,args=[(ah y0),(.agg #[(.bool y1),(ah y2),(.string y3),(Sl.v y4)])]/\E y y0 y1 y2 y3 y4 hp h1) qH)(I:List α->HP)(h0:I [] h)
  (hG:∀pre h1 h2,az h1 h2->I pre h1->I pre h2) (hI:∀l pre h1 h2,h.size<=l->Tw l h1 h2->I pre h1->I pre h2) (qX:∀pre h1,I pre h1->qH h1)
  (BN:∀l pre y gq hp h1 y0 y1 y2 y3 y4,I pre hp->az hp h1->E y y0 y1 y2 y3 y4 hp h1->xs=pre++y::gq->h.size<=l->(∃r,h1[l]? =some (.loop r))->∀(N:Hp->Prop)(X:Code->HP),(∀h' h2,Tw l h1 h'->h2[l]? =h'[l]?->I (pre++[y]) h2->N h2)->agt l N X x2 x3 x7 y0 y1 y2 y3 y4 h1)
  (done:∀h2,I xs h2->agv K Kp x2 x3 x7 h2):agx K Kp x2 x3 x7 h:=
 Eq.mp (by kernel_rfl) (apJ (bY:=US) (D:=(kT aE QU)) (λ_=>zZ _) (g:=.tmp 7) (ps:=#[8,9]) (assign:=sub [1,1,0,1,0,0] Un) (body:=sub [1,1,0,1,0,1] Un) (Q:=tH aE US (kT aE QU) none Kp [1,1,0,1,0] Un [] (mO aE Tryz.f33.results.toList Ph (asH K))) (Kp:=Kp) (fr:=([nO,nO,vS x2,vP x3,nO,nO,nO,some x7]++nn 9)) (by kernel_rfl)
  tF (λ_ _ _ _ ea=>by obtain⟨_,_,_,_,_,rfl,_⟩:=ea;rfl) I h0 hG hI qX
  (by
   intro l pre y gq hp h1 args e0 e00 ea e1 e2 e3 N X hN;obtain⟨y0,y1,y2,y3,y4,rfl,eE⟩:=ea;exact Eq.mp (by kernel_rfl) (BN l pre y gq hp h1 y0 y1 y2 y3 y4 e0 e00 eE e1 e2 e3 N X hN))
  (λh2 hi=>Eq.mp (by kernel_rfl) (done h2 hi)))
theorem axW{h:Hp}{v:Value}{l:Nat}{r:Loop}(c:cell h a=some v)(hl:h[l]? =some (.loop r)):a.block≠l:=by
 intro e;unfold Go.Sh.cell at c;rw[e,hl]at c;simp at c
section
variable {h:Hp} {l:Nat} {r:Loop}
theorem VA.nlb(hl:h[l]? =some (.loop r)){a:Addr}{v:aB}(b:VA D h a v):a.block≠l:=by
 have⟨s,c,_⟩:=b.row;exact axW (Cs.c0 c) hl
mutual
theorem aO.nl(hl:h[l]? =some (.loop r)):∀{s:Sl}(vs:aR),aO D h s vs->aO (λb=>D b/\b≠l) h s vs
  |_,[],hh=>by unfold aO at hh ⊢;exact hh
  | _,v::vs,hh=>by
    unfold aO at hh⊢
    have⟨a,b,p,e,q,x,y⟩:=hh
    exact⟨a,b,p,e,⟨q,x.nlb hl⟩,VA.nl hl v x,iE.nl hl vs y⟩
theorem iE.nl(hl:h[l]? =some (.loop r)):∀{a:Addr}{i:Nat}(vs:aR),iE D h a i vs->iE (λb=>D b/\b≠l) h a i vs
 |_,_,[],_=>by unfold iE;trivial
 |_,i,v::vs,hh=>by unfold iE at hh ⊢;exact⟨VA.nl hl v hh.1,iE.nl hl vs hh.2⟩
theorem VA.nl(hl:h[l]? =some (.loop r)):∀{a:Addr}(v:aB),VA D h a v->VA (λb=>D b/\b≠l) h a v
  | _,.mk n x t vs,hh=>by
    unfold VA at hh⊢
    have⟨s,hc,h1⟩:=hh
    exact⟨s,hc,aO.nl hl vs h1⟩
end
theorem aO.tw(t:Tw l h h'){s:Sl}{vs:aR}(v:aO D h s vs):aO D h' s vs:=by
 have⟨r,_,_,hr,_⟩:=t.2.2;exact aO.fr t.only.fr (λb hb _ e=>hb.2 e) (λb hb=>hb.1) _ (aO.nl hr _ v)
end
structure Lv(h0 h:Hp)(x:Sl)(vs:aR):Prop where
 ss:∃ss:List Sl,ss.length=vs.length/\eW h0.size 4 h x (List.zipWith aB.row vs ss) dh/\∀(j:Nat)(v:aB)(t:Sl),vs[j]? =some v->ss[j]? =some t->aO (λc=>h0.size<=c/\¬x.at c) h t v.items
theorem Lv.gr{h:Hp}{x:Sl}{vs:aR}(v:Lv h0 h x vs)(g:az h h'):Lv h0 h' x vs:=by
 have⟨ss,q1,q2,q3⟩:=v;exact⟨ss,q1,q2.ai g,λj v t e1 e2=>(q3 j v t e1 e2).gr g⟩
theorem Lv.tw{h:Hp}{x:Sl}{vs:aR}{l:Nat}(v:Lv h0 h x vs)(t:Tw l h h'):Lv h0 h' x vs:=by
 have⟨ss,q1,q2,q3⟩:=v;exact⟨ss,q1,⟨q2.len,q2.n,(q2.sh.tw t).wide (bX _) (EN t.1.symm)⟩,λj v u e1 e2=>aO.tw t (q3 j v u e1 e2)⟩
theorem Lv.at{h:Hp}{x:Sl}{vs:aR}(v:Lv h0 h x vs){c:Nat}(hc:x.at c):h0.size<=c/\c<h.size:=by
 have⟨ss,q1,q2,q3⟩:=v;exact q2.at hc
theorem Lv.n{h:Hp}{x:Sl}{vs:aR}(v:Lv h0 h x vs):x.n=vs.length:=by
 have⟨ss,q1,q2,q3⟩:=v;have:=q2.n;rw[m7,q1,Ax]at this;exact this
abbrev afM(a1:Nat):Value:=.func (.func 80) #[] #[bH a1]
abbrev EV(v:aB)(_:Int)(y1:Bool)(y2:Int)(y3:fh)(y4:Sl)(hp h1:Hp):Prop:=y1=v.au/\y2=v.num/\y3=bs v.text/\aO (Nw hp) h1 y4 v.items
theorem alG{hb:Hp}{b a1 b3:Nat}{o n:Nat}(ow:CS f)(V:Av D hb b f d o n s q)(tb:iW hb)(k1:aN hb a1 #[bH b] VI)(Hw:¬D b3/\b≠b3/\a1≠b3/\2<b3):XA aE (afM a1) (kE f d o n) (λv args hp h1=>∃y0 y1 y2 y3 y4,args=[(ah y0),(.agg #[(.bool y1),(ah y2),(.string y3),(Sl.v y4)])]/\EV v y0 y1 y2 y3 y4 hp h1) (λh=>Tn (·=b3) hb h):=by
 intro lb J h nB Le qX hG Y;have bd:=V.bd;have ff:jV aE 80=true:=by kernel_rfl
 unfold uq afM;simp only[Az];refine dX.mono (aHb ?_) (λ_ _ hh=>hh.2) (λ_ _ hh=>hh);have t0:=qX _ _ Le;have fr:∀{h':Hp},Tn (·=b3) hb h'->Av D h' b f d o n s q/\aN h' a1 #[bH b] VI/\iW h':=λt=>
  ⟨V.fr t Hw.2.1 (λz hz e=>Hw.1 (e▸hz)) λ_ z=>z,t.aZ k1 Hw.2.2.1,tb.fr t (by have:=Hw.2.2.2;omega) (by have:=Hw.2.2.2;omega)⟩
 apply aj (fr t0).2.1 rfl;simp only[nH,bz];apply aj (fr t0).1.A.k rfl;have tot:=afG V.ar V.lo V.hi;have anm:∀j,bL _<=bL (kE f d o n):=λj=>by rw[Pr,FI];have:=Z2 (l:=(kE f d o n).map aB.bx) 0 j;simpa using this
 apply aBk (λx3 JJ h'=>∃i:Nat,JJ=i/\i<=n/\x3=4194304-(bL ((kE f d o n).take i):Nat)/\J ((kE f d o n).take i) h') (λ_ JJ _=>n-JJ.toNat) ⟨0,rfl,by omega,by simp[bL],by simpa using Le⟩
 rintro x3 JJ h1 ⟨i,rfl,hi,rfl,j1⟩ N1 hN;have⟨V1,tu,tb1⟩:=fr (qX _ _ j1);refine aG (λc=>?_) λc=>?_
 ·have c:=aS c;have dQ:i<n:=ag;have Tb:=afF (f:=f) (d:=d) (o:=o) dQ;have hvw:((kE f d o n).map aB.bx)[i]? =some (f.val d (o+i)).bx:=by simp[Tb]
  have hss:=ano hvw;rw[<-Pr,<-Pr]at hss;have hsl:=anm (i+1);have lH:(kE f d o n).take (i+1)=(kE f d o n).take i++[f.val d (o+i)]:=by rw[Mz,Tb];rfl
  have tC:kE f d o n=(kE f d o n).take i++f.val d (o+i)::(kE f d o n).drop (i+1):=by
   conv=>lhs;rw[<-EL (i+1) (kE f d o n),lH]
   simp
  refine aj tu rfl (auU ow V1 tb1 rfl dQ λt h2 g2 w2=>aF λb5 h3 e5 g3 k5 _=>mC k5 rfl λh4 o4 k5=>aX ag ag (bu rfl ?_));have g4:=bI g3 o4 ag;have e0:decide ((4194304:Int)-(bL ((kE f d o n).take i):Nat)-((f.val d (o+i)).bx:Int)<0)=false:=by rw[wI];omega
  rw[e0];refine aDO (bu rfl (fk k5 ?_));unfold cZ;simp only[Az];refine wL.mono (Y ((kE f d o n).take i) (f.val d (o+i)) _ h1 h4 _ j1 (ak g2 g4) ⟨_,_,_,_,_,rfl,rfl,rfl,rfl,w2.gr g4⟩ tC) (λv h5 hv=>?_) (λ_ _ q=>q);obtain⟨rfl,j5⟩:=hv;refine⟨true,rfl,bu rfl (aX ag ag (hN _ _ _ ⟨i+1,by omega,by omega,by omega,by rw[lH];exact j5⟩ ag))⟩
 ·have c:=aS c;obtain rfl:i=n:=ag;rw[qy (by rw[Mp];omega)]at j1
  exact j1
theorem agd{h:Hp}{b:Nat}{o n:Nat}{K:Sl->HP}(ow:CS f)(V:Av D h b f d o n s q)(tb:iW h)(hk:∀t h',az h h'->aO (Nw h) h' t (kE f d o n)->K t h'):O2 (bC b) h K Kp:=by
 have ab:=V.A.k.lt;have t2:=tb.b2;have bd:=V.bd;refine aGe (aF λb3 h1 e3 g1 k3 s3=>aD7 (aF λa1 hb e1 g2 k1 s1=>?_));have G:=ak g1 g2;have k3:=k3.ai g2;have Vb:=V.lt.gr G;refine azr EV (alG ow Vb (tb.ai G) k1 ⟨λe=>by have:=e.2;omega,by omega,by omega,by omega⟩) (λpre h1=>Tn (·=b3) hb h1/\∃x,aN h1 b3 #[Sl.v x] yG/\Lv hb h1 x pre)
  ⟨iV _ _,Sl.nil,k3,⟨[],rfl,tL _ _ _ _,by simp⟩⟩ ?_ ?_ (λpre h1 hi=>hi.1) ?_ ?_
 ·rintro pre h1 h2 g ⟨t,x,k,v⟩;exact⟨t.trans (bg g),x,k.ai g,v.gr g⟩
 ·rintro l pre h1 h2 hl tw ⟨t,x,k,v⟩;exact⟨t.trans' tw.only.fr λz hz eC=>by omega,x,tw.only.aZ k ag,v.tw tw⟩
 ·rintro l pre y gq hp h1 y0 y1 y2 y3 y4 ⟨tp,x,kp,vp⟩ TT ⟨rfl,rfl,rfl,w1⟩ tC hl ac5 N X hN;have Tk:l<h1.size:=by have⟨r,hr⟩:=ac5;exact(jD.1 hr).1
  have tps:=tp.1;have xn:=vp.n;have pl:pre.length<n:=by have:=tQ List.length tC;rw[Mp]at this;simp at this;omega
  unfold agt;refine aF λb5 h2 e5 g12 k5 _=>mC k5 rfl λh3 o3 k5=>?_;have g13:=bI g12 o3 ag;have aI6:=g13.1;refine⟨g13.2 l Tk,λh4 t4=>?_⟩;have o4:=t4.only;have s4:h4.size=h3.size:=t4.1;have k5:=o4.aZ k5 ag;have SR:=o4.aZ ((kp.ai TT).ai g13) ag;have v4:=((vp.gr TT).gr g13).tw t4;have w4:=aO.tw t4 (w1.gr g13);have⟨ht,amD,avV⟩:=Tw.back g13 t4 ac5;refine aj SR rfl (fk k5 (aF λb13 h5 e13 g5 k13 _=>bQ k5 g5 (bQ SR g5 ?_)));have⟨ss,q1,q2,q3⟩:=v4;have Bt:=q2.sh.Bt t4;have Po:∀c,x.at c->hb.size<=c/\c<hp.size:=λc hc=>vp.at hc;have hz1:(List.zipWith aB.row pre ss).length=pre.length:=by rw[m7,q1,Ax]
  refine(q2.ai g5).ap ag rfl (new:=[[.bool false,.int .i64 0,.string (bs []),Sl.v Sl.nil]]) rfl (λr hr=>by simp at hr;subst hr;rfl) (λr hr=>by simp at hr;subst hr;intro v hv;simp at hv;rcases hv with rfl|rfl|rfl|rfl <;> rfl) (iJ k13 rfl) ag ag λs' h6 f6 Ih o6=>?_
  have f6s:=f6.1;rcases o6.cases with⟨_,e⟩|⟨bb,La,oR⟩
  ·exact absurd e aA
  have sat:s'.at bb:=⟨(aJ bb),oR.a,rfl⟩;have sat':∀c,s'.at c->c=bb:=by
   rintro c ⟨a,ha,rfl⟩;rw[oR.a]at ha;cases ha;rfl
  have k36:=f6.aZ (SR.ai g5) λhc=>by have:=Po _ hc;omega
  have hlen:pre.length<(List.zipWith aB.row pre ss++[[.bool false,ah 0,.string (bs []),Sl.v Sl.nil]]).length:=by simp;omega
  have ac1:(List.zipWith aB.row pre ss++[[.bool false,ah 0,.string (bs []),Sl.v Sl.nil]]).set pre.length (y.row y4)=List.zipWith aB.row (pre++[y]) (ss++[y4]):=by
   rw[CB ag,yx _ _ ag,hz1];simp
  have nbl:bb≠l:=λe=>by
   rcases Ih _ sat with z|z
   ·exact Bt (e▸z)
   ·omega
  have l6:=(f6.2 l ag Bt).trans (g5.2 l ag)
  -- the end of both ways
  have fin:∀h8,me 4 h8 s' bb (List.zipWith aB.row (pre++[y]) (ss++[y4])) dh->aN h8 b3 #[Sl.v s'] yG->Tn (λc=>c=bb\/c=b3) h6 h8->N h8:=by
   intro h8 Bs SP t8;refine hN ht h8 amD ?_ ⟨?_,s',SP,⟨ss++[y4],by simp[q1],⟨Bs.len,Bs.n,.inr ⟨bb,La,Bs.lt,Bs.own⟩⟩,λj v u e1 e2=>?_⟩⟩
   ·rw[t8.2 l ag ag,l6];exact avV
   ·refine(((((tp.trans (bg TT)).trans (bg g13)).trans' o4.fr λz hz eC=>by omega).trans (bg g5)).trans' f6 λz hz eC=>by have:=Po z hz;omega).trans' t8 λz hz eC=>?_
    rcases hz with rfl|rfl
    ·omega
    ·rfl
   ·have new:∀{u:Sl}{ws:aR},aO (λc=>hb.size<=c/\¬x.at c) h4 u ws->aO (λc=>hb.size<=c/\¬s'.at c) h8 u ws:=λ{u ws}z=>by
     have z1:=aO.fr (bg g5) (λ_ _ _=>id) (λ_ q=>q) _ (aO.lt _ z);have z2:=aO.fr (D':=λc=>hb.size<=c/\¬s'.at c) f6 (λb hb _ q=>hb.1.2 q) (λb hb=>⟨hb.1.1,λq=>by
      rcases Ih b q with q|q
      ·exact hb.1.2 q
      ·have:=hb.2;omega⟩) _ z1
     exact aO.fr t8 (λb hb _ e=>by
      rcases e with rfl|rfl
      ·exact hb.2 sat
      ·have:=hb.1;omega) (λ_ q=>q) _ z2
    by_cases hj:j<pre.length
    ·rw[gN hj]at e1;rw[gN ag]at e2;exact new (q3 j v u e1 e2)
    ·have hj2:=(de.1 e1).1;simp only[iA,jC]at hj2;obtain rfl:j=pre.length:=ag;rw[fU (bX _)]at e1;rw[<-q1,fU (bX _)]at e2;simp at e1 e2;subst e1 e2;exact new (w4.mo λc(hc:hp.size<=c)=>⟨by omega,λq=>by have:=Po c q;omega⟩)
  refine oR.ix ag hlen ⟨yp (oR.set hlen (r:=y.row y4) rfl (A5 y y4) λh7 o7 oR7=>?_),?_⟩
  ·rw[ac1]at oR7;refine dI (o7.aZ k36 ag) aA rfl λh8 o8 SP=>fin h8 (oR7.fr o8.fr ag) (by simpa using SP) ((o7.fr.mono λ_ z _=>.inl z).trans (o8.fr.mono λ_ z _=>.inr z))
  ·refine dI k36 aA rfl λh7 o7 SQ=>yp ((oR.fr o7.fr ag).set hlen (r:=y.row y4) rfl (A5 y y4) λh8 o8 Bs=>?_);rw[ac1]at Bs;have SQ:aN h7 b3 #[Sl.v s'] yG:=by simpa using SQ
   exact fin h8 Bs (o8.aZ SQ ag) ((o7.fr.mono λ_ z _=>.inr z).trans (o8.fr.mono λ_ z _=>.inl z))
 ·rintro h2 ⟨t,x,k,ss,q1,q2,q3⟩;unfold agv;exact aj k rfl (hk x h2 (((bg G:Tn No h hb).trans' t λz hz eC=>by omega).ai) (aO.snoc q2 q1 (λc hc=>by show h.size<=c;omega) λj v u e1 e2=>(q3 j v u e1 e2).mo λc hc=>by have:=hc.1;show h.size<=c;omega))
abbrev Or(T:aQ)(h:Hp):Nat->Prop:=λc=>T c\/h.size<=c
def Os(T:aQ)(h:Hp)(s:Sl)(vs:bq)(el:TypeId):Prop:=s=Sl.nil/\vs=[]\/∃b,T b/\gZ h s b vs el
section
variable {T T':aQ} {h:Hp} {s0:Sl} {vs l0:bq}
theorem Os.nil:Os T h Sl.nil [] el:=.inl ⟨rfl,rfl⟩
theorem Os.fr(o:Os T h s vs el)(f:Tn S h h')(z:∀c,T c->c<h.size->¬S c):Os T h' s vs el:=
 o.imp id λ⟨b,t,o⟩=>⟨b,t,o.fr f (z b t o.lt)⟩
theorem Os.mono(o:Os T h s vs el)(hT:∀c,T c->T' c):Os T' h s vs el:=o.imp id λ⟨b,t,o⟩=>⟨b,hT b t,o⟩
theorem Os.gr(o:Os T h s vs el)(g:az h h'):Os T h' s vs el:=o.imp id λ⟨b,t,o⟩=>⟨b,t,o.ai g⟩
theorem Os.n(o:Os T h s vs el):s.n=vs.length:=by
 rcases o with⟨rfl,rfl⟩|⟨b,_,o⟩
 ·rfl
 ·exact o.2.1
theorem Os.sv(o:Os T h s vs el):Sv h s vs:=by
 rcases o with⟨rfl,rfl⟩|⟨b,_,o⟩
 ·exact yu h
 ·exact o.sv
theorem Os.at(o:Os T h s vs el){c:Nat}(z:s.at c):T c/\c<h.size:=by
 obtain⟨a,d,rfl⟩:=z;rcases o with⟨rfl,_⟩|⟨b,t,o⟩
 ·cases d
 ·have:=o.1;rw[this]at d;cases d;exact⟨t,o.lt⟩
structure Old(T:aQ)(h:Hp)(s s0:Sl)(l0:bq)(el:TypeId):Prop where
 le:s0.n<=s.n
 old:s0=Sl.nil/\l0=[]\/∃b cs,T b/\s0.a=some (aJ b)/\s0.n=l0.length/\aN h b cs el/\s0.n<=s0.c/\cs.size=s0.c/\∀i,i+1<s0.n->cs[i]? =l0[i]?
theorem Old.of(o:Os T h s vs el):Old T h s s vs el:=by
 refine⟨bX _,o.imp id ?_⟩;rintro⟨b,t,g,f,cs,e,d,c,a⟩;grind
theorem Old.fr(o:Old T h s s0 l0 el)(f:Tn S h h')(z:∀c,T c->c<h.size->¬S c):Old T h' s s0 l0 el:=
 ⟨o.le,o.old.imp id λ⟨b,cs,t,g,e,a,d⟩=>⟨b,cs,t,g,e,f.aZ a (z b t a.lt),d⟩⟩
theorem Old.mono(o:Old T h s s0 l0 el)(hT:∀c,T c->T' c):Old T' h s s0 l0 el:=
 ⟨o.le,o.old.imp id λ⟨b,cs,t,x⟩=>⟨b,cs,hT b t,x⟩⟩
theorem Os.ap{bytes:Nat}{x:Value}{f:List Value->Prop}{z:Array Value}{K:Sl->HP}(o:Os T h s vs el)(W:z.size=1)(Y:one x=true)(J:f [x])
  (E:(s.n+1+(s.n+1)/4+192)*bytes<=2^48) (Z:s.n+1<2^63)
  (L:∀u h',Tn T h h'->Os (Or T h) h' u (vs++[x]) el->(∀{s0:Sl}{l0:bq},Old T h s s0 l0 el->Old (Or T h) h' u s0 l0 el)->K u h'):Ap h el z 1 bytes s 1 f K:=by
 have g:∀old:List Value,rd h s.a (s.n*1) old->old=vs->s.c<s.n+1->Ap h el z 1 bytes s 1 f K:=by
  intro old A p k;subst p;have hl:=o.n;refine⟨[x],J,.inr ⟨k,?_,Z,old,A,?_⟩⟩
  ·have:=nextslicecap_le_wide k;have h7:=oQ bytes this;omega
  ·intro r B a';refine L _ _ (bg (qx h _)) (.inr ⟨h.size,.inr (bX _),rfl,?_,_,by simp only[aN,ID];rfl,B,?_,λi j=>?_⟩) λq=>?_
   ·simp[hl]
   ·simp[Builtin.zeroCells,hl,W];omega
   ·grind
   ·exact⟨by have:=q.le;grind,(((q.fr (bg (qx h _)) λ_ _ _=>id).mono λ_ c=>.inl c).old)⟩
 rcases o with⟨rfl,rfl⟩|⟨b,t,N,h2,cs,w,h4,h5,M⟩
 ·exact g [] rfl rfl (by simp only[Sl.nil];omega)
 ·by_cases k:s.n+1<=s.c
  ·refine⟨[x],J,.inl ⟨k,?_⟩⟩;rw[N]
   show iZ h _ 0 [x] _
   rw[bz];refine wP [x] w cy dG λh' m I H G F=>L _ h' (I.fr.mono λd X _=>X▸t) (.inr ⟨b,.inl t,rfl,by simp[h2],m,H,k,by rw[G,h5],λi j=>?_⟩) λq=>⟨?_,?_⟩
   ·grind
   ·have:=q.le;grind
   ·apply q.old.imp id;rintro⟨y,l,D,V,U,R,Q,P,O⟩
    by_cases e:y=b
    ·subst e;have:l=cs:=by have:=R.symm.trans w;simpa using this
     subst this;refine⟨y,m,.inl D,V,U,H,Q,by rw[G,P],λi j=>?_⟩
     have:=q.le;grind
    ·exact⟨y,l,.inl D,V,U,I.aZ R e,Q,P,O⟩
  ·refine g vs ?_ rfl ag;rw[N];refine⟨ag,λi v j=>?_⟩
   have:i<vs.length:=bZ;rw[bz,cF,ia w,M i ag];exact j
theorem Os.J9{v:Value}{K:HP}(o:Os T h s vs el)(D:0<s.n)(I:∃b,s.a=some (aJ b)/\a=⟨b,s.n-1,none⟩)(C:one v=true)
  (E:∀h',Tn T h h'->Os T h' s (vs.set (s.n-1) v) el->(∀{s0:Sl}{l0:bq},Old T h s s0 l0 el->Old T h' s s0 l0 el)->K h'):St h a v K:=by
 rcases o with⟨rfl,rfl⟩|⟨b,t,o⟩
 ·simp[Sl.nil]at D
 ·obtain⟨g,l,rfl⟩:=I;have e:g=b:=by have:=l.symm.trans o.1;simpa using this
  subst e;obtain⟨O,N,cs,r,M,L,J⟩:=o;refine dI r ag C λh' p k=>E h' (p.fr.mono λd H _=>H▸t) (.inr ⟨g,t,O,by simp[N],_,k,M,by simp[L],λj F=>?_⟩) λq=>⟨q.le,q.old.imp id ?_⟩
  ·grind
  ·rintro⟨f,c,m,B,A,z,y,w,u⟩
   by_cases e:f=g
   ·subst e;have:c=cs:=by have:=z.symm.trans r;simpa using this
    subst this;refine⟨f,_,m,B,A,k,y,by simp[w],λi G=>?_⟩
    have:=q.le;grind
   ·exact⟨f,c,m,B,A,p.aZ z e,y,w,u⟩
theorem Old.back{x:Value}{K:HP}(o:Old T h s s0 l0 el)(p:0<s0.n)(l:l0[s0.n-1]? =some x)(u:∃b,s0.a=some (aJ b)/\a=⟨b,s0.n-1,none⟩)(m:one x=true)
  (q:∀h',Tn T h h'->Os T h' s0 l0 el->K h'):St h a x K:=by
 rcases o.old with⟨rfl,rfl⟩|⟨b,cs,t,f,A,z,y,w,v⟩
 ·simp[Sl.nil]at p
 ·obtain⟨g,c,rfl⟩:=u;have e:g=b:=by have:=c.symm.trans f;simpa using this
  subst e;refine dI z ag m λh' i k=>q h' (i.fr.mono λd r _=>r▸t) (.inr ⟨g,t,f,A,_,k,y,by simp[w],λj B=>?_⟩)
  grind
theorem Old.ayQ(o:Old T h s s0 l0 el)(g:¬0<s0.n):Os T h s0 l0 el:=by
 rcases o.old with q|⟨b,cs,t,f,e,d,c,a,k⟩
 ·exact .inl q
 ·exact .inr ⟨b,t,f,e,cs,d,c,a,λi j=>ag⟩
end
def ny(k:Int)(au:Bool)(L:List Bool):Bool:=if k=20/\L.length=1 then L.getD 0 false else au&&decide (k≠18)
mutual
def aq.lets:aq->Bool
 |.mk _ au k _ _ _ cs=>ny k au (vU cs)
def vU:List aq->List Bool
 |[]=>[]
 |f::fs=>f.lets::vU fs
end
def zb(k w:Int)(l:Bool)(W:cU):Nat:=
 if l then 16 else min 4194305 (if k=14 then 16+w.toNat else if k=16 then 16+w.toNat*W.getD 0 0 else if k=17 then 16+W.sum else if k=18 then 16+W.getD 0 0 else if k=19\/k=20 then W.getD 0 0 else 16)
mutual
def aq.wz:aq->Nat
 |.mk _ au k w _ _ cs=>zb k w (ny k au (vU cs)) (JK cs)
def JK:List aq->List Nat
 |[]=>[]
 |f::fs=>f.wz::JK fs
end
def Da(k w:Int)(l:Bool)(Z:aR):aB:=
 if l then v0 else if k=14 then .mk false 0 (List.replicate w.toNat 0) []else if k=16 then .mk false 0 [] (List.replicate w.toNat (Z.getD 0 v0))else if k=17 then .mk false 0 [] Z
 else if k=18 then .mk false 0 [] [Z.getD 0 v0]else if k=19\/k=20 then Z.getD 0 v0 else .mk false 0 [] []
mutual
def aq.zv:aq->aB
 |.mk _ au k w _ _ cs=>Da k w (ny k au (vU cs)) (JD cs)
def JD:List aq->List aB
 |[]=>[]
 |f::fs=>f.zv::JD fs
end
def A6:aB:=.mk false 0 [] []
def aq.cm(f:aq):aB:=if f.wz<=4194304 then f.zv else A6
def aq.small(f:aq):Bool:=decide (f.wz<=4194304)
def kW(k n:Int):Bool:=
 if k=6\/k=10\/k=11 then decide (-9223372036854775808<=n)&&decide (n<=9223372036854775807)else if 3<=k/\k<=5 then decide (-(2^(8*(dN k).toNat-1))<=n)&&decide (n<2^(8*(dN k).toNat-1))else decide (0<=n)&&decide (n<2^(8*(dN k).toNat))
def sA:List (aB->Bool)->List aB->Bool
 |F::Fs,v::vs=>F v&&sA Fs vs
 |[],[]=>true
 |_,_=>false
def uE:aB->Bool:=λ_=>false
def fG(k w:Int)(l:Bool)(F:List (aB->Bool))(v:aB):Bool:=
 decide (v.items.length<=4096)&&
 (if v.au then decide (v.num=0)&&decide (v.text.length=0)&&decide (v.items.length=0)&&l
 else if k=19\/k=20 then F.getD 0 uE v
 else if k=18 then decide (v.text.length=0)&&(decide (0<=v.num)&&(decide (v.num<F.length)&&(decide (v.items.length=1)&&F.getD v.num.toNat uE (v.items.getD 0 v0))))
 else if k=15 then decide (v.num=0)&&(decide (v.text.length=0)&&v.items.all (F.getD 0 uE))
 else if k=16 then decide (v.num=0)&&(decide (v.text.length=0)&&(decide (v.items.length=w.toNat)&&v.items.all (F.getD 0 uE)))
 else if k=17 then decide (v.num=0)&&(decide (v.text.length=0)&&sA F v.items)
 else if k=12\/k=13\/k=14 then decide (v.num=0)&&(decide (v.items.length=0)&&((decide (k≠12)||iH v.text)&&(decide (k≠14)||decide (v.text.length=w.toNat))))
 else decide (v.text.length=0)&&(decide (v.items.length=0)&&(if k=2 then decide (v.num=0\/v.num=1)else decide (3<=k/\k<=11)&&kW k v.num)))
mutual
def aq.fit:aq->aB->Bool
 |.mk _ au k w _ _ cs=>fG k w (ny k au (vU cs)) (fits cs)
def fits:List aq->List (aB->Bool)
 |[]=>[]
 |f::fs=>f.fit::fits fs
end
structure Rb where
 rows:Nat
 cz:Nat
 bits:List UInt8
 bF:Nat
 dY:List Nat
 texts:List (List UInt8)
 ends:List Nat
 all:List UInt8
 aH:List aB
inductive Raw
 |mk (b:Rb) (kids:List Raw)
def Raw.b:Raw->Rb|.mk b _=>b
def Raw.kids:Raw->List Raw|.mk _ k=>k
def DB:Rb:=⟨0,0,[],0,[],[],[],[],[]⟩
def r0:Raw:=.mk DB []
def Raw.aM(r:Raw)(i:Nat):Raw:=r.kids.getD i r0
def Raw.fo(r:Raw)(i:Nat)(c:Raw):Raw:=.mk r.b (r.kids.set i c)
def Raw.up(r:Raw)(g:Rb->Rb):Raw:=.mk (g r.b) r.kids
def pF(l:dy)(i:Nat):List UInt8:=l.set (i/8) (UInt8.ofNat ((l.getD (i/8) 0).toNat|||2^(i%8)))
def Rb.row(au:Bool)(b:Rb):Rb:=
 {b with rows:=b.rows+1,cz:=if au then b.cz+1 else b.cz,bits:=if au then(if b.rows%8=0 then b.bits++[0]else b.bits)else pF (if b.rows%8=0 then b.bits++[0]else b.bits) b.rows}
def cW(x:Int×Raw)(g:Raw->Int×Raw):Int×Raw:=if x.1=0 then g x.2 else x
def eU(au:Bool)(r:Raw):Int×Raw:=if 4096<=r.b.rows then(3,r)else(0,r.up (Rb.row au))
def fE(n:Nat)(r:Raw):Int×Raw:=(if 4194304<r.b.bF+n then 3 else 0,r.up λb=>{b with bF:=b.bF+n})
def dm(i:Nat)(g:Raw->Int×Raw)(r:Raw):Int×Raw:=((g (r.aM i)).1,r.fo i (g (r.aM i)).2)
def fu:List (Raw->Int×Raw)->Raw->Int×Raw
 |[],r=>(0,r)
 |g::gs,r=>cW (g r) (fu gs)
abbrev MP:=Raw->aB->Int×Raw
abbrev IG:=Raw->Int×Raw
def oG:MP:=λr _=>(0,r)
def oz:IG:=λr=>(0,r)
def eL(r:Raw)(i:Nat):Nat:=(r.aM i).b.bF
def total(r:Raw):Nat:=(r.kids.map λc=>c.b.bF).sum
def oK(ix:Int):Nat:=if ix=3 then 128 else if ix=7 then 256 else 4097
open Classical in
def gu(v:aB):List aB->Option Nat
 |[]=>none
 |x::xs=>if x=v then some 0 else(gu v xs).map (·+1)
def th(code:Nat)(g:Raw->Int×Raw)(r:Raw):Int×Raw:=
 cW (eU false r) λr1=>cW (dm code g (r1.up λb=>{b with all:=b.all++[UInt8.ofNat code],ends:=b.ends++[(r1.aM code).b.rows]})) λr2=>fE (16+(eL r2 code-eL r1 code)) r2
open Classical in
def iI(k w ix:Int)(T:List MP)(Z:List IG)(r:Raw)(v:aB):Int×Raw:=
 if k=1 then cW (eU true r) (fE 16)
 else if k=12\/k=13 then cW (eU v.au r) λr1=>if 65536<r1.b.all.length+v.text.length then(4,r1)else fE (16+v.text.length) (r1.up λb=>{b with all:=b.all++v.text,ends:=b.ends++[b.all.length+v.text.length]})
 else if k=15 then cW (eU v.au r) λr1=>cW (fu (v.items.map λx=>dm 0 λc=>(T.getD 0 oG) c x) r1) λr2=>fE (16+(eL r2 0-eL r1 0)) (r2.up λb=>{b with ends:=b.ends++[(r2.aM 0).b.rows]})
 else if k=16 then cW (eU v.au r) λr1=>cW (fu (if v.au then List.replicate w.toNat (dm 0 (Z.getD 0 oz))else v.items.map λx=>dm 0 λc=>(T.getD 0 oG) c x) r1) λr2=>fE (if v.au then 16 else 16+(eL r2 0-eL r1 0)) r2
 else if k=17 then cW (eU v.au r) λr1=>cW (fu ((List.range T.length).map λi=>dm i (if v.au then Z.getD i oz else λc=>(T.getD i oG) c (v.items.getD i v0))) r1) λr2=>fE (if v.au then 16 else 16+(total r2-total r1)) r2
 else if k=18 then th v.num.toNat (λc=>(T.getD v.num.toNat oG) c (v.items.getD 0 v0)) r
 else if k=19 then cW (eU v.au r) λr1=>
  if v.au then fE 16 (r1.up λb=>{b with ends:=b.ends++[0]})
  else match gu v r1.b.aH with
   |some i=>fE v.bx (r1.up λb=>{b with ends:=b.ends++[i]})
   |none=>if oK ix<=r1.b.aH.length then(102,r1)else cW (dm 0 (λc=>(T.getD 0 oG) c v) r1) λr2=>fE v.bx (r2.up λb=>{b with aH:=b.aH++[v],ends:=b.ends++[b.aH.length]})
 else if k=20 then cW (eU false r) λr1=>
  if r1.b.aH.getLast? =some v then fE v.bx (r1.up λb=>{b with ends:=b.ends.dropLast++[b.rows]})
  else cW (dm 0 (λc=>(T.getD 0 oG) c v) r1) λr2=>fE v.bx (r2.up λb=>{b with ends:=b.ends++[b.rows],aH:=b.aH++[v]})
 else cW (eU v.au r) λr1=>fE (16+v.text.length) (r1.up λb=>{b with dY:=b.dY++[(v.num%2^64).toNat],texts:=b.texts++[v.text]})
def nQ(small:Bool)(k w ix:Int)(tk:Raw->Int×Raw)(Z:List IG)(r:Raw):Int×Raw:=
 if small\/¬(16<=k/\k<=20)then tk r
 else if k=16 then cW (eU false r) λr1=>cW (fu (List.replicate w.toNat (dm 0 (Z.getD 0 oz))) r1) λr2=>fE (16+(eL r2 0-eL r1 0)) r2
 else if k=17 then cW (eU false r) λr1=>cW (fu ((List.range Z.length).map λi=>dm i (Z.getD i oz)) r1) λr2=>fE (16+(total r2-total r1)) r2
 else if k=18 then th 0 (Z.getD 0 oz) r
 else if k=19 then cW (eU false r) λr1=>if oK ix<=r1.b.aH.length then(102,r1)else cW (dm 0 (Z.getD 0 oz) r1) λr2=>(3,r2)
 else cW (eU false r) λr1=>cW (dm 0 (Z.getD 0 oz) r1) λr2=>(3,r2)
mutual
def aq.tk:aq->MP
 |.mk _ _ k w _ ix cs=>iI k w ix (FL cs) (Db cs)
def FL:List aq->List MP
 |[]=>[]
 |f::fs=>f.tk::FL fs
def aq.zk:aq->IG
 |.mk nm au k w id ix cs=>nQ (aq.small (.mk nm au k w id ix cs)) k w ix (λr=>iI k w ix (FL cs) (Db cs) r (aq.cm (.mk nm au k w id ix cs))) (Db cs)
def Db:List aq->List IG
 |[]=>[]
 |f::fs=>f.zk::Db fs
end
def jj(x n:Nat):List UInt8:=(List.range n).map λi=>UInt8.ofNat (x/2^(8*i))
def laidB(l:cU)(n:Nat):List UInt8:=l.flatMap λx=>jj x n
def dF(b:Rb):List UInt8:=if b.cz=0 then[]else b.bits
def ri(l:cU):List UInt8:=l.zipIdx.foldl (λb x=>if x.1%2=1 then pF b x.2 else b) (List.replicate ((l.length+7)/8) 0)
def mu(w:Nat)(l:iz):List UInt8:=l.flatMap λt=>if t=[]then List.replicate w 0 else t
def wB(k:Int):Nat:=if k=3\/k=7 then 1 else if k=4\/k=8 then 2 else if k=5\/k=9 then 4 else 8
def mW(k w ix:Int)(D:List (Raw->bG))(r:Raw):bG:=
 if k=1 then .mk r.b.rows 0 r.b.cz [] [] []
 else if k=12\/k=13 then .mk r.b.rows 0 r.b.cz [dF r.b,laidB r.b.ends 4,r.b.all] [] []
 else if k=15 then .mk r.b.rows 0 r.b.cz [dF r.b,laidB r.b.ends 4] ((List.range D.length).map λi=>(D.getD i λ_=>wm) (r.aM i)) []
 else if k=16\/k=17 then .mk r.b.rows 0 r.b.cz [dF r.b] ((List.range D.length).map λi=>(D.getD i λ_=>wm) (r.aM i)) []
 else if k=18 then .mk r.b.rows 0 r.b.cz [r.b.all,laidB r.b.ends 4] ((List.range D.length).map λi=>(D.getD i λ_=>wm) (r.aM i)) []
 else if k=19 then .mk r.b.rows 0 r.b.cz [dF r.b,laidB r.b.ends (wB ix)] [] ((List.range D.length).map λi=>(D.getD i λ_=>wm) (r.aM i))
 else if k=20 then .mk r.b.rows 0 0 [] (.mk r.b.ends.length 0 0 [[],laidB r.b.ends 4] [] []::(List.range D.length).map λi=>(D.getD i λ_=>wm) (r.aM i)) []
 else if k=2 then .mk r.b.rows 0 r.b.cz [dF r.b,ri r.b.dY] [] []
 else if k=14 then .mk r.b.rows 0 r.b.cz [dF r.b,mu w.toNat r.b.texts] [] []
 else .mk r.b.rows 0 r.b.cz [dF r.b,laidB r.b.dY (wB k)] [] []
mutual
def aq.dn:aq->Raw->bG
 |.mk _ _ k w _ ix cs=>mW k w ix (LG cs)
def LG:List aq->List (Raw->bG)
 |[]=>[]
 |f::fs=>f.dn::LG fs
end
mutual
def aq.begun:aq->Raw
 |.mk _ _ k _ _ _ cs=>.mk {DB with ends:=if k=12\/k=13\/k=15 then[0]else[]} (Mn cs)
def Mn:List aq->List Raw
 |[]=>[]
 |f::fs=>f.begun::Mn fs
end
theorem aqE(a:m<256)(b:i<8):m|||2^i<256:=
 Iv a (Mx bw b)
theorem Ds(l:dy)(i:Nat):(pF l i).length=l.length:=by simp[pF]
theorem Mm(l:dy)(r:Nat):gK l r=(l.getD (r/8) 0).toNat.testBit (r%8):=by
 unfold gK;grind
theorem aas{l:dy}(h:i/8<l.length)(j:Nat):gK (pF l i) j=(decide (j=i)||gK l j):=by
 rw[Mm,Mm];unfold pF
 by_cases e:j/8=i/8
 ·have e1:(l.set (i/8) (UInt8.ofNat ((l.getD (i/8) 0).toNat|||2^(i%8)))).getD (j/8) 0=UInt8.ofNat ((l.getD (i/8) 0).toNat|||2^(i%8)):=by
   rw[gV,e,yC h];rfl
  rw[e1,tN,uY (aqE ((l.getD (i/8) 0).toNat_lt) (yE _ bw)),Nat.testBit_or,e,Nat.testBit_two_pow];grind
 grind
theorem ayA(l m:dy){j:Nat}(h:j/8<l.length):gK (l++m) j=gK l j:=by
 unfold gK;grind
theorem ayz(l:dy){j:Nat}(h:l.length<=j/8):gK (l++[0]) j=false:=by
 unfold gK;have:(l++[0]).getD (j/8) 0=0:=by
  rw[gV,fU h];rcases a:j/8-l.length with _|k <;> simp[a]
 rw[this];simp
def Bo(n:Nat)(x:Bool)(b:dy):List UInt8:=if x then pF (if n%8=0 then b++[0]else b) n else(if n%8=0 then b++[0]else b)
def n8:List Bool->List UInt8
 |[]=>[]
 |x::xs=>Bo xs.length x (n8 xs)
def qQ(l:List Bool):List UInt8:=n8 l.reverse
theorem aqr(l:List Bool)(x:Bool):qQ (l++[x])=Bo l.length x (qQ l):=by simp[qQ,n8]
theorem QH:∀l:List Bool,(n8 l).length=(l.length+7)/8
  |[]=>rfl
  | x::a=>by
    unfold n8 Bo;split <;> split <;> simp only[Ds,iA,iN,ry,(QH a)] <;> omega
theorem QI(l:List Bool):(qQ l).length=(l.length+7)/8:=by rw[qQ,QH,List.length_reverse]
theorem abi:∀(l:List Bool)(i:Nat),gK (n8 l) i=(decide (i<l.length)&&l.getD (l.length-1-i) false)
  |[],i=>by simp[n8,gK]
  | x::a,i=>by
    have f:=abi a i;have hl:=QH a;have base:gK (if a.length%8=0 then n8 a++[0]else n8 a) i=gK (n8 a) i:=by
      split
      · by_cases h:i/8<(n8 a).length
        ·exact ayA _ _ h
        ·rw[ayz _ ag,f];grind
      ·rfl
    have d:a.length/8<(if a.length%8=0 then n8 a++[0]else n8 a).length:=by
      split <;> simp only[iA,iN,hl] <;> omega
    have key:gK (n8 (x::a)) i=((decide (i=a.length)&&x)||gK (n8 a) i):=by
      rw[show n8 _=Bo a.length x (n8 a)from rfl];unfold Bo;cases x
      ·simp[*]
      ·simp_all[aas]
    grind
theorem abj(l:List Bool)(i:Nat):gK (qQ l) i=l.getD i false:=by
 rw[qQ,abi,List.length_reverse]
 grind
theorem Rb.qP(au:Bool)(b:Rb):(b.row au).bits=Bo b.rows (!au) b.bits:=by
 unfold Rb.row Bo;grind
theorem Bz(x n:Nat):(jj x n).length=n:=by simp[jj]
theorem asi(x n:Nat):jj x (n+1)=jj x n++[UInt8.ofNat (x/2^(8*n))]:=by simp[jj,uX]
theorem ack(x:Nat):∀n,jX (jj x n)=x%2^(8*n)
  |0=>by simp[jj,jX,Nat.mod_one]
  | n+1=>by
    rw[asi,acj,Bz,ack x n,tN,show 8*(n+1)=8*n+8 by omega,IA,Nat.mod_mul,Iz _ (_%_)]
theorem GJ(l:cU)(n:Nat):(laidB l n).length=l.length*n:=by
 simp[laidB,Cw,Bz,List.map_const']
theorem acv(x:Nat)(l:cU)(n:Nat):laidB (x::l) n=jj x n++laidB l n:=by simp[laidB]
theorem acw{n:Nat}:∀{l:cU}{i x:Nat},l[i]? =some x->((laidB l n).drop (i*n)).take n=jj x n
  |[],i,x,h=>by simp at h
  | y::l,0,x,h=>by
    simp_all[mF,acv,Bz]
  | y::l,i+1,x,h=>by
    simp only[Cv]at h;rw[acv,rC,Mw,<-Cz,List.drop_left' (Bz y n)];exact acw h
theorem SJ{l:cU}{n:Nat}(h:l[i]? =some m):pH (laidB l n) (i*n) n=m%2^(8*n):=by
 unfold pH;rw[acw h,ack]
theorem SK{l:cU}{n:Nat}(h:l[i]? =some n)(a:n<2^31):i32 (laidB l 4) i=n:=by
 unfold i32;rw[Iz,SJ h,uY ag];unfold sg;omega
theorem afu(l:cU):(ri l).length=(l.length+7)/8:=by
 unfold ri;have:∀(m:List (Nat×Nat))(b:dy),(m.foldl (λb x=>if x.1%2=1 then pF b x.2 else b) b).length=b.length:=by
  intro m
  induction m with
  |nil=>simp
  |cons x m a=>grind[Ds]
 simp[*]
theorem ayw(l:cU):∀(k:Nat)(b:dy),(∀j,k<=j->j<k+l.length->j/8<b.length)->∀i,gK ((l.zipIdx k).foldl (λb x=>if x.1%2=1 then pF b x.2 else b) b) i=(gK b i||decide (k<=i/\l.getD (i-k) 0%2=1)):=by
  induction l with
  |nil=>simp
  | cons x l m=>
    intro k b g i;rw[List.zipIdx_cons,List.foldl_cons];have f:∀j,k+1<=j->j<k+1+l.length->j/8<(if x%2=1 then pF b k else b).length:=by
      intro j a d;have:=g j ag bZ
      grind[Ds]
    rw[m _ _ f i];have e0:gK (if x%2=1 then pF b k else b) i=(gK b i||(decide (i=k)&&decide (x%2=1))):=by
      split
      ·rename_i h;rw[aas (g k (bX _) aA)];grind
      ·simp[*]
    grind
theorem afv(l:cU)(i:Nat):gK (ri l) i=decide (l.getD i 0%2=1):=by
 unfold ri;rw[ayw l 0 _ (λj _ h=>bZ) i]
 have:gK (List.replicate ((l.length+7)/8) (0:UInt8)) i=false:=by
  unfold gK;have:(List.replicate ((l.length+7)/8) (0:UInt8)).getD (i/8) 0=0:=by
   rw[gV,List.getElem?_replicate];split <;> rfl
  rw[this];simp
 simp[*]
theorem adE(w:Nat)(t:dy)(l:iz):mu w (t::l)=(if t=[]then List.replicate w 0 else t)++mu w l:=by simp[mu]
theorem Li{w:Nat}:∀{l:iz},(∀t∈l,t=[]\/t.length=w)->(mu w l).length=l.length*w
  |[],_=>by simp[mu]
  | t::l,h=>by
    have a:=Li (l:=l) λx b=>h x (by simp[b])
    have c:(if t=[]then List.replicate w (0:UInt8)else t).length=w:=by
      rcases h t aA with q|q
      ·simp[q]
      ·split <;> simp_all
    rw[adE,iA,c,a,iN,rC,Mw]
theorem adF{w:Nat}:∀{l:iz}{i:Nat}{t:dy},(∀t∈l,t=[]\/t.length=w)->l[i]? =some t->t.length=w->((mu w l).drop (i*w)).take w=t
  |[],i,t,_,h,_=>by simp at h
  | u::l,i,t,b,h,a=>by
    have d:(if u=[]then List.replicate w (0:UInt8)else u).length=w:=by
      rcases b u aA with q|q
      ·simp[q]
      ·split <;> simp_all
    rw[adE];cases i with
    | zero=>
      grind
    | succ i=>
      simp only[Cv]at h;rw[rC,Mw,<-Cz,List.drop_left' d];exact adF (λx c=>b x (by simp[c])) h a
theorem acP:∀{a b:List Pl}{d c:List Int},a.map Pl.f=b.map Pl.f->(∀x∈c,x∈d)->∀x∈lG c b,x∈lG d a
  |[],[],d,c,_,i=>i
  |[],_::_,_,_,h,_=>by simp at h
  |_::_,[],_,_,h,_=>by simp at h
  | x::a,y::b,d,c,h,i=>by
    simp only[rD,Vh]at h;unfold lG;refine acP h.2 λz g=>?_;grind[xw]
structure Wq(d d':Nat)(ins GS:Bool):Prop where
 d:d'<=d
 i:GS=true->ins=true
abbrev Wh(f:aq):Prop:=∀{d d':Nat}{ins GS:Bool}{n n':Nat}{ids acR:List Int},Wq d d' ins GS->n'<=n->(∀x∈acR,x∈ids)->gP n ids (f.places d [] ins)->
 gP n' acR (f.places d' [] GS)/\(f.places d [] ins).map Pl.f=(f.places d' [] GS).map Pl.f
theorem aqg{cs:cN}(j:∀f∈cs,Wh f){d d':Nat}{c a:Bool}(l:Wq d d' c a):∀{n n':Nat}{e b:List Int},n'<=n->(∀x∈b,x∈e)->gP n e (lV d c cs)->
    gP n' b (lV d' a cs)/\(lV d c cs).map Pl.f=(lV d' a cs).map Pl.f:=by
  induction cs with
  |nil=>intro n n' e b _ _ _;simp[lV,gP]
  | cons f s k=>
    intro n n' e b m i h;simp only[lV,FD]at h ⊢;obtain⟨q,e1⟩:=j f aA l m i h.1;have el:(f.places d [] c).length=(f.places d' [] a).length:=by simpa using tQ List.length e1
    obtain⟨p,r⟩:=k (λg o=>j g (by simp[o])) (n':=n'+(f.places d' [] a).length) ag (acP e1 i) h.2
    simp[*]
theorem aqk{l:cN}{d:Nat}:∀{ahead:cN},(eB d ahead B l).map Pl.f=(lV d B l).map Pl.f:=by
  induction l with
  |nil=>intro a;rfl
  | cons f l b=>
    intro a;have:(f.places d a B).map Pl.f=(f.places d [] B).map Pl.f:=by cases f;unfold aq.places;simp
    simp only[eB,lV,kq,b,this]
theorem abd:∀f:aq,Wh f
  | .mk r au k w id ix cs=>by
    rename_i d t m c n n' o g
    intro l J j h;have I:∀f∈cs,Wh f:=λf _=>abd f;have s:d<=64:=by unfold aq.places at h;exact h.1.1
    have b:=jE l.d s;rw[DH s]at h ⊢;rw[DH b];obtain⟨L,K,H,G,F,E,D,u⟩:=h.1;obtain⟨C,b2⟩:=FE.1 h.2;have z:Wq (d+1) (t+1) (m||k==19) (c||k==19):=⟨by have:=l.d;omega,λq=>by
      rcases(IE _ _).mp q with q|q
      ·rw[l.i q];rfl
      simp[*]⟩
    have p:∀x∈xw g (.mk r au k w id ix cs),x∈xw o (.mk r au k w id ix cs):=by
      intro x a;unfold xw at a ⊢;split
      ·grind
      ·grind
    obtain⟨B,A⟩:=aqg I z (n':=n'+1) ag p b2;refine⟨⟨⟨b,ag,H,G,F,E,?_,λe=>⟨(u e).1,λq=>(u e).2 (j _ q)⟩⟩,FE.2 ⟨C,B⟩⟩,?_⟩
    ·rintro⟨y,v⟩;exact D ⟨l.i y,v⟩
    grind[aqk]
theorem bB.places(h:bB f):gP 0 [] (f.places 1 [] false):=by
 have:=h.2.2.2.2
 simpa only[lV,qA]using this
theorem bB.aq0(h:gP 0 [] (f.places 1 [] false)):bB f:=by
 refine⟨aA,aA,λj m c=>by simp at c,?_,by simpa only[lV,qA]using h⟩
 intro i j a b e d g;grind
abbrev U0:=@bB.aq0
theorem bB.aM(h:bB f)(u:c∈f.cs):bB c:=by
 obtain⟨i,au,k,w,id,ix,cs⟩:=f;have a:=h.places;rw[DH ag]at a;obtain⟨n,g,e⟩:=aqi (FE.1 a.2).2 c u;exact U0 (abd c ⟨ag,λq=>by cases q⟩ (eu _) (λx b=>by simp at b) e).1
theorem bB.right(h:bB f):Shaped f.k f.w f.id f.ix f.cs.length/\AH f.k f.au f.cs/\(f.k=19->∃c,f.cs[0]? =some c/\c.au=false):=by
 obtain⟨b,au,k,w,id,ix,cs⟩:=f;have a:=h.places;rw[DH ag]at a;exact⟨a.1.2.2.2.2.1,a.1.2.2.2.2.2.1,λe=>(a.1.2.2.2.2.2.2.2 e).1⟩
theorem abS:Fa (bs [97]):=by
 refine⟨by decide,by decide,λj b h=>?_⟩
 rcases j with _|j
 ·have a:=h;cases a;exact .inl (.inl bw)
 ·rw[getElem?_neg _ _ (by show¬j+1<1;omega)]at h;cases h
theorem bB.ty(h:bB f):tX f.k f.w f.id f.ix f.cs:=by
 obtain⟨p,au,k,w,id,ix,cs⟩:=f;have d:=h.places;apply U0;unfold TM;rw[DH ag]at d ⊢;obtain⟨⟨o,n,s,r,m,l,j,i⟩,b⟩:=d;refine⟨⟨o,n,abS,aA,m,⟨λe=>?_,λe=>?_,λe=>?_⟩,j,i⟩,b⟩
 ·simp only[aq.k]at e;subst e;simp[gR,aq.au,aq.k]
 ·simp only[aq.k]at e;subst e;simp[gR,aq.au,aq.k]
 ·simp only[aq.k]at e;subst e;obtain⟨c,a,_⟩:=l.2.2 rfl;refine⟨c,a,?_⟩;simp only[aq.cs]at a;cases cs with
  |nil=>simp at a
  |cons g q=>simp at a;subst a;simp[gR,aq.au,aq.k,aq.cs]
def eG(k:Int)(v:aB):Bool:=if k=1 then true else if k=18\/k=20 then false else v.au
open Classical in
def q9(l:aR)(v:aB):List aB:=if v.au then l else match gu v l with|some _=>l|none=>l++[v]
def dS(vs:aR):List aB:=vs.foldl q9 []
open Classical in
def xg(x:List aB×List Nat)(v:aB):List aB×List Nat:=
 if x.1.getLast? =some v then(x.1,x.2.dropLast++[x.2.getLastD 0+1])else(x.1++[v],x.2++[x.2.getLastD 0+1])
def cR(vs:aR):List aB×List Nat:=vs.foldl xg ([],[])
theorem xP(vs:aR)(v:aB):dS (vs++[v])=q9 (dS vs) v:=by simp[dS]
theorem Be(vs:aR)(v:aB):cR (vs++[v])=xg (cR vs) v:=by simp[cR]
def kr(g:aB->Nat)(vs:aR):List Nat:=(List.range (vs.length+1)).map λi=>((vs.take i).map g).sum
theorem aHM{α:Type}(vs:List α)(v:α){i:Nat}(h:i<=vs.length):(vs++[v]).take i=vs.take i:=Is h
theorem J1(g:aB->Nat)(vs:aR)(v:aB):kr g (vs++[v])=kr g vs++[((vs++[v]).map g).sum]:=by
 unfold kr;rw[iA,jC,uX,kq]
 congr 1
 all_goals grind[List.map_congr_left]
theorem PS{vs:aR}(h:i<=vs.length):(kr g vs)[i]? =some ((vs.take i).map g).sum:=by
 unfold kr;grind
theorem Dl(g:aB->Nat)(vs:aR):(kr g vs).length=vs.length+1:=by simp[kr]
def fO(v:aB):Nat:=v.num.toNat
def dK(k w:Int)(N:aR)(j:Nat)(vs:aR):List aB:=
 if k=15 then vs.flatMap aB.items
 else if k=16 then vs.flatMap λv=>if v.au then List.replicate w.toNat (N.getD 0 v0)else v.items
 else if k=17 then vs.map λv=>if v.au then N.getD j v0 else v.items.getD j v0
 else if k=18 then(vs.filter λv=>decide (fO v=j)).map λv=>v.items.getD 0 v0
 else if k=19 then dS vs
 else(cR vs).1
def fL(k:Int):Bool:=!(k==1||k==12||k==13||k==15||k==16||k==17||k==18||k==19||k==20)
def aL(k:Int)(vs:aR):Rb where
 rows:=vs.length
 cz:=vs.countP (eG k)
 bits:=qQ (vs.map λv=>!eG k v)
 bF:=bL vs
 dY:=if fL k then vs.map λv=>(v.num%2^64).toNat else[]
 texts:=if fL k then vs.map aB.text else[]
 ends:=if k=12\/k=13 then kr (λv=>v.text.length) vs else if k=15 then kr (λv=>v.items.length) vs
  else if k=18 then(List.range vs.length).map λi=>((vs.take i).filter λv=>decide (fO v=fO (vs.getD i v0))).length
  else if k=19 then vs.map λv=>if v.au then 0 else(gu v (dS vs)).getD 0 else if k=20 then(cR vs).2 else[]
 all:=if k=12\/k=13 then vs.flatMap aB.text else if k=18 then vs.map λv=>UInt8.ofNat (fO v)else[]
 aH:=if k=19 then dS vs else if k=20 then(cR vs).1 else[]
abbrev MR:=List aB->Raw
def st0:MR:=λ_=>r0
def stK(k w:Int)(N:aR)(S:List MR)(vs:aR):Raw:=.mk (aL k vs) ((List.range S.length).map λj=>(S.getD j st0) (dK k w N j vs))
def dJ:List aq->List aB:=List.map aq.cm
mutual
def aq.st:aq->MR
 |.mk _ _ k w _ _ cs=>stK k w (dJ cs) (J4 cs)
def J4:List aq->List MR
 |[]=>[]
 |f::fs=>f.st::J4 fs
end
abbrev MT:=List aB->Prop
structure OkK(k w ix:Int)(N:aR)(F:aB->Bool)(O:List MT)(vs:aR):Prop where
 fit:∀v∈vs,F v=true
 n4:vs.length<=4096
 wt:bL vs<=4194304
 tx:k=12\/k=13->(vs.flatMap aB.text).length<=65536
 ds:k=19->(dS vs).length<=oK ix
 aM:∀(j:Nat)(o:MT),O[j]? =some o->o (dK k w N j vs)
mutual
def aq.can:aq->MT
 |.mk nm au k w id ix cs=>OkK k w ix (dJ cs) (aq.fit (.mk nm au k w id ix cs)) (LR cs)
def LR:List aq->List MT
 |[]=>[]
 |f::fs=>f.can::LR fs
end
theorem Z3:∀a:List aq,J4 a=a.map aq.st
 |[]=>rfl
 |f::a=>by simp[J4,Z3 a]
theorem aer:∀a:List aq,LR a=a.map aq.can
 |[]=>rfl
 |f::a=>by simp[LR,aer a]
theorem ZJ:∀a:List aq,FL a=a.map aq.tk
 |[]=>rfl
 |f::a=>by simp[FL,ZJ a]
theorem Pb:∀a:List aq,Db a=a.map aq.zk
 |[]=>rfl
 |f::a=>by simp[Db,Pb a]
theorem ad9:∀a:List aq,LG a=a.map aq.dn
 |[]=>rfl
 |f::a=>by simp[LG,ad9 a]
theorem adH:∀a:List aq,fits a=a.map aq.fit
 |[]=>rfl
 |f::a=>by simp[fits,adH a]
theorem acg:∀a:List aq,vU a=a.map aq.lets
 |[]=>rfl
 |f::a=>by simp[vU,acg a]
theorem Zj:∀a:List aq,JK a=a.map aq.wz
 |[]=>rfl
 |f::a=>by simp[JK,Zj a]
theorem Y5:∀a:List aq,JD a=a.map aq.zv
 |[]=>rfl
 |f::a=>by simp[JD,Y5 a]
theorem afy:∀a:List aq,Mn a=a.map aq.begun
 |[]=>rfl
 |f::a=>by simp[Mn,afy a]
theorem aq.anE(f:aq)(vs:aR):f.st vs=.mk (aL f.k vs) ((List.range f.cs.length).map λj=>((f.cs.map aq.st).getD j st0) (dK f.k f.w (dJ f.cs) j vs)):=by
 obtain⟨a,au,k,w,id,ix,cs⟩:=f;simp only[aq.st,stK,Z3,cr];rfl
abbrev Ik:=@aq.anE
theorem aq.axX(f:aq)(vs:aR):f.can vs↔OkK f.k f.w f.ix (dJ f.cs) f.fit (f.cs.map aq.can) vs:=by
 obtain⟨a,au,k,w,id,ix,cs⟩:=f;simp only[aq.can,aer];exact Iff.rfl
abbrev gj:=@aq.axX
theorem aq.amq(f:aq):f.tk=iI f.k f.w f.ix (f.cs.map aq.tk) (f.cs.map aq.zk):=by
 obtain⟨a,au,k,w,id,ix,cs⟩:=f;simp only[aq.tk,ZJ,Pb];rfl
abbrev kG:=@aq.amq
theorem aq.aky(f:aq):f.zk=nQ f.small f.k f.w f.ix (λr=>f.tk r f.cm) (f.cs.map aq.zk):=by
 obtain⟨a,au,k,w,id,ix,cs⟩:=f;simp only[aq.zk,aq.tk,Pb];rfl
abbrev sC:=@aq.aky
theorem aq.awf(f:aq):f.dn=mW f.k f.w f.ix (f.cs.map aq.dn):=by
 obtain⟨a,au,k,w,id,ix,cs⟩:=f;simp only[aq.dn,ad9];rfl
abbrev ru:=@aq.awf
theorem aq.avj(f:aq):f.fit=fG f.k f.w f.lets (f.cs.map aq.fit):=by
 obtain⟨a,au,k,w,id,ix,cs⟩:=f;simp only[aq.fit,aq.lets,adH];rfl
abbrev eM:=@aq.avj
theorem aq.ase(f:aq):f.lets=ny f.k f.au (f.cs.map aq.lets):=by
 obtain⟨a,au,k,w,id,ix,cs⟩:=f;simp only[aq.lets,acg];rfl
abbrev ym:=@aq.ase
theorem aq.alh(f:aq):f.wz=zb f.k f.w f.lets (f.cs.map aq.wz):=by
 obtain⟨a,au,k,w,id,ix,cs⟩:=f;simp only[aq.wz,aq.lets,Zj];rfl
abbrev Am:=@aq.alh
theorem aq.JG(f:aq):f.zv=Da f.k f.w f.lets (f.cs.map aq.zv):=by
 obtain⟨a,au,k,w,id,ix,cs⟩:=f;simp only[aq.zv,aq.lets,Y5];rfl
theorem aq.ayD(f:aq):f.begun=.mk {DB with ends:=if f.k=12\/f.k=13\/f.k=15 then[0]else[]} (f.cs.map aq.begun):=by
 obtain⟨a,au,k,w,id,ix,cs⟩:=f;simp only[aq.begun,afy];rfl
abbrev Mr:=@aq.ayD
theorem aq.Z9(a:f.cs[j]? =some c)(vs:aR):(f.st vs).aM j=c.st (dK f.k f.w (dJ f.cs) j vs):=by
 have b:=(de.1 a).1;rw[Ik];simp only[Raw.aM,Raw.kids,gV,eY,EM b,a,pP,pQ]
abbrev mY:=@aq.Z9
theorem aq.Us(a:f.cs[j]? =some c){vs:aR}(h:f.can vs):c.can (dK f.k f.w (dJ f.cs) j vs):=
 ((gj f vs).1 h).aM j c.can dG
abbrev fC:=@aq.Us
theorem Ul(k w:Int)(N:aR)(j:Nat):dK k w N j []=[]:=by unfold dK dS cR;simp
theorem Qo(k:Int):aL k []={DB with ends:=if k=12\/k=13\/k=15 then[0]else[]}:=by
 simp only[aL,DB,CD,bL,qQ,n8,List.reverse_nil,dS,cR,kr]
 grind
theorem Z8:∀f:aq,f.st []=f.begun
  | .mk d au k w id ix cs=>by
    have b:∀c∈cs,c.st []=c.begun:=λc _=>Z8 c;rw[Ik,Mr]
    congr 1
    ·exact Qo k
    · refine qz λj=>?_;simp only[aq.cs,aq.k,Ul]
      by_cases a:j<cs.length
      all_goals simp[*]
theorem bB.one(h:bB f)(d:f.k=15\/f.k=16\/f.k=19\/f.k=20):∃c,f.cs=[c]/\bB c:=by
 match a:f.cs,(h.right.1.2.2.2.2.2.2.2.1 d)with
 |[c],_=>exact⟨c,rfl,h.aM (by rw[a];simp)⟩
theorem bB.ks(h:bB f):1<=f.k/\f.k<=20:=⟨h.right.1.1,h.right.1.2.1⟩
theorem pq(a b:aR):bL (a++b)=bL a+bL b:=by
 induction a with
 |nil=>simp[bL]
 |cons v a c=>simp only[yA,bL];omega
theorem Zm(n:Nat)(v:aB):bL (List.replicate n v)=n*v.bx:=by
 induction n with
 |zero=>simp[bL]
 |succ n a=>rw[Ir,bL,a,rC];omega
theorem hO(v:aB):v.bx=16+v.text.length+bL v.items:=by cases v;rfl
theorem adJ:fG k w true F v0=true:=by
 unfold fG v0;simp[aB.au,aB.num,aB.text,aB.items]
theorem Zk:∀{cs:cN},(∀c∈cs,c.wz=min 4194305 c.zv.bx)->min 4194305 (16+(cs.map aq.wz).sum)=min 4194305 (16+bL (cs.map aq.zv))
  |[],_=>rfl
  | c::cs,h=>by
    have h1:=h c aA;have h2:=Zk (cs:=cs) λx hx=>h x (by simp[hx])
    simp only[rD,Vg,bL];omega
theorem afJ:∀{cs:cN},(∀c∈cs,c.fit c.zv=true)->sA (cs.map aq.fit) (cs.map aq.zv)=true
  |[],_=>rfl
  | c::cs,h=>by
    simp only[rD,sA,h c aA];exact afJ λx a=>h x (by simp[a])
theorem sZ:∀f:aq,bB f->f.lets=f.au
  | .mk n au k w id ix cs,h=>by
    have i:∀c∈cs,c.lets=c.au:=λc m=>sZ c (h.aM m);obtain⟨_,b,_⟩:=h.right;have one:=λl=>bB.one h l;rw[ym]
    show ny k au (cs.map aq.lets)=au
    simp only[aq.k,aq.cs,aq.au]at b one;unfold ny
    by_cases e:k=20
    · obtain⟨c,rfl,_⟩:=one (by simp[e])
      obtain⟨d,g,j⟩:=b.2.2 e;grind
    · rw[aC (λq:k=20/\_=>e q.1)]
      by_cases a:k=18
      ·have:=b.2.1 a;simp[*]
      ·simp[a]
theorem Za:∀f:aq,bB f->f.au=false->f.zv.au=false
  | .mk o au k w id ix cs,h,g=>by
    have l:∀c∈cs,c.au=false->c.zv.au=false:=λc n=>Za c (h.aM n);obtain⟨_,j,i⟩:=h.right;have one:=λm=>bB.one h m;rw[aq.JG,(sZ _ h),g];simp only[aq.w,aq.cs]at j i one g ⊢;simp only[Da,mG,lN];split
    ·rfl
    split
    ·rfl
    split
    ·rfl
    split
    ·rfl
    split
    · rename_i e
      obtain⟨c,rfl,_⟩:=one ag;simp only[rD,CD];apply l c aA;rcases e with rfl|rfl
      ·obtain⟨d,b,a⟩:=i rfl;simp only[CA,mF]at b;subst b;exact a
      ·obtain⟨d,b,a⟩:=j.2.2 rfl;grind
    ·rfl
theorem Eh{l:Bool}(h:fG k w l F v=true):v.items.length<=4096:=by
 unfold fG at h;grind
theorem Y9:∀f:aq,bB f->f.fit f.zv=true/\f.wz=min 4194305 f.zv.bx
  | .mk nm au k w id ix cs,h=>by
    have ih:∀c∈cs,c.fit c.zv=true/\c.wz=min 4194305 c.zv.bx:=λc hc=>Y9 c (h.aM hc);rw[eM,aq.JG,Am];obtain⟨⟨s1,s2,s3,s4,s5,s6,s7,s8,s9,s10,s11⟩,n1,n2⟩:=h.right;have one:=λhk=>bB.one h hk;simp only[aq.k,aq.w,aq.cs,aq.au]at s1 s2 s3 s4 s5 s6 s7 s8 s9 s10 s11 n1 n2 one ⊢;generalize hl:(aq.mk nm au k w id ix cs).lets=l;have hl':l=ny k au (cs.map aq.lets):=by rw[<-hl,ym];rfl
    cases l with
    |true=>exact⟨by simpa[Da]using adJ,by simp[zb,Da,v0,aB.bx,bL]⟩
    | false =>
      have k1:k≠1:=by
        rintro rfl;simp[ny,n1.1]at hl'
      simp only[Da,zb,mG,lN]
      by_cases HJ:k=14
      ·subst HJ;have:=s3 rfl;simp[fG,aB.au,aB.num,aB.text,aB.items,aB.bx,bL]
      rw[aC HJ,aC HJ]
      by_cases LC:k=16
      · subst LC;have:=s4 rfl;obtain⟨c,rfl,hc⟩:=one aA;obtain⟨h1,h2⟩:=ih c aA;simp only[gB,rD,CD,Iq,aB.bx,Zm,h2];refine⟨?_,?_⟩
        ·simp only[fG,aB.au,aB.num,aB.text,aB.items,Ip];simp[h1,uE];omega
        · have hw:1<=w.toNat:=ag;generalize w.toNat=n at hw
          by_cases hc:c.zv.bx<=4194305
          ·grind
          ·have q2:n*4194305<=n*c.zv.bx:=Vf _ ag;grind
      rw[aC LC,aC LC]
      by_cases LB:k=17
      ·subst LB;have vZ:=s9 rfl;simp only[gB,aB.bx,ry,ES];refine⟨?_,Zk λc hc=>(ih c hc).2⟩;simp only[fG,aB.au,aB.num,aB.text,aB.items,cr,afJ λc hc=>(ih c hc).1];simp;omega
      rw[aC LB,aC LB]
      by_cases LA:k=18
      · subst LA;have vZ:=s10 rfl;obtain⟨c,oL,rfl⟩:∃c oL,cs=c::oL:=by
          cases cs with
          |nil=>simp at vZ
          |cons c oL=>simp
        obtain⟨h1,h2⟩:=ih c aA;simp only[gB,rD,Iq,aB.bx,bL,ry,h2];refine⟨?_,ag⟩
        simp only[fG,aB.au,aB.num,aB.text,aB.items,cr,iN,ry];simp[h1]
      rw[aC LA,aC LA]
      by_cases Eo:k=19\/k=20
      · obtain⟨c,rfl,hc⟩:=one ag;obtain⟨h1,h2⟩:=ih c aA;simp only[Eo,gB,rD,CD,Iq,h2];refine⟨?_,ag⟩
        have hn:c.zv.au=false:=by
          apply Za c hc;have hll:=sZ _ h;rw[hl]at hll;rcases Eo with rfl|rfl
          ·obtain⟨d,hd,D8⟩:=n2 rfl;simp only[CA,mF]at hd;subst hd;exact D8
          ·obtain⟨d,hd,D8⟩:=n1.2.2 rfl;simp only[CA,mF]at hd;subst hd;rw[<-D8];exact hll.symm
        have hlen:=h1;rw[eM]at hlen;have hlen:=Eh hlen;unfold fG;simp_all
      rw[aC Eo,aC Eo];refine⟨?_,by simp[aB.bx,bL]⟩
      simp only[not_or]at Eo;have hu:iH []=true:=rfl;unfold fG;simp only[aB.au,aB.num,aB.text,aB.items,ry,lN,mG,Eo,LA,LC,LB,HJ,hu]
      by_cases e15:k=15
      ·simp[e15]
      · by_cases e12:k=12\/k=13
        ·simp[*]
        · by_cases e2:k=2
          ·simp[e2]
          · simp only[e15,e12,HJ,e2];have:kW k 0=true:=by
              unfold kW;split
              ·rfl
              ·have hp:∀n:Nat,(0:Int)<2^n:=λn=>EH bw;grind
            grind
theorem sS(h:bB f)(b:f.small=true):f.cm=f.zv/\f.fit f.cm=true/\f.cm.bx=f.wz/\f.wz<=4194304:=by
 have a:f.wz<=4194304:=by simpa[aq.small]using b
 have e:f.cm=f.zv:=by unfold aq.cm;simp[*]
 obtain⟨c,d⟩:=Y9 f h;grind
theorem jT{x:Int×Raw}{g:Raw->Int×Raw}(h:(cW x g).1=0):x.1=0/\(g x.2).1=0/\cW x g=g x.2:=by
 unfold cW at h ⊢;grind
theorem apm{n:Bool}{r:Raw}(h:(eU n r).1=0):r.b.rows<4096/\(eU n r).2=r.up (Rb.row n):=by
 unfold eU at h ⊢;grind
theorem qk{n:Nat}{r:Raw}(h:(fE n r).1=0):r.b.bF+n<=4194304/\(fE n r).2=r.up λb=>{b with bF:=b.bF+n}:=by
 grind[fE]
theorem Rb.eq{a b:Rb}(o:a.rows=b.rows)(n:a.cz=b.cz)(k:a.bits=b.bits)(h:a.bF=b.bF)(g:a.dY=b.dY)(f:a.texts=b.texts)(e:a.ends=b.ends)(d:a.all=b.all)(c:a.aH=b.aH):a=b:=by
 cases a;cases b;simp_all
abbrev tK:=@Rb.eq
theorem lC{r:Raw}{c:Raw}(h:i<r.kids.length):(r.fo i c).aM i=c:=by
 cases r;simp only[Raw.fo,Raw.aM,Raw.kids]at h ⊢;simp[*]
theorem vJ{r:Raw}{c:Raw}:(r.fo i c).kids.length=r.kids.length:=by cases r;simp[Raw.fo,Raw.kids]
theorem aom{r:Raw}{c d:Raw}:(r.fo i c).fo i d=r.fo i d:=by cases r;simp[Raw.fo,Raw.kids,Raw.b]
theorem nv{r:Raw}{c:Raw}:(r.fo i c).b=r.b:=rfl
theorem Ba{r:Raw}{c:Raw}(h:i≠j):(r.fo i c).aM j=r.aM j:=by
 cases r;simp only[Raw.fo,Raw.aM,Raw.kids];simp[*]
theorem aon{r:Raw}(h:i<r.kids.length):r.fo i (r.aM i)=r:=by
  cases r with
  | mk b ks=>
    simp only[Raw.fo,Raw.aM,Raw.kids,Raw.b]at h⊢
    simp[*]
theorem ji{r:Raw}{g:Rb->Rb}:(r.up g).aM i=r.aM i:=by cases r;rfl
theorem jS{r:Raw}{g:Rb->Rb}:(r.up g).kids=r.kids:=by cases r;rfl
theorem gz{r:Raw}{g:Rb->Rb}:(r.up g).b=g r.b:=by cases r;rfl
theorem Raw.eq{a b:Raw}(d:a.b=b.b)(c:a.kids=b.kids):a=b:=by
 cases a;cases b;simp only[Raw.b,Raw.kids]at d c;rw[d,c]
def dW(c:aq)(g:Raw->Int×Raw)(x:aB):Prop:=∀vs,c.can vs->(g (c.st vs)).1=0->c.can (vs++[x])/\(g (c.st vs)).2=c.st (vs++[x])
theorem vV{g:Raw->Int×Raw}{Y:aB}(b:dW c g Y){r:Raw}{i:Nat}{kv:aR}(a:r.aM i=c.st kv)(d:c.can kv)(h:(dm i g r).1=0):c.can (kv++[Y])/\(dm i g r).2=r.fo i (c.st (kv++[Y])):=by
 unfold dm at h ⊢;rw[a]at h ⊢;obtain⟨f,e⟩:=b kv d h;simp[*]
theorem FT{G:aB->Raw->Int×Raw}:∀{xs:aR},(∀x∈xs,dW c (G x) x)->∀{r:Raw}{kv:aR},i<r.kids.length->r.aM i=c.st kv->c.can kv->(fu (xs.map λx=>dm i (G x)) r).1=0->
    c.can (kv++xs)/\(fu (xs.map λx=>dm i (G x)) r).2=r.fo i (c.st (kv++xs))
  |[],_,r,kv,a,b,d,_=>by rw[qA];exact⟨d,by rw[<-b,aon a];rfl⟩
  | x::xs,f,r,kv,a,b,d,h=>by
    simp only[rD,fu]at h ⊢;obtain⟨m,g,l⟩:=jT h;obtain⟨j,e⟩:=vV (f x aA) b d m;rw[l,e];rw[e]at g;have:=FT (λy k=>f y (by simp[k])) (by rw[vJ];exact a) (lC a) j g
    grind[List.append_assoc,aom]
theorem Kb:∀(a:List (Raw->Int×Raw))(g:Raw->Int×Raw)(r:Raw),fu (a++[g]) r=cW (fu a r) g
  | [],g,r=>by
    simp only[Az,fu,cW];grind
  | f::a,g,r=>by
    simp only[yA,fu,cW];split
    ·rw[Kb a g];rfl
    simp
theorem EC{cs:cN}{G:Nat->Raw->Int×Raw}{x:Nat->aB}{kv:Nat->List aB}{r:Raw}(hl:r.kids.length=cs.length)(j:∀i c,cs[i]? =some c->r.aM i=c.st (kv i)/\c.can (kv i))(k:∀i c,cs[i]? =some c->dW c (G i) (x i)):∀m,m<=cs.length->(fu ((List.range m).map λi=>dm i (G i)) r).1=0->(fu ((List.range m).map λi=>dm i (G i)) r).2.b=r.b/\(fu ((List.range m).map λi=>dm i (G i)) r).2.kids.length=cs.length/\
      ∀i c,cs[i]? =some c->(i<m->c.can (kv i++[x i]))/\(fu ((List.range m).map λi=>dm i (G i)) r).2.aM i=if i<m then c.st (kv i++[x i])else c.st (kv i)
  |0,_,_=>⟨rfl,hl,λi c d=>⟨λq=>ag,by rw[ay];exact(j i c d).1⟩⟩
  | m+1,y,h=>by
    rw[uX,kq,Io,Kb]at h ⊢;obtain⟨t,s,p⟩:=jT h;obtain⟨w,v,l⟩:=EC hl j k m ag t;have a:cs[m]? =some cs[m]:=aA;have f:=(l m _ a).2;rw[ay]at f;obtain⟨o,n⟩:=vV (k m _ a) f (j m _ a).2 s;rw[p,n];refine⟨w,by rw[vJ];exact v,λi c d=>?_⟩
    by_cases e:i=m
    ·subst e;rw[a]at d;cases d;exact⟨λ_=>o,by rw[lC ag,dV]⟩
    ·obtain⟨u,b2⟩:=l i c d;refine⟨λq=>u ag,?_⟩;grind[Ba]
theorem kB{l:Bool}(h:fG k w l F v=true)(a:v.au=true):v=v0/\l=true:=by
 unfold fG at h;simp only[a,gB,dw,dR]at h;obtain⟨_,⟨⟨d,c⟩,b⟩,e⟩:=h;obtain⟨n,x,t,s⟩:=v;simp only[aB.num,jB]at a d c b;subst a d c b;exact⟨rfl,e⟩
theorem Py:v0.bx=16:=rfl
theorem lS(vs:aR)(v:aB):bL (vs++[v])=bL vs+v.bx:=by rw[pq];simp[bL]
theorem tJ{vs:aR}(h:f.can vs)(g:f.fit v=true)(l:vs.length<4096)(b:bL vs+v.bx<=4194304)(tx:f.k=12\/f.k=13->(vs.flatMap aB.text).length+v.text.length<=65536)
  (ds:f.k=19->(dS (vs++[v])).length<=oK f.ix) (aM:∀(j:Nat)c,f.cs[j]? =some c->c.can (dK f.k f.w (dJ f.cs) j (vs++[v]))):f.can (vs++[v]):=by
 refine(gj f _).2 ⟨λu d=>?_,by simp;omega,by rw[lS];exact b,λe=>bZ,ds,λj o a=>?_⟩
 ·rcases nh.1 d with q|q
  ·exact((gj f vs).1 h).fit u q
  grind
 ·rw[eY,tV]at a;obtain⟨c,i,rfl⟩:=a;simp[*]
theorem sR{vs:aR}{r:Raw}(g:r.b=aL f.k vs)(hl:r.kids.length=f.cs.length)(e:∀(j:Nat)c,f.cs[j]? =some c->r.aM j=c.st (dK f.k f.w (dJ f.cs) j vs)):r=f.st vs:=by
  rw[Ik];refine Raw.eq g (qz λj=>?_)
  show r.kids[j]? =((List.range f.cs.length).map _)[j]?
  rw[eY]
  by_cases a:j<f.cs.length
  · have d:f.cs[j]? =some f.cs[j]:=aA;have:=e j _ d;rw[EM a];simp only[pP,gV,eY,d,pQ];rw[<-this];cases r with
    | mk b ks=>
      have h:ks.length=f.cs.length:=hl
      show ks[j]? =some (ks.getD j r0)
      simp[*]
  simp[*]
theorem fI(f:aq)(vs:aR):(f.st vs).b=aL f.k vs:=by rw[Ik];rfl
theorem anD(f:aq)(vs:aR):(f.st vs).kids.length=f.cs.length:=by rw[Ik];simp[Raw.kids]
theorem sU(k:Int)(vs:aR)(v:aB)(n:Bool):((aL k vs).row n).rows=(aL k (vs++[v])).rows:=by simp[Rb.row,aL]
theorem sV{vs:aR}{n:Bool}(h:eG k v=n):((aL k vs).row n).cz=(aL k (vs++[v])).cz:=by
 simp only[Rb.row,aL];grind
theorem qP{vs:aR}{n:Bool}(h:eG k v=n):((aL k vs).row n).bits=(aL k (vs++[v])).bits:=by
 rw[Rb.qP];simp only[aL,kq,rD,CD,aqr,cr,h]
theorem mP(vs:aR):(fL k=false->(aL k vs).dY=[]/\(aL k vs).texts=[])/\(¬(k=12\/k=13\/k=15\/k=18\/k=19\/k=20)->(aL k vs).ends=[])/\(¬(k=12\/k=13\/k=18)->(aL k vs).all=[])/\(¬(k=19\/k=20)->(aL k vs).aH=[]):=by
 refine⟨λh=>by simp[aL,h],λh=>?_,λh=>?_,λh=>?_⟩ <;> simp only[not_or]at h <;> simp[aL,h]
structure jq(f:aq)(vs:aR)(v:aB)(n:Bool)(r1:Raw):Prop where
 lt:vs.length<4096
 b:r1.b=(aL f.k vs).row n
 kids:r1.kids=(f.st vs).kids
theorem jq.of{vs:aR}{n:Bool}(h:(eU n (f.st vs)).1=0):jq f vs v n (eU n (f.st vs)).2:=by
 obtain⟨b,a⟩:=apm h;rw[fI]at b;exact⟨b,by rw[a,gz,fI],by rw[a,jS]⟩
theorem jq.aM{vs:aR}{n:Bool}{a:Raw}(R:jq f vs v n a){j:Nat}{c:aq}(u:f.cs[j]? =some c):a.aM j=c.st (dK f.k f.w (dJ f.cs) j vs):=by
 rw[<-mY u];unfold Raw.aM;rw[R.kids]
theorem jq.len{vs:aR}{n:Bool}{h:Raw}(R:jq f vs v n h):h.kids.length=f.cs.length:=by rw[R.kids,anD]
theorem qp(c:aq)(vs:aR):(c.st vs).b.bF=bL vs:=by rw[fI];rfl
theorem zm(c:aq)(vs:aR):(c.st vs).b.rows=vs.length:=by rw[fI];rfl
theorem Z6(T:bB f)(S:f.k≠15/\f.k≠16/\f.k≠17/\f.k≠18/\f.k≠19/\f.k≠20){v:aB}(i:f.fit v=true):dW f (λr=>f.tk r v) v:=by
  intro vs O h;dsimp only at h ⊢;obtain⟨q,p,o,l,n,m⟩:=S;have a:f.cs=[]:=by
    have:=T.right.1.2.2.2.2.2.2.2.2.2.2 ⟨q,p,n,m,o,l⟩;exact jB.1 this
  rw[kG]at h ⊢;rw[eM]at i;have A:f.fit v=true:=by rw[eM];exact i
  unfold iI at h⊢
  by_cases x:f.k=1
  · simp only[aK x]at h ⊢;obtain⟨I,y,H⟩:=jT h;have R:=jq.of (v:=v) I;obtain⟨u,E⟩:=qk y;have t:v.au=true:=by
      cases t:v.au with
      |true=>rfl
      |false=>unfold fG at i;simp[t,x]at i
    obtain⟨rfl,_⟩:=kB i t;rw[R.b]at u;have w:eG f.k v0=true:=by simp[eG,x]
    refine⟨tJ O A R.lt ?_ ag ag λj c d=>bZ,?_⟩
    ·have:((aL f.k vs).row true).bF=bL vs:=rfl;rw[Py];omega
    · rw[H,E];refine sR ?_ (by rw[jS,R.len]) λj c d=>bZ
      rw[gz,R.b];obtain⟨C,L,K,F⟩:=mP vs;obtain⟨D,N,M,G⟩:=mP _;have s:fL f.k=false:=by simp[fL,x]
      refine tK (sU f.k vs v0 true) (sV w) (qP w) ?_ ((C s).1.trans (D s).1.symm) ((C s).2.trans (D s).2.symm) ((L ag).trans (N ag).symm) ((K ag).trans (M ag).symm) ((F ag).trans (G ag).symm)
      show bL vs+16=bL _
      rw[lS,Py]
  simp only[aC x]at h⊢
  by_cases g:f.k=12\/f.k=13
  · simp only[aK g]at h ⊢;obtain⟨I,y,H⟩:=jT h;have R:=jq.of (v:=v) I;rw[H];have Q:(eU v.au (f.st vs)).2.b.all=vs.flatMap aB.text:=by rw[R.b];show(aL f.k vs).all=_;simp[aL,g]
    rw[Q]at y ⊢;split at y
    ·simp at y
    rename_i P
    rw[aC P];obtain⟨u,E⟩:=qk y;rw[gz,R.b]at u;have u:bL vs+(16+v.text.length)<=4194304:=u;have B:v.items=[]:=by
      cases t:v.au with
      |true=>rw[(kB i t).1];rfl
      | false=>
        unfold fG at i;grind
    have z:v.bx=16+v.text.length:=by rw[hO,B];rfl
    have w:eG f.k v=v.au:=by unfold eG;simp[*]
    refine⟨tJ O A R.lt ag (λ_=>ag) ag λj c d=>bZ,?_⟩
    rw[E];refine sR ?_ (by rw[jS,jS,R.len]) λj c d=>bZ
    rw[gz,gz,R.b];obtain⟨C,L,K,F⟩:=mP vs;obtain⟨D,N,M,G⟩:=mP (vs++[v]);have s:fL f.k=false:=by rcases g with e|e <;> simp[fL,e]
    refine tK (sU f.k vs v v.au) (sV w) (qP w) ?_ ((C s).1.trans (D s).1.symm) ((C s).2.trans (D s).2.symm) ?_ ?_ ((F ag).trans (G ag).symm)
    · show bL vs+(16+v.text.length)=bL (vs++[v])
      rw[lS,z]
    · show(aL f.k vs).ends++[(aL f.k vs).all.length+v.text.length]=(aL f.k (vs++[v])).ends
      simp only[aL,aK g,J1];simp
    · show(aL f.k vs).all++v.text=(aL f.k (vs++[v])).all
      simp[aL,g]
  simp only[aC g,aC q,aC p,aC o,aC l,aC n,aC m]at h ⊢;obtain⟨I,y,H⟩:=jT h;have R:=jq.of (v:=v) I;rw[H];obtain⟨u,E⟩:=qk y;rw[gz,R.b]at u;have u:bL vs+(16+v.text.length)<=4194304:=u;have B:v.items=[]:=by
    cases t:v.au with
    |true=>rw[(kB i t).1];rfl
    | false=>
      unfold fG at i
      grind
  have z:v.bx=16+v.text.length:=by rw[hO,B];rfl
  have w:eG f.k v=v.au:=by unfold eG;simp[*]
  refine⟨tJ O A R.lt ag ag ag λj c d=>bZ,?_⟩
  rw[E];refine sR ?_ (by rw[jS,jS,R.len]) λj c d=>bZ
  rw[gz,gz,R.b];obtain⟨C,L,K,F⟩:=mP vs;obtain⟨D,N,M,G⟩:=mP (vs++[v]);have s:fL f.k=true:=by
    simp only[not_or]at g;simp[fL,x,g,q,p,o,l,n,m]
  refine tK (sU f.k vs v v.au) (sV w) (qP w) ?_ ?_ ?_ ((L ag).trans (N ag).symm) ((K ag).trans (M ag).symm) ((F ag).trans (G ag).symm)
  · show bL vs+(16+v.text.length)=bL (vs++[v])
    rw[lS,z]
  · show(aL f.k vs).dY++_=(aL f.k (vs++[v])).dY
    simp[aL,s]
  · show(aL f.k vs).texts++_=(aL f.k (vs++[v])).texts
    simp[aL,s]
theorem Ac{vs:aR}:dK 15 w X j vs=vs.flatMap aB.items:=by simp[dK]
theorem Ca{vs:aR}:dK 16 w X j vs=vs.flatMap λv=>if v.au then List.replicate w.toNat (X.getD 0 v0)else v.items:=by simp[dK]
theorem Et{vs:aR}:dK 17 w X j vs=vs.map λv=>if v.au then X.getD j v0 else v.items.getD j v0:=by simp[dK]
theorem Es{vs:aR}:dK 18 w X j vs=(vs.filter λv=>decide (fO v=j)).map λv=>v.items.getD 0 v0:=by simp[dK]
theorem B9{vs:aR}:dK 19 w X j vs=dS vs:=by simp[dK]
theorem Er{vs:aR}:dK 20 w X j vs=(cR vs).1:=by simp[dK]
theorem Sr(vs:aR):(vs.map aB.bx).sum=bL vs:=(FI vs).symm
theorem Br(a:f.cs=[c]){j:Nat}{d:aq}(h:f.cs[j]? =some d):j=0/\d=c:=by
 grind
theorem adK(b:f.cs=[c])(g:f.k=15){v:aB}(a:f.fit v=true):v.text=[]/\∀x∈v.items,c.fit x=true:=by
  rw[eM]at a;cases d:v.au with
  |true=>rw[(kB a d).1];exact⟨rfl,λx e=>by simp[v0,aB.items]at e⟩
  | false=>
    simp_all[fG]
theorem Ll(b:f.cs=[c])(e:f.k=16){v:aB}(a:f.fit v=true)(d:v.au=false):v.text=[]/\v.items.length=f.w.toNat/\∀x∈v.items,c.fit x=true:=by
 rw[eM]at a;simp_all[fG]
theorem afL:∀{F:List (aB->Bool)}{vs:aR},sA F vs=true->F.length=vs.length/\∀(i:Nat)g,F[i]? =some g->g (vs.getD i v0)=true
  |[],[],_=>⟨rfl,λi g h=>by simp at h⟩
  |[],_::_,h=>by simp[sA]at h
  |_::_,[],h=>by simp[sA]at h
  | g::F,v::vs,h=>by
    simp only[sA,dw]at h;obtain⟨c,b⟩:=afL h.2;refine⟨by simp[c],λi d a=>?_⟩
    cases i with
    |zero=>grind
    |succ i=>simp at a;grind
theorem Eg(h:f.k=17){v:aB}(a:f.fit v=true)(d:v.au=false):v.text=[]/\v.items.length=f.cs.length/\∀(i:Nat)c,f.cs[i]? =some c->c.fit (v.items.getD i v0)=true:=by
 rw[eM]at a;unfold fG at a;rw[h]at a;simp[d]at a;obtain⟨g,e⟩:=afL a.2.2.2;simp_all
theorem Lo(j:f.k=18)(hl:f.lets=false){v:aB}(a:f.fit v=true):v.au=false/\v.text=[]/\0<=v.num/\∃c x,f.cs[fO v]? =some c/\v.items=[x]/\c.fit x=true:=by
  rw[eM]at a;cases g:v.au with
  |true=>have:=(kB a g).2;grind
  | false=>
    unfold fG at a;rw[j]at a;simp[g]at a;obtain⟨_,m,l,o,i,h⟩:=a;have b:fO v<f.cs.length:=by unfold fO;omega
    obtain⟨x,d⟩:∃x,v.items=[x]:=by
      match n:v.items,i with
      |[x],_=>simp
    refine⟨rfl,m,l,f.cs[fO v],x,bJ b,d,?_⟩;have e:v.num.toNat=fO v:=rfl;simp_all
theorem sX(a:f.k≠1)(b:f.k≠18)(oa:f.k≠20):eG f.k v=v.au:=by unfold eG;simp[*]
theorem anv(X:bB f)(a:f.cs=[c])(l:f.k=15)(U:∀x,c.fit x=true->dW c (λr=>c.tk r x) x){v:aB}(A:f.fit v=true):dW f (λr=>f.tk r v) v:=by
 intro vs B h;dsimp only at h ⊢;have n:f.cs[0]? =some c:=by rw[a];rfl
 rw[kG]at h ⊢;unfold iI at h ⊢;rw[ay,ay,aK l]at h ⊢;obtain⟨T,D,S⟩:=jT h;have R:=jq.of (v:=v) T;rw[S];have hT:(f.cs.map aq.tk).getD 0 oG=c.tk:=by rw[a];rfl
 rw[hT]at D ⊢;obtain⟨Q,C,P⟩:=jT D;obtain⟨M,N⟩:=adK a l A;have m:=R.aM n;obtain⟨F,E⟩:=FT (λx L=>U x (N x L)) (by rw[R.len,a];simp) m (fC n B) Q
 rw[P];rw[E]at C ⊢;obtain⟨o,t⟩:=qk C;have g:0<(eU v.au (f.st vs)).2.kids.length:=by rw[R.len,a];simp
 have O:eL (((eU v.au (f.st vs)).2).fo 0 (c.st (dK f.k f.w (dJ f.cs) 0 vs++v.items))) 0-eL (eU v.au (f.st vs)).2 0=bL v.items:=by
  unfold eL;rw[lC g,m,qp,qp,pq];omega
 rw[O]at o t ⊢;rw[gz,nv,R.b]at o;have o:bL vs+(16+bL v.items)<=4194304:=o;have s:v.bx=16+bL v.items:=by rw[hO,M];rfl
 have u:eG f.k v=v.au:=sX ag ag ag;have e:dK f.k f.w (dJ f.cs) 0 (vs++[v])=dK f.k f.w (dJ f.cs) 0 vs++v.items:=by rw[l,Ac,Ac];simp
 refine⟨tJ B A R.lt ag ag ag λj d q=>?_,?_⟩
 ·grind[Br]
 ·rw[t];refine sR ?_ (by rw[jS,jS,vJ,R.len]) λj d q=>?_
  ·rw[gz,gz,nv,R.b];obtain⟨y,V,I,H⟩:=mP vs;obtain⟨z,W,K,J⟩:=mP _;have p:fL f.k=false:=by rw[l];rfl
   refine tK (sU f.k vs v v.au) (sV u) (qP u) ?_ ((y p).1.trans (z p).1.symm) ((y p).2.trans (z p).2.symm) ?_ ((I ag).trans (K ag).symm) ((H ag).trans (J ag).symm)
   ·show bL vs+(16+bL v.items)=bL _
    rw[lS,s]
   ·show(aL f.k vs).ends++[((((eU v.au _).2).fo 0 _).aM 0).b.rows]=(aL f.k (vs++[v])).ends
    rw[lC g,zm,<-e,l,Ac];simp[aL,J1,Cw]
  grind[Br,ji,lC]
theorem Ki{α β:Type}(n:Nat)(a:α)(b:β):List.replicate n b=(List.replicate n a).map λ_=>b:=aA
theorem aag(a:f.cs=[c])(S:f.k=16){vs:aR}{v:aB}{n:Bool}{m:Raw}(R:jq f vs v n m)(E:f.can vs)(Q:f.fit v=true)(D:eG f.k v=n){l:aR}{G:aB->Raw->Int×Raw}(O:∀x∈l,dW c (G x) x)
  (o:dK f.k f.w (dJ f.cs) 0 (vs++[v])=dK f.k f.w (dJ f.cs) 0 vs++l) {s:Raw->Nat} (P:∀e,(∃C,e=m.fo 0 (c.st C)/\C=dK f.k f.w (dJ f.cs) 0 vs++l)->s e=v.bx) (h:(cW (fu (l.map λx=>dm 0 (G x)) m) λe=>fE (s e) e).1=0):f.can (vs++[v])/\(cW (fu (l.map λx=>dm 0 (G x)) m) λe=>fE (s e) e).2=f.st (vs++[v]):=by
 have p:f.cs[0]? =some c:=by rw[a];rfl
 obtain⟨U,u,T⟩:=jT h;have g:0<m.kids.length:=by rw[R.len,a];simp
 obtain⟨H,z⟩:=FT O g (R.aM p) (fC p E) U;rw[T];have y:=P _ ⟨_,z,rfl⟩;rw[y]at u ⊢;rw[z]at u ⊢;obtain⟨q,F⟩:=qk u;rw[nv,R.b]at q;have q:=q;refine⟨tJ E Q R.lt q ag ag λj d t=>?_,?_⟩
 ·grind
 ·rw[F];refine sR ?_ (by rw[jS,vJ,R.len]) λj d t=>?_
  ·rw[gz,nv,R.b];obtain⟨A,K,J,I⟩:=mP vs;obtain⟨B,N,M,L⟩:=mP _;have r:fL f.k=false:=by rw[S];rfl
   refine tK (sU f.k vs v n) (sV D) (qP D) ?_ ((A r).1.trans (B r).1.symm) ((A r).2.trans (B r).2.symm) ((K ag).trans (N ag).symm) ((J ag).trans (M ag).symm) ((I ag).trans (L ag).symm)
   show bL vs+v.bx=bL _
   rw[lS]
  grind[Br,ji,lC]
theorem Ht(a:f.cs=[c]){vs:aR}{v:aB}{n:Bool}{d i:Raw}(R:jq f vs v n d){kv h:aR}(j:i=d.fo 0 (c.st kv))(e:kv=dK f.k f.w (dJ f.cs) 0 vs++h):eL i 0-eL d 0=bL h:=by
 have g:f.cs[0]? =some c:=by rw[a];rfl
 have b:0<d.kids.length:=by rw[R.len,a];simp
 subst j e;unfold eL;rw[lC b,R.aM g,qp,qp,pq];omega
theorem ant(C:bB f)(a:f.cs=[c])(d:f.k=16)(z:∀x,c.fit x=true->dW c (λr=>c.tk r x) x)(y:dW c c.zk c.cm){v:aB}(g:f.fit v=true):dW f (λr=>f.tk r v) v:=by
  intro vs n h;dsimp only at h ⊢;rw[kG]at h ⊢;unfold iI at h ⊢;rw[ay,ay,ay,aK d]at h ⊢;obtain⟨t,e,s⟩:=jT h;have R:=jq.of (v:=v) t;rw[s];have hT:(f.cs.map aq.tk).getD 0 oG=c.tk:=by rw[a];rfl
  have q:(f.cs.map aq.zk).getD 0 oz=c.zk:=by rw[a];rfl
  have hN:(dJ f.cs).getD 0 v0=c.cm:=by rw[a];rfl
  rw[hT,q]at e ⊢;have i:eG f.k v=v.au:=sX ag ag ag;cases b:v.au with
  | true=>
    simp only[b,gB]at e ⊢;rw[b]at R i;have l:v=v0:=by rw[eM]at g;exact(kB g b).1
    rw[Ki f.w.toNat c.cm]at e ⊢;exact aag a d R n g i (λx j=>by simp_all) (by rw[d,Ca,Ca,hN];simp[b]) (λ_ _=>by rw[l];rfl) e
  | false=>
    simp only[b,mG]at e ⊢;rw[b]at R i;obtain⟨o,hl,p⟩:=Ll a d g b;refine aag a d R n g i (λx j=>z x (p x j)) (by rw[d,Ca,Ca,hN];simp[b]) (λA m=>?_) e
    grind[Ht,hO]
theorem sum_add(g h:Nat->Nat):∀n,((List.range n).map λi=>g i+h i).sum=((List.range n).map g).sum+((List.range n).map h).sum
  |0=>rfl
  | n+1=>by
    rw[uX,kq,kq,kq,Im,Im,Im,sum_add g h n];simp;omega
theorem J3{g h:Nat->Nat}{n:Nat}(e:∀i,i<n->g i=h i):((List.range n).map g).sum=((List.range n).map h).sum:=by
 grind[List.map_congr_left]
theorem FO{α:Type}(g:α->Nat)(d:α):∀l:List α,((List.range l.length).map λi=>g (l.getD i d)).sum=(l.map g).sum
  |[]=>rfl
  | a::l=>by
    rw[iN,List.range_succ_eq_map,rD,My,Vg,rD,Vg]
    congr 1
    rw[<-FO g d l];rfl
theorem qm(r:Raw):total r=((List.range r.kids.length).map λi=>(r.aM i).b.bF).sum:=by
 unfold total Raw.aM;rw[FO (λc:Raw=>c.b.bF)]
theorem Z4(Q:f.k=17){vs:aR}{v:aB}{n:Bool}{l:Raw}(R:jq f vs v n l)(E:f.can vs)(P:f.fit v=true)(D:eG f.k v=n){x:Nat->aB}{G:Nat->Raw->Int×Raw}(N:∀i c,f.cs[i]? =some c->dW c (G i) (x i))
  (o:∀i,i<f.cs.length->dK f.k f.w (dJ f.cs) i (vs++[v])=dK f.k f.w (dJ f.cs) i vs++[x i]) {s:Raw->Nat} (O:∀e,(total e-total l=((List.range f.cs.length).map λi=>(x i).bx).sum)->s e=v.bx) (h:(cW (fu ((List.range f.cs.length).map λi=>dm i (G i)) l) λe=>fE (s e) e).1=0):f.can (vs++[v])/\(cW (fu ((List.range f.cs.length).map λi=>dm i (G i)) l) λe=>fE (s e) e).2=f.st (vs++[v]):=by
 obtain⟨V,t,U⟩:=jT h;obtain⟨z,y,u⟩:=EC R.len (λi c a=>⟨R.aM a,fC a E⟩) N f.cs.length (bX _) V;rw[U];generalize(fu ((List.range f.cs.length).map λi=>dm i (G i)) l).2=e at t z y u;have g:∀(i:Nat)c,f.cs[i]? =some c->e.aM i=c.st (dK f.k f.w (dJ f.cs) i vs++[x i]):=bZ
 have T:total e-total l=((List.range f.cs.length).map λi=>(x i).bx).sum:=by
  rw[qm,qm,y,R.len];have W:((List.range f.cs.length).map λi=>(e.aM i).b.bF).sum=((List.range f.cs.length).map λi=>(l.aM i).b.bF+(x i).bx).sum:=J3 λi S=>by
   have a:f.cs[i]? =some f.cs[i]:=aA;rw[g i _ a,R.aM a,qp,qp,lS]
  rw[W,sum_add];omega
 have A:=O e T;rw[A]at t ⊢;obtain⟨q,F⟩:=qk t;rw[z,R.b]at q;have q:=q;refine⟨tJ E P R.lt q ag ag λj d m=>?_,?_⟩
 ·grind
 ·rw[F];refine sR ?_ (by rw[jS,y]) λj d m=>?_
  ·rw[gz,z,R.b];obtain⟨B,J,I,H⟩:=mP vs;obtain⟨C,M,L,K⟩:=mP _;have r:fL f.k=false:=by rw[Q];rfl
   refine tK (sU f.k vs v n) (sV D) (qP D) ?_ ((B r).1.trans (C r).1.symm) ((B r).2.trans (C r).2.symm) ((J ag).trans (M ag).symm) ((I ag).trans (L ag).symm) ((H ag).trans (K ag).symm)
   show bL vs+v.bx=bL _
   rw[lS]
  grind[ji,List.getElem?_eq_some_iff]
theorem mV{α:Type}{cs:cN}{g:aq->α}{d:α}(h:cs[i]? =some c):(cs.map g).getD i d=g c:=by
 simp[*]
theorem anr(y:bB f)(d:f.k=17)(u:∀c∈f.cs,∀x,c.fit x=true->dW c (λr=>c.tk r x) x)(t:∀c∈f.cs,dW c c.zk c.cm){v:aB}(e:f.fit v=true):dW f (λr=>f.tk r v) v:=by
  intro vs o h;dsimp only at h ⊢;rw[kG]at h ⊢;unfold iI at h ⊢;rw[ay,ay,ay,ay,aK d]at h ⊢;obtain⟨s,g,q⟩:=jT h;have R:=jq.of (v:=v) s;rw[q];rw[cr]at g ⊢;have j:eG f.k v=v.au:=sX ag ag ag;cases b:v.au with
  | true=>
    simp only[b,gB]at g ⊢;rw[b]at R j;have m:v=v0:=by rw[eM]at e;exact(kB e b).1
    refine Z4 d R o e j (x:=λi=>(dJ f.cs).getD i v0) (λi c a=>?_) (λi l=>by rw[d,Et,Et];simp[b]) (λ_ _=>by rw[m];rfl) g
    rw[mV a,dJ,mV a];grind
  | false=>
    simp only[b,mG,lN]at g ⊢;rw[b]at R j;obtain⟨p,hl,l⟩:=Eg d e b;refine Z4 d R o e j (x:=λi=>v.items.getD i v0) (λi c a=>?_) (λi l=>by rw[d,Et,Et];simp[b]) (λw n=>?_) g
    ·rw[mV a];grind
    ·rw[n,<-hl,FO aB.bx v0,Sr,hO,p];rfl
theorem aI0{α:Type}{l m:List α}{d:α}(h:i<l.length):(l++m).getD i d=l.getD i d:=by
 grind
theorem auV{α:Type}{l:List α}{d a:α}:(l++[a]).getD l.length d=a:=by
 simp
theorem asy(z:f.k=18){vs:aR}{v x:aB}{a:Nat}{g:Raw->Int×Raw}(m:fO v=a)(t:v.items=[x])(P:v.text=[])(n:f.cs[a]? =some c)(S:dW c g x)(C:f.can vs)(O:f.fit v=true)
  (h:(th a g (f.st vs)).1=0):f.can (vs++[v])/\(th a g (f.st vs)).2=f.st (vs++[v]):=by
 unfold th at h ⊢;obtain⟨X,W,V⟩:=jT h;have R:=jq.of (v:=v) X;rw[V];obtain⟨I,A,U⟩:=jT W;rw[U];generalize(eU false (f.st vs)).2=p at R I A;have u:a<p.kids.length:=by rw[R.len];exact(de.1 n).1
 obtain⟨L,K⟩:=vV S (by rw[ji];exact R.aM n) (fC n C) I
 rw[K]at A ⊢;have o:a<(p.up λb=>{b with all:=b.all++[UInt8.ofNat a],ends:=b.ends++[(p.aM a).b.rows]}).kids.length:=by rw[jS];exact u
 have T:eL ((p.up λb=>{b with all:=b.all++[UInt8.ofNat a],ends:=b.ends++[(p.aM a).b.rows]}).fo a (c.st (dK f.k f.w (dJ f.cs) a vs++[x]))) a-eL p a=x.bx:=by
  unfold eL;rw[lC o,R.aM n,qp,qp,lS];omega
 rw[T]at A ⊢;obtain⟨B,J⟩:=qk A;rw[nv,gz,R.b]at B;have B:bL vs+(16+x.bx)<=4194304:=B;have D:v.bx=16+x.bx:=by rw[hO,P,t];simp[bL]
 have F:eG f.k v=false:=by unfold eG;grind
 have l:∀j,dK f.k f.w (dJ f.cs) j (vs++[v])=if j=a then dK f.k f.w (dJ f.cs) j vs++[x]else dK f.k f.w (dJ f.cs) j vs:=by
  intro j;rw[z,Es,Es];simp only[List.filter_append,kq];split
  ·grind
  ·grind
 refine⟨tJ C O R.lt ag ag ag λj d s=>?_,?_⟩
 ·grind[aq.Us]
 ·rw[J];refine sR ?_ (by rw[jS,vJ,jS,R.len]) λj d s=>?_
  ·rw[gz,nv,gz,R.b];obtain⟨G,Z,Y,M⟩:=mP vs;obtain⟨H,m2,m3,N⟩:=mP _;have y:fL f.k=false:=by rw[z];rfl
   refine tK (sU f.k vs v false) (sV F) (qP F) ?_ ((G y).1.trans (H y).1.symm) ((G y).2.trans (H y).2.symm) ?_ ?_ ((M ag).trans (N ag).symm)
   ·show bL vs+(16+x.bx)=bL _
    rw[lS,D]
   ·show(aL f.k vs).ends++[(p.aM a).b.rows]=(aL f.k _).ends
    rw[R.aM n,zm,z,Es];simp only[aL];simp only[show¬((18:Int)=15) by omega,gB]
    rw[iA,jC,uX,kq]
    congr 1
    ·grind[List.map_congr_left]
    ·simp[auV,m]
   ·show(aL f.k vs).all++[UInt8.ofNat a]=(aL f.k (vs++[v])).all
    rw[z];simp[aL,m]
  ·rw[ji]
   by_cases e:j=a
   ·simp_all[lC,aK]
   ·rw[Ba (λq=>e q.symm),ji,R.aM s,l,aC e]
theorem anz(i:bB f)(b:f.k=18)(o:∀c∈f.cs,∀x,c.fit x=true->dW c (λr=>c.tk r x) x){v:aB}(d:f.fit v=true):dW f (λr=>f.tk r v) v:=by
 intro vs m h;dsimp only at h ⊢;rw[kG]at h ⊢;unfold iI at h ⊢;rw[ay,ay,ay,ay,ay,aK b]at h ⊢;have hl:f.lets=false:=by rw[sZ f i];exact i.right.2.1.2.1 b
 obtain⟨_,l,_,c,x,a,g,j⟩:=Lo b hl d;have e:v.num.toNat=fO v:=rfl;have n:(f.cs.map aq.tk).getD _ oG=c.tk:=mV a;rw[e,n,g]at h ⊢;exact asy b rfl g l a (o c (bT a) x j) m d h
theorem DG:∀{l:aR}{i:Nat},gu v l=some i->l[i]? =some v/\∀j,j<i->l[j]? ≠some v
  |[],i,h=>by simp[gu]at h
  | x::f,i,h=>by
    unfold gu at h;split at h
    ·grind
    · rename_i e
      rw[tV]at h;obtain⟨k,a,rfl⟩:=h;obtain⟨d,c⟩:=DG a;grind
theorem vQ:∀{l:aR},gu v l=none↔v∉l
  |[]=>by simp[gu]
  | x::a=>by
    unfold gu;split
    ·simp[*]
    · rename_i e
      rw[Option.map_eq_none_iff,vQ];grind
theorem QB{m:aR}:∀{l:aR}{i:Nat},gu v l=some i->gu v (l++m)=some i
  |[],i,h=>by simp[gu]at h
  | x::b,i,h=>by
    unfold gu at h;simp only[yA];unfold gu;split
    ·grind
    · rename_i e
      rw[aC e,tV]at h;obtain⟨k,a,rfl⟩:=h;rw[QB a];rfl
theorem QA:∀{l:aR},gu v l=none->gu v (l++[v])=some l.length
  |[],_=>by simp[gu]
  | x::a,h=>by
    unfold gu at h;split at h
    ·cases h
    · rename_i e
      rw[Option.map_eq_none_iff]at h;simp only[yA];unfold gu;rw[aC e,QA h];rfl
theorem awh{l:aR}{Y:aB}(h:Y∈l):Y∈q9 l v:=by
 unfold q9;grind
theorem awg{l:aR}(h:v.au=false):v∈q9 l v:=by
 unfold q9;rw[aC (by simp[h])]
 split
 ·rename_i i a;exact bT (DG a).1
 ·simp
theorem KC:∀(n:Nat)(vs:aR),vs.length=n->∀u∈vs,u.au=false->u∈dS vs
  | 0,vs,b,u,d,_=>by
    grind
  | n+1,vs,b,u,d,h=>by
    have a:vs≠[]:=by intro e;subst e;simp at b
    obtain⟨c,w,rfl⟩:∃c w,vs=c++[w]:=⟨vs.dropLast,vs.getLast a,(At a).symm⟩;rw[xP];rcases nh.1 d with q|q
    ·exact awh (KC n c bZ u q h)
    grind[awg]
theorem Bf:∀(n:Nat)(vs:aR),vs.length=n->(cR vs).2.getLastD 0=vs.length/\(cR vs).1.length=(cR vs).2.length
  | 0,vs,c=>by
    have:vs=[]:=uZ c;subst this;exact⟨rfl,rfl⟩
  | n+1,vs,c=>by
    have b:vs≠[]:=by intro e;subst e;simp at c
    obtain⟨a,w,rfl⟩:∃a w,vs=a++[w]:=⟨vs.dropLast,vs.getLast b,(At b).symm⟩;obtain⟨f,d⟩:=Bf n a (by simp at c;omega)
    grind[Be,xg,List.eq_nil_of_length_eq_zero,List.length_pos_iff,List.getLastD_concat,List.length_append,List.length_dropLast,List.length_singleton]
theorem Lm(b:f.cs=[c])(e:f.k=19\/f.k=20){v:aB}(a:f.fit v=true)(d:v.au=false):c.fit v=true:=by
 rw[eM]at a;simp_all[fG]
theorem anx(hf:bB f)(n:f.cs=[c])(B:f.k=19)(IH:∀x,c.fit x=true->dW c (λr=>c.tk r x) x){v:aB}(G:f.fit v=true):dW f (λr=>f.tk r v) v:=by
  intro vs C h;dsimp only at h ⊢;have I:f.cs[0]? =some c:=by rw[n];rfl
  have J:=(gj f vs).1 C;rw[kG]at h ⊢;unfold iI at h ⊢;rw[ay,ay,ay,ay,ay,ay,aK B]at h ⊢;obtain⟨h1,q,h3⟩:=jT h;have R:=jq.of (v:=v) h1;rw[h3];have hT:(f.cs.map aq.tk).getD 0 oG=c.tk:=by rw[n];rfl
  rw[hT]at q ⊢;have A:eG f.k v=v.au:=sX ag ag ag;generalize(eU v.au (f.st vs)).2=T at R q;have L:0<T.kids.length:=by rw[R.len,n];simp
  have D:T.b.aH=dS vs:=by rw[R.b];show(aL f.k vs).aH=_;simp[aL,B]
  obtain⟨E,n2,M,n4⟩:=mP vs;obtain⟨F,m2,N,m4⟩:=mP (k:=f.k) _;have p:fL f.k=false:=by rw[B];rfl
  have cont:∀j o,dK f.k f.w (dJ f.cs) j o=dS o:=λj o=>by rw[B,B9]
  have y:∀o,(aL f.k o).ends=o.map λu=>if u.au then 0 else(gu u (dS o)).getD 0:=λo=>by rw[B];simp[aL]
  have a:∀o,(aL f.k o).aH=dS o:=λo=>by simp[aL,B]
  have O:∀u∈vs,(if u.au then 0 else(gu u (dS (vs++[v]))).getD 0)=if u.au then 0 else(gu u (dS vs)).getD 0:=by
    intro u X;cases S:u.au with
    |true=>rfl
    | false=>
      simp only[mG,lN];cases s:gu u (dS vs)with
      |none=>simp_all[KC,vQ]
      | some i=>
        grind[xP,q9,QB]
  have g:(aL f.k (vs++[v])).ends=(aL f.k vs).ends++[if v.au then 0 else(gu v (dS (vs++[v]))).getD 0]:=by
    rw[y,y,kq,Io]
    congr 1
    exact Cy O
  cases z:v.au with
  | true=>
    rw[z]at R A g;simp only[z,gB]at q ⊢;obtain⟨m,H⟩:=qk q;rw[gz,R.b]at m;have m:bL vs+16<=4194304:=m;have Q:v=v0:=by rw[eM]at G;exact(kB G z).1
    have P:v.bx=16:=by rw[Q];rfl
    have l:dS (vs++[v])=dS vs:=by rw[xP];unfold q9;rw[aK z]
    refine⟨tJ C G R.lt ag ag (λe=>by rw[l];exact J.ds e) λj d t=>by rw[cont,l,<-cont];exact fC t C,?_⟩
    rw[H];refine sR ?_ (by rw[jS,jS,R.len]) λj d t=>by rw[ji,ji,R.aM t,cont,cont,l]
    rw[gz,gz,R.b];refine tK (sU f.k vs v true) (sV A) (qP A) ?_ ((E p).1.trans (F p).1.symm) ((E p).2.trans (F p).2.symm) ?_ ((M ag).trans (N ag).symm) ?_
    · show bL vs+16=bL (vs++[v])
      rw[lS,P]
    · show(aL f.k vs).ends++[0]=(aL f.k (vs++[v])).ends
      rw[g];rfl
    · show(aL f.k vs).aH=(aL f.k (vs++[v])).aH
      rw[a,a,l]
  | false =>
    rw[z]at R A g;simp only[z,mG,lN]at q g ⊢;rw[D]at q ⊢;cases s:gu v (dS vs)with
    | some i=>
      simp only[s]at q ⊢;obtain⟨m,H⟩:=qk q;rw[gz,R.b]at m;have m:=m;have l:dS (vs++[v])=dS vs:=by rw[xP];unfold q9;rw[aC (by simp[z]),s]
      refine⟨tJ C G R.lt m ag (λe=>by rw[l];exact J.ds e) λj d t=>by rw[cont,l,<-cont];exact fC t C,?_⟩
      rw[H];refine sR ?_ (by rw[jS,jS,R.len]) λj d t=>by rw[ji,ji,R.aM t,cont,cont,l]
      rw[gz,gz,R.b];refine tK (sU f.k vs v false) (sV A) (qP A) ?_ ((E p).1.trans (F p).1.symm) ((E p).2.trans (F p).2.symm) ?_ ((M ag).trans (N ag).symm) ?_
      · show bL vs+v.bx=bL (vs++[v])
        rw[lS]
      · show(aL f.k vs).ends++[i]=(aL f.k (vs++[v])).ends
        rw[g,l,s];rfl
      · show(aL f.k vs).aH=(aL f.k (vs++[v])).aH
        rw[a,a,l]
    | none=>
      simp only[s]at q ⊢;split at q
      ·simp at q
      rename_i K
      rw[aC K];obtain⟨Z,U,Y⟩:=jT q;rw[Y];obtain⟨W,V⟩:=vV (IH v (Lm n (.inl B) G z)) (R.aM I) (fC I C) Z;rw[V]at U ⊢;obtain⟨m,H⟩:=qk U;rw[gz,nv,R.b]at m;have m:=m;have l:dS (vs++[v])=dS vs++[v]:=by rw[xP];unfold q9;rw[aC (by simp[z]),s]
      refine⟨tJ C G R.lt m ag (λ_=>by rw[l];simp;omega) λj d t=>?_,?_⟩
      ·obtain⟨rfl,rfl⟩:=Br n t;rw[cont,l,<-cont 0];exact W
      rw[H];refine sR ?_ (by rw[jS,jS,vJ,R.len]) λj d t=>?_
      · rw[gz,gz,nv,R.b];refine tK (sU f.k vs v false) (sV A) (qP A) ?_ ((E p).1.trans (F p).1.symm) ((E p).2.trans (F p).2.symm) ?_ ((M ag).trans (N ag).symm) ?_
        · show bL vs+v.bx=bL (vs++[v])
          rw[lS]
        · show(aL f.k vs).ends++[(aL f.k vs).aH.length]=(aL f.k (vs++[v])).ends
          rw[g,l,QA s,a];rfl
        · show(aL f.k vs).aH++[v]=(aL f.k (vs++[v])).aH
          rw[a,a,l]
      ·obtain⟨rfl,rfl⟩:=Br n t;rw[ji,ji,lC L,cont 0 (vs++[v]),l,<-cont 0]
theorem anu(I:bB f)(l:f.cs=[c])(q:f.k=20)(Z:∀x,c.fit x=true->dW c (λr=>c.tk r x) x){v:aB}(F:f.fit v=true):dW f (λr=>f.tk r v) v:=by
  intro vs G h;dsimp only at h ⊢;have u:f.cs[0]? =some c:=by rw[l];rfl
  rw[kG]at h ⊢;unfold iI at h ⊢;rw[ay,ay,ay,ay,ay,ay,ay,aK q]at h ⊢;obtain⟨X,t,W⟩:=jT h;have R:=jq.of (v:=v) X;rw[W];have hT:(f.cs.map aq.tk).getD 0 oG=c.tk:=by rw[l];rfl
  rw[hT]at t ⊢;have C:eG f.k v=false:=by unfold eG;rw[ay,dV]
  generalize(eU false (f.st vs)).2=L at R t;have B:0<L.kids.length:=by rw[R.len,l];simp
  have Y:c.fit v=true:=by
    cases O:v.au with
    |false=>exact Lm l (.inr q) F O
    | true=>
      have z:=F;rw[eM]at z;obtain⟨rfl,hl⟩:=kB z O;have K:c.lets=true:=by
        rw[sZ f I]at hl;obtain⟨d,P,J⟩:=I.right.2.1.2.2 q;rw[u]at P;cases P;rw[sZ c (I.aM (by rw[l];simp)),<-J];exact hl
      rw[eM,K];exact adJ
  have y:L.b.aH=(cR vs).1:=by rw[R.b];show(aL f.k vs).aH=_;simp[aL,q]
  obtain⟨D,n2,M,n4⟩:=mP vs;obtain⟨E,m2,N,m4⟩:=mP _;have p:fL f.k=false:=by rw[q];rfl
  have cont:∀j m,dK f.k f.w (dJ f.cs) j m=(cR m).1:=λj m=>by rw[q,Er]
  have g:∀m,(aL f.k m).ends=(cR m).2:=λm=>by rw[q];simp[aL]
  have a:∀m,(aL f.k m).aH=(cR m).1:=λm=>by simp[aL,q]
  have A:=(Bf _ vs rfl).1;rw[y]at t⊢
  by_cases e:(cR vs).1.getLast? =some v
  · simp only[e,gB]at t ⊢;obtain⟨n,H⟩:=qk t;rw[gz,R.b]at n;have n:=n;have o:cR (vs++[v])=((cR vs).1,(cR vs).2.dropLast++[(cR vs).2.getLastD 0+1]):=by rw[Be];unfold xg;rw[aK e]
    refine⟨tJ G F R.lt n ag ag λj d s=>by rw[cont,o,<-cont j vs];exact fC s G,?_⟩
    rw[H];refine sR ?_ (by rw[jS,jS,R.len]) λj d s=>by rw[ji,ji,R.aM s,cont,cont,o]
    rw[gz,gz,R.b];refine tK (sU f.k vs v false) (sV C) (qP C) ?_ ((D p).1.trans (E p).1.symm) ((D p).2.trans (E p).2.symm) ?_ ((M ag).trans (N ag).symm) ?_
    · show bL vs+v.bx=bL _
      rw[lS]
    · show(aL f.k vs).ends.dropLast++[(aL f.k vs).rows+1]=(aL f.k (vs++[v])).ends
      rw[g,g,o,A];rfl
    · show(aL f.k vs).aH=(aL f.k (vs++[v])).aH
      rw[a,a,o]
  · simp only[e,lN]at t ⊢;obtain⟨V,Q,U⟩:=jT t;rw[U];obtain⟨T,S⟩:=vV (Z v Y) (R.aM u) (fC u G) V;rw[S]at Q ⊢;obtain⟨n,H⟩:=qk Q;rw[gz,nv,R.b]at n;have n:=n;have o:cR (vs++[v])=((cR vs).1++[v],(cR vs).2++[(cR vs).2.getLastD 0+1]):=by rw[Be];unfold xg;rw[aC e]
    refine⟨tJ G F R.lt n ag ag λj d s=>?_,?_⟩
    ·grind[Br]
    rw[H];refine sR ?_ (by rw[jS,jS,vJ,R.len]) λj d s=>?_
    · rw[gz,gz,nv,R.b];refine tK (sU f.k vs v false) (sV C) (qP C) ?_ ((D p).1.trans (E p).1.symm) ((D p).2.trans (E p).2.symm) ?_ ((M ag).trans (N ag).symm) ?_
      · show bL vs+v.bx=bL (vs++[v])
        rw[lS]
      · show(aL f.k vs).ends++[(aL f.k vs).rows+1]=(aL f.k (vs++[v])).ends
        rw[g,g,o,A];rfl
      · show(aL f.k vs).aH++[v]=(aL f.k (vs++[v])).aH
        rw[a,a,o]
    grind[Br,ji,lC]
def vm(c:aq):Prop:=∀vs,c.can vs->(c.zk (c.st vs)).1=0->c.small=true
theorem Dp(f:aq):f.small=true↔f.wz<=4194304:=by simp[aq.small]
theorem PY(b:bB f)(c:¬(16<=f.k/\f.k<=20)):f.small=true:=by
 rw[Dp,Am];unfold zb;split
 ·omega
 ·have a:=b.right.1.2.2.1;grind
theorem ali(a:¬f.small=true):f.lets=false:=by
  cases hl:f.lets with
  |false=>rfl
  | true=>
    exfalso;apply a
    rw[Dp,Am,zb,hl];simp
theorem akv(H:bB f)(J:∀c∈f.cs,dW c c.zk c.cm/\vm c):vm f:=by
  intro vs u h;apply yD;intro O;have hk:=yD λq=>O (PY H q);have j:4194304<f.wz:=by rw[Dp]at O;omega
  rw[Am,zb,(ali O)]at j;rw[sC]at h;unfold nQ at h;rw[aC (by simp[O,hk])]at h
  simp only[mG,lN]at j;rw[ay]at j
  by_cases A:f.k=16
  · obtain⟨c,o,D⟩:=H.one ag;have s4:=H.right.1.2.2.2.1 A;have d:f.cs[0]? =some c:=by rw[o];rfl
    obtain⟨T,B⟩:=J c (by rw[o];simp)
    rw[aK A]at h j;have hZ:(f.cs.map aq.zk).getD 0 oz=c.zk:=by rw[o];rfl
    have hW:(f.cs.map aq.wz).getD 0 0=c.wz:=by rw[o];rfl
    rw[hZ]at h;rw[hW]at j;obtain⟨y,p,P⟩:=jT h;have R:=jq.of (v:=v0) y;obtain⟨n,l,h6⟩:=jT p;have s:0<(eU false (f.st vs)).2.kids.length:=by rw[R.len,o];simp
    have hw:f.w.toNat=(f.w.toNat-1)+1:=ag;have C:c.small=true:=by
      rw[hw,Ir,fu]at n;obtain⟨V,_,_⟩:=jT n;unfold dm at V;rw[R.aM d]at V;exact B _ (fC d u) V
    rw[Ki f.w.toNat c.cm]at n l;obtain⟨q1,S⟩:=FT (λx hx=>by grind) s (R.aM d) (fC d u) n
    obtain⟨_,_,W,_⟩:=sS D C;rw[Ht o R S rfl,Zm,W]at l;obtain⟨Y,_⟩:=qk l;omega
  rw[aC A]at h j
  by_cases L:f.k=17
  · rw[aK L]at h j;obtain⟨y,p,P⟩:=jT h;have R:=jq.of (v:=v0) y;obtain⟨n,l,h6⟩:=jT p;rw[cr]at n l;have N:∀m,m<=f.cs.length->(fu ((List.range m).map λi=>dm i ((f.cs.map aq.zk).getD i oz)) (eU false (f.st vs)).2).1=0->∀i c,i<m->f.cs[i]? =some c->c.small=true:=by
      intro m
      induction m with
      |zero=>omega
      | succ m ih=>
        intro hm hh i c t r;rw[uX,kq,Io,Kb]at hh;obtain⟨g1,I,g3⟩:=jT hh
        by_cases e:i<m
        ·exact ih ag g1 i c e r
        · obtain rfl:i=m:=ag;have E:∀i c,f.cs[i]? =some c->dW c ((f.cs.map aq.zk).getD i oz) (c.cm):=by grind[mV,List.mem_of_getElem?]
          obtain⟨_,_,Q⟩:=EC (x:=λi=>(dJ f.cs).getD i v0) R.len (λi c a=>⟨R.aM a,fC a u⟩) (λi c a=>by rw[dJ,mV (g:=aq.cm) a];exact E i c a) i ag g1
          have:=(Q i c r).2;rw[ay]at this;unfold dm at I;dsimp only at this I;rw[mV r]at I
          erw[this]at I
          exact(J c (bT r)).2 _ (fC r u) I
    obtain⟨a1,a2,Q⟩:=EC (x:=λi=>(dJ f.cs).getD i v0) R.len (λi c a=>⟨R.aM a,fC a u⟩) (λi c a=>by rw[dJ,mV a,mV a];grind[List.mem_of_getElem?]) f.cs.length (bX _) n
    generalize(fu ((List.range f.cs.length).map λi=>dm i ((f.cs.map aq.zk).getD i oz)) (eU false (f.st vs)).2).2=Z at l a1 a2 Q;have U:total Z-total (eU false (f.st vs)).2=((List.range f.cs.length).map λi=>((dJ f.cs).getD i v0).bx).sum:=by
      rw[qm,qm,a2,R.len];have e2:((List.range f.cs.length).map λi=>(Z.aM i).b.bF).sum=((List.range f.cs.length).map λi=>((eU false (f.st vs)).2.aM i).b.bF+((dJ f.cs).getD i v0).bx).sum:=J3 λi t=>by
        have a:=bJ t;have:=(Q i _ a).2;rw[aK t]at this;rw[this,R.aM a,qp,qp,lS]
      rw[e2,sum_add];omega
    have X:((List.range f.cs.length).map λi=>((dJ f.cs).getD i v0).bx).sum=(f.cs.map aq.wz).sum:=by
      rw[<-FO aq.wz (.mk (bs []) false 0 0 0 0 []) f.cs];refine J3 λi t=>?_;have a:=bJ t;rw[dJ,mV a,(sS (H.aM (kH t)) ((N f.cs.length (bX _) n) i _ t a)).2.2.1,gV,a];rfl
    rw[U,X]at l;obtain⟨Y,_⟩:=qk l;omega
  rw[aC L]at h j
  by_cases z:f.k=18
  · rw[aK z]at h j;have a':=H.right.1.2.2.2.2.2.2.2.2.2.1 z;have d:f.cs[0]? =some f.cs[0]:=bJ ag;generalize f.cs[0]=c at d;have D:=H.aM (bT d);obtain⟨T,B⟩:=J c (bT d);rw[mV d]at h j;unfold th at h;obtain⟨y,p,P⟩:=jT h;have R:=jq.of (v:=v0) y;obtain⟨n,l,h6⟩:=jT p;generalize(eU false (f.st vs)).2=F at R n l;have s:0<F.kids.length:=by rw[R.len];omega
    have M:(F.up λb=>{b with all:=b.all++[UInt8.ofNat 0],ends:=b.ends++[(F.aM 0).b.rows]}).aM 0=c.st (dK f.k f.w (dJ f.cs) 0 vs):=by rw[ji];exact R.aM d
    obtain⟨q1,S⟩:=vV T M (fC d u) n;have C:c.small=true:=by
      unfold dm at n;rw[M]at n;exact B _ (fC d u) n
    rw[S]at l;have U:eL ((F.up λb=>{b with all:=b.all++[UInt8.ofNat 0],ends:=b.ends++[(F.aM 0).b.rows]}).fo 0 (c.st (dK f.k f.w (dJ f.cs) 0 vs++[c.cm]))) 0-eL F 0=c.cm.bx:=by
      unfold eL;rw[lC (by rw[jS];exact s),R.aM d,qp,qp,lS];omega
    rw[U,(sS D C).2.2.1]at l;obtain⟨Y,_⟩:=qk l;omega
  rw[aC z]at h
  by_cases K:f.k=19
  ·rw[aK K]at h;grind[jT]
  ·rw[aC K]at h;grind[jT]
theorem akx(g:bB f)(d:vm f)(c:∀v,f.fit v=true->dW f (λr=>f.tk r v) v):dW f f.zk f.cm:=by
 intro vs b h;have a:=d vs b h;have e:f.zk=λr=>f.tk r f.cm:=by
  rw[sC];funext r;unfold nQ;simp[*]
 rw[e]at h ⊢;exact c _ (sS g a).2.1 vs b h
theorem mj:∀f:aq,bB f->(∀v,f.fit v=true->dW f (λr=>f.tk r v) v)/\dW f f.zk f.cm/\vm f
  | .mk q au k w id ix cs,b=>by
    have d:∀c∈cs,(∀v,c.fit v=true->dW c _ v)/\dW c c.zk c.cm/\vm c:=λc e=>mj c (b.aM e);generalize s:aq.mk q au k w id ix cs=f at b;have d:∀c∈f.cs,(∀v,c.fit v=true->dW c (λr=>c.tk r v) v)/\dW c c.zk c.cm/\vm c:=by rw[<-s];exact d
    have p:∀v,f.fit v=true->dW f (λr=>f.tk r v) v:=by
      intro v g;have ks:=b.ks
      by_cases h:f.k=15
      ·obtain⟨c,a,_⟩:=b.one (.inl h);grind[anv]
      by_cases n:f.k=16
      ·obtain⟨c,a,_⟩:=b.one ag;grind[ant]
      by_cases m:f.k=17
      ·grind[anr]
      by_cases l:f.k=18
      ·grind[anz]
      by_cases j:f.k=19
      ·obtain⟨c,a,_⟩:=b.one ag;grind[anx]
      by_cases i:f.k=20
      ·obtain⟨c,a,_⟩:=b.one ag;grind[anu]
      exact Z6 b ⟨h,n,m,l,j,i⟩ g
    grind[akv,akx]
theorem asJ{cs:cN}{r:Raw}(a:cs[j]? =some c):((List.range (cs.map aq.dn).length).map λi=>((cs.map aq.dn).getD i λ_=>wm) (r.aM i))[j]? =some (c.dn (r.aM j)):=by
 have b:=(de.1 a).1;simp_all
theorem av3{ix:Int}{D:List (Raw->bG)}{r:Raw}:(mW k w ix D r).off=0:=by unfold mW;repeat' (first|rfl|split)
theorem av5{ix:Int}{D:List (Raw->bG)}{r:Raw}:(mW k w ix D r).len=r.b.rows:=by unfold mW;repeat' (first|rfl|split)
theorem av4{ix:Int}{D:List (Raw->bG)}{r:Raw}(h:k=20->r.b.cz=0):(mW k w ix D r).au=r.b.cz:=by
 unfold mW
 repeat' (first|rfl|(rename_i e;rw[h e];rfl)|split)
theorem Aa(f:aq)(r:Raw):(f.dn r).off=0:=by rw[ru,av3]
theorem xO(f:aq)(vs:aR):(f.dn (f.st vs)).len=vs.length:=by rw[ru,av5,zm]
theorem aJr{α:Type}(p:α->Bool)(l:List α):l.countP p<=l.length:=List.countP_le_length
theorem Ub(f:aq)(vs:aR):(f.dn (f.st vs)).au=vs.countP (eG f.k):=by
 have:(f.st vs).b.cz=vs.countP (eG f.k):=by rw[fI];rfl
 have oa:f.k=20->vs.countP (eG f.k)=0:=λe=>by
  rw[Ve];intro v _;simp[eG,e]
 rw[ru,av4 ag,this]
theorem auW{vs:aR}(a:vs[i]? =some v):(vs.map λv=>!eG k v).getD i false=!eG k v:=by
 simp[*]
theorem Dh{vs:aR}{aY:iz}(a:mU k=true)(f:dB aY 0=dF (aL k vs)){i:Nat}{v:aB}(b:vs[i]? =some v):jF k aY i=eG k v:=by
 have d:(k==1)=false:=by
  unfold mU at a;cases h:k==1 with
  |false=>rfl
  |true=>grind
 unfold jF;rw[a,f,d];unfold dF;have g:=(de.1 b).1;split
 ·rename_i c
  have:eG k v=false:=by
   have:=(Ve.1 c) v (bT b)
   simpa using this
  simp[*]
 ·rename_i c
  have e:gK (aL k vs).bits i=!eG k v:=by
   show gK (qQ _) i=_
   rw[abj,auW b]
  have l:(aL k vs).bits.length≠0:=by
   show(qQ _).length≠0
   rw[QI,cr];omega
  simp[*]
theorem Lh{α:Type}(g:aB->List α):∀{vs:aR}{i:Nat}{v:aB},vs[i]? =some v->((vs.flatMap g).drop ((vs.take i).map λu=>(g u).length).sum).take (g v).length=g v
  |[],i,v,h=>by simp at h
  | u::vs,0,v,h=>by
    grind
  | u::vs,i+1,v,h=>by
    simp only[Cv]at h;have:=Lh g h;simp_all
theorem adD{α:Type}(g:aB->List α){vs:aR}{i j:Nat}{v:aB}(h:vs[i]? =some v)(a:j<(g v).length):(vs.flatMap g)[((vs.take i).map λu=>(g u).length).sum+j]? =(g v)[j]? :=by
 have:=Lh g h;grind
theorem FN(g:aB->Nat){vs:aR}{i:Nat}{v:aB}(h:vs[i]? =some v):((vs.take (i+1)).map g).sum=((vs.take i).map g).sum+g v:=by
 rw[Mz,h];simp
theorem JV(g:aB->Nat)(vs:aR)(i:Nat):((vs.take i).map g).sum<=(vs.map g).sum:=by
 grind[List.take_append_drop]
theorem Kk{α:Type}{l:List α}{n:Nat}{g:Nat->α}(c:l.length=n)(h:∀i a,l[i]? =some a->g i=a):(List.range n).map g=l:=by
 refine qz λi=>?_;grind
theorem Z0{vs:aR}(h:(vs.map g).sum<2^31){i:Nat}(a:i<=vs.length):i32 (laidB (kr g vs) 4) i=((vs.take i).map g).sum:=
 SK (PS a) (by have:=JV g vs i;omega)
theorem ZY{vs:aR}(h:(vs.map g).sum<2^31){d:bG}(b:dB d.aY 1=laidB (kr g vs) 4){i:Nat}(a:i<=vs.length):sW d i=((vs.take i).map g).sum:=by
 unfold sW;rw[b,Z0 h a];rfl
theorem aan{w:Nat}(a:w=1\/w=2\/w=4\/w=8){n:Int}(c: -(2^(8*w-1))<=n)(b:n<2^(8*w-1)):sg w ((n%2^64).toNat%2^(8*w))=n:=by
 grind[sg]
theorem alS{w:Nat}(a:w=1\/w=2\/w=4){n:Int}(c:0<=n)(b:n<2^(8*w)):sg 8 ((n%2^64).toNat%2^(8*w))=n:=by
 unfold sg;rcases a with rfl|rfl|rfl <;> omega <;> split <;> omega
theorem De(h:3<=k/\k<=11):(dN k).toNat=wB k/\(wB k=1\/wB k=2\/wB k=4\/wB k=8)/\(k=6\/k=10\/k=11↔wB k=8):=by
 have:k=3\/k=4\/k=5\/k=6\/k=7\/k=8\/k=9\/k=10\/k=11:=ag;rcases this with rfl|rfl|rfl|rfl|rfl|rfl|rfl|rfl|rfl <;> decide
theorem aq7(f:3<=k/\k<=11){l:cU}{i:Nat}{n:Int}(g:l[i]? =some (n%2^64).toNat)(a:kW k n=true):zH k (laidB l (wB k)) i=n:=by
 obtain⟨e1,h,e⟩:=De f;unfold zH;rw[e1,SJ g];unfold kW at a;rw[e1]at a
 by_cases c:k=6\/k=10\/k=11
 ·rw[aK c]at a;have d:=e.1 c;rw[d];simp only[dw,dR]at a;have:=aan (w:=8) ag (n:=n) cy cy;omega
 ·rw[aC c]at a;have d:wB k≠8:=ag
  by_cases b:3<=k/\k<=5
  ·rw[aK b]at a;simp only[dw,dR]at a;rw[dV];exact aan h a.1 a.2
  ·rw[aC b]at a;simp only[dw,dR]at a;rw[ay];exact alS ag a.1 a.2
def iy(f:aq)(vs:aR):List bG:=(List.range (f.cs.map aq.dn).length).map λi=>((f.cs.map aq.dn).getD i λ_=>wm) ((f.st vs).aM i)
theorem uH{vs:aR}(a:f.cs[j]? =some c):(iy f vs)[j]? =some (c.dn (c.st (dK f.k f.w (dJ f.cs) j vs))):=by
 grind[iy,asJ,aq.Z9]
theorem DW(f:aq)(vs:aR):(iy f vs).length=f.cs.length:=by simp[iy]
section
variable {vs:aR}
theorem HN(h:f.k=1):f.dn (f.st vs)=.mk vs.length 0 (aL f.k vs).cz [] [] []:=by
 rw[ru];unfold mW;rw[aK h,fI];rfl
theorem wj(h:f.k=12\/f.k=13):f.dn (f.st vs)=.mk vs.length 0 (aL f.k vs).cz [dF (aL f.k vs),laidB (aL f.k vs).ends 4,(aL f.k vs).all] [] []:=by
 rw[ru];unfold mW;rw[ay,aK h,fI];rfl
theorem HM(h:f.k=15):f.dn (f.st vs)=.mk vs.length 0 (aL f.k vs).cz [dF (aL f.k vs),laidB (aL f.k vs).ends 4] (iy f vs) []:=by
 rw[ru];unfold mW;rw[ay,ay,aK h,fI];rfl
theorem BY(h:f.k=16\/f.k=17):f.dn (f.st vs)=.mk vs.length 0 (aL f.k vs).cz [dF (aL f.k vs)] (iy f vs) []:=by
 rw[ru];unfold mW;rw[ay,ay,ay,aK h,fI];rfl
theorem LI(h:f.k=18):f.dn (f.st vs)=.mk vs.length 0 (aL f.k vs).cz [(aL f.k vs).all,laidB (aL f.k vs).ends 4] (iy f vs) []:=by
 rw[ru];unfold mW;rw[ay,ay,ay,ay,aK h,fI];rfl
theorem HL(h:f.k=19):f.dn (f.st vs)=.mk vs.length 0 (aL f.k vs).cz [dF (aL f.k vs),laidB (aL f.k vs).ends (wB f.ix)] [] (iy f vs):=by
 rw[ru];unfold mW;rw[ay,ay,ay,ay,ay,aK h,fI];rfl
theorem LH(h:f.k=20):f.dn (f.st vs)=.mk vs.length 0 0 [] (.mk (aL f.k vs).ends.length 0 0 [[],laidB (aL f.k vs).ends 4] [] []::iy f vs) []:=by
 rw[ru];unfold mW;rw[ay,ay,ay,ay,ay,ay,aK h,fI];rfl
theorem BX(h:f.k=2):f.dn (f.st vs)=.mk vs.length 0 (aL f.k vs).cz [dF (aL f.k vs),ri (aL f.k vs).dY] [] []:=by
 rw[ru];unfold mW;rw[ay,ay,ay,ay,ay,ay,ay,aK h,fI];rfl
theorem BZ(h:f.k=14):f.dn (f.st vs)=.mk vs.length 0 (aL f.k vs).cz [dF (aL f.k vs),mu f.w.toNat (aL f.k vs).texts] [] []:=by
 rw[ru];unfold mW;rw[ay,ay,ay,ay,ay,ay,ay,ay,aK h,fI];rfl
theorem Ab(h:3<=f.k/\f.k<=11):f.dn (f.st vs)=.mk vs.length 0 (aL f.k vs).cz [dF (aL f.k vs),laidB (aL f.k vs).dY (wB f.k)] [] []:=by
 rw[ru];unfold mW;rw[ay,ay,ay,ay,ay,ay,ay,ay,ay,fI];rfl
end
abbrev nI(c:aq):Prop:=∀us,c.can us->∀(i:Nat)v,us[i]? =some v->c.val (c.dn (c.st us)) i=v
theorem Co(h:nI c){a:aR}(d:c.can a){i:Nat}{v:aB}(b:a[i]? =some v):og c.val (c.dn (c.st a)) i=v:=by
 unfold og;rw[Aa];simp[*]
theorem Ei(m:f.k≠1/\f.k≠15/\f.k≠16/\f.k≠17/\f.k≠18/\f.k≠19/\f.k≠20){v:aB}(a:f.fit v=true)(l:v.au=false):v.items=[]/\(f.k=12\/f.k=13\/f.k=14->v.num=0/\(f.k=12->iH v.text=true)/\(f.k=14->v.text.length=f.w.toNat))/\(¬(f.k=12\/f.k=13\/f.k=14)->v.text=[]/\(f.k=2->v.num=0\/v.num=1)/\(f.k≠2->(3<=f.k/\f.k<=11)/\kW f.k v.num=true)):=by
 rw[eM]at a;unfold fG at a;grind
theorem val_mk(v:aB):v=.mk v.au v.num v.text v.items:=by cases v;rfl
theorem axB(b:bB f)(a:f.k=18){v:aB}(d:f.fit v=true):fO v<32/\fO v<f.cs.length:=by
 have hl:f.lets=false:=by rw[sZ f b];exact b.right.2.1.2.1 a
 obtain⟨_,_,_,c,_,e,_⟩:=Lo a hl d;have g:=(de.1 e).1;have h:=(b.right.1.2.2.2.2.2.2.2.2.2.1 a).2;omega
theorem ab7(R:bB f)(P:f.k≠15/\f.k≠16/\f.k≠17/\f.k≠18/\f.k≠19/\f.k≠20):nI f:=by
  intro vs T i v z;have I:=(gj f vs).1 T;have y:=I.fit v (bT z);have W:=(de.1 z).1;obtain⟨r,p,m,g,l,d⟩:=P;have ks:=R.ks;rw[wC];unfold pz
  by_cases x:f.k=1
  · rw[HN x,aK (by unfold jF;simp[x])]
    have h:v.au=true:=by
      cases h:v.au with
      |true=>rfl
      |false=>simp_all[eM,fG]
    rw[eM]at y;exact(kB y h).1.symm
  have K:eG f.k v=v.au:=sX x g d;have L:mU f.k=true:=by unfold mU;simp[x,g,d]
  have M:dB (f.dn (f.st vs)).aY 0=dF (aL f.k vs):=by
    by_cases a:f.k=12\/f.k=13
    ·rw[wj a];rfl
    · by_cases A:f.k=2
      ·rw[BX A];rfl
      · by_cases b:f.k=14
        ·rw[BZ b];rfl
        ·rw[Ab ag];rfl
  rw[Dh L M z,K];cases h:v.au with
  | true=>
    rw[aK rfl];rw[eM]at y;exact(kB y h).1.symm
  | false=>
    obtain⟨s,D,G⟩:=Ei ⟨x,r,p,m,g,l,d⟩ y h;rw[aC aA]
    by_cases a:f.k=12\/f.k=13
    · rw[aK a,wj a];have J:=I.tx a;have S:(aL f.k vs).ends=kr (λv=>v.text.length) vs:=by simp[aL,a]
      have V:(aL f.k vs).all=vs.flatMap aB.text:=by simp[aL,a]
      have O:(vs.map λv=>v.text.length).sum<2^31:=by
        rw[Cw]at J;omega
      have o:∀{j},j<=vs.length->sW (bG.mk vs.length 0 (aL f.k vs).cz [dF (aL f.k vs),laidB (aL f.k vs).ends 4,(aL f.k vs).all] [] []) j=((vs.take j).map λv=>v.text.length).sum:=λQ=>ZY O (by rw[S];rfl) Q
      rw[o ag,o ag,FN _ z,afP]
      show aB.mk false 0 (((aL f.k vs).all.drop _).take _) []=v
      rw[V,Lh aB.text z];rw[val_mk v,h,(D ag).1,s];rfl
    rw[aC a,aC r,aC p,aC m,aC g,aC l,aC d]
    by_cases A:f.k=2
    · rw[aK A,BX A];obtain⟨E,U,_⟩:=G ag
      show aB.mk false (if gK (ri (aL f.k vs).dY) i=true then 1 else 0) [] []=v
      have c:(aL f.k vs).dY=vs.map λv=>(v.num%2^64).toNat:=by simp[aL,A,fL]
      grind[afv,val_mk]
    rw[aC A]
    by_cases b:f.k=14
    · rw[aK b,BZ b];have c:(aL f.k vs).texts=vs.map aB.text:=by simp[aL,b,fL]
      show aB.mk false 0 (((mu f.w.toNat (aL f.k vs).texts).drop (i*f.w.toNat)).take f.w.toNat) []=v
      rw[c,adF (λt E=>?_) bZ ((D ag).2.2 b)]
      ·rw[val_mk v,h,(D ag).1,s];rfl
      · obtain⟨u,N,rfl⟩:=kZ.1 E;have C:=I.fit u N;cases F:u.au with
        |true=>rw[eM]at C;rw[(kB C F).1];exact .inl rfl
        |false=>exact .inr (((Ei ⟨x,r,p,m,g,l,d⟩ C F).2.1 ag).2.2 b)
    rw[aC b];obtain⟨E,_,H⟩:=G ag;obtain⟨B,H⟩:=H A;rw[Ab B];have c:(aL f.k vs).dY=vs.map λv=>(v.num%2^64).toNat:=by
      simp only[not_or]at a;simp[aL,fL,x,a,r,p,m,g,l,d]
    show aB.mk false (zH f.k (laidB (aL f.k vs).dY (wB f.k)) i) [] []=v
    rw[aq7 B bZ H,val_mk v,h,E,s];rfl
theorem an7{α:Type}{n:Nat}{l:List α}(h:l.length=n+1):∃b w,l=b++[w]/\b.length=n:=by
 have a:l≠[]:=by intro e;subst e;simp at h
 exact⟨l.dropLast,l.getLast a,(At a).symm,by simp[h]⟩
structure azp(vs:aR):Prop where
 len:(cR vs).1.length=(cR vs).2.length
 pos:∀(j e:Nat),(cR vs).2[j]? =some e->0<e/\e<=vs.length
 inc:∀(i j e e':Nat),i<j->(cR vs).2[i]? =some e->(cR vs).2[j]? =some e'->e<e'
 row:∀(i:Nat)v,vs[i]? =some v->∃j e:Nat,(cR vs).1[j]? =some v/\(cR vs).2[j]? =some e/\i<e/\∀j2 e2:Nat,j2<j->(cR vs).2[j2]? =some e2->e2<=i
theorem aaA:∀(n:Nat)(vs:aR),vs.length=n->azp vs
  | 0,vs,G=>by
    have:vs=[]:=uZ G;subst this;exact⟨rfl,λj e h=>by simp[cR]at h,λi j e Q _ h=>by simp[cR]at h,λi v h=>by simp at h⟩
  | n+1,vs,G=>by
    obtain⟨c,w,rfl,K⟩:=an7 G;obtain⟨len,p,C,D⟩:=aaA n c K;have f:=(Bf n c K).1;have g:=Be c w;unfold xg at g
    by_cases e:(cR c).1.getLast? =some w
    · rw[aK e,f]at g;have L:(cR c).2≠[]:=by
        intro q;rw[q]at len;have O:=uZ (by simpa using len)
        rw[O]at e;simp at e
      have P:=Mv.2 L;have get:∀j,((cR c).2.dropLast++[c.length+1])[j]? =if j<(cR c).2.length-1 then(cR c).2[j]? else if j=(cR c).2.length-1 then some (c.length+1)else none:=by
        intro j;have I:(cR c).2.dropLast.length=(cR c).2.length-1:=aA
        by_cases r:j<(cR c).2.length-1
        ·simp_all[gN]
        · rw[aC r,fU ag,I];split
          ·rename_i u;subst u;simp
          simp[cy];omega
      have J:(cR c).2[(cR c).2.length-1]? =some c.length:=by
        have:(cR c).2.getLast? =(cR c).2[(cR c).2.length-1]? :=Vd;rw[<-this];rw[afO]at f;cases N:(cR c).2.getLast? with
        |none=>simp_all
        |some x=>rw[N]at f;simp at f;rw[f]
      refine⟨?_,?_,?_,?_⟩
      ·rw[g];simp[len];omega
      · intro j x h;rw[g]at h;rw[get]at h;rw[iA,jC];split at h
        ·obtain⟨a,b⟩:=p j x h;omega
        · split at h
          ·cases h;omega
          ·cases h
      · intro i j x y z m l;rw[g]at m l;rw[get]at m l;split at l
        ·rw[dV]at m;exact C i j x y z m l
        · split at l
          ·rw[dV]at m;cases l;have:=(p i x m).2;omega
          ·cases l
      · intro i v o;rw[g]
        by_cases r:i<c.length
        · rw[gN r]at o;obtain⟨j,x,F,B,H,E⟩:=D i v o;have M:=(de.1 B).1
          by_cases u:j<(cR c).2.length-1
          · refine⟨j,x,F,by rw[get,aK u];exact B,H,λt s k d=>?_⟩
            rw[get,dV]at d;exact E t s k d
          · refine⟨j,c.length+1,F,by rw[get,aC u,dV],ag,λt s k d=>?_⟩
            rw[get,dV]at d;exact E t s k d
        · have A:i=c.length:=by have:=(de.1 o).1;simp at this;omega
          subst A;rw[fU (bX _)]at o;simp at o;subst o;refine⟨(cR c).2.length-1,c.length+1,?_,aA,ag,λt s k d=>?_⟩
          ·have:(cR c).1.getLast? =(cR c).1[(cR c).1.length-1]? :=Vd;rw[<-len,<-this,e]
          ·rw[get,aK k]at d;exact(p t s d).2
    · rw[aC e,f]at g;have get:∀j,((cR c).2++[c.length+1])[j]? =if j<(cR c).2.length then(cR c).2[j]? else if j=(cR c).2.length then some (c.length+1)else none:=by
        intro j
        by_cases r:j<(cR c).2.length
        ·rw[aK r,gN r]
        · rw[aC r,fU ag];split
          ·rename_i u;subst u;simp
          simp[cy];omega
      refine⟨?_,?_,?_,?_⟩
      ·simp[*]
      · intro j x h;rw[g]at h;rw[get]at h;rw[iA,jC];split at h
        ·obtain⟨a,b⟩:=p j x h;omega
        · split at h
          ·cases h;omega
          ·cases h
      · intro i j x y z m l;rw[g]at m l;rw[get]at m l;split at l
        ·rw[dV]at m;exact C i j x y z m l
        · split at l
          ·rw[dV]at m;cases l;have:=(p i x m).2;omega
          ·cases l
      · intro i v o;rw[g]
        by_cases r:i<c.length
        · rw[gN r]at o;obtain⟨j,x,F,B,H,E⟩:=D i v o;have M:=(de.1 B).1;refine⟨j,x,by rw[gN ag];exact F,by rw[get,aK M];exact B,H,λt s k d=>?_⟩
          rw[get,dV]at d;exact E t s k d
        · have A:i=c.length:=by have:=(de.1 o).1;simp at this;omega
          subst A;rw[fU (bX _)]at o;simp at o;subst o;refine⟨(cR c).2.length,c.length+1,dG,aA,ag,λt s k d=>?_⟩
          rw[get,aK k]at d;exact(p t s d).2
theorem adO(c:Nat):∀{vs:aR}{i:Nat}{v:aB},vs[i]? =some v->fO v=c->(vs.filter λu=>decide (fO u=c))[((vs.take i).filter λu=>decide (fO u=c)).length]? =some v
  |[],i,v,h,_=>by simp at h
  | u::vs,0,v,h,a=>by
    grind
  | u::vs,i+1,v,h,a=>by
    simp only[Cv]at h;have b:=adO c h a;grind
theorem ael{w:Nat}{vs:aR}(h:∀v∈vs,g v=w):∀i,i<=vs.length->((vs.take i).map g).sum=i*w
  |0,_=>aA
  | i+1,b=>by
    have a:vs[i]? =some vs[i]:=aA;rw[FN g a,ael h i ag,h _ (bT a),rC]
theorem DI{l:Int}{b:iz}{cs:kF}{c:bG}(h:cs[j]? =some c):part (.mk l x y b cs []) j=c:=by
 unfold part xj;rw[aC (by simp[bG.ds])];exact TS h
theorem aqp{l:Int}{b:iz}{cs ds:kF}{c:bG}(h:ds[j]? =some c):part (.mk l x y b cs ds) j=c:=by
 have:ds.length>0:=by have:=(de.1 h).1;omega
 unfold part xj;rw[aK (by simpa[bG.ds]using this)];exact TS h
theorem Gl{cs:cN}(h:k≠20):r7 k cs=cs:=by unfold r7;simp[*]
theorem Ec{cs:cN}(h:cs[j]? =some c):(cs.map aq.val).getD j vz=c.val:=by
 simp[*]
theorem axy{vs:aR}(h:vs[i]? =some v)(a:v.au=false):(dK 17 w X j vs)[i]? =some (v.items.getD j v0):=by
 grind[Et]
theorem ar2(y:bB f)(p:f.cs=[c])(d:f.k=15)(r:nI c):nI f:=by
  intro vs q i v e;have m:=((gj f vs).1 q).fit v (bT e);have u:=(de.1 e).1;have b:f.cs[0]? =some c:=by rw[p];rfl
  have h:=fC b q;rw[wC];unfold pz;rw[HM d,Dh (by rw[d];rfl) rfl e,sX ag ag ag]
  cases n:v.au with
  |true=>rw[aK rfl];rw[eM]at m;exact(kB m n).1.symm
  | false=>
    rw[aC aA,ay,aK d,Gl ag,Ec b,DI (uH b)];have a:=m;rw[eM]at a;unfold fG at a;rw[d]at a;simp[n]at a;have g:dK f.k f.w (dJ f.cs) 0 vs=vs.flatMap aB.items:=by rw[d,Ac]
    have t:(aL f.k vs).ends=kr (λv=>v.items.length) vs:=by simp[aL,d]
    have s:(vs.map λv=>v.items.length).sum<2^31:=by
      have:=((gj c _).1 h).n4;rw[g,Cw]at this;omega
    have o:∀{j},j<=vs.length->sW (bG.mk vs.length 0 (aL f.k vs).cz [dF (aL f.k vs),laidB (aL f.k vs).ends 4] (iy f vs) []) j=((vs.take j).map λv=>v.items.length).sum:=λl=>ZY s (by rw[t];rfl) l
    rw[o ag,o ag,FN _ e,afP];grind[Kk,Co,adD,List.getElem?_eq_some_iff,val_mk]
theorem anO(a:f.cs=[c])(e:f.k=16){vs:aR}(g:f.can vs):∀v∈vs,(if v.au then List.replicate f.w.toNat ((dJ f.cs).getD 0 v0)else v.items).length=f.w.toNat:=by
 intro v b;cases d:v.au with
 |true=>simp
 |false=>simpa using(Ll a e (((gj f vs).1 g).fit v b) d).2.1
theorem arZ(u:bB f)(d:f.cs=[c])(b:f.k=16)(r:nI c):nI f:=by
  intro vs n i v m;have a:=((gj f vs).1 n).fit v (bT m);have t:=(de.1 m).1;have g:f.cs[0]? =some c:=by rw[d];rfl
  rw[wC];unfold pz;rw[BY (.inl b),Dh (by rw[b];rfl) rfl m,sX ag ag ag]
  cases h:v.au with
  |true=>rw[aK rfl];rw[eM]at a;exact(kB a h).1.symm
  | false=>
    rw[aC aA,ay,ay,aK b,Gl ag,Ec g,DI (uH g)];obtain⟨s,hl,_⟩:=Ll d b a h;have l:v.num=0:=by
      rw[eM]at a;unfold fG at a;rw[b]at a;simp[h]at a;exact a.2.1
    have p:dK f.k f.w (dJ f.cs) 0 vs=vs.flatMap λv=>if v.au then List.replicate f.w.toNat ((dJ f.cs).getD 0 v0)else v.items:=by rw[b,Ca]
    have:(List.range f.w.toNat).map (λj=>og c.val (c.dn (c.st (dK f.k f.w (dJ f.cs) 0 vs))) (i*f.w.toNat+j))=v.items:=by
      refine Kk hl λj x q=>Co r (fC g n) ?_;have e:=adD (λv=>if v.au then List.replicate f.w.toNat ((dJ f.cs).getD 0 v0)else v.items) m (j:=j) bZ
      rw[ael (anO d b n) i ag]at e;rw[p,e];simpa[h]using q
    rw[this,val_mk v,h,s,l];rfl
theorem arX(q:bB f)(d:f.k=17)(o:∀c∈f.cs,nI c):nI f:=by
  intro vs n i v l;have a:=((gj f vs).1 n).fit v (bT l);rw[wC];unfold pz;rw[BY (.inr d),Dh (by rw[d];rfl) rfl l,sX ag ag ag]
  cases e:v.au with
  |true=>rw[aK rfl];rw[eM]at a;exact(kB a e).1.symm
  | false=>
    rw[aC aA,ay,ay,ay,aK d,Gl ag,cr];obtain⟨p,hl,_⟩:=Eg d a e;have h:v.num=0:=by
      rw[eM]at a;unfold fG at a;rw[d]at a;simp[e]at a;exact a.2.1
    have:(List.range f.cs.length).map (λj=>og ((f.cs.map aq.val).getD j vz) (part (bG.mk vs.length 0 (aL f.k vs).cz [dF (aL f.k vs)] (iy f vs) []) j) i)=v.items:=by
      refine Kk hl λj x m=>?_;have g:j<f.cs.length:=by have:=(de.1 m).1;omega
      have b:f.cs[j]? =some f.cs[j]:=aA;rw[Ec b,DI (uH b)];apply Co (o _ (kH g)) (fC b n);rw[d,axy l e,TS m]
    rw[this,val_mk v,e,p,h];rfl
theorem ar5(l:bB f)(a:f.k=18)(s:∀c∈f.cs,nI c):nI f:=by
 intro vs o i v e;have p:=(gj f vs).1 o;have n:=p.fit v (bT e);have m:=(de.1 e).1;have B:=p.n4;have hl:f.lets=false:=by rw[sZ f l];exact l.right.2.1.2.1 a
 obtain⟨w,t,A,c,x,b,g,C⟩:=Lo a hl n;have r:=(axB l a n).1;rw[wC];unfold pz;rw[LI a,aC (by unfold jF mU;simp[a]),ay,ay,ay,ay,aK a,Gl ag]
 have z:(aL f.k vs).all=vs.map λv=>UInt8.ofNat (fO v):=by simp[aL,a]
 have y:(aL f.k vs).ends=(List.range vs.length).map λi=>((vs.take i).filter λv=>decide (fO v=fO (vs.getD i v0))).length:=by simp[aL,a]
 have d:HQ (bG.mk vs.length 0 (aL f.k vs).cz [(aL f.k vs).all,laidB (aL f.k vs).ends 4] (iy f vs) []) i=fO v:=by
  show(((aL f.k vs).all.getD i 0)).toNat=_
  rw[z,gV,eY,e];simp only[pP,pQ,tN];omega
 have j:(aL f.k vs).ends[i]? =some ((vs.take i).filter λu=>decide (fO u=fO v)).length:=by
  rw[y,eY,EM m,pP,gV,e];rfl
 have q:((vs.take i).filter λu=>decide (fO u=fO v)).length<=4096:=by
  have:=Va (λu=>decide (fO u=fO v)) (vs.take i);rw[m8]at this;omega
 have h:sW (bG.mk vs.length 0 (aL f.k vs).cz [(aL f.k vs).all,laidB (aL f.k vs).ends 4] (iy f vs) []) i=((vs.take i).filter λu=>decide (fO u=fO v)).length:=by
  show(i32 (laidB (aL f.k vs).ends 4) i).toNat=_
  rw[SK j ag];rfl
 rw[d,h,Ec b,DI (uH b),Co (s c (bT b)) (fC b o) (v:=x) (by rw[a,Es,eY,adO _ e rfl,pP,g];rfl)]
 rw[val_mk v,w,t,g];have:((fO v:Nat):Int)=v.num:=by unfold fO;omega
 simp only[aB.mk.injEq,true_and,EP];rw[show fO (aB.mk false v.num [] [x])=fO v from rfl,this]
theorem ar4(A:bB f)(r:f.cs=[c])(b:f.k=19)(z:nI c):nI f:=by
  intro vs u i v g;have y:=(gj f vs).1 u;have t:=y.fit v (bT g);have e:f.cs[0]? =some c:=by rw[r];rfl
  have j:=fC e u;have E:=A.right.1.2.2.2.2.2.1 b;rw[wC];unfold pz;rw[HL b,Dh (by rw[b];rfl) rfl g,sX ag ag ag]
  cases n:v.au with
  |true=>rw[aK rfl];rw[eM]at t;exact(kB t n).1.symm
  | false=>
    rw[aC aA,ay,ay,ay,ay,ay,aK b,Gl ag,Ec e,aqp (uH e)];obtain⟨e1,D,H⟩:=De (k:=f.ix) ag;have B:(aL f.k vs).ends=vs.map λv=>if v.au then 0 else(gu v (dS vs)).getD 0:=by simp[aL,b]
    obtain⟨p,m⟩:∃p,gu v (dS vs)=some p:=by
      cases m:gu v (dS vs)with
      |none=>exact absurd (KC _ vs rfl v (bT g) n) (vQ.1 m)
      |some p=>exact⟨p,rfl⟩
    have l:(aL f.k vs).ends[i]? =some p:=by rw[B,eY,g];simp[n,m]
    have a:=(DG m).1;have F:=(de.1 a).1;have d:=y.ds b;have h:dK f.k f.w (dJ f.cs) 0 vs=dS vs:=by rw[b,B9]
    have o:=((gj c _).1 j).n4;rw[h]at o;have C:p<2^(8*wB f.ix):=by
      unfold oK at d;rcases D with q|q|q|q <;> rw[q] <;> simp <;> (try omega)
      have:f.ix=3\/f.ix=7:=by
        unfold wB at q
        by_cases x:f.ix=3\/f.ix=7
        ·exact x
        ·rw[aC x]at q;split at q <;> (try omega);split at q <;> omega
      rcases this with s|s <;> rw[s]at d <;> simp at d <;> omega
    show og c.val _ (pH (laidB (aL f.k vs).ends (wB f.ix)) (i*(dN f.ix).toNat) (dN f.ix).toNat)=v
    grind[SJ,Nat.mod_eq_of_lt,Co]
theorem ad1{l:cU}(hl:∀x∈l,x<=4096){n u:Int}{b:dy}{i x:Nat}(a:l[i]? =some x):BU (.mk n 0 u [b,laidB l 4] [] []) i=x:=by
 have:=hl x (bT a)
 show i32 _ (0+i)=x
 rw[cF];exact SK a ag
theorem ar0(D:bB f)(d:f.cs=[c])(a:f.k=20)(t:nI c):nI f:=by
 intro vs r i v q;have g:f.cs[0]? =some c:=by rw[d];rfl
 have C:=((gj f vs).1 r).n4;have R:=aaA _ vs rfl;have y:(aL f.k vs).ends=(cR vs).2:=by rw[a];simp[aL]
 have b:∀x∈(cR vs).2,x<=4096:=λx h=>by
  obtain⟨j,u⟩:=mD.1 h;have:=(R.pos j x u).2;omega
 rw[wC];unfold pz;rw[LH a,aC (by unfold jF mU;simp[a]),ay,ay,ay,ay,ay,ay,aK a]
 have m:(r7 f.k f.cs)[1]? =some c:=by unfold r7;rw[aK a,d];rfl
 rw[Ec m,DI (c:=c.dn (c.st (dK f.k f.w (dJ f.cs) 0 vs))) (by grind[List.getElem?_cons_succ,uH]),DI rfl,y]
 obtain⟨j,e,A,s,E,z⟩:=R.row i v q;have n:=(de.1 s).1;rw[apc (by simpa[bG.len]using n) (by rw[ad1 b s];omega) (λp o=>by
  grind[ad1])]
 grind[Co,aq.Us,Er]
theorem ab6:∀f:aq,bB f->nI f
  | .mk m au k w id ix cs,b=>by
    have d:∀c∈cs,nI c:=λc n=>ab6 c (b.aM n);generalize o:aq.mk m au k w id ix cs=f at b;have d:∀c∈f.cs,nI c:=by rw[<-o];exact d
    by_cases e:f.k=15
    ·obtain⟨c,a,_⟩:=b.one (.inl e);grind[ar2]
    by_cases l:f.k=16
    ·obtain⟨c,a,_⟩:=b.one ag;grind[arZ]
    by_cases j:f.k=17
    ·exact arX b j d
    by_cases i:f.k=18
    ·exact ar5 b i d
    by_cases h:f.k=19
    ·obtain⟨c,a,_⟩:=b.one ag;grind[ar4]
    by_cases g:f.k=20
    ·obtain⟨c,a,_⟩:=b.one ag;grind[ar0]
    grind[ab7]
end
end Go.Proofs.YtbahbhkogflhbaaGreatDoor
