import Derived.Test.YtmjifnioaoamfaaGreatDoorBuildsJ1
set_option linter.all false
set_option maxRecDepth 100000
set_option maxHeartbeats 1000000
namespace Go.Proofs.YtmjifnioaoamfaaGreatDoor
open Go Go.Sh Go.WideShapes
section
variable {S D E:aR} {h' h0 H g:Hp} {lb j m i:Nat} {c1 a:Addr} {xs:List Pl} {J Jx:List Pl->HP} {fs:cN} {u t s:Sl} {Kp:PK} {el:TypeId} {k w x y e:Int} {q p:Sl×Sl×Sl} {f c:ak} {B:Bool}
def ZG(h0:Hp)(x:Pl)(y0 y1:Sl)(y2:eU)(y3:Bool)(y4 y5 y6 y7:Int)(y8:Sl)(y9:Bool):Prop:=
 (y0.n=x.deep∧y0.n≤y0.c)∧cG h0 y1 x.ahead∧y2=x.f.name∧y3=x.f.au∧y4=x.f.k∧y5=x.f.w∧y6=x.f.id∧y7=x.f.ix∧cG h0 y8 x.f.cs∧y9=x.ins∧x.f.name.size≤kR∧x.ahead.length≤kR
def PlA(h0:Hp)(x:Pl)(args:bg):Prop:=∃y0 y1 y2 y3 y4 y5 y6 y7 y8 y9,args=[(.agg #[(Sl.v y0),(Sl.v y1),(.string y2),(.bool y3),(ah y4),(ah y5),(ah y6),(ah y7),(Sl.v y8),(.bool y9)])]∧ZG h0 x y0 y1 y2 y3 y4 y5 y6 y7 y8 y9
def IZ(a3 a4:Nat)(c1:Addr):Value:=.func (.func 97) #[] #[(bB a3),(cU c1),(bB a4)]
structure PI(h0:Hp)(lb a3 a4:Nat)(c1:Addr)(xs:List Pl)(J Jx:List Pl→HP):Prop where
 pre:∀p h1,J p h1→aB h0 h1∧cell h1 c1=some (ah 65)
 ai:∀p h1 h2,aB h1 h2→J p h1→J p h2
 ayi:∀p h1 h2,aB h1 h2→Jx p h1→Jx p h2
 y:∀p x gH h1 args,PlA h0 x args→xs=p++x::gH→J p h1→vV aG lb args h1 (fun v h2=>Tn (fun c=>c≤lb) h1 h2∧((v=.bool true∧J (p++[x]) h2)∨(v=.bool false∧Jx (p++[x]) h2))) qt
 l3:lb<a3
 l4:lb<a4
structure Cg(h:Hp)(a3 a4 lb:Nat)(c1:Addr):Prop where
 k3:aO h a3 #[.func (.yield lb) #[] #[]] agF
 k4:aO h a4 #[IZ a3 a4 c1] agE
theorem Cg.fr{h:Hp}{a3 a4:Nat}(o:Cg h a3 a4 lb c1)(f:Tn S h h')(h3:¬S a3)(h4:¬S a4):Cg h' a3 a4 lb c1:=⟨f.bq o.k3 h3,f.bq o.k4 h4⟩
theorem Cg.ai{h:Hp}{a3 a4:Nat}(o:Cg h a3 a4 lb c1)(g:aB h h'):Cg h' a3 a4 lb c1:=o.fr (S:=No) (bx g) id id
def Ms(h0:Hp)(lb a3 a4:Nat)(c1:Addr)(xs:List Pl)(J Jx:List Pl→HP)(cs:cN):Prop:=
 ∀{h1:Hp}{path l:Sl}{vs:bg}{ins:Bool}{d lo:Nat}{p gH:List Pl}{K:Bool→HP},cG h0 l cs→Sh lo h1.size 1 h1 path vs Y6→lb<lo→lo≤h1.size→(∀v∈vs,one v=true)→vs.length=d→d≤64→Cg h1 a3 a4 lb c1→cs.length≤kR→iR cs→
  xs=p++(dX (d+1) [] ins cs++gH)→J p h1→(∀h2,Tn (fun c=>c≤lb) h1 h2→J (p++dX (d+1) [] ins cs) h2→K true h2)→(∀h2 p' s',xs=p'++s'→Jx p' h2→K false h2)→
  Ti path l ins (aF a3) c1 (aF a4) h1 K qt
theorem aeL{a3 a4:Nat}(W:PI h0 lb a3 a4 c1 xs J Jx){cs:cN}(IH:∀f∈cs,Ms h0 lb a3 a4 c1 xs J Jx f.cs):Ms h0 lb a3 a4 c1 xs J Jx cs:=by
 intro h1 path l vs ins d lo p gH K hf op hlo aqw NM hvl hd own vB W5 zj hJ hT hX
 have Xo:=hf.n
 have vB:cs.length≤9223372036854775807:=vB
 have fX:jT aG 97=true:=by kernel_rfl
 apply Ti.of
 apply Sc.of
 apply QT.bC (fun x h'=>∃i:Nat,x=(i:Int)∧i≤cs.length∧Tn (fun c=>c≤lb) h1 h'∧J (p++dX (d+1) [] ins (cs.take i)) h') (fun x _=>cs.length-x.toNat) ⟨0,rfl,ag,iW _ _,by simpa[dX]using hJ⟩
 rintro x h2 ⟨i,rfl,hi,f2,hJ2⟩ N1 hN
 have U1:=op.fr f2 fun b hb _ (e:b≤lb)=>ag
 have U1:=U1.wide (cr _) f2.1
 have acf:=own.fr f2 (by have:=W.l3;show¬a3≤lb;omega) (by have:=W.l4;show¬a4≤lb;omega)
 have axP:=jH aqw f2.1
 have axR:lb<h2.size:=by have:=acf.k3.lt;have:=W.l3;omega
 apply Sb.of
 refine aK (fun c=>?_) fun c=>?_
 ·simp only[sm,reduceCtorEq]at c
  have pq:i<cs.length:=ag
  have hj:=bL pq
  have ov:=kP pq
  have DZ:cs=cs.take i++(cs[i]::cs.drop (i+1)):=by rw[←B2 pq,EI]
  have Xb:=kE pq
  generalize cs[i]=f at hj ov DZ Xb
  have W9:dX (d+1) [] ins cs=dX (d+1) [] ins (cs.take i)++(f.places (d+1) (cs.take i) ins++dX (d+1) (cs.take i++[f]) ins (cs.drop (i+1))):=by
   have q:=sY (dX (d+1) [] ins) DZ
   rw[q,Nq];simp[dX]
  have adT:dX (d+1) [] ins (cs.take (i+1))=dX (d+1) [] ins (cs.take i)++f.places (d+1) (cs.take i) ins:=by rw[ov,Nq];simp[dX]
  have hsf:=W5.get f Xb
  have Bh:f.places (d+1) (cs.take i) ins=⟨d+1,cs.take i,f,ins⟩::(if d+1<65 then dX (d+2) [] (ins||f.k==19) f.cs else[]):=by cases f;rfl
  have pn:f.name.size≤kR∧f.cs.length≤kR∧iR f.cs:=by cases f;unfold ak.fQ at hsf;exact hsf
  have IHf:Ms h0 lb a3 a4 c1 xs J Jx f.cs:=IH f Xb
  refine hf.ix rfl hj fun a ha=>?_
  obtain⟨u,hu,c0,c1',c2,c3,c4,c5,c6⟩:=ha.cells
  have G:=(W.pre _ _ hJ2).1
  refine⟨_,G.cell c0,_,G.cell c1',_,G.cell c2,_,G.cell c3,_,G.cell c4,_,G.cell c5,_,G.cell c6,?_⟩
  refine aJ fun b11 hx eb gx kx _=>pG kx rfl fun h3 o3 vo=>?_
  have g3:=o3.ai gx ag
  have ax5:h2.size≤b11:=ag
  have ax4:=vo.lt
  apply Sa.of
  refine auf ((U1.ai g3).wide (cr _) g3.1) NM ag fun t21 h4 g4 o4=>?_
  have g4:=aq g3 g4
  have vo:=vo.ai (aq (cW _) ‹aB h3 h4›)
  refine aiK o4 ‹aB h3 h4›.1 ag fun TI h5 f5 o5 hn5=>?_
  have vo:=f5.bq vo (fun q=>by have:=q.1;omega)
  have g5:aB h2 h5:=((bx g4:Tn No h2 h4).trans' f5 fun c hc fR=>by have:=hc.1;have:=g3.1;omega).ai
  have ace:=acf.ai g5
  have hJ5:=W.ai _ _ _ g5 hJ2
  have G5:=(W.pre _ _ hJ5).1
  apply R9.of
  try simp only[bz,Nat.reduceAdd]
  apply aj (x:=Value.func (.yield lb) #[] #[]) ace.k3 rfl
  refine⟨aC,aC,by simp;try omega,by simp;try omega,?_⟩
  apply dM vo
  have hE:ZG h0 ⟨d+1,cs.take i,f,ins⟩ TI ⟨lY l.a ((none:Option Int).getD 0).toNat ((none:Option Int).getD l.c).toNat 7,((some (i:Int)).getD l.n).toNat-((none:Option Int).getD 0).toNat,((none:Option Int).getD l.c).toNat-((none:Option Int).getD 0).toNat⟩ f.name f.au f.k f.w f.id f.ix u ins:=by
   refine⟨⟨show TI.n=d+1 by omega,o5.cap⟩,hf.take hi ?_ ?_ ?_,rfl,rfl,rfl,rfl,rfl,rfl,hu,rfl,pn.1,by simp only[mP];omega⟩
   ·simp only[lY,uB,JE,EH]
    split
    ·rfl
    ·cases l.a with
     |none=>rfl
     |some a=>simp[add_zero']
   ·simp
   ·simp
  unfold c8
  refine vV.mono (W.y _ _ ((if d+1<65 then dX (d+2) [] (ins||f.k==19) f.cs else[])++(dX (d+1) (cs.take i++[f]) ins (cs.drop (i+1))++gH)) _ _ ⟨_,_,_,_,_,_,_,_,_,_,rfl,hE⟩ (by rw[zj,W9,Bh];simp) hJ5) (fun v h6 hv=>?_) (fun _ _ q=>q)
  obtain⟨f6,(⟨rfl,Xv⟩|⟨rfl,hX6⟩)⟩:=hv
  ·refine⟨true,rfl,bu rfl ?_⟩
   have f26:=(bx g5:Tn (fun c=>c≤lb) h2 h5).trans f6
   have vo:=f6.bq vo (show¬b11≤lb by omega)
   have acd:=ace.fr f6 (by have:=W.l3;show¬a3≤lb;omega) (by have:=W.l4;show¬a4≤lb;omega)
   have o6:=(o5.fr f6 fun b hb _ (e:b≤lb)=>by have:=g3.1;omega).wide (cr _) f6.1
   have aqS:=(W.pre _ _ Xv).2
   apply R8.of
   try simp only[bz,Nat.reduceAdd]
   refine⟨_,aqS,?_⟩
   have fin:∀h7,Tn (fun c=>c≤lb) h2 h7→J (p++dX (d+1) [] ins (cs.take (i+1))) h7→aP ((i:Int)+1) fun t55=>N1 (zg path l ins (aF a3) c1 (aF a4) l (l.n:Int) t55) h7:=fun h7 f7 j7=>
    aY ag ag (hN _ _ ⟨i+1,aC,ag,f2.trans f7,j7⟩ ag)
   refine aK (fun c=>?_) fun c=>?_
   ·simp only[sm,reduceCtorEq]at c
    have aqO:d+1<65:=ag
    rw[aI aqO]at Bh
    have abQ:∀(b:Bool),b=(ins||f.k==19)→c8 aG (IZ a3 a4 c1) [Sl.v TI,Sl.v u,.bool b] h6 (fun r h1=>∃t52:Bool,r=.bool t52∧If (!t52) (K false h1) (aP ((i:Int)+1) fun t55=>N1 (zg path l ins (aF a3) c1 (aF a4) l (l.n:Int) t55) h1)) qt:=by
     intro b hb
     unfold c8 IZ
     simp only[fX,EM]
     refine IHf (d:=d+1) (gH:=dX (d+1) (cs.take i++[f]) ins (cs.drop (i+1))++gH)
      (K:=fun t52 h1=>If (!t52) (K false h1) (aP ((i:Int)+1) fun t55=>N1 (zg path l ins (aF a3) c1 (aF a4) l (l.n:Int) t55) h1)) hu o6 (by have:=g3.1;omega) (by have:=g5.1;have:=f6.1;have:=‹aB h3 h4›.1;have:=f5.1;omega)
      (fun v hv=>by rcases ni.1 hv with q|q;exact NM v q;simp only[mR]at q;subst q;rfl) (by simp;omega) ag acd pn.2.1 pn.2.2 (by rw[zj,W9,Bh,hb];simp) Xv (fun h7 f7 j7=>?_) (fun h7 p' s' e j=>?_)
     ·refine bu rfl (fin h7 (f26.trans f7) ?_)
      rw[adT,Bh,←hb]
      simpa using j7
     ·exact bQ rfl (hX h7 p' s' e j)
    refine aj acd.k4 rfl (aj vo rfl ?_)
    cases ins
    ·refine bu rfl (aj vo rfl ?_)
     exact abQ _ aC
    ·exact bQ rfl (abQ _ aC)
   ·simp only[sm,reduceCtorEq]at c
    apply fin h6 f26
    rw[aA]at Bh
    rw[adT,Bh]
    simpa using Xv
  ·exact⟨false,rfl,bQ rfl (hX h6 _ ((if d+1<65 then dX (d+2) [] (ins||f.k==19) f.cs else[])++(dX (d+1) (cs.take i++[f]) ins (cs.drop (i+1))++gH)) (by rw[zj,W9,Bh];simp) hX6)⟩
 ·simp only[sm,reduceCtorEq]at c
  have:i=cs.length:=ag
  simp_all
theorem aeM{a3 a4:Nat}(W:PI h0 lb a3 a4 c1 xs J Jx):∀f:ak,Ms h0 lb a3 a4 c1 xs J Jx f.cs
 |.mk _ _ _ _ _ _ cs=>aeL W (cs:=cs) fun f _=>aeM W f
def Yv(c1 c2:Addr):Value:=.func (.func 96) #[] #[(cU c1),(cU c2)]
theorem asr{a3 a4:Nat}(W:PI h0 lb a3 a4 c1 xs J Jx)(cs:cN):Ms h0 lb a3 a4 c1 xs J Jx cs:=aeL W fun f _=>aeM W f
theorem avv{c2:Addr}{l:Sl}{cs:cN}(hf:cG h0 l cs)(vB:cs.length≤kR)(W5:iR cs):
  ZT aG (Yv c1 c2) (dX 1 [] false cs) (PlA h0) (fun h=>aB h0 h∧cell h c1=some (ah 65)∧cell h c2=some (Sl.v l)):=by
 intro lb J Jx h pn hJ0 xp hG hGx Y
 have fX:jT aG 96=true:=by kernel_rfl
 have aql:jT aG 97=true:=by kernel_rfl
 unfold tK Yv
 simp only[fX,EM,x8,uw]
 refine dW.mono (ZY.of ?_) (fun _ _ hh=>hh.2) (fun _ _ hh=>hh)
 refine aJ fun a3 h1 e3 g1 k3 _=>aJ fun a4 h2 e4 g2 k4 _=>?_
 have k3:=k3.ai g2
 have Bf:a3≠a4:=by have:=k3.lt;have:=g1.1;omega
 refine⟨rfl,?_⟩
 refine dN k4 aC rfl fun h3 o3 k4=>?_
 have k3:=o3.bq k3 Bf
 have hg:aB h h3:=by grind[eJ.ai,aB.trans]
 have hJ3:=hG _ _ _ hg hJ0
 refine aj (x:=IZ a3 a4 c1) k4 rfl ⟨_,(xp _ _ hJ3).2.2,?_⟩
 have W:PI h0 lb a3 a4 c1 (dX 1 [] false cs) J Jx:=⟨fun p h1 j=>⟨(xp p h1 j).1,(xp p h1 j).2.1⟩,hG,hGx,fun p x gH h1 args hA e j=>Y p x gH h1 args hA e j,ag,by have:=g1.1;omega⟩
 unfold c8 IZ
 simp only[aql,EM]
 refine dW.mono (asr W cs (path:=Sl.nil) (d:=0) (gH:=[]) (K:=fun _ h2=>J (dX 1 [] false cs) h2∨∃pre gH,dX 1 [] false cs=pre++gH∧Jx pre h2) hf (Sh.nil _ _ _ _ _) (by have:=hg.1;omega) (cr _) aC rfl ag ⟨k3,k4⟩ vB W5 aC hJ3
  (fun h4 _ j=>.inl (by simpa using j)) (fun h4 p' s' e j=>.inr ⟨p',s',e,j⟩)) (fun _ _ hh=>?_) (fun _ _ hh=>hh)
 obtain⟨b,rfl,hh⟩:=hh
 exact⟨b,rfl,hh⟩
theorem Tw.back{l:Nat}{h1 N5 N4:Hp}(g:aB h1 N5)(t:Tw l N5 N4)(hl:∃r,h1[l]? =some (.loop r)):∃h',Tw l h1 h'∧N4[l]? =h'[l]? :=by
 obtain⟨r,hr⟩:=hl
 obtain⟨_,_,r',st,pd,e1,e2⟩:=t
 rw[IS g hr]at e1
 cases e1
 refine⟨h1.setIfInBounds l (.loop {r with state:=st,pending:=pd}),AK hr,?_⟩
 grind
abbrev C7(h:Hp)(b:Nat)(e:Int)(s:Sl)(n:Int):Prop:=aO h b #[ah e,Sl.v s,ah n] kG
theorem amC{h:Hp}{D a6 r:Nat}{s7:Sl}{c2:Addr}{K:Int->Sl->Int->HP}(ht:kS H)(hf:cG H u fs)(w':fs.length<=kR)(q':iR fs)(g:aB H h)
  (l2:H.size<=j) (l5:H.size<=D) (lr:H.size<=r) (k2:C7 h j 0 s7 0) (k5:aO h D #[ah 0] Y6) (k6:aO h a6 #[.map (some r)] Zo) (hm:pP h r []) (n25:j≠D) (n26:j≠a6) (n56:D≠a6) (n2r:j≠r) (n5r:D≠r) (n6r:a6≠r) (y':cell h c1=some (ah 65)) (x':cell h c2=some (Sl.v u))
  (d12:c1.block≠j) (d15:c1.block≠D) (d1r:c1.block≠r) (d22:c2.block≠j) (d25:c2.block≠D) (d2r:c2.block≠r)
  (hk:∀(e:Int)(s:Sl)n h',aB H h'->s.n<=s.c->(e=0↔gC 0 [] (dX 1 [] false fs))->K e s n h'):JR K Kp (aF j) (aF D) (aF a6) (Yv c1 c2) h:=by
 have i2:=k2.lt;have i5:=k5.lt;have i6:=k6.lt;have ir:r<h.size:=by obtain⟨_,_,e,_⟩:=hm;exact(mq.1 e).1
 refine JR.bC (α:=Pl) (ZG H) (avv hf w' q')
  (λz y=>Tn (λc=>c=D\/c=r) h y/\aO y D #[ah (z.length:Int)] Y6/\pP y r (kX [] z)/\gC 0 [] z)
  (λz y=>Tn (λc=>c=j\/c=D\/c=r) h y/\∃(e:Int)(s:Sl),C7 y j e s 0/\e≠0/\s.n<=s.c/\¬gC 0 [] z) ⟨iW _ _,k5,hm,trivial⟩ ?_ ?_ ?_ ?_ ?_ ?_ ?_ ?_
 ·rintro z y h2 g ⟨f,b,m,a⟩;exact⟨f.trans' (bx (S:=No) g) λ_ t=>t.elim,b.ai g,m.ai g,a⟩
 ·rintro l z y h2 hl t ⟨f,b,m,a⟩;exact⟨f.trans' t.only.fr λd A R=>ag,t.only.bq b ag,m.fr t.only.fr ag,a⟩
 ·rintro z y ⟨f,_⟩;refine⟨⟨jH g.1 f.1,λc Q=>(f.2 c ag ag).trans (g.2 c Q)⟩,f.cell y' ag,f.cell x' ag⟩
 ·rintro z y h2 g ⟨f,e,s,b,q⟩;exact⟨f.trans' (bx (S:=No) g) λ_ t=>t.elim,e,s,b.ai g,q⟩
 ·rintro l z y h2 hl t ⟨f,e,s,b,q⟩;exact⟨f.trans' t.only.fr λd A R=>ag,e,s,t.only.bq b ag,q⟩
 ·rintro l z x p' y y0 y1 y2 y3 y4 y5 y6 y7 y8 y9 hE g' hl Z ⟨L,M,P,a1⟩ N X hN hX;obtain⟨⟨hp,s'⟩,ha,rfl,rfl,rfl,rfl,rfl,rfl,r',rfl,u',z'⟩:=hE;have v':l<y.size:=by obtain⟨q,hq⟩:=Z;exact(mq.1 hq).1
  have G1:aB H y:=⟨jH g.1 L.1,λc Q=>(L.2 c ag ag).trans (g.2 c Q)⟩
  have Y:=L.bq k6 ag;have b2:=L.bq k2 ag;have hlen:=Z3 a1 ag;unfold ag6;have p:=jJ.start No y;refine p.new λb7 _ hb7 _ p=>?_;refine p.st 0 rfl rfl rfl λ_ _ p=>?_;simp only[bX,ke,jG,jr]at p;refine p.oo 0 rfl rfl rfl λ_ _ p=>?_;simp only[bX,ke,jG,jr]at p;refine p.oo 0 rfl rfl rfl λ_ _ p=>?_;simp only[bX,ke,jG,jr]at p;refine p.oo 0 rfl rfl rfl λ_ _ p=>?_;simp only[bX,ke,jG,jr]at p;refine p.oo 0 rfl rfl rfl λ_ _ p=>?_;simp only[bX,ke,jG,jr]at p;refine p.oo 0 rfl rfl rfl λ_ _ p=>?_;simp only[bX,ke,jG,jr]at p;refine p.oo 0 rfl rfl rfl λ_ _ p=>?_;simp only[bX,ke,jG,jr]at p;refine p.oo 0 rfl rfl rfl λ_ _ p=>?_;simp only[bX,ke,jG,jr]at p;refine p.oo 0 rfl rfl rfl λ_ _ p=>?_;simp only[bX,ke,jG,jr]at p;refine p.oo 0 rfl rfl rfl λ_ _ p=>?_;simp only[bX,ke,jG,jr]at p
  rename_i c' _
  have C:aO c' b7 #[Sl.v y0,Sl.v y1,.string x.f.name,.bool x.f.au,ah x.f.k,ah x.f.w,ah x.f.id,ah x.f.ix,Sl.v y8,.bool x.ins] Zn:=p.bq (i:=0) rfl;have I:=p.ai;clear p;refine⟨(I.2 l v'),λj' f'=>?_⟩;have F:=f'.only;have C:=F.bq C ag;have M:=F.bq (M.ai I) ag;have Y:=F.bq (Y.ai I) ag;have b2:=F.bq (b2.ai I) ag;have P:=(P.ai I).fr F.fr ag;obtain⟨h',t',e'⟩:=Tw.back I f' Z;have W:=(bx I:Tn (λc=>c=l) y c').trans' F.fr λd A _=>A;have G12:aB H j':=⟨jH G1.1 W.1,λc Q=>(W.2 c ag ag).trans (G1.2 c Q)⟩
  clear F
  try simp only[bz,Nat.reduceAdd]
  refine aj C rfl (aj C rfl (aj C rfl (aj C rfl (aj C rfl (aj C rfl (aj C rfl (aj C rfl (aj C rfl (aj C rfl (aj M rfl (aj Y rfl (aiz G12 ht hp ha r' z' u' P λe i' G he=>?_))))))))))));have m':=W.trans' (bx (S:=No) G) λ_ t=>t.elim;have C:=C.ai G;have M:=M.ai G;have Y:=Y.ai G;have b2:=b2.ai G;have P:=P.ai G;have el:i'[l]? =h'[l]? :=(G.2 l (by have:=W.1;omega)).trans e'
  have a':gC 0 [] (z++[x])↔e=0:=by
   rw[G9];simp only[gC,yl,bX];exact⟨λq=>he.2 q.2,λq=>⟨a1,he.1 q⟩⟩
  refine cE (λc=>?_) λc=>?_
  ·refine aj C rfl (dN b2 aC rfl λO B b2=>dN b2 aC rfl λV E b2=>dN b2 aC rfl λU b' b2=>?_);have o:=(B.trans E).trans b';have k':Tn (λc=>c=l\/c=j) y U:=(m'.mono λd A _=>.inl A).trans' o.fr λd A _=>.inr A;exact hX h' U t' ((o.2 l ag).trans el) (k'.mono λd A _=>ag)
    ⟨(L.mono λd A _=>.inr A).trans' k' λd A R=>ag,e,y0,by simpa using b2,c,s',λq=>c (a'.1 q)⟩
  ·refine aj M rfl (aY ag ag (dN M aC rfl λO B M=>?_));have C:=B.bq C ag;have Y:=B.bq Y ag;have P:=P.fr B.fr ag;have d':Tn (λc=>c=l\/c=D) y O:=(m'.mono λd A _=>.inl A).trans' B.fr λd A _=>.inr A;have M:aO O D #[ah ((z++[x]).length:Int)] Y6:=by simpa using M
   have n':=a'.2 c;refine aj C rfl (cE (λJ=>?_) λJ=>?_)
   ·refine aj Y rfl (aj C rfl (aj M rfl (avM P λV E m2=>?_)));have l':Tn (λc=>c=l\/c=D\/c=r) y V:=(d'.mono λd A _=>ag).trans' E.fr λd A _=>.inr (.inr A)
    refine hN h' V t' ((E.2 l ag).trans ((B.2 l ag).trans el)) (l'.mono λd A _=>ag) ⟨L.trans' l' λd A R=>ag,E.bq M ag,?_,n'⟩
    rw[adD]
    simpa[kX,w7,J]using m2
   ·refine hN h' O t' ((B.2 l ag).trans el) (d'.mono λd A _=>ag) ⟨L.trans' d' λd A R=>ag,M,?_,n'⟩
    rw[adD]
    simpa[kX,w7,J]using P
 ·rintro y ⟨L,M,P,a1⟩;have b2:C7 y j 0 s7 0:=L.bq k2 ag;have G1:aB H y:=⟨jH g.1 L.1,λc Q=>(L.2 c ag ag).trans (g.2 c Q)⟩
  unfold ag8
  try simp only[bz,Nat.reduceAdd]
  refine dN b2 aC rfl λO B b2=>dN b2 aC rfl λV E b2=>dN b2 aC rfl λU b' b2=>?_;have b2:C7 U j 0 Sl.nil 0:=by simp at b2;exact b2
  exact aj b2 rfl (aj b2 rfl (aj b2 rfl (hk _ _ _ _ (bK G1 ((B.trans E).trans b') l2) (cr _) ⟨λ_=>a1,λ_=>rfl⟩)))
 ·rintro z p' y g' ⟨L,e,s,b2,he,o',na⟩;have G1:aB H y:=⟨jH g.1 L.1,λc Q=>(L.2 c ag ag).trans (g.2 c Q)⟩
  unfold ag4
  try simp only[bz,Nat.reduceAdd]
  refine aj b2 rfl (aj b2 rfl (aj b2 rfl (hk _ _ _ _ G1 o' ⟨λq=>absurd q he,λq=>?_⟩)));grind[G9]
theorem av0{h:Hp}{K:Nat->HP}(b:∀r a,r=h.size->aB h a->pP a r []->K r a):E0 h K:=
 b _ _ rfl (rW _ _) ⟨#[],0,aC,aC,aC⟩
theorem auk{ms:List Md}{h:Hp}{K:Int->Sl->Int->HP}(ht:kS H)(f':iR fs)(g:aB H h)(hf:cG H t fs)(h2:Zz H u 2 (ms.map aoo))
  (hk:∀(e:Int)(s:Sl)n F,aB H F->s.n<=s.c->(e=0↔EY fs ms)->K e s n F):Mh t u h K Kp:=by
 apply Mh.of;have r':=hf.n;have q':u.n=ms.length:=by simpa using h2.1
 refine aJ λb1 h3 e1 g1 l _=>aJ λb2 U e2 g2 p _=>?_;have l:=l.ai g2;have g4:=aq g (aq g1 g2);have l2:H.size<=b2:=by have:=g.1;have:=g1.1;omega
 have n':b1<b2:=by have:=l.lt;have:=g1.1;omega
 try simp only[bz,Nat.reduceAdd]
 have p:C7 U b2 0 Sl.nil 0:=p;have b:∀(e n:Int)(d:Hp)(X:Sl)(e7 n7:Int),e≠0->¬EY fs ms->C7 d b2 e7 X n7->aB H d->St d (aF b2) (ah e) λh3=>St h3 ⟨b2,1,none⟩ (.slice none 0 0) λU=>St U ⟨b2,2,none⟩ (ah n) λd=>Ld d (aF b2) mI λS=>Ld d ⟨b2,1,none⟩ (Sl.v) λR=>Ld d ⟨b2,2,none⟩ mI λQ=>K S R Q d:=by
  intro e n d X e7 n7 Y i' k G;refine dN k aC rfl λw' c' k=>dN k aC rfl λu' b' k=>dN k aC rfl λm' a' k=>?_;have k:C7 m' b2 e Sl.nil n:=by simp at k;exact k
  exact aj k rfl (aj k rfl (aj k rfl (hk _ _ _ _ (bK G ((c'.trans b').trans a') l2) (cr _) ⟨λq=>absurd q Y,λq=>absurd q i'⟩)))
 refine aj l rfl (aK (λc=>?_) λc=>?_)
 ·have c:=aU c;exact b _ _ _ _ _ _ bh (λq=>by have:=q.1;omega) p g4
 refine aj l rfl (aK (λc2=>?_) λc2=>?_)
 ·have c2:=aU c2;exact b _ _ _ _ _ _ bh (λq=>by have:=q.2.1;omega) p g4
 simp only[sm,reduceCtorEq]at c c2;apply Si.of
 try simp only[bz,Nat.reduceAdd]
 refine aj l rfl (Q8.bC (λx F=>aB U F/\∃i:Nat,x=i/\i<=ms.length/\∀(j:Nat)v,j<i->ms[j]? =some v->ZN v) (λx _=>ms.length-x.toNat) ⟨cW _,0,rfl,ag,λj v hj=>ag⟩ ?_)
 rintro x d ⟨G,i,rfl,hi,A⟩ N1 hN;have l:=l.ai G;have p:=p.ai G;have B:=aq g4 G
 try simp only[bz,Nat.reduceAdd]
 refine cE (λM=>?_) λM=>?_
 ·have l':i<ms.length:=ag;have L:=bL l';generalize ms[i]=v at L;refine h2.ix rfl L λa ha=>⟨_,B.cell (Cs.c0 ha),_,B.cell (ha 1 _ rfl),?_⟩;have f:=jJ.start No d;refine f.new λb6 _ t' _ f=>f.st 0 rfl rfl rfl λ_ _ f=>?_;simp only[bX,ke,jG,jr]at f;refine f.oo 0 rfl rfl rfl λ_ _ f=>?_;simp only[bX,ke,jG,jr]at f
  rename_i Z _
  have w:=f.bq (i:=0) rfl;have z:=f.ai;clear f
  try simp only[bz,Nat.reduceAdd]
  refine aj w rfl (aK (λW=>?_) λW=>?_)
  ·have W:=aU W;exact b _ _ _ _ _ _ bh (λq=>by have:=(q.2.2.1 i v L).1;omega) (p.ai z) (aq B z)
  refine aj w rfl (aK (λV=>?_) λV=>?_)
  ·have V:=aU V;exact b _ _ _ _ _ _ bh (λq=>by have:=(q.2.2.1 i v L).2;omega) (p.ai z) (aq B z)
  simp only[sm,reduceCtorEq]at W V;refine aY ag ag (hN _ _ ⟨aq G z,i+1,aC,ag,λj' v' s' I=>?_⟩ ag)
  by_cases e:j'=i
  ·subst e;rw[L]at I;cases I;exact⟨ag,ag⟩
  ·exact A j' v' ag I
 ·have k':∀(j:Nat)m,ms[j]? =some m->ZN m:=by grind[List.getElem?_eq_some_iff]
  refine Sg.of (aJ λa5 Z e5 z E _=>dN E aC rfl λJ o7 E=>?_);have E:aO J a5 #[ah 0] Y6:=by simpa using E
  have g7:=bK z o7 ag;refine av0 λr h8 er g8 hm=>?_;subst er;have p':J.size<h8.size:=by obtain⟨_,_,e,_⟩:=hm;exact(mq.1 e).1
  refine aJ λa6 h9 e6 g9 w _=>dN w aC rfl λN d' w=>?_;have w:aO N a6 #[.map (some J.size)] Zo:=by simpa using w
  have y:=bK g9 d' ag;have D:=aq g7 (aq g8 y);have l:=l.ai D;have i2:=p.lt;have i5:=E.lt;refine aj l rfl (Tk.of (aJ λc2 y' z' P C _=>aJ λc1 x' ec1 O e' _=>?_));have o:=aq P O;have C:=C.ai O;have:=y.1;have:=P.1;refine amC ht hf (by show _<=9223372036854775807;omega) f' (aq B (aq D o)) l2 (by have:=B.1;omega) (by have:=B.1;omega) (p.ai (aq D o)) (E.ai (aq g8 (aq y o))) (w.ai o) (hm.ai (aq y o))
   ag ag ag ag ag ag (by rw[gU e'];rfl) (by rw[gU C];rfl) (by simp only;omega) (by simp only;omega) (by simp only;omega) (by simp only;omega) (by simp only;omega) (by simp only;omega) λe s n F g' T Y=>hk e s n F g' T (Y.trans ?_)
  rw[He];exact⟨λq=>⟨ag,ag,k',q⟩,λq=>q.2.2.2⟩
theorem bR{h:Hp}{b o n:Nat}{cs:Array Value}{X:Prop}(k:aO h b cs el)(g:aB h H)(x:X):aT h H ⟨b,o,none⟩ n X:=
 ⟨λi _=>by rw[bz,gU (k.ai g),gU k],x⟩
theorem Co{h h1:Hp}{v:Value}{X:Prop}(hc:cell h a=some v)(g:aB h h1)(x:X):aT h h1 a 1 X:=
  ⟨fun i hi => by obtain rfl:i=0:=ag
                  rw[add_zero',hc,g.cell hc],x⟩
theorem cG.gr{h:Hp}(c:cG h s fs)(g:aB h H):cG H s fs:=cG.ai g fs c
def bE(f:ak):Prop:=EY [f] []
theorem OG{l:eU}{au:Bool}{id ix:Int}{cs:cN}{h:Hp}{K:Int->Sl->Int->HP}{Q:PK}(J:kS h)(y:(ak.mk l au k w id ix cs).fQ)(L:cG h s cs)
  (m:∀e p n o,aB h o->(e=0↔bE (.mk l au k w id ix cs))->K e p n o):Ao l au k w id ix s h K Q:=by
 refine Ao.of (aJ λb1 Y e1 E H _=>aJ λb2 X e2 D a _=>dM (H.ai D) (aJ λb5 W Z C G _=>?_));have u:=aq E (aq D C);have hl:h.size<=b2:=by have:=E.1;omega
 refine auk (fs:=[.mk l au k w id ix cs]) (ms:=[]) (J.ai u) ⟨y,trivial⟩ (cW _) ?_ ⟨rfl,cr _,λj r M=>by simp at M⟩ λe p n V B R N=>?_
 ·unfold cG;exact⟨rfl,cr _,_,rfl,⟨s,λi v I=>by rw[bz,bX,gU G];simpa[oh]using I,L.gr u⟩,trivial⟩
 have a:=(a.ai C).ai B;have t:=aq u B;have m:=λp n o g=>m e p n o g N;refine aJ λP U e3 A d _=>mN d rfl λT z d=>?_;have f:b2≠P:=by have:=a.lt;omega
 have a:=z.bq (a.ai A) f;have F:=bK (aq t A) z (by have:=t.1;omega)
 simp only[bz];refine aj d rfl (aK (λc=>?_) λc=>?_)
 ·have c:=aU c;refine aj d rfl ⟨aC,by simp;omega,by simp;omega,aC,(dN d aC rfl λS x d=>?_)⟩
  have a:=x.bq a f;exact oB d (mN a rfl λO q a=>oB a (m _ _ _ (bK (bK F x (by have:=t.1;omega)) q hl)))
 grind[eu.b,dS.b,eJ.ai]
def gJ(k:Int)(cs:cN):Bool:=k==1||(k==20&&match cs with|f::_=>f.au|[]=>false)
def Xw(k w id ix:Int)(cs:cN):ak:=.mk (bs [97]) (gJ k cs) k w id ix cs
theorem aqk{id ix:Int}{cs:cN}{h:Hp}{K:ByteArray->Bool->Int->Int->Int->Int->Sl->HP}{Y:PK}(M:cG h s cs)
    (S:∀O,aB h O->K (bs [97]) (gJ k cs) k w id ix s O):LJ k w id ix s h K Y:=by
  refine LJ.of (aJ λX h1 e1 P d _=>aJ λb2 h2 e2 H q _=>xV (d.ai H) (aJ λJ h3 e3 G t _=>pG t rfl λU D t=>?_));have a':X<b2:=by have:=d.lt;omega
  have Z:b2<J:=by have:=q.lt;omega
  have hl:h.size<=b2:=by have:=P.1;omega
  have d:=D.bq ((d.ai H).ai G) ag;have q:=D.bq (q.ai G) ag;have Q:=bK (aq P (aq H G)) D ag;have N:=M.n;have fin:∀b:Bool,b=gJ k cs->St U ⟨J,1,none⟩ (.bool b) λF=>bP F (aF J) λp o m l j g e=>kg F (aF b2) p o m l j g e λE=>bP E (aF b2) λC B A z y x v=>K C B A z y x v E:=by
    rintro b rfl;exact dN t aC rfl λF L t=>dM t (pG (L.bq q ag) rfl λE R q=>dM q (S _ (bK (bK Q L ag) R hl)))
  simp only[bz];refine aj d rfl (aK (λc=>fin _ ?_) λc=>aj d rfl (aK (λr=>aj d rfl (aK (λI=>aj d rfl ?_) λI=>fin _ ?_)) λr=>fin _ ?_))
  ·simp[gJ,c]
  · simp only[sm,reduceCtorEq]at c r I;cases cs with
    |nil=>have:=N.1;simp at this;omega
    | cons f V=>
      refine M.ix rfl rfl λa T=>?_;obtain⟨u,_,_,W,_⟩:=T.cells;exact⟨_,Q.cell W,fin _ (by simp[gJ,r])⟩
  · simp only[sm,reduceCtorEq]at c r I;cases cs with
    |nil=>simp[gJ,r]
    |cons f V=>have:=N.1;simp at this;omega
  ·simp[gJ,c,r]
def th(k w id ix:Int)(cs:cN):Prop:=bE (Xw k w id ix cs)
theorem U3{id ix:Int}{cs:cN}{h:Hp}{K:fD}{q:PK}(i:kS h)(hl:cs.length<=kR)(a:iR cs)(c:cG h s cs)
  (j:∀b d,aB h d->(b=true↔th k w id ix cs)->K b d):C2 k w id ix s h K q:=by
 refine C2.of (aJ λv u e1 f g _=>xV g (aqk (c.gr f) λt o=>?_));have G:=aq f o;refine OG (i.ai G) ⟨by decide,hl,a⟩ (c.gr G) λe p n r m l=>j _ _ (aq G m) ?_
 rw[nU];exact l
def ak.row(f:ak)(u:Sl):List Value:=oh f.name f.au f.k f.w f.id f.ix u
theorem HS(f:ak)(u:Sl):(f.row u).length=7:=rfl
theorem row_one(f:ak)(u:Sl):∀v∈f.row u,one v=true:=by intro v a;simp[ak.row,oh]at a;rcases a with rfl|rfl|rfl|rfl|rfl|rfl|rfl <;> rfl
mutual
def ck(D:aR)(h:Hp)(s:Sl):List ak->Prop
 |[]=>s.n=0/\s.n<=s.c
 |f::fs=>s.n=fs.length+1/\s.n<=s.c/\∃a,s.a=some a/\D a.block/\jt D h a f/\iy D h a 1 fs
def iy(D:aR)(h:Hp)(a:Addr)(i:Nat):List ak->Prop
 |[]=>True
 |f::fs=>jt D h (a.add (i*7)) f/\iy D h a (i+1) fs
def jt(D:aR)(h:Hp)(a:Addr):ak->Prop
 |.mk n au k w id ix cs=>∃s,Cs h a (oh n au k w id ix s)/\ck D h s cs
end
mutual
theorem ck.h{D:aR}{h:Hp}:∀{s:Sl}(fs:cN),ck D h s fs->cG h s fs
  |_,[],hh=>by grind[ck,cG]
  | _,f::fs,hh=>by
    unfold ck at hh;unfold cG
    obtain⟨a,b,p,e,_,x,y⟩:=hh
    exact⟨a,b,p,e,jt.h f x,iy.h fs y⟩
theorem iy.h{D:aR}{h:Hp}:∀{a:Addr}{i:Nat}(fs:cN),iy D h a i fs->iw h a i fs
 |_,_,[],_=>by unfold iw;trivial
 |_,_,f::fs,hh=>by unfold iy at hh;unfold iw;exact⟨jt.h f hh.1,iy.h fs hh.2⟩
theorem jt.h{D:aR}{h:Hp}:∀{a:Addr}(f:ak),jt D h a f->jN h a f
  | _,.mk n au k w id ix cs,hh=>by
    unfold jt at hh;unfold jN
    obtain⟨s,c,x⟩:=hh
    exact⟨s,c,ck.h cs x⟩
end
mutual
theorem ck.fr{D S E:aR}{h h':Hp}(f:Tn S h h')(hn:∀b,D b->¬S b)(hE:∀b,D b->E b):∀{s:Sl}(fs:cN),ck D h s fs->ck E h' s fs
  |_,[],hh=>by unfold ck at hh ⊢;exact hh
  | _,g::fs,hh=>by
    unfold ck at hh⊢
    obtain⟨a,b,p,e,d,x,y⟩:=hh
    exact⟨a,b,p,e,hE _ d,jt.fr f hn hE (hn _ d) g x,iy.fr f hn hE (hn _ d) fs y⟩
theorem iy.fr{D S E:aR}{h h':Hp}(f:Tn S h h')(hn:∀b,D b->¬S b)(hE:∀b,D b->E b):∀{a:Addr}(ha:¬S a.block){i:Nat}(fs:cN),iy D h a i fs->iy E h' a i fs
  |_,_,_,[],_=>by unfold iy;trivial
  | _,ha,i,g::fs,hh=>by
    unfold iy at hh⊢
    exact⟨jt.fr f hn hE (by rw[JJ];exact ha) g hh.1,iy.fr f hn hE ha fs hh.2⟩
theorem jt.fr{D S E:aR}{h h':Hp}(f:Tn S h h')(hn:∀b,D b->¬S b)(hE:∀b,D b->E b):∀{a:Addr}(ha:¬S a.block)(g:ak),jt D h a g->jt E h' a g
  | _,ha,.mk n au k w id ix cs,hh=>by
    unfold jt at hh⊢
    obtain⟨s,c,x⟩:=hh
    exact⟨s,c.fr f ha,ck.fr f hn hE cs x⟩
end
theorem ck.gr{h:Hp}(c:ck D h s fs)(g:aB h H):ck D H s fs:=ck.fr (bx g) (λ_ _=>id) (λ_=>id) fs c
abbrev vM:=@ck.gr
theorem iy.of{h:Hp}:∀{fs:cN}{i:Nat},(∀j f,fs[j]? =some f->jt D h (a.add ((i+j)*7)) f)->iy D h a i fs
  |[],_,_=>by unfold iy;trivial
  | f::fs,i,H=>by
    unfold iy;refine⟨H 0 f rfl,iy.of λj g b=>?_⟩;have:=H (j+1) g dH
    grind
theorem ck.of{h:Hp}{b:Nat}{cs:cN}{q:List Sl}(o:lX 7 h s b (List.zipWith ak.row cs q) el)(hl:q.length=cs.length)(B:D b)(z:∀(j:Nat)(f:ak)(u:Sl),cs[j]? =some f->q[j]? =some u->ck D h u f.cs):ck D h s cs:=by
  have i:=o.n;rw[qn,hl,JD]at i;have key:∀j f,cs[j]? =some f->jt D h ⟨b,j*7,none⟩ f:=by
    intro j f l;have t:=(dy.1 l).1;have d:q[j]? =some q[j]:=aC;have p:(List.zipWith ak.row cs q)[j]? =some (f.row q[j]):=by rw[List.getElem?_zipWith,l,d]
    have c:=o.cs p;have m:=z j f _ l d;generalize q[j]=u at c m;obtain⟨n,au,k,w,id,ix,ds⟩:=f;unfold jt;exact⟨u,c,m⟩
  cases cs with
  |nil=>unfold ck;simp[*]
  | cons f v=>
    unfold ck;refine⟨ag,o.cap,_,o.a,B,by simpa using key 0 f rfl,iy.of λj g r=>?_⟩
    rw[bz,bX];have:=key (j+1) g dH
    have e:1+j=j+1:=ag;rw[e];exact this
theorem ck.sub{h:Hp}{l:cN}(b:ck D h s l)(k:t.a=s.a)(e:t.n=s.n)(g:t.n<=t.c):ck D h t l:=by
 cases l with
 |nil=>unfold ck at b ⊢;omega
 |cons f l=>unfold ck at b ⊢;grind
theorem ck.n{h:Hp}(z:ck D h s fs):s.n=fs.length/\s.n<=s.c:=(ck.h fs z).n
theorem ak6(p:Option Addr)(m a:Nat):lY p 0 m a=p:=by
 unfold lY;simp[add_zero']
theorem auh{h:Hp}{K:Sl->HP}{d:PK}(e:s.n<=s.c)(b:K ⟨s.a,s.n,s.n⟩ h):LB s h K d:=by
 refine LB.of ⟨aC,aC,aC,by simp;omega,?_⟩
 simpa[ak6]using b
mutual
def ak.jC:ak->Prop
 |.mk _ _ _ _ _ _ cs=>cs.length<=70000/\jC cs
def jC:List ak->Prop
 |[]=>True
 |f::fs=>f.jC/\jC fs
end
theorem jC.get:∀{c:cN},jC c->∀f∈c,f.jC
  |[],_,_,h=>by simp at h
  | g::b,a,f,h=>by
    unfold jC at a;rcases lT.1 h with rfl|h
    ·exact a.1
    ·exact jC.get a.2 f h
theorem ak.jC.cs(h:f.jC):f.cs.length<=70000/\YtmjifnioaoamfaaGreatDoor.jC f.cs:=by cases f;unfold ak.jC at h;exact h
theorem amT{cs:cN}{d:Nat}(b:∀f∈cs,∀(n:Nat)(a:List Int),gC n a (f.places d [] B)->f.jC):∀{n:Nat}{a:List Int},gC n a (lM d B cs)->jC cs:=by
  induction cs with
  |nil=>intro n a _;unfold jC;trivial
  | cons f j c=>
    intro n a h;simp only[lM,G9]at h;grind[jC]
theorem ab5:∀(f:ak)(d:Nat)(b:Bool)(n:Nat)(a:List Int),gC n a (f.places d [] b)->f.jC
  | .mk g au k w id ix cs,d,b,n,a,h=>by
    have e:∀f∈cs,∀(n:Nat)(a:List Int),gC n a (f.places (d+1) [] (b||k==19))->f.jC:=λf _ n a=>ab5 f (d+1) (b||k==19) n a;have c:d<=64:=by unfold ak.places at h;exact h.1.1
    rw[DC c]at h;have m9:=h.1.2.2.2.2.1;simp only[ak.k,ak.w,ak.id,ak.ix,ak.cs]at m9;unfold Shaped at m9;unfold ak.jC;exact⟨ag,(amT e ((He.1 h.2).2))⟩
theorem bE.jC(h:bE f):f.jC:=by
 have:=h.2.2.2.2;simp only[lM,pM]at this;grind[ab5]
theorem bE.self(h:bE f):Shaped f.k f.w f.id f.ix f.cs.length/\Ab f.k f.au f.cs/\(f.k=19->∃c,f.cs[0]? =some c/\c.au=false):=by
 have:=h.2.2.2.2;obtain⟨n,au,k,w,id,ix,cs⟩:=f;simp only[lM,pM]at this;unfold ak.places at this;have q:=this.1;exact⟨q.2.2.2.2.1,q.2.2.2.2.2.1,λe=>(q.2.2.2.2.2.2.2 e).1⟩
theorem ae3{h:Hp}{v:Value}(b:cell h a=some v):a.block<h.size:=by
 unfold Go.Sh.cell at b;grind[Array.getElem?_eq_some_iff]
theorem Cs.lt{h:Hp}{v:Value}{vs:bg}(c:Cs h a (v::vs)):a.block<h.size:=ae3 (Cs.c0 c)
mutual
theorem ck.lt{D:aR}{h:Hp}:∀{s:Sl}(fs:cN),ck D h s fs->ck (λb=>D b/\b<h.size) h s fs
  |_,[],hh=>by unfold ck at hh ⊢;exact hh
  | _,g::fs,hh=>by
    unfold ck at hh⊢
    obtain⟨a,b,p,e,d,x,y⟩:=hh
    refine⟨a,b,p,e,⟨d,?_⟩,jt.lt g x,iy.lt fs y⟩
    obtain⟨n,au,k,w,id,ix,cs⟩:=g
    unfold jt at x
    obtain⟨s,c,_⟩:=x
    exact Cs.lt c
theorem iy.lt{D:aR}{h:Hp}:∀{a:Addr}{i:Nat}(fs:cN),iy D h a i fs->iy (λb=>D b/\b<h.size) h a i fs
 |_,_,[],_=>by unfold iy;trivial
 |_,i,g::fs,hh=>by unfold iy at hh ⊢;exact⟨jt.lt g hh.1,iy.lt fs hh.2⟩
theorem jt.lt{D:aR}{h:Hp}:∀{a:Addr}(g:ak),jt D h a g->jt (λb=>D b/\b<h.size) h a g
  | _,.mk n au k w id ix cs,hh=>by
    unfold jt at hh⊢
    obtain⟨s,c,x⟩:=hh
    exact⟨s,c,ck.lt cs x⟩
end
theorem jN.row{h:Hp}(c:jN h a f):∃u,Cs h a (f.row u)/\cG h u f.cs:=by cases f;exact c
abbrev Nw(h:Hp):Nat->Prop:=λb=>h.size<=b
def Rk(cs:cN):Prop:=∀{h:Hp}{s:Sl}{K:Sl->HP}{Kp:PK},cG h s cs->cs.length<=70000->jC cs->(∀t h',aB h h'->ck (Nw h) h' t cs->K t h')->GP s h K Kp
theorem adv{cs:cN}(IH:∀f∈cs,Rk f.cs):Rk cs:=by
  intro h s K Kp hs hl W hk;have hn:=hs.n;refine GP.of (QO.bC (λE x m=>∃(i:Nat)(z:List Sl),x=i/\i<=cs.length/\z.length=i/\aB h m/\fO h.size 7 m E (List.zipWith ak.row (cs.take i) z) iI/\
      ∀(j:Nat)(f:ak)(u:Sl),cs[j]? =some f->z[j]? =some u->ck (λb=>h.size<=b/\¬E.at b) m u f.cs)
    (λE x _=>cs.length-x.toNat) ⟨0,[],rfl,ag,rfl,cW _,sU _ _ _ _,aC⟩ ?_)
  rintro E x m ⟨i,z,rfl,hi,p,B,w,hu⟩ N1 hN;have R:=w.n;rw[qn,mP]at R;refine cE (λc=>?_) λc=>?_
  · have y:i<cs.length:=ag;have O:=bL y;have I:=kP y;have l:=kE y;generalize cs[i]=f at O I l;refine hs.ix rfl O λa ha=>?_;obtain⟨u,c,Y⟩:=ha.row;refine gQ (c.ai B) (aJ λb5 hx eb gx kx _=>pG kx rfl λG o2 M=>?_);have H:=bK gx o2 ag;simp only[bz];have J:=(W.get f l).cs;refine aj M rfl (IH f l ((Y.gr B).gr H) J.1 J.2 λt h3 g3 ht=>dN (M.ai g3) aC rfl λh4 o4 M=>dM M (aJ λd' N e5 g5 T _=>?_));have Z:m.size<=b5:=ag;have a':b5<G.size:=by rw[o2.1];exact kx.lt
    have g4:=bK (aq H g3) o4 Z;have C:=aq g4 g5;have V:=vM (ck.fr o4.fr (λb(k:G.size<=b)e=>ag) (λ_ k=>k) _ ht) g5
    refine(w.ai C).ap (by have:=B.1;have:=C.1;omega) rfl (new:=[f.row t]) rfl (λr F=>by simp at F;subst F;rfl) (λr F=>by grind[row_one]) (by simpa[ak.row,oh]using jn T rfl) ag ag λs' h6 Q L o6=>aY ag ag (hN _ _ _ ⟨i+1,z++[t],aC,ag,by simp[p],?_,?_,?_⟩ ag)
    ·exact(((bx (aq B C):Tn No h N)).trans' Q λd hd c'=>by have:=((w.ai C).at hd).1;omega).ai
    ·rw[I,JC cy];exact o6
    · intro j g v P A;have b':=C.1
      by_cases e:j<i
      · rw[iX ag]at A;refine ck.fr Q (λb k=>k.1.2) (λb k=>⟨k.1.1,λq=>?_⟩) _ (vM (ck.lt _ (hu j g v P A)) C);rcases L b q with q|q
        ·exact k.1.2 q
        ·have:=k.2;omega
      · have X:=(dy.1 A).1;simp only[ij,jy]at X;have:j=i:=ag;subst this;rw[gv ag,p]at A;simp only[zR,B0,mS]at A;subst A;rw[O]at P;cases P;refine ck.fr Q (λb k q=>by have:=(w.at q).2;have:=H.1;have:=k.1;omega) (λb k=>⟨by have:=B.1;have:=H.1;have:=k.1;omega,λq=>?_⟩) _ (ck.lt _ V)
        rcases L b q with q|q
        ·have:=(w.at q).2;have:=H.1;have:=k.1;omega
        ·have:=k.2;omega
  · have:i=cs.length:=ag;subst this;rw[mO]at w;refine auh w.cap (hk _ _ B ?_);rcases w.cases with⟨rfl,e⟩|⟨b,k,o⟩
    · have:cs=[]:=by
        cases cs with
        |nil=>rfl
        |cons f fs=>simp_all
      simp_all[ck,cr]
    ·exact ck.sub (ck.of o p k λj f u hf U=>ck.fr (iW _ _) (λ_ _=>id) (λb k=>k.1) _ (hu j f u hf U)) rfl rfl (cr _)
theorem adw:∀f:ak,Rk f.cs
 |.mk _ _ _ _ _ _ cs=>adv (cs:=cs) λf _=>adw f
theorem apr(cs:cN):Rk cs:=adv λf _=>adw f
def kO(k:Int):Int:=if k=1\/k=20 then 0 else if k=12\/k=13 then 3 else if k=16\/k=17 then 1 else 2
def dJ(k:Int):Int:=if k=3\/k=7 then 1 else if k=4\/k=8 then 2 else if k=5\/k=9 then 4 else if k=6\/k=10\/k=11 then 8 else 0
structure oL(h:Hp):Prop where
 k:kS h
 b:∀i:Nat,1<=i->i<=20->cell h ⟨2,i*4+2,none⟩=some (ah (kO i))
 w:∀i:Nat,1<=i->i<=20->cell h ⟨2,i*4+1,none⟩=some (ah (dJ i))
theorem oL.ai{h:Hp}(t:oL h)(g:aB h H):oL H:=⟨t.k.ai g,λi c a=>g.cell (t.b i c a),λi c a=>g.cell (t.w i c a)⟩
theorem th.kinds{id ix:Int}{cs:cN}(h:th k w id ix cs):Shaped k w id ix cs.length/\(cs.length<=32/\jC cs):=by
 have q:=bE.self h;have l:=(bE.jC h).cs;simp only[Xw,ak.k,ak.w,ak.id,ak.ix,ak.cs]at q l;grind[Shaped]
def rL(k:Int)(cs:cN):Nat:=if k=19 then 0 else if k=20 then cs.length+1 else cs.length
def ug(k:Int):Nat:=if k=19 then 1 else 0
theorem am0{id ix:Int}{cs:cN}{h:Hp}{K:Sl->HP}{V:PK}(Q:kS h)(p:th k w id ix cs)(F:iR cs)(y:cG h s cs)
  (z:∀t L,aB h L->t.n=rL k cs->K t L):LQ k w id ix s h K V:=by
 have I:=p.kinds;refine LQ.of (aJ λb1 h1 e1 D l _=>xV l (U3 (Q.ai D) (by show _<=9223372036854775807;omega) F (y.gr D) λb h2 N S=>?_))
 have l:=l.ai N;have G:=aq D N;obtain rfl:=S.2 p;refine bu rfl (aj l rfl (aK (λc=>z _ _ G ?_) λc=>R7.of ?_))
 ·have c:=aU c;simp[rL,c]
 have c:=aU c;simp only[bz];refine aj l rfl (apr cs (y.gr G) ag I.2.2 λt T C j=>aj (l.ai C) rfl (cE (λg=>?_) λg=>?_))
 ·refine aJ λx J e4 M m _=>?_;have E:=j.n;have q:cs.length=1:=by have:=I.1;unfold Shaped at this;omega
  obtain⟨f,R⟩:∃f,cs[0]? =some f:=⟨cs[0],bL ag⟩;obtain⟨a,B,H⟩:=(ck.h cs (j.gr M)).get R;obtain⟨u,c,_⟩:=H.row;have o:fO 0 7 J ⟨some (aF x),1,1⟩ [[.string (bs [101,110,100,115]),.bool false,ah 5,ah 0,ah 0,ah 0,.slice none 0 0]] iI:=
   ⟨λr e=>by simp at e;subst e;rfl,rfl,.inr ⟨x,eH _,m.lt,rfl,rfl,_,m,cr _,rfl,λi _=>aC⟩⟩
  refine o.ap (eH _) rfl (new:=[f.row u]) cy (λr e=>by simp at e;subst e;rfl) (λr e=>by grind[row_one]) ?_ cy cy λX Z U _ O=>z _ _ ?_ ?_
  ·rw[B,E.1,q];refine⟨by simp[HS],λi v P=>?_⟩
   have:=c i v (by simpa using P)
   simpa[add_zero']using this
  ·exact aq G (aq C (((bx M:Tn No T J).trans' U λd A W=>by obtain⟨a,B,A⟩:=A;cases B;simp at A;omega).ai))
  ·have:=O.n;simp at this;simp[rL,g,q,this]
 ·apply z _ _ (aq G C);rw[j.n.1];simp[rL,c,g]
theorem ak9{id ix:Int}{cs:cN}{h:Hp}{K:Int->Int->Int->HP}{x:PK}(j:oL h)(hl:cs.length<=kR)(i:iR cs)(r:cG h s cs)
  (z:¬th k w id ix cs->∀g,aB h g->K (-1) (-1) (-1) g) (y:th k w id ix cs->∀g,aB h g->K (kO k) (rL k cs) (ug k) g):L5 k w id ix s h K x:=by
 refine L5.of (aJ λB D e1 n a _=>xV a (U3 (j.k.ai n) hl i (r.gr n) λb A v u=>?_));have a:=a.ai v;have G:=aq n v;cases b
 ·simp_all[bQ,aC]
 have e:=u.1 rfl;have f:=e.kinds.1;have p:∀d:Int,d=ug k->FZ K x (aF B) d A:=by
  rintro d rfl;refine FZ.of (aj a rfl ⟨by unfold Shaped at f;omega,by unfold Shaped at f;omega,?_⟩)
  simp only[bz,bX];have l:=(j.ai G).b k.toNat (by unfold Shaped at f;omega) (by unfold Shaped at f;omega)
  rw[xZ (by unfold Shaped at f;omega)]at l
  refine⟨_,l,xV a (am0 (j.k.ai G) e i (r.gr G) λt C m o=>Co l m (bR a m ?_))⟩;rw[o];exact y e _ (aq G m)
 refine bu rfl (aj a rfl (aK (λc=>p _ ?_) λc=>p _ ?_))
 ·have c:=aU c;simp[ug,c]
 ·have c:=aU c;simp[ug,c]
def mW(k w ix:Int):Int:=if k=14 then w else if k=19 then dJ ix else dJ k
theorem aiC{id ix:Int}{cs:cN}{h:Hp}{K:cL}{A:PK}(o:oL h)(m:iR cs)(v:cG h s cs)(f:th k w id ix cs)
  (p:∀t,aB h t->K (mW k w ix) t):LN k w id ix s h K A:=by
 have g:=f.kinds;have hl:=g.2.1;replace g:=g.1;refine LN.of (aJ λC z e1 i a _=>xV a (U3 (o.k.ai i) (by show _<=9223372036854775807;omega) m (v.gr i) λb r u y=>?_))
 have a:=a.ai u;have G:=aq i u;obtain rfl:=y.2 f;have d:∀x:Int,1<=x->x<=20->dJ x=mW k w ix->Ix (bD 2) 21 4 x λn=>Ld r (n.add 1) mI λl=>K l r:=by
  intro x z B e;refine⟨ag,ag,?_⟩
  simp only[bz,bX];have q:=(o.ai G).w x.toNat ag ag;rw[xZ ag,e]at q;exact⟨_,q,p _ G⟩
 unfold Shaped at g;simp only[bz];refine bu rfl (aj a rfl (aK (λc=>aj a rfl ?_) λc=>aK (λj=>aj a rfl (d _ ?_ ?_ ?_)) λj=>aj a rfl (d _ ?_ ?_ ?_)))
 ·have c:=aU c;have:=p _ G;simp only[mW,c,aI]at this;exact this
 all_goals simp only[sm,reduceCtorEq]at c j
 all_goals first|omega|simp[mW,c,j]
inductive bH
 |mk (len off au:Int) (aZ:ie) (cs ds:List bH)
abbrev kB:=List bH
variable {d:bH}
def bH.len:bH->Int|.mk n _ _ _ _ _=>n
def bH.off:bH->Int|.mk _ o _ _ _ _=>o
def bH.au:bH->Int|.mk _ _ u _ _ _=>u
def bH.aZ:bH->List (List UInt8)|.mk _ _ _ b _ _=>b
def bH.cs:bH->List bH|.mk _ _ _ _ c _=>c
def bH.ds:bH->List bH|.mk _ _ _ _ _ x=>x
def yP(n o u:Int)(b c x:Sl):List Value:=[ah n,ah o,ah u,Sl.v b,Sl.v c,Sl.v x]
def bH.row(d:bH)(p:Sl×Sl×Sl):List Value:=yP d.len d.off d.au p.1 p.2.1 p.2.2
theorem aeJ(d:bH)(p:Sl×Sl×Sl):∀v∈d.row p,one v=true:=by intro v a;simp[bH.row,yP]at a;rcases a with rfl|rfl|rfl|rfl|rfl|rfl <;> rfl
def eL(E:aR)(h:Hp)(s:Sl)(vs:bg):Prop:=Sv h s vs/\(vs≠[]->∀a,s.a=some a->E a.block)
theorem eL.fr{E':aR}{h:Hp}{vs:bg}(v:eL E h s vs)(f:Tn S h h')(z:∀b,E b->b<h.size->¬S b)(B:∀b,E b->E' b):eL E' h' s vs:=by
 obtain⟨⟨g,l,k⟩,e⟩:=v;refine⟨⟨g,l,λx i=>?_⟩,λj a d=>B _ (e j a d)⟩;obtain⟨a,d,c⟩:=k x i;cases vs with
 |nil=>grind
 |cons w m=>exact⟨a,d,c.fr f (z _ (e aC a d) (Cs.lt c))⟩
theorem eL.lt{h:Hp}{vs:bg}(v:eL E h s vs):eL (λb=>E b/\b<h.size) h s vs:=by
 obtain⟨⟨i,l,g⟩,k⟩:=v;refine⟨⟨i,l,g⟩,λe a f=>⟨k e a f,?_⟩⟩;cases vs with
 |nil=>grind
 |cons w j=>obtain⟨m,d,c⟩:=g j.length ag;rw[f]at d;cases d;exact Cs.lt c
def fu(D E:aR)(h:Hp)(s:Sl)(aZ:ie):Prop:=
 ∃ss:List Sl,ss.length=aZ.length/\eL D h s (ss.map Sl.v)/\∀(j:Nat)(t:Sl)(l:dw),ss[j]? =some t->aZ[j]? =some l->eL E h t (bv l)
mutual
def dD(D E:aR)(h:Hp)(s:Sl):List bH->Prop
 |[]=>s.n=0/\s.n<=s.c
 |d::ds=>s.n=ds.length+1/\s.n<=s.c/\∃a,s.a=some a/\D a.block/\iB D E h a d/\ju D E h a 1 ds
def ju(D E:aR)(h:Hp)(a:Addr)(i:Nat):List bH->Prop
 |[]=>True
 |d::ds=>iB D E h (a.add (i*6)) d/\ju D E h a (i+1) ds
def iB(D E:aR)(h:Hp)(a:Addr):bH->Prop
 |.mk n o u aZ cs ds=>∃b c x,Cs h a (yP n o u b c x)/\fu D E h b aZ/\dD D E h c cs/\dD D E h x ds
end
structure eD(D E:aR)(h:Hp)(p:Sl×Sl×Sl)(d:bH):Prop where
 b:fu D E h p.1 d.aZ
 c:dD D E h p.2.1 d.cs
 x:dD D E h p.2.2 d.ds
theorem iB.row{h:Hp}(e:iB D E h a d):∃p,Cs h a (d.row p)/\eD D E h p d:=by
 obtain⟨n,o,u,aZ,cs,ds⟩:=d;unfold iB at e;obtain⟨b,c,x,f,j,i,g⟩:=e;exact⟨(b,c,x),f,j,i,g⟩
theorem iB.of{h:Hp}(c:Cs h a (d.row p))(v:eD D E h p d):iB D E h a d:=by
 obtain⟨n,o,u,aZ,cs,ds⟩:=d;unfold iB;exact⟨_,_,_,c,v.1,v.2,v.3⟩
section
variable {D' E':aR} {h:Hp}
theorem fu.fr(f:Tn S h h')(z:∀b,D b->b<h.size->¬S b)(B:∀b,E b->b<h.size->¬S b)(H:∀b,D b->D' b)(G:∀b,E b->E' b){s:Sl}{aZ:ie}(v:fu D E h s aZ):fu D' E' h' s aZ:=by
 obtain⟨a,hl,c,d⟩:=v;exact⟨a,hl,c.fr f z H,λj t l g e=>(d j t l g e).fr f B G⟩
theorem fu.lt{aZ:ie}(v:fu D E h s aZ):fu (λb=>D b/\b<h.size) (λb=>E b/\b<h.size) h s aZ:=by
 obtain⟨a,hl,c,d⟩:=v;exact⟨a,hl,c.lt,λj t l f e=>(d j t l f e).lt⟩
mutual
theorem dD.fr(f:Tn S h h')(hn:∀b,D b->b<h.size->¬S b)(hm:∀b,E b->b<h.size->¬S b)(hD:∀b,D b->D' b)(hE:∀b,E b->E' b):∀{s:Sl}(ds:kB),dD D E h s ds->dD D' E' h' s ds
  |_,[],hh=>by unfold dD at hh ⊢;exact hh
  | _,d::ds,hh=>by
    unfold dD at hh⊢
    obtain⟨a,b,p,e,q,x,y⟩:=hh
    have fR:p.block<h.size:=by obtain⟨n,o,u,aZ,cs,es⟩:=d;unfold iB at x;obtain⟨_,_,_,c,_⟩:=x;exact Cs.lt c
    exact⟨a,b,p,e,hD _ q,iB.fr f hn hm hD hE (hn _ q fR) d x,ju.fr f hn hm hD hE (hn _ q fR) ds y⟩
theorem ju.fr(f:Tn S h h')(hn:∀b,D b->b<h.size->¬S b)(hm:∀b,E b->b<h.size->¬S b)(hD:∀b,D b->D' b)(hE:∀b,E b->E' b):∀{a:Addr}(ha:¬S a.block){i:Nat}(ds:kB),ju D E h a i ds->ju D' E' h' a i ds
  |_,_,_,[],_=>by unfold ju;trivial
  | _,ha,i,d::ds,hh=>by
    unfold ju at hh⊢
    exact⟨iB.fr f hn hm hD hE (by rw[JJ];exact ha) d hh.1,ju.fr f hn hm hD hE ha ds hh.2⟩
theorem iB.fr(f:Tn S h h')(hn:∀b,D b->b<h.size->¬S b)(hm:∀b,E b->b<h.size->¬S b)(hD:∀b,D b->D' b)(hE:∀b,E b->E' b):∀{a:Addr}(ha:¬S a.block)(d:bH),iB D E h a d->iB D' E' h' a d
  | _,ha,.mk n o u aZ cs ds,hh=>by
    unfold iB at hh⊢
    obtain⟨b,c,x,hc,h1,h2,h3⟩:=hh
    exact⟨b,c,x,hc.fr f ha,h1.fr f hn hm hD hE,dD.fr f hn hm hD hE cs h2,dD.fr f hn hm hD hE ds h3⟩
end
mutual
theorem dD.lt:∀{s:Sl}(ds:kB),dD D E h s ds->dD (λb=>D b/\b<h.size) (λb=>E b/\b<h.size) h s ds
  |_,[],hh=>by unfold dD at hh ⊢;exact hh
  | _,d::ds,hh=>by
    unfold dD at hh⊢
    obtain⟨a,b,p,e,q,x,y⟩:=hh
    have fR:p.block<h.size:=by obtain⟨n,o,u,aZ,cs,es⟩:=d;unfold iB at x;obtain⟨_,_,_,c,_⟩:=x;exact Cs.lt c
    exact⟨a,b,p,e,⟨q,fR⟩,iB.lt d x,ju.lt ds y⟩
theorem ju.lt:∀{a:Addr}{i:Nat}(ds:kB),ju D E h a i ds->ju (λb=>D b/\b<h.size) (λb=>E b/\b<h.size) h a i ds
 |_,_,[],_=>by unfold ju;trivial
 |_,i,d::ds,hh=>by unfold ju at hh ⊢;exact⟨iB.lt d hh.1,ju.lt ds hh.2⟩
theorem iB.lt:∀{a:Addr}(d:bH),iB D E h a d->iB (λb=>D b/\b<h.size) (λb=>E b/\b<h.size) h a d
  | _,.mk n o u aZ cs ds,hh=>by
    unfold iB at hh⊢
    obtain⟨b,c,x,hc,h1,h2,h3⟩:=hh
    exact⟨b,c,x,hc,h1.lt,dD.lt cs h2,dD.lt ds h3⟩
end
theorem dD.gr{ds:kB}(v:dD D E h s ds)(g:aB h h'):dD D E h' s ds:=dD.fr (bx g) (λ_ _ _=>id) (λ_ _ _=>id) (λ_ q=>q) (λ_ q=>q) ds v
theorem eD.fr(f:Tn S h h')(z:∀b,D b->b<h.size->¬S b)(B:∀b,E b->b<h.size->¬S b)(H:∀b,D b->D' b)(G:∀b,E b->E' b){p:Sl×Sl×Sl}{d:bH}(v:eD D E h p d):eD D' E' h' p d:=
 ⟨v.b.fr f z B H G,dD.fr f z B H G _ v.c,dD.fr f z B H G _ v.x⟩
theorem eD.lt(v:eD D E h p d):eD (λb=>D b/\b<h.size) (λb=>E b/\b<h.size) h p d:=⟨v.b.lt,dD.lt _ v.c,dD.lt _ v.x⟩
theorem eD.gr(v:eD D E h p d)(g:aB h h'):eD D E h' p d:=v.fr (bx g) (λ_ _ _=>id) (λ_ _ _=>id) (λ_ q=>q) (λ_ q=>q)
theorem fu.gr{aZ:ie}(v:fu D E h s aZ)(g:aB h h'):fu D E h' s aZ:=v.fr (bx g) (λ_ _ _=>id) (λ_ _ _=>id) (λ_ q=>q) (λ_ q=>q)
theorem eD.mo(v:eD D E h p d)(c:∀b,D b->D' b)(a:∀b,E b->E' b):eD D' E' h p d:=v.fr (iW _ _) (λ_ _ _=>id) (λ_ _ _=>id) c a
theorem ju.get:∀{a:Addr}{ds:kB}{i:Nat},ju D E h a i ds->∀(j:Nat)d,ds[j]? =some d->iB D E h (a.add ((i+j)*6)) d
  |_,[],_,_,_,_,b=>by simp at b
  |_,f::k,i,c,0,g,b=>by grind[ju]
  | _,f::k,i,c,j+1,g,b=>by
    unfold ju at c;have:=ju.get c.2 j g (by simpa using b)
    grind
theorem dD.get{ds:kB}(f:dD D E h s ds){j:Nat}{d:bH}(c:ds[j]? =some d):∃a,s.a=some a/\iB D E h (a.add (j*6)) d:=by
  cases ds with
  |nil=>simp at c
  | cons g l=>
    unfold dD at f;obtain⟨_,_,a,b,_,k,i⟩:=f;refine⟨a,b,?_⟩;cases j with
    |zero=>simp_all[EH,add_zero']
    | succ j=>
      have:=i.get j d (by simpa using c)
      grind
theorem dD.n{ds:kB}(z:dD D E h s ds):s.n=ds.length/\s.n<=s.c:=by
 cases ds with
 |nil=>unfold dD at z;exact z
 |cons g a=>unfold dD at z;grind
theorem dD.ix{ds:kB}(g:dD D E h s ds){x:Int}{i:Nat}(B:x=(i:Int)){d:bH}(z:ds[i]? =some d){K:Addr->Prop}(C:∀a p,Cs h a (d.row p)->eD D E h p d->K a):Ix s.a s.n 6 x K:=by
 obtain⟨a,e,b⟩:=g.get z;obtain⟨p,c,v⟩:=b.row;have f:=g.n;have j:i<ds.length:=bZ;subst B;rw[e];exact⟨ag,ag,by rw[gj];exact C _ _ c v⟩
theorem ju.of:∀{ds:kB}{i:Nat},(∀j d,ds[j]? =some d->iB D E h (a.add ((i+j)*6)) d)->ju D E h a i ds
  |[],_,_=>by unfold ju;trivial
  | f::c,i,H=>by
    unfold ju;refine⟨H 0 f rfl,ju.of λj g b=>?_⟩;have:=H (j+1) g dH
    grind
theorem dD.of{b:Nat}{ds:kB}{q:List (Sl×Sl×Sl)}(o:lX 6 h s b (List.zipWith bH.row ds q) el)(hl:q.length=ds.length)(B:D b)
    (z:∀(j:Nat)(d:bH)(p:Sl×Sl×Sl),ds[j]? =some d->q[j]? =some p->eD D E h p d):dD D E h s ds:=by
  have f:=o.n;rw[qn,hl,JD]at f;have key:∀j d,ds[j]? =some d->iB D E h ⟨b,j*6,none⟩ d:=by
    intro j d i;have l:=(dy.1 i).1;have c:q[j]? =some q[j]:=aC;exact iB.of (o.cs bZ) (z j d _ i c)
  cases ds with
  |nil=>unfold dD;simp[*]
  | cons d ds=>
    unfold dD;refine⟨ag,o.cap,_,o.a,B,by simpa using key 0 d rfl,ju.of λj g k=>?_⟩
    rw[bz,bX];have:=key (j+1) g dH
    grind
theorem dD.nil(h:Hp):dD D E h Sl.nil []:=by unfold dD;exact⟨rfl,cr _⟩
abbrev jv:=@dD.nil
theorem dD.snoc{n:Nat}{ds:kB}{a:List (Sl×Sl×Sl)}(o:fO n 6 h s (List.zipWith bH.row ds a) el)(hl:a.length=ds.length)(g:∀b,n<=b->D b)
    (c:∀(j:Nat)(d:bH)(p:Sl×Sl×Sl),ds[j]? =some d->a[j]? =some p->eD D E h p d):dD D E h s ds:=by
  rcases o.cases with⟨rfl,e⟩|⟨b,f,o⟩
  · have:ds=[]:=by
      cases ds with
      |nil=>rfl
      |cons d ds=>simp_all
    subst this;exact jv h
  ·exact dD.of o hl (g b f) c
end
abbrev K6:=Int->Int->Int->Sl->Sl->Sl->HP
theorem TY{α β γ:Type}{g:α->β->γ}{l:List α}{m:List β}{x:α}{y:β}(a:l[i]? =some x)(d:m.length=i):List.zipWith g (l.take (i+1)) (m++[y])=List.zipWith g (l.take i) m++[g x y]:=by
 have c:=(dy.1 a).1;have b:l.take (i+1)=l.take i++[x]:=by
  rw[kP c];rw[bL c]at a;cases a;rfl
 rw[b,JC cy];rfl
theorem yW{α:Type}{m:List α}{y v:α}(c:m.length=i)(a:(m++[y])[j]? =some v):(j<i/\m[j]? =some v)\/(j=i/\v=y):=by
 grind
theorem Ww(vs:bg):(vs.map λv=>[v]).flatten=vs:=by induction vs <;> simp_all
theorem acv(vs:bg):wo 1 (vs.map λv=>[v]):=by intro r a;grind
theorem ak4(b:List Sl):∀r∈(b.map Sl.v).map λv=>[v],∀v∈r,one v=true:=by
 intro r d v a;obtain⟨w,c,rfl⟩:=kZ.1 d;obtain⟨t,_,rfl⟩:=kZ.1 c;simp at a;subst a;rfl
theorem fO.lq{n:Nat}{h:Hp}{vs:bg}(o:fO n 1 h s (vs.map λv=>[v]) el):eL (λb=>n<=b) h s vs:=by
 refine⟨?_,λ_ a c=>(o.at ⟨a,c,rfl⟩).1⟩;have:=o.sh;rw[Ww]at this;exact this.sv
theorem aug{h:Hp}{aZ:ie}{K:Sl->HP}{G:PK}(u:aB g h)(y:fu D E g s aZ)(hl:aZ.length<=70000)
  (p:∀t m,aB h m->fu (Nw h) E m t aZ->K t m):LF s h K G:=by
 obtain⟨i,f,b,A⟩:=y;have o:=b.1.1;rw[cC]at o;refine LF.of (aK (λc=>?_) λc=>?_)
 ·refine p _ h (cW _) ⟨[],?_,⟨xW h,λq=>absurd rfl q⟩,λj t l e=>by simp at e⟩
  rcases b.1.na with q|q
  all_goals simp_all
 ·refine aJ λJ e F n x _=>(fO.start x (EJ F.symm)).ap ag rfl (by simp[o]) (acv _) (ak4 i) ?_ cy cy λt k C I w=>?_
  ·rw[Ww];exact(b.1.ai (aq u n)).AU b.1.na
  ·have r:=((bx n:Tn No h e).trans' C λd⟨a,B,z⟩H=>bZ).ai
   exact p t k r ⟨i,f,(fO.lq w),λj t l e k=>(A j t l e k).fr (bx (aq u r)) (λ_ _ _=>id) λ_ q=>q⟩
theorem auS(l:dw):∀r∈(bv l).map λv=>[v],∀v∈r,one v=true:=by
 grind[auT]
abbrev B33(h:Hp)(b:Nat)(d:bH)(p:Sl×Sl×Sl):Prop:=aO h b #[ah d.len,ah d.off,ah d.au,Sl.v p.1,Sl.v p.2.1,Sl.v p.2.2] cg
abbrev Tt:Nat->Prop:=λ_=>True
abbrev C6(h:Hp)(p:Sl×Sl×Sl)(d:bH):Prop:=eD Tt Tt h p d
def jD:List UInt8->Nat
 |[]=>0
 |b::l=>b.toNat+256*jD l
theorem WH(l:dw):jD l<2^(8*l.length):=by
  induction l with
  |nil=>simp[jD]
  | cons b l a=>
    have c:=b.toNat_lt;have e:2^(8*(l.length+1))=256*2^(8*l.length):=by rw[Nat.mul_add,JB,JA]
    simp only[jD,iq];omega
theorem ada(l:dw)(b:UInt8):jD (l++[b])=jD l+b.toNat*2^(8*l.length):=by
  induction l with
  |nil=>simp[jD]
  | cons c l a=>
    have e:2^(8*(l.length+1))=256*2^(8*l.length):=by rw[Nat.mul_add,JB,JA]
    simp only[uw,jD,a,iq];grind
def sg(w x:Nat):Int:=if x<2^(8*w-1)then x else(x:Int)-2^(8*w)
def pg(l:dw)(i w:Nat):Nat:=jD ((l.drop i).take w)
theorem acO(l:dw)(i w:Nat):pg l i w<2^(8*w):=mQ (WH _) (EG bh cy)
def i32(l:dw)(i:Nat):Int:=sg 4 (pg l (4*i) 4)
def gG(l:dw)(r:Nat):Bool:=(l.getD (r/8) 0).toNat/2^(r%8)%2==1
theorem Yr(x:Nat):gu .and .u8 (x:Int) 1=((x%2:Nat):Int):=by
 have a:(BitVec.ofInt 8 (x:Int)&&&BitVec.ofInt 8 1).toNat=x%2:=by
  have e1:BitVec.ofInt 8 (x:Int)=BitVec.ofNat 8 x:=aC
  have b:BitVec.ofInt 8 1=BitVec.ofNat 8 1:=by decide
  rw[e1,b,YQ,vQ,vQ];have:1%2^8=1:=by decide
  rw[this,Nat.and_one_is_mod];omega
 show IntKind.wrap .u8 ((BitVec.ofInt 8 (x:Int)&&&BitVec.ofInt 8 1).toNat:Int)=_
 rw[a,IntKind.wrap_u8];omega
theorem aco(x y:Nat)(b:x<2^64)(a:y<2^64):gu .or .u64 (x:Int) (y:Int)=((x|||y:Nat):Int):=by
 have e:(BitVec.ofInt 64 (x:Int)|||BitVec.ofInt 64 (y:Int)).toNat=x|||y:=by
  rw[BitVec.toNat_or,EF,EF,vQ,vQ,uv b,uv a]
 show IntKind.u64.wrap ((BitVec.ofInt 64 (x:Int)|||BitVec.ofInt 64 (y:Int)).toNat:Int)=_
 rw[e];simp only[IntKind.wrap,IntKind.signed,IntKind.bits];simp;omega
theorem anj{n k:Nat}(a:n<2^k):n|||(m*2^k)=n+m*2^k:=by
 have:=Nat.shiftLeft_add_eq_or_of_lt a m;rw[Nat.shiftLeft_eq]at this;grind
theorem pO{k:IntKind}{x:Nat}{K:Int->Prop}(b:k.signed=false)(a:x<2^k.bits)(c:K x):Wr k (x:Int) K:=by
 have:k.wrap (x:Int)=x:=by
  unfold IntKind.wrap;rw[b];have e:((2^k.bits:Nat):Int)=(2:Int)^k.bits:=by norm_cast
  have d:(x:Int)%(2:Int)^k.bits=x:=by rw[<-e];exact Int.emod_eq_of_lt ag ag
  simp[d]
 unfold Wr;simp[*]
theorem auU(l:dw)(i:Nat):(bv l)[i]? =(l[i]?).map λb=>Value.int .u8 b.toNat:=by simp[bv]
theorem ag1{h:Hp}{vs:bg}{p g o:Option Int}{K:Sl->Prop}(v:Sv h s vs){a b m:Nat}(e:p.getD 0=(a:Int))(j:g.getD s.n=(b:Int))(l:o.getD s.c=(m:Int))(E:a<=b)(D:b<=vs.length)(C:b<=m)(B:m<=s.c)
  (u:∀t:Sl,t.n=b-a->t.c=m-a->(∀x,t.a=some x->∃y,s.a=some y/\x.block=y.block)->Sv h t ((vs.drop a).take (b-a))->K t):jA s 1 p g o K:=by
 obtain⟨A,z,q⟩:=v;refine⟨ag,ag,ag,ag,u _ bZ dH ?_ ⟨?_,?_,?_⟩⟩
 ·intro x d;simp only[lY]at d;split at d
  ·simp[*]
  ·cases f:s.a with
   |none=>grind
   |some y=>rw[f]at d;cases d;exact⟨y,rfl,JJ _ _⟩
 ·grind
 ·grind
 ·intro x d;simp only[e,j,l,gj]at d ⊢;obtain⟨y,r,c⟩:=q (s.n-1) ag;refine⟨y.add (a*1),by rw[lY,aA,r];rfl,λi w k=>?_⟩
  rw[zS,avy];have g:i<b-a:=by have:=(dy.1 k).1;simp at this;omega
  rw[List.getElem?_take_of_lt g,YP]at k;exact c _ _ k
theorem af3(l:dw)(a n:Nat):((bv l).drop a).take n=bv ((l.drop a).take n):=by simp[bv]
theorem Zv{h:Hp}{l:dw}(v:Sv h s (bv l)){x:Int}{i:Nat}{b:UInt8}(d:x=i)(c:l[i]? =some b){K:Int->Prop}(f:K b.toNat):Ix s.a s.n 1 x λa=>Ld h a (.int .u8) λt=>K t:=by
 have j:=(dy.1 c).1;have e:=v.1;rw[fH]at e;subst d;exact v.ix ag ag (by rw[gj,auU,c];rfl) λa g=>⟨_,g,f⟩
theorem an4{n:Nat}{h:Hp}{K:cL}{b:PK}(d:n<=2^40)(a:K ((n+7)/8:Nat) h):LP (n:Int) h K b:=by
 refine LP.of (cE (λc=>?_) λc=>?_)
 ·have:(n+7)/8=0:=ag;rw[this]at a;exact a
 ·have e:Int.tdiv ((n:Int)-1) 8=(((n-1)/8:Nat):Int):=by
   have:(n:Int)-1=((n-1:Nat):Int):=ag;rw[this];rfl
  refine aY ag ag (oT bh (aY ag ag (aY ag ag ?_)))
  rw[e];have:(((n-1)/8:Nat):Int)+1=((n+7)/8:Nat):=ag;rw[this];exact a
theorem au0{l:dw}{r:Nat}{h:Hp}{K:fD}(v:Sv h s (bv l))(hr:r/8<l.length)(hl:r<=2^40)(hk:K (gG l r) h):LZ s (r:Int) h K Kp:=by
 have e1:Int.tdiv (r:Int) 8=((r/8:Nat):Int):=rfl;have e2:Int.tmod (r:Int) 8=((r%8:Nat):Int):=rfl;refine LZ.of (oT bh (aY (by rw[e1];omega) (by rw[e1];omega) ?_))
 have hb:=bL hr;have hg:l.getD (r/8) 0=l[r/8]:=by simp[hr]
 unfold gG at hk;rw[hg]at hk;generalize l[r/8]=b at hb hk;refine Zv v e1 hb (oT bh ?_);rw[e2];apply js ag;have e3:Int.fdiv (b.toNat:Int) (2^(min (Int.toNat ((r%8:Nat):Int)) (IntKind.bits .u8)))=((b.toNat/2^(r%8):Nat):Int):=by
  have:min (Int.toNat ((r%8:Nat):Int)) (IntKind.bits .u8)=r%8:=by
   have:IntKind.bits .u8=8:=rfl;rw[this,gj];omega
  rw[this,EE _ (Jz (ED bh))]
  norm_cast
 unfold Lt;rw[e3]
 show K (gu .and .u8 ((b.toNat/2^(r%8):Nat):Int) 1==1) h
 rw[Yr];have:((((b.toNat/2^(r%8))%2:Nat):Int)==1)=(b.toNat/2^(r%8)%2==1):=by
  rw[j0];simp only[nU];omega
 rw[this];exact hk
theorem au3{l:dw}{r:Nat}{h:Hp}{K:Bool->Int->HP}{d:PK}(v:Sv h s (bv l))(hl:r<=2^40)(a:∀e,K (gG l r) e h):Mc s (r:Int) h K d:=by
 have b:=v.1;rw[fH]at b;have e1:Int.tdiv (r:Int) 8=((r/8:Nat):Int):=rfl;refine Mc.of (bu aC (oT bh (aY ag ag (cE (λc=>?_) λc=>?_))))
 ·rw[e1]at c;have:gG l r=false:=by
   unfold gG;have:l.getD (r/8) 0=0:=by rw[gB,zV ag];rfl
   rw[this];simp
  have q:=a 2;rw[this]at q;exact q
 ·rw[e1]at c;exact au0 v ag hl (a 0)
def mJ(k:Int):Bool:=k !=1&&k !=18&&k !=20
theorem ad1{h:Hp}{K:fD}{d:PK}(a:K (mJ k) h):GU k h K d:=by
 unfold mJ at a;refine GU.of (aK (λc=>F6.of ?_) λc=>F6.of (bu rfl ?_))
 ·rw[c,EC]at a;refine aK (λb=>?_) λb=>?_
  ·rw[b,EC]at a;exact a
  ·rw[b,EB]at a;exact a
 ·rw[c,EB,EB]at a;exact a
def dG(aZ:ie)(j:Nat):List UInt8:=aZ.getD j []
theorem auW{aZ:ie}(h:j<aZ.length):aZ[j]? =some (dG aZ j):=by simp[dG,h]
def jB(k:Int)(aZ:ie)(r:Nat):Bool:=k==1||(mJ k&&((dG aZ 0).length !=0&&!gG (dG aZ 0) r))
theorem fu.ix{h:Hp}{aZ:ie}(v:fu D E h s aZ){x:Int}{j:Nat}(g:x=(j:Int))(B:j<aZ.length){K:Addr->Prop}(z:∀a t,cell h a=some (Sl.v t)->eL E h t (bv (dG aZ j))->K a):Ix s.a s.n 1 x K:=by
 obtain⟨c,hl,d,f⟩:=v;have e:=d.1.1;rw[cC]at e;have b:c[j]? =some c[j]:=aC;subst g;exact d.1.ix ag ag dH λa i=>z a _ i (f j _ _ b (auW B))
theorem fu.n{h:Hp}{aZ:ie}(v:fu D E h s aZ):s.n=aZ.length/\s.n<=s.c:=by
 obtain⟨b,hl,a,_⟩:=v;have:=a.1.1;rw[cC]at this;exact⟨ag,a.1.2.1⟩
theorem acJ{C:eU}{au:Bool}{id ix n z:Int}{b c S:Sl}{aZ:ie}{r:Nat}{h:Hp}{K:fD}{J:PK}(v:fu D E h b aZ)(A:mJ k=true->1<=aZ.length)(F:r<=2^40)
  (d:∀B,aB h B->K (jB k aZ r) B):GV C au k w id ix s n y z b c S (r:Int) h K J:=by
 refine GV.of (aJ λO L e1 I q _=>aJ λN H M j p _=>?_);simp only[bz];have G:=aq I j;have d:=d H G;unfold jB at d;refine aj (q.ai j) rfl (aK (λm=>?_) λm=>aj (q.ai j) rfl (ad1 ?_))
 ·rw[m,Bool.true_or]at d;exact d
 rw[m,Pv]at d;refine aK (λf=>?_) λf=>?_
 ·rw[qR]at f;rw[f,EB]at d;exact d
 rw[YU]at f;rw[f,EC]at d;refine aj p rfl ((v.gr G).ix rfl (A f) λa t l i=>⟨_,l,?_⟩);have tn:=i.1.1;rw[fH]at tn;refine aK (λg=>?_) λg=>Sk.of (aj p rfl ((v.gr G).ix rfl (A f) λa t l i=>⟨_,l,au3 i.1 F λe=>?_⟩))
 ·have g:=aU g;simp_all
 ·have g:=aU g;have:((dG aZ 0).length !=0)=true:=by rw[yo];omega
  grind
def uk(k:Int)(aZ:ie)(o n:Nat):Nat:=(List.range n).countP λi=>jB k aZ (o+i)
theorem at3(k:Int)(aZ:ie)(o n:Nat):uk k aZ o n<=n:=by
 have:=List.countP_le_length (p:=λi=>jB k aZ (o+i)) (l:=List.range n);simpa[uk]using this
theorem at2(k:Int)(aZ:ie)(o n:Nat):uk k aZ o (n+1)=uk k aZ o n+if jB k aZ (o+n)then 1 else 0:=by
 simp[uk,uu,List.countP_append,List.countP_cons]
theorem atS{q:eU}{au:Bool}{id ix n o u:Int}{b c:Sl}{aZ:ie}{N O:Nat}{h:Hp}{K:cL}{I:PK}(v:fu D E h b aZ)(F:mJ k=true->1<=aZ.length)(A:n=N)(r:o=O)
  (hN:N<=2^30) (P:O<=2^30) (B:∀f,aB h f->K (uk k aZ O N) f):KR q au k w id ix s n o u b c t h K I:=by
 subst A r;refine KR.of (aJ λU J e1 H j _=>aJ λT C S p g _=>aj g rfl ?_);have G:=aq H p;have j:=j.ai p;apply PU.bC (λy z f=>∃i:Nat,z=i/\i<=N/\y=uk k aZ O i/\aB C f) (λ_ z _=>N-z.toNat) ⟨0,rfl,ag,rfl,cW _⟩
 rintro y z R ⟨i,rfl,L,rfl,a⟩ V e;have M:=at3 k aZ O i;refine cE (λd=>?_) λd=>?_
 ·simp only[bz];refine dM (j.ai a) (fB (g.ai a) (aj (g.ai a) rfl (aY ag ag ?_)));rw[show(O:Int)+i=((O+i:Nat):Int) by omega]
  refine acJ (v.gr (aq G a)) F ag λQ m=>?_;have cs:=at2 k aZ O i;refine aK (λl=>?_) λl=>?_
  ·rw[aI l]at cs;exact aY ag ag (aY ag ag (e _ _ _ ⟨i+1,aC,ag,ag,aq a m⟩ ag))
  ·rw[aE (by simp[l])]at cs
   exact aY ag ag (e _ _ _ ⟨i+1,aC,ag,ag,aq a m⟩ ag)
 ·have:i=N:=ag;grind[aB.trans]
theorem ar0{n:Int}{h:Hp}{K:Int->Sl->Int->HP}{j:PK}(g:∀a,aB h a->K e Sl.nil n a):mz e n h K j:=
 mz.of (aJ λb l e1 i f _=>mN f rfl λk c d=>oB d (g _ (bK i c ag)))
theorem aeu{n:Int}{h:Hp}{b:Nat}{cs:Array Value}{K:Int->Sl->Int->HP}{u:PK}(g:aB H h)(k:aO h b cs el)(r:cs.size=3)(t:H.size<=b)(s:∀d,aB H d->K e Sl.nil n d):
  mz e n h (λl j i c=>dS c (aF b) l j i λa=>eu a (aF b) λr0 o m=>K r0 o m a) u:=
 ar0 λc f=>mN (k.ai f) r λa p q=>oB q (s _ (bK (aq g f) p t))
theorem anC{h:Hp}{b:Nat}{cs:Array Value}{K:Int->Sl->Int->HP}(g:aB H h)(k:aO h b cs el)(j:cs.size=3)(m:H.size<=b)(l:∀c,aB H c->K 0 Sl.nil 0 c):
  dS h (aF b) 0 bM 0 λa=>eu a (aF b) λr0 e d=>K r0 e d a:=
 mN k j λa f i=>oB i (l _ (bK g f m))
def JT(au:Bool)(k:Int)(d:bH):Prop:=d.au=uk k d.aZ d.off.toNat d.len.toNat/\(0<uk k d.aZ d.off.toNat d.len.toNat->au=true)
theorem anP{W:eU}{au:Bool}{id ix:Int}{b c:Sl}{h:Hp}{K:Int->Sl->Int->HP}{U:PK}(v:fu D E h b d.aZ)(X:mJ k=true->1<=d.aZ.length)
  (h2:0<=d.len/\d.len<=4096) (h3:0<=d.off/\d.off<=4096) (Q:∀e t n p,aB h p->t=Sl.nil->(e=0↔JT au k d)->K e t n p):L3 W au k w id ix s d.len d.off d.au b c u h K U:=by
 refine L3.of (aJ λb2 a' e1 T F _=>aJ λb3 Z e2 J C _=>aJ λA Y e3 I P _=>?_);have G:=aq T (aq J I);have F:=(F.ai J).ai I;have C:=C.ai I;have B:h.size<=A:=by have:=T.1;have:=J.1;omega
 refine dM F (fB C (atS (v.gr G) X (N:=d.len.toNat) (O:=d.off.toNat) ag ag ag ag λS r=>?_));have V:=aq G r;simp only[bz];have bad:¬JT au k d->mz 81 1 S (λo m l H=>dS H (aF A) o m l λR=>eu R (aF A) λg f a=>K g f a R) U:=λq=>
  aeu V (P.ai r) rfl B λp L=>Q _ _ _ p L rfl ⟨λy=>absurd y bh,λy=>(q y).elim⟩
 have j:JT au k d->dS S (aF A) 0 bM 0 λH=>eu H (aF A) λg f a=>K g f a H:=λq=>
  anC V (P.ai r) rfl B λp L=>Q _ _ _ p L rfl ⟨λ_=>q,λ_=>rfl⟩
 refine aj (C.ai r) rfl (aK (λi=>bad λq=>?_) λi=>aK (λM=>aj (F.ai r) rfl (aK (λz=>bad λq=>?_) λz=>j ?_)) λM=>j ?_)
 ·have i:=aU i;exact i q.1
 ·simp only[sm,reduceCtorEq]at M z;have:=q.2 ag;grind
 ·simp only[sm,reduceCtorEq]at i z;exact⟨i,λ_=>z⟩
 ·simp only[sm,reduceCtorEq]at i M;exact⟨i,λq=>absurd q ag⟩
def jo(k w ix:Int)(j e hv:Nat):Nat:=
 if k=18 then e*(1+3*j)else if(j=0/\hv=0)\/j=2 then 0 else if j=0\/k=2 then(e+7)/8 else if k=12\/k=13\/k=15 then 4*(e+1)else e*(mW k w ix).toNat
theorem aiJ{id ix:Int}{cs:cN}(h:th k w id ix cs):0<=mW k w ix/\mW k w ix<=16:=by
 have:=h.kinds.1;unfold Shaped at this;have wk:∀y:Int,0<=dJ y/\dJ y<=8:=by intro y;unfold dJ;repeat' omega
 unfold mW;grind
theorem an3{id ix:Int}{cs:cN}{e hv:Nat}{h:Hp}{K:cL}{o:PK}(J:oL h)(v:iR cs)(L:cG h s cs)(n:th k w id ix cs)(P:j<=3)(D:e<=2^30)(H:x=e)(G:y=hv)
  (a:∀E,aB h E->K (jo k w ix j e hv) E):L4 k w id ix s (j:Int) x y h K o:=by
 subst H G;refine L4.of (aJ λr f Q g l _=>aj l rfl (cE (λc=>?_) λc=>?_))
 ·have a:=a f g;rw[jo,aI c]at a;refine aY ag ag (aY ag ag ?_);have e1:(e:Int)*(1+3*(j:Int))=((e*(1+3*j):Nat):Int):=aC
  have O:e*(1+3*j)<=2^30*10:=sX D ag;rw[e1];exact aY ag ag a
 have fM:=c
 -- F B p
 have j3:¬((j=0/\hv=0)\/j=2)->¬(j=0\/k=2)->∀b:Bool,(b=true->k=12\/k=13)->(b=false->k≠12/\k≠13)->FX K o (e:Int) (aF r) b f:=by
  intro i C b A z;have fin:(k=12\/k=13\/k=15)->aP ((e:Int)+1) λu=>aP ((4:Int)*u) λt=>K t f:=by
   intro q;have a:=a f g;rw[jo,aE fM,aE i,aE C,aI q]at a;refine aY ag ag (aY ag ag ?_);have e1:(4:Int)*((e:Int)+1)=((4*(e+1):Nat):Int):=ag;rw[e1];exact a
  refine FX.of (aK (λc=>fin ?_) λc=>aj l rfl (aK (λd=>fin ?_) λd=>xV l (aiC (J.ai g) v (L.gr g) n λM N=>?_)))
  ·grind
  ·grind
  ·have d:=aU d;have:=z c;have a:=a M (aq g N);rw[jo,aE fM,aE i,aE C,aA]at a;have I:=aiJ n;have e1:(e:Int)*mW k w ix=((e*(mW k w ix).toNat:Nat):Int):=by
    rw[YO,xZ I.1]
   have O:e*(mW k w ix).toNat<=2^30*16:=sX D ag;rw[e1];exact aY ag ag a
 have j2:¬((j=0/\hv=0)\/j=2)->∀b:Bool,(b=true↔(j=0\/k=2))->FY K o (e:Int) (aF r) b f:=by
  intro i b m;refine FY.of (aK (λc=>an4 ag ?_) λc=>aj l rfl (aK (λd=>j3 i ?_ true ?_ ?_) λd=>aj l rfl (j3 i ?_ _ ?_ ?_)))
  ·have a:=a f g;rw[jo,aE fM,aE i,aI (m.1 c)]at a;exact a
  all_goals grind
 have j1:∀b:Bool,(b=true↔((j=0/\hv=0)\/j=2))->CJ K o (j:Int) (e:Int) (aF r) b f:=by
  intro b m;refine CJ.of (aK (λc=>?_) λc=>aK (λd=>j2 ?_ true ?_) λd=>aj l rfl (j2 ?_ _ ?_))
  ·have a:=a f g;rw[jo,aE fM,aI (m.1 c)]at a;exact a
  all_goals grind
 refine aK (λc=>aK (λd=>j1 _ ?_) λd=>j1 _ ?_) λc=>j1 _ ?_
 all_goals grind
def wV(d:bH):List bH:=if d.ds.length>0 then d.ds else d.cs
def Oo:ak:=.mk (bs [101,110,100,115]) false 5 0 0 0 []
def rC(k:Int)(cs:cN):List ak:=if k=20 then Oo::cs else cs
theorem amZ{h:Hp}{K:Sl->HP}{g:PK}(v:eD D E h p d)(f:∀s e,aB h e->dD D E e s (wV d)->K s e):Mn d.len d.off d.au p.1 p.2.1 p.2.2 h K g:=by
 have i:=v.x.n;refine Mn.of (aJ λk j e1 a b _=>?_);simp only[bz];refine aj b rfl (aK (λc=>aj b rfl (f _ _ a ?_)) λc=>aj b rfl (f _ _ a ?_))
 ·have c:=aU c;rw[wV,dU];exact v.x.gr a
 ·have c:=aU c;rw[wV,aA];exact v.c.gr a
abbrev KF:=ByteArray->Bool->Int->Int->Int->Int->Sl->HP
structure tj(au:Bool)(k w id ix:Int)(cs:cN)(d:bH):Prop where
 ty:th k w id ix cs
 nb:(d.aZ.length:Int)=kO k
 nc:d.cs.length=rL k cs
 nd:d.ds.length=ug k
 l0:0<=d.len
 o0:0<=d.off
 u0:0<=d.au
 ul:d.au<=d.len
 l1:d.len<=4096
 o1:d.off<=4096
 e1:d.off+d.len<=4096
 BK:∀j,j<d.aZ.length->(dG d.aZ j).length<=65536
 Ib:∀j,j<d.aZ.length->jo k w ix j (d.off+d.len).toNat (dG d.aZ j).length<=(dG d.aZ j).length
 ch:∀(j:Nat)(c:bH),d.cs[j]? =some c->(k=16->(d.off+d.len)*w<=c.len)/\(k=17->d.off+d.len<=c.len)
 nu:JT au k d
structure Zx(k w id ix:Int)(cs:cN)(d:bH):Prop where
 ty:th k w id ix cs
 nb:(d.aZ.length:Int)=kO k
 nc:d.cs.length=rL k cs
 nd:d.ds.length=ug k
 l0:0<=d.len
 o0:0<=d.off
 u0:0<=d.au
 ul:d.au<=d.len
 l1:d.len<=4096
 o1:d.off<=4096
 e1:d.off+d.len<=4096
structure Sz(h0 h:Hp)(b2 b3 b4:Nat)(nm:eU)(au:Bool)(k w id ix:Int)(s:Sl)(d:bH)(p:Sl×Sl×Sl):Prop where
 g:aB h0 h
 k2:aO h b2 #[.string nm,.bool au,ah k,ah w,ah id,ah ix,Sl.v s] iI
 k3:B33 h b3 d p
 k4:aO h b4 kJ kG
 hb:h0.size<=b4
theorem Sz.ai{h:Hp}{b2 b3 b4:Nat}{nm:eU}{au:Bool}{id ix:Int}(z:Sz h0 h b2 b3 b4 nm au k w id ix s d p)(g:aB h H):Sz h0 H b2 b3 b4 nm au k w id ix s d p:=
 ⟨aq z.g g,z.k2.ai g,z.k3.ai g,z.k4.ai g,z.hb⟩
theorem TT{h:Hp}{b:Nat}{nm:eU}{au:Bool}{id ix:Int}(z:aO h b #[.string nm,.bool au,ah k,ah w,ah id,ah ix,Sl.v s] el):Cs h ⟨b,2,none⟩ [ah k,ah w,ah id,ah ix,Sl.v s]:=by
 intro i v a;rw[bz,gU z];grind
theorem aul(k:Int)(cs:cN):rL k cs<=cs.length+1:=by
 unfold rL;grind
theorem Yi(k:Int):0<=kO k/\kO k<=3:=by unfold kO;omega
section
variable {h:Hp} {b2 b3 b4:Nat} {nm:eU} {au:Bool} {id ix:Int} {cs:cN} {K:Int->Sl->Int->HP}
theorem Sz.bad{n:Int}(z:Sz h0 h b2 b3 b4 nm au k w id ix s d p){P:Prop}(A:e≠0)(B:¬P)(x:∀e t n c,aB h0 c->t=Sl.nil->(e=0↔P)->K e t n c):
  mz e n h (λq o l C=>dS C (aF b4) q o l λf=>eu f (aF b4) λr0 v u=>K r0 v u f) Kp:=
 aeu z.g z.k4 rfl z.hb λc a=>x _ _ _ c a rfl ⟨λy=>absurd y A,λy=>(B y).elim⟩
theorem aki(z:Sz h0 h b2 b3 b4 nm au k w id ix s d p)(v:C6 h0 p d)(o:Zx k w id ix cs d)(BK:∀j,j<d.aZ.length->(dG d.aZ j).length<=65536)(Ib:∀j,j<d.aZ.length->jo k w ix j (d.off+d.len).toNat (dG d.aZ j).length<=(dG d.aZ j).length)
  (hk:∀e t n h',aB h0 h'->t=Sl.nil->(e=0↔tj au k w id ix cs d)->K e t n h') (x5:Int) (h5:0<=x5/\x5<=5):KK K Kp (aF b2) (aF b3) (aF b4) x5 (d.off+d.len) h:=by
 obtain⟨ty,nb,nc,nd,l0,o0,u0,ul,l1,o1,e1⟩:=o;have hq:=ty.kinds;have vn:=v.c.n;have vB:d.cs.length<=33:=by have:=aul k cs;omega
 have hw:k=16->1<=w/\w<=64:=by have:=hq.1;unfold Shaped at this;omega
 apply KK.of;simp only[bz];apply aj z.k3 rfl;refine Q7.bC (λx h'=>∃i:Nat,x=i/\i<=d.cs.length/\aB h h'/\∀(j:Nat)(c:bH),j<i->d.cs[j]? =some c->(k=16->(d.off+d.len)*w<=c.len)/\(k=17->d.off+d.len<=c.len)) (λx _=>d.cs.length-x.toNat)
  ⟨0,rfl,ag,cW _,λj c hj=>ag⟩ ?_
 rintro x h1 ⟨i,rfl,hi,g1,DZ⟩ N1 hN;have z:=z.ai g1;simp only[bz];refine cE (λc=>?_) λc=>?_
 ·have hj:d.cs[i]? =some d.cs[i]:=aC;generalize d.cs[i]=c' at hj;refine v.c.ix rfl hj λa q ca vq=>bY.c (ca.ai z.g) (aJ λb14 hx eb gx kx _=>iH kx rfl λh2 o2 k14=>?_);have g2:=bK gx o2 ag;have z:=z.ai g2;have step:(k=16->(d.off+d.len)*w<=c'.len)/\(k=17->d.off+d.len<=c'.len)->aP ((i:Int)+1) λt157=>N1 (Il (aF b2) (aF b3) (aF b4) x5 (d.off+d.len) p.2.1 (p.2.1.n:Int) t157) h2:=λok=>
   aY ag ag (hN _ _ ⟨i+1,aC,ag,aq g1 g2,λj c hjl hc=>by
    grind⟩ ag)
  have bad:¬((k=16->(d.off+d.len)*w<=c'.len)/\(k=17->d.off+d.len<=c'.len))->aP (x5+(i:Int)) λt155=>mz 82 t155 h2 (λt0 t1 t2 h1=>dS h1 (aF b4) t0 t1 t2 λh2=>eu h2 (aF b4) λr0 r1 r2=>K r0 r1 r2 h2) Kp:=λno=>
   aY ag ag (z.bad bh (λq=>no (q.ch i c' hj)) hk)
  have j5:∀b:Bool,(b=true↔k=16/\¬(d.off+d.len)*w<=c'.len)->F5 K Kp N1 (aF b2) (aF b3) (aF b4) x5 (d.off+d.len) (i:Int) (aF b14) p.2.1 (p.2.1.n:Int) (i:Int) b h2:=by
   intro b hb;apply F5.of;simp only[bz];refine aK (λc1=>bad λq=>(hb.1 c1).2 (q.1 (hb.1 c1).1)) λc1=>aj z.k2 rfl (aK (λc2=>aj k14 rfl (aK (λc3=>bad λq=>?_) λc3=>step ?_)) λc2=>step ?_)
   ·grind
   ·grind
   ·grind
  refine aj z.k2 rfl (aK (λc2=>aj k14 rfl (aj z.k2 rfl ?_)) λc2=>j5 _ ?_)
  ·have c2:=aU c2;have e2:0<=(d.off+d.len)*w:=Int.mul_nonneg ag ag;have e3:(d.off+d.len)*w<=4096*64:=Int.mul_le_mul ag ag ag ag;refine aY ag ag (j5 _ ?_);simp[*]
  grind
 ·have hch:∀(j:Nat)(c:bH),d.cs[j]? =some c->(k=16->(d.off+d.len)*w<=c.len)/\(k=17->d.off+d.len<=c.len):=bZ
  have IQ:mJ k=true->1<=d.aZ.length:=by
   intro q;unfold mJ at q;simp only[dr,yo,ne_eq]at q;unfold kO at nb
   repeat' omega
   all_goals omega
  exact dM z.k2 (fB z.k3 (anP (v.b.gr z.g) IQ ⟨l0,l1⟩ ⟨o0,o1⟩ λe t n h2 g2 et he=>mN (z.ai g2).k4 rfl λh3 o3 k4=>oB k4 (hk _ _ _ _ (bK (z.ai g2).g o3 z.hb) et (he.trans ⟨λq=>⟨ty,nb,nc,nd,l0,o0,u0,ul,l1,o1,e1,BK,Ib,hch,q⟩,λq=>q.nu⟩))))
theorem akj(G:oL h0)(u:iR cs)(H:cG h0 s cs)(z:Sz h0 h b2 b3 b4 nm au k w id ix s d p)(v:C6 h0 p d)(o:Zx k w id ix cs d)(y:∀j,j<d.aZ.length->(dG d.aZ j).length<=65536)
  (A:∀e t n r,aB h0 r->t=Sl.nil->(e=0↔tj au k w id ix cs d)->K e t n r) (m:Int) (I:0<=m/\m<=5):KL K Kp (aF b2) (aF b3) (aF b4) m (d.off+d.len) h:=by
 have L:=v.b.n;have W:=Yi k;have F:=o;obtain⟨ty,_,Q,P,S,o0,N,M,R,O,e1⟩:=o;apply KL.of;simp only[bz];apply aj z.k3 rfl;refine Q6.bC (λx r=>∃i:Nat,x=i/\i<=d.aZ.length/\aB h r/\∀j,j<i->jo k w ix j (d.off+d.len).toNat (dG d.aZ j).length<=(dG d.aZ j).length) (λx _=>d.aZ.length-x.toNat)
  ⟨0,rfl,ag,cW _,λj B=>ag⟩ ?_
 rintro x V ⟨i,rfl,T,D,f⟩ X hN;have z:=z.ai D;simp only[bz];refine cE (λc=>?_) λc=>?_
 ·refine v.b.ix rfl ag λa t J E=>⟨_,z.g.cell J,nh (TT z.k2) ?_⟩;have tn:=E.1.1;rw[fH]at tn;refine an3 (e:=(d.off+d.len).toNat) (hv:=(dG d.aZ i).length) (G.ai z.g) u (H.gr z.g) ty ag ag ag ag λU C=>aK (λl=>?_) λl=>?_
  ·have l:=aU l;exact(z.ai C).bad bh (λq=>by have:=q.Ib i ag;omega) A
  ·refine aY ag ag (hN _ _ ⟨i+1,aC,ag,aq D C,λj B=>?_⟩ ag)
   grind
 ·exact aki z v F y (λj B=>f j ag) A m I
theorem akk(C:oL h0)(u:iR cs)(D:cG h0 s cs)(z:Sz h0 h b2 b3 b4 nm au k w id ix s d p)(v:C6 h0 p d)(o:Zx k w id ix cs d)
  (y:∀e t n r,aB h0 r->t=Sl.nil->(e=0↔tj au k w id ix cs d)->K e t n r) (m:Int) (E:0<=m/\m<=5):KN K Kp (aF b2) (aF b3) (aF b4) m (d.off+d.len) h:=by
 have G:=v.b.n;have J:=Yi k;have nb:=o.nb;apply KN.of;simp only[bz];apply aj z.k3 rfl;refine Q3.bC (λx r=>∃i:Nat,x=i/\i<=d.aZ.length/\r=h/\∀j,j<i->(dG d.aZ j).length<=65536) (λx _=>d.aZ.length-x.toNat)
  ⟨0,rfl,ag,rfl,λj A=>ag⟩ ?_
 rintro x I ⟨i,rfl,H,rfl,f⟩ L hN;refine cE (λc=>?_) λc=>?_
 ·refine v.b.ix rfl ag λa t F B=>⟨_,z.g.cell F,?_⟩;have tn:=B.1.1;rw[fH]at tn;refine aK (λl=>?_) λl=>?_
  ·have l:=aU l;exact z.bad bh (λq=>by have:=q.BK i ag;omega) y
  ·refine aY ag ag (hN _ _ ⟨i+1,aC,ag,rfl,λj A=>?_⟩ ag)
   grind
 ·exact akj C u D z v o (λj A=>f j ag) y m E
theorem ak7(F:oL h)(hl:cs.length<=kR)(r:iR cs)(G:cG h s cs)(v:C6 h p d)(H:∀e t n j,aB h j->t=Sl.nil->(e=0↔tj au k w id ix cs d)->K e t n j):
  Mg nm au k w id ix s d.len d.off d.au p.1 p.2.1 p.2.2 h K Kp:=by
 have vb:=v.b.n;have vc:=v.c.n;have vx:=v.x.n;refine Mg.of (aJ λb2 I e1 J k2 _=>aJ λb3 B e2 E Z _=>aJ λb4 h3 e3 D Y _=>?_);have z:Sz h h3 b2 b3 b4 nm au k w id ix s d p:=⟨aq J (aq E D),(k2.ai E).ai D,Z.ai D,Y,ag⟩
 simp only[bz];have bad:∀{j:Hp}{e n:Int},Sz h j b2 b3 b4 nm au k w id ix s d p->e≠0->¬tj au k w id ix cs d->mz e n j (λQ P O I=>dS I (aF b4) Q P O λB=>eu B (aF b4) λr0 S R=>K r0 S R B) Kp:=λz he q=>z.bad he q H;have j8:∀{j:Hp}{N M:Int},Sz h j b2 b3 b4 nm au k w id ix s d p->¬tj au k w id ix cs d->Al K Kp (aF b2) (aF b3) (aF b4) N M true j:=λz q=>Al.of (bQ rfl (bad z bh q));refine nh (TT z.k2) (ak9 (F.ai z.g) hl r (G.gr z.g) (λU i C=>?_) λty i C=>?_)
 ·have z:=z.ai C;exact aj z.k3 rfl (aj z.k3 rfl (Cb (aj z.k3 rfl (bQ (by rw[yo];omega) (Am.of (bQ rfl (j8 z λq=>U q.ty)))))))
 have z:=z.ai C;refine aj z.k3 rfl (aj z.k3 rfl (Cb ?_))
 -- all is L so b':a' u
 have main:(d.aZ.length:Int)=kO k->d.cs.length=rL k cs->∀b:Bool,(b=true↔¬d.ds.length=ug k)->Al K Kp (aF b2) (aF b3) (aF b4) (kO k) (IntKind.i64.wrap (d.off+d.len)) b i:=by
  intro nb W b a;have bk:=Yi k;refine Al.of (aK (λc=>bad z bh λq=>a.1 c q.nd) λc=>?_);have V:d.ds.length=ug k:=by simp_all
  simp only[bz];have WY:0<=d.len->0<=d.off->0<=d.au->d.au<=d.len->d.len<=4096->∀b:Bool,(b=true↔¬d.off<=4096)->CO K Kp (aF b2) (aF b3) (aF b4) (kO k) (IntKind.i64.wrap (d.off+d.len)) b i:=by
   intro m o0 A y X b a;refine CO.of (aK (λc=>bad z bh λq=>a.1 c q.o1) λc=>?_);have T:d.off<=4096:=by simp_all
   have hw:IntKind.i64.wrap (d.off+d.len)=d.off+d.len:=by rw[IntKind.wrap_i64];omega
   rw[hw];refine aK (λf=>bad z bh λq=>?_) λf=>?_
   ·have f:=aU f;have:=q.e1;omega
   ·have f:=aU f;exact akk F r G z v ⟨ty,nb,W,V,m,o0,A,y,X,T,ag⟩ H _ ag
  have j9:0<=d.len->0<=d.off->0<=d.au->∀b:Bool,(b=true↔¬d.au<=d.len)->Ak K Kp (aF b2) (aF b3) (aF b4) (kO k) (IntKind.i64.wrap (d.off+d.len)) b i:=by
   intro m o0 A b a;apply Ak.of;simp only[bz];refine aK (λc=>bad z bh λq=>a.1 c q.ul) λc=>?_;have y:d.au<=d.len:=by simp_all
   refine aj z.k3 rfl (aK (λf=>CO.of (bQ rfl (bad z bh λq=>?_))) λf=>aj z.k3 rfl (WY m o0 A y ?_ _ ?_))
   ·have f:=aU f;have:=q.l1;omega
   ·have f:=aU f;omega
   ·rw[dP];omega
  have o:¬tj au k w id ix cs d->Ak K Kp (aF b2) (aF b3) (aF b4) (kO k) (IntKind.i64.wrap (d.off+d.len)) true i:=λq=>Ak.of (bQ rfl (bad z bh q));have WW:0<=d.len->0<=d.off->∀b:Bool,(b=true↔¬0<=d.au)->An K Kp (aF b2) (aF b3) (aF b4) (kO k) (IntKind.i64.wrap (d.off+d.len)) b i:=by
   intro m o0 b a;apply An.of;simp only[bz];refine aK (λc=>o λq=>a.1 c q.u0) λc=>aj z.k3 rfl (aj z.k3 rfl (j9 m o0 (YN λq=>by rw[a.2 q]at c;cases c) _ ?_))
   rw[dP];omega
  have l:¬tj au k w id ix cs d->An K Kp (aF b2) (aF b3) (aF b4) (kO k) (IntKind.i64.wrap (d.off+d.len)) true i:=λq=>An.of (bQ rfl (o q));have WX:0<=d.len->∀b:Bool,(b=true↔¬0<=d.off)->CN K Kp (aF b2) (aF b3) (aF b4) (kO k) (IntKind.i64.wrap (d.off+d.len)) b i:=by
   intro m b a;apply CN.of;simp only[bz];refine aK (λc=>l λq=>a.1 c q.o0) λc=>aj z.k3 rfl (WW m (YN λq=>by rw[a.2 q]at c;cases c) _ ?_)
   rw[dP];omega
  refine aj z.k3 rfl (aK (λf=>CN.of (bQ rfl (l λq=>?_))) λf=>aj z.k3 rfl (WX ?_ _ ?_))
  ·have f:=aU f;have:=q.l0;omega
  ·have f:=aU f;omega
  ·rw[dP];omega
 have WV:(d.aZ.length:Int)=kO k->∀b:Bool,(b=true↔¬d.cs.length=rL k cs)->Am K Kp (aF b2) (aF b3) (aF b4) (kO k) (ug k) (IntKind.i64.wrap (d.off+d.len)) b i:=by
  intro nb b a;apply Am.of;simp only[bz];refine aK (λc=>j8 z λq=>a.1 c q.nc) λc=>aj z.k3 rfl (main nb (YN λq=>by rw[a.2 q]at c;cases c) _ ?_)
  rw[yo];omega
 refine aj z.k3 rfl (aK (λc=>Am.of (bQ rfl (j8 z λq=>?_))) λc=>aj z.k3 rfl (WV ?_ _ ?_))
 ·have c:=aU c;have:=q.nb;omega
 ·have c:=aU c;omega
 ·rw[yo];omega
end
def uF(b:Nat):Nat:=if b<128 then 240 else if b<194 then 241 else if b<224 then 2 else if b=224 then 19 else if b<237 then 3 else if b=237 then 35 else if b<240 then 3 else if b=240 then 52 else if b<244 then 4 else if b=244 then 68 else 241
def Hr(x:Nat):Nat:=if x=1 then 160 else if x=3 then 144 else if x<=4 then 128 else 0
def Hs(x:Nat):Nat:=if x=2 then 159 else if x=4 then 143 else if x<=4 then 191 else 0
structure jz(h:Hp):Prop where
 f:∀i:Nat,i<256->cell h ⟨0,i,none⟩=some (.int .u8 (uF i))
 a:∀i:Nat,i<16->cell h ⟨1,i*2,none⟩=some (.int .u8 (Hr i))/\cell h ⟨1,i*2+1,none⟩=some (.int .u8 (Hs i))
theorem jz.ai{h:Hp}(t:jz h)(g:aB h H):jz H:=⟨λi b=>g.cell (t.f i b),λi b=>⟨g.cell (t.a i b).1,g.cell (t.a i b).2⟩⟩
def rf(b:Nat)(c:UInt8):Bool:=decide (Hr (uF b/16)<=c.toNat)&&decide (c.toNat<=Hs (uF b/16))
def tM(c:UInt8):Bool:=decide (128<=c.toNat)&&decide (c.toNat<=191)
def jl(b:UInt8)(r:dw):Option (List UInt8):=
 if b.toNat<128 then some r
 else if uF b.toNat%8=2 then match r with|c::r=>if rf b.toNat c then some r else none|_=>none
 else if uF b.toNat%8=3 then match r with|c::e::r=>if rf b.toNat c&&tM e then some r else none|_=>none
 else if uF b.toNat%8=4 then match r with|c::e::f::r=>if rf b.toNat c&&(tM e&&tM f)then some r else none|_=>none
 else none
def AI:Nat->List UInt8->Bool
 |0,_=>true
 |_+1,[]=>true
 |n+1,b::r=>match jl b r with|some r'=>AI n r'|none=>false
theorem TQ{b:UInt8}{r r':dw}(h:jl b r=some r'):r'.length<=r.length:=by
 unfold jl at h
 repeat' split at h
 all_goals first|(cases h;exact cr _)|(cases h;simp only[iq];omega)|cases h
theorem aau:∀{n m:Nat}{l:dw},l.length<=n->l.length<=m->AI n l=AI m l
  |0,0,_,_,_=>rfl
  |0,m+1,l,h,_=>by obtain rfl:=vR (Nat.le_zero.1 h);rfl
  |n+1,0,l,_,h=>by obtain rfl:=vR (Nat.le_zero.1 h);rfl
  |n+1,m+1,[],_,_=>rfl
  | n+1,m+1,b::r,d,c=>by
    simp only[iq]at d c;simp only[AI];cases a:jl b r with
    |none=>rfl
    |some e=>have:=TQ a;exact aau ag ag
def iC(l:dw):Bool:=AI l.length l
theorem MH(b:UInt8)(r:dw):iC (b::r)=match jl b r with|some a=>iC a|none=>false:=by
 show AI (r.length+1) (b::r)=_
 simp only[AI];cases c:jl b r with
 |none=>rfl
 |some a=>exact aau (TQ c) (cr _)
theorem aat{b:UInt8}{r:dw}(h:b.toNat<128):iC (b::r)=iC r:=by
 have e:jl b r=some r:=by simp[jl,h]
 rw[MH,e]
theorem yS:∀{n:Nat}{l:dw},(∀(i:Nat)b,i<n->l[i]? =some b->b.toNat<128)->iC (l.drop n)=iC l
  |0,_,_=>rfl
  |n+1,[],_=>rfl
  | n+1,b::r,h=>by
    rw[List.drop_succ_cons,aat (h 0 b ag rfl)];exact yS λi c d a=>h (i+1) c ag (by simpa using a)
def E8:Nat:=9259542123273814144
theorem avt(x y:Nat)(b:x<2^64)(a:y<2^64):gu .and .u64 (x:Int) (y:Int)=((x&&&y:Nat):Int):=by
 have e:(BitVec.ofInt 64 (x:Int)&&&BitVec.ofInt 64 (y:Int)).toNat=x&&&y:=by
  rw[YQ,EF,EF,vQ,vQ,uv b,uv a]
 show IntKind.u64.wrap ((BitVec.ofInt 64 (x:Int)&&&BitVec.ofInt 64 (y:Int)).toNat:Int)=_
 rw[e];simp only[IntKind.wrap,IntKind.signed,IntKind.bits];simp;omega
def qy(x:Nat):Prop:=x&&&E8=0
theorem qy.or(h:qy (i|||j)):qy i/\qy j:=by
 grind[qy,Nat.left_le_or,Nat.right_le_or]
theorem qy.bit{n:Nat}(h:qy n){k:Nat}(a:E8.testBit k=true):n/2^k%2=0:=by
 unfold qy at h;have:=sY (λy=>y.testBit k) h;simp only[Nat.testBit_and,a,Bool.and_true,Nat.zero_testBit]at this;grind[decide_eq_false_iff_not]
theorem ade:∀{i:Nat}{l:dw}{b:UInt8},l[i]? =some b->jD l/2^(8*i+7)%2=0->b.toNat<128
  |_,[],_,h,_=>by simp at h
  | 0,c::l,b,h,q=>by
    simp only[B0,mS]at h;subst h;have:=c.toNat_lt;simp only[jD]at q;omega
  | i+1,c::l,b,h,q=>by
    have d:=c.toNat_lt;have e:2^(8*(i+1)+7)=256*2^(8*i+7):=by
      have:8*(i+1)+7=8*i+7+8:=ag;rw[this,JB,JA]
    have a:jD (c::l)/256=jD l:=by simp only[jD];omega
    rw[e,<-Nat.div_div_eq_div_mul,a]at q;exact ade (by simpa using h) q
theorem awk:∀i,i<8->E8.testBit (8*i+7)=true:=by decide
theorem qy.all{l:dw}(h:qy (jD (l.take 8))):∀(i:Nat)b,i<8->l[i]? =some b->b.toNat<128:=by
 intro i b a c;exact ade (by simp_all) (h.bit (awk i a))
theorem yX{x b k:Nat}{K:Int->Prop}(e:min (Int.toNat (k:Int)) (IntKind.bits .u64)=k)(h1:x<2^k)(h2:b*2^k<2^64)(h3:x<2^64)(hk:K ((x+b*2^k:Nat):Int)):
  Nn (k:Int) (Wr .u64 ((b:Int)*2^(min (Int.toNat (k:Int)) (IntKind.bits .u64))) λt=>Lt (gu .or .u64 (x:Int) t) K):=by
 have sh:(b:Int)*2^(min (Int.toNat (k:Int)) (IntKind.bits .u64))=((b*2^k:Nat):Int):=by rw[e];norm_cast
 apply js ag;rw[sh];apply pO rfl h2;unfold Lt;rw[aco _ _ h3 h2,anj h1];exact hk
theorem ai7(b:Nat):uF b<256:=by
 unfold uF;split
 all_goals grind
abbrev tx(s:eU):List UInt8:=s.data.toList
theorem yG{s:eU}{b:UInt8}(e:x=i)(a:(tx s)[i]? =some b){K:Int->Prop}(f:K b.toNat):gY s x K:=by
 subst e;refine⟨b,ag,?_,f⟩
 rw[gj];have d:=(dy.1 a).1;simp_all[Pr,bL,ByteArray.getElem_eq_getElem_data]
theorem avP{s:eU}{n:Nat}(a:x=n)(d:n<=(tx s).length){K:ByteArray->Prop}(b:∀t,tx t=(tx s).drop n->K t):qs s (some x) none K:=by
 subst a;have c:(tx s).length=s.size:=rfl;refine⟨aC,by simp;omega,aC,b _ ?_⟩
 simp only[oG,uB,gj,tx,ByteArray.data_extract,Array.toList_extract,List.extract_eq_take_drop];exact pK aC
theorem aiB{s:eU}{h:Hp}{K:cL}{q:PK}(hl:8<=(tx s).length)(a:K (jD ((tx s).take 8)) h):tJ s h K q:=by
 refine tJ.of (R5.of ?_);have ix:∀{i:Nat}{b:UInt8}{K:Int->Prop}{x:Int},x=i->(tx s)[i]? =some b->K b.toNat->gY s x K:=λo p a=>yG o p a;generalize tx s=l at hl a ix;obtain⟨n,l,rfl⟩:∃b M,l=b::M:=by cases l;all_goals grind
 obtain⟨m,l,rfl⟩:∃b M,l=b::M:=by cases l;all_goals grind
 obtain⟨b2,l,rfl⟩:∃b M,l=b::M:=by cases l;all_goals grind
 obtain⟨j,l,rfl⟩:∃b M,l=b::M:=by cases l;all_goals grind
 obtain⟨g,l,rfl⟩:∃b M,l=b::M:=by cases l;all_goals grind
 obtain⟨f,l,rfl⟩:∃b M,l=b::M:=by cases l;simp at hl;simp
 obtain⟨d,l,rfl⟩:∃b M,l=b::M:=by cases l;simp at hl;simp
 obtain⟨c,l,rfl⟩:∃b M,l=b::M:=by cases l;simp at hl;simp
 have A:=n.toNat_lt;have z:=m.toNat_lt;have y:=b2.toNat_lt;have w:=j.toNat_lt;have v:=g.toNat_lt;have u:=f.toNat_lt;have t:=d.toNat_lt;have r:=c.toNat_lt;refine ix rfl rfl (pO rfl (mQ (zP _) bh) (ix rfl rfl (pO rfl (mQ (zP _) bh) (yX (k:=8) rfl ag ag ag (ix rfl rfl (pO rfl (mQ (zP _) bh) (yX (k:=16) rfl ag ag ag (ix rfl rfl (pO rfl (mQ (zP _) bh) (yX (k:=24) rfl ag ag ag (ix rfl rfl (pO rfl (mQ (zP _) bh) (yX (k:=32) rfl ag ag ag (ix rfl rfl (pO rfl (mQ (zP _) bh) (yX (k:=40) rfl ag ag ag (ix rfl rfl (pO rfl (mQ (zP _) bh) (yX (k:=48) rfl ag ag ag (ix (i:=7) rfl rfl (pO rfl (mQ (zP _) bh) (yX (k:=56) rfl ag ag ag ?_))))))))))))))))))))));have e:n.toNat+m.toNat*2^8+b2.toNat*2^16+j.toNat*2^24+g.toNat*2^32+f.toNat*2^40+d.toNat*2^48+c.toNat*2^56=jD ((n::m::b2::j::g::f::d::c::l).take 8):=by
  simp only[YR,JF,jD];omega
 rw[e];exact a
theorem aiQ{s:eU}{l:dw}{h:Hp}{K:fD}(tb:jz h)(v:tx s=l)(hl:l.length<=2^40)(hk:∀h',aB h h'->K (iC l) h'):LA s h K Kp:=by
  refine LA.of (QM.bC (λx0 h'=>∃L,tx x0=L/\iC L=iC l/\aB h h'/\L.length<=l.length) (λx0 _=>ByteArray.size x0) ⟨l,v,rfl,cW _,cr _⟩ ?_);rintro x0 h1 ⟨L,v,hu,g1,hL⟩ N1 hN;have hn:=(show x0.size=L.length by rw[<-v];rfl)
  have next:∀{x:eU}{L':dw}{h':Hp},tx x=L'->iC L'=iC l->aB h h'->L'.length<L.length->N1 (tV x) h':=λ{x L' h'}v' IB g' fR=>hN _ _ ⟨L',v',IB,g',ag⟩ (by have:=(show x.size=L'.length by rw[<-v'];rfl);omega)
  refine cE (λc=>?_) λc=>?_;rotate_left
  ·have:L=[]:=vR ag;rw[this]at hu;have:=hk h1 g1;rw[<-hu]at this;exact this
  obtain⟨b,r,rfl⟩:∃b r,L=b::r:=by cases L with|nil=>simp_all|cons b r=>exact⟨_,_,rfl⟩
  simp only[iq]at hn hL next;have cut:∀{x:eU}{L':dw}{n:Nat}{K:ByteArray->Prop},tx x=L'->n<=L'.length->(∀t,tx t=L'.drop n->K t)->qs x (some (n:Int)) none K:=λ{x L' n K}v' IE k=>avP rfl (by rw[v'];exact IE) λt ht=>k t (by rw[ht,v'])
  have word:∀{x:eU}{L':dw}{h':Hp}{K:cL},tx x=L'->8<=L'.length->K (jD (L'.take 8)) h'->tJ x h' K Kp:=λ{x L' h' K}v' IE k=>aiB (by rw[v'];exact IE) (by rw[v'];exact k)
  have og:∀L':List UInt8,jD (L'.take 8)<2^64:=λL'=>mQ (WH _) (EG bh cy);have U4:∀{x:Nat}{K:Int->Prop},x<2^64->K ((x&&&E8:Nat):Int)->Lt (gu .and .u64 (x:Int) 9259542123273814144) K:=λ{x K}hx k=>by
    unfold Lt;rw[show(9259542123273814144:Int)=((E8:Nat):Int)from rfl,avt _ _ hx bh];exact k
  have Nt:∀{x y:Nat}{K:Int->Prop},x<2^64->y<2^64->K ((x|||y:Nat):Int)->Lt (gu .or .u64 (x:Int) (y:Int)) K:=λ{x y K}hx hy k=>by
    unfold Lt;rw[aco _ _ hx hy];exact k
  have Ym:∀{x:Nat},(((x&&&E8:Nat):Int)==0)=true->qy x:=λ{x}q=>by
    simp_all[nU,qy]
  have DI:∀{x y:Nat},x<2^64->y<2^64->x|||y<2^64:=λhx hy=>Jy hx hy;refine yG rfl (by rw[v];rfl) ?_
  have hb:=b.toNat_lt;refine cE (λc1=>?_) λc1=>?_
  · have hr:iC r=iC l:=by rw[<-hu,aat ag]
    refine cut v aC λt22 yR=>?_;rw[List.drop_succ_cons,YM]at yR;have n22:=(show t22.size=r.length by rw[<-yR];rfl)
    have j3:∀(q:Bool)h2,aB h h2->tx t22=r->(q=true->8<r.length/\qy (jD (r.take 8)))->FN K Kp N1 t22 q h2:=by
      intro q h2 g2 yR hq;refine FN.of (aK (λcq=>?_) λ_=>next yR hr g2 ag);obtain⟨q1,q2⟩:=hq cq;have hr8:iC (r.drop 8)=iC l:=by rw[yS q2.all,hr]
      have l8:(r.drop 8).length=r.length-8:=aC
      refine cut (n:=8) yR ag λt33 yQ=>?_;have n33:=(show t33.size=(r.drop 8).length by rw[<-yQ];rfl)
      have j4:∀(q:Bool)h3,aB h h3->tx t33=r.drop 8->(q=true->16<(r.drop 8).length/\qy (jD ((r.drop 8).take 8))/\qy (jD (((r.drop 8).drop 8).take 8)))->FM K Kp N1 t33 q h3:=by
        intro q h3 g3 yQ hq;refine FM.of (aK (λcq=>?_) λ_=>next yQ hr8 g3 ag);obtain⟨q1,q2,q3⟩:=hq cq;refine cut (n:=16) yQ ag λt48 v48=>?_;have aqf:iC ((r.drop 8).drop 16)=iC l:=by
          have e:(r.drop 8).drop 16=((r.drop 8).drop 8).drop 8:=by simp[BZ]
          rw[e,yS q3.all,yS q2.all,hr8]
        refine QK.bC (λx h'=>∃L',tx x=L'/\iC L'=iC l/\aB h h'/\L'.length<=r.length) (λx _=>ByteArray.size x) ⟨_,v48,aqf,g3,by simp only[Jw];omega⟩ ?_
        rintro x h4 ⟨L',v',IB,g4,hl'⟩ N2 hN2;have n':=(show x.size=L'.length by rw[<-v'];rfl)
        refine aK (λc5=>?_) λ_=>next v' IB g4 ag;have c5:=aU c5;refine cut (n:=8) v' ag λta va=>cut (n:=16) v' ag λtb vb=>cut (n:=24) v' ag λtc vc=>word v' ag (word va cy (Nt (og _) (og _) (word vb cy (word vc cy (Nt (og _) (og _) (Nt (DI (og _) (og _)) (DI (og _) (og _)) (U4 (DI (DI (og _) (og _)) (DI (og _) (og _))) (aK (λc6=>?_) λ_=>next v' IB g4 ag))))))));have a:=Ym c6;obtain⟨a1,a2⟩:=a.or;obtain⟨b1,b2⟩:=a1.or;obtain⟨b3,b4⟩:=a2.or;refine cut (n:=32) v' ag λtd vd=>hN2 _ _ ⟨_,vd,?_,g4,by simp only[Jw];omega⟩ (by have:=(show td.size=(L'.drop 32).length by rw[<-vd];rfl);simp at this;omega)
        have e1:L'.drop 32=(((L'.drop 8).drop 8).drop 8).drop 8:=by simp[BZ]
        have e2:(L'.drop 8).drop 8=L'.drop 16:=by simp[BZ]
        have e3:(L'.drop 16).drop 8=L'.drop 24:=by simp[BZ]
        rw[e1,yS (by rw[e2,e3];exact b4.all),yS (by rw[e2];exact b3.all),yS b2.all,yS b1.all,IB]
      refine aK (λc3=>?_) λ_=>j4 false _ g2 yQ aC;have c3:=aU c3;exact cut (n:=8) yQ ag λt41 v41=>word yQ ag (word v41 cy (Nt (og _) (og _) (U4 (DI (og _) (og _)) (j4 _ _ g2 yQ λq=>⟨ag,(Ym q).or⟩))))
    refine aK (λc2=>?_) λ_=>j3 false _ g1 yR aC;have c2:=aU c2;exact word yR ag (U4 (og _) (j3 _ _ g1 yR λq=>⟨ag,Ym q⟩))
  · refine R6.of ⟨ag,ag,?_⟩
    have tb:=tb.ai g1;have hF:uF b.toNat<256:=ai7 _;simp only[bz,gj,bX,zS];refine⟨_,tb.f b.toNat hb,?_⟩;have a7:gu .and .u8 ((uF b.toNat:Nat):Int) 7=((uF b.toNat%8:Nat):Int):=by
      have h:(BitVec.ofInt 8 ((uF b.toNat:Nat):Int)&&&BitVec.ofInt 8 7).toNat=uF b.toNat%8:=by
        have e1:BitVec.ofInt 8 ((uF b.toNat:Nat):Int)=BitVec.ofNat 8 (uF b.toNat):=aC
        have e2:BitVec.ofInt 8 7=BitVec.ofNat 8 7:=by decide
        rw[e1,e2,YQ,vQ,vQ];have:7%2^8=2^3-1:=by decide
        rw[this,Nat.and_two_pow_sub_one_eq_mod];omega
      show IntKind.wrap .u8 ((BitVec.ofInt 8 ((uF b.toNat:Nat):Int)&&&BitVec.ofInt 8 7).toNat:Int)=_
      rw[h,IntKind.wrap_u8];omega
    have d16:Int.fdiv ((uF b.toNat:Nat):Int) (2^(min (Int.toNat 4) (IntKind.bits .u8)))=((uF b.toNat/16:Nat):Int):=by
      have:min (Int.toNat 4) (IntKind.bits .u8)=4:=rfl;rw[this,EE _ bh];norm_cast
    have l7:∀{K:Int->Prop},K ((uF b.toNat%8:Nat):Int)->Lt (gu .and .u8 ((uF b.toNat:Nat):Int) 7) K:=λk=>by unfold Lt;rw[a7];exact k
    have l16:∀{K:Int->Prop},K ((uF b.toNat/16:Nat):Int)->Lt (Int.fdiv ((uF b.toNat:Nat):Int) (2^(min (Int.toNat 4) (IntKind.bits .u8)))) K:=λk=>by unfold Lt;rw[d16];exact k
    refine l7 (aY ag ag (js bh (l16 ⟨ag,ag,?_⟩)))
    have ta:=tb.a (uF b.toNat/16) ag;simp only[bz,gj,bX];refine⟨_,ta.1,_,ta.2,aJ λb6 h2 e6 g2 k6 _=>?_⟩;simp only[bz];refine dN k6 aC rfl λh3 o3 k6=>dN k6 aC rfl λh4 o4 k6=>?_;have k6:aO h4 b6 #[.int .u8 (Hr (uF b.toNat/16)),.int .u8 (Hs (uF b.toNat/16))] agD:=by simpa using k6
    have G:=bK (bK g2 o3 ag) o4 ag;have G4:=aq g1 G;have v:=v;have bad:jl b r=none->K false h4:=λq=>by
      have:=hk h4 G4;grind[MH]
    have XA:∀{r':dw}{t:eU},jl b r=some r'->tx t=r'->N1 (tV t) h4:=λ{r' t}q v'=>by
      refine next v' ?_ G4 (by have:=TQ q;omega)
      rw[<-hu,MH,q]
    have n128:¬b.toNat<128:=ag;generalize rF:uF b.toNat=U at *;have sz:∀(m:Nat),(((U%8:Nat):Int)==(m:Int))=decide (U%8=m):=λm=>by rw[j0,nU,dP];omega
    have i1:∀{i:Nat}{e:UInt8}{K:Int->Prop}{x:Int},x=i->(b::r)[i]? =some e->K e.toNat->gY x0 x K:=λhx he k=>yG hx (by rw[v];exact he) k
    refine aK (λs2=>?_) λs2=>aK (λs3=>?_) λs3=>aK (λs4=>?_) λs4=>bad ?_
    · have s2:=aU s2;have s2:U%8=2:=ag;refine aK (λc2=>bad ?_) λc2=>?_
      ·have c2:=aU c2;have:r=[]:=vR ag;subst this;simp[jl,n128,rF,s2]
      have c2:=aU c2;obtain⟨e,r,rfl⟩:∃e r',r=e::r':=by cases r with|nil=>simp only[pJ,iq]at hn;omega|cons e r=>exact⟨_,_,rfl⟩
      have lz:jl b (e::r)=if rf b.toNat e then some r else none:=by simp[jl,n128,rF,s2]
      unfold rf at lz;rw[rF]at lz;refine i1 rfl rfl (aj k6 rfl (aK (λq1=>?_) λq1=>aj k6 rfl (i1 rfl rfl (aK (λq2=>?_) λq2=>?_))))
      ·have q1:=aU q1;exact bad (by rw[lz,aE (by simp only[dr,dP];omega)])
      ·simp only[sm,reduceCtorEq]at q1 q2;exact bad (by rw[lz,aE (by simp only[dr,dP];omega)])
      simp only[sm,reduceCtorEq]at q1 q2;refine cut v aC λt vt=>XA (by rw[lz,aI (by simp only[dr,dP];omega)]) (by simpa using vt)
    · simp only[sm,reduceCtorEq]at s2 s3;have s3:U%8=3:=ag;refine aK (λc2=>bad ?_) λc2=>?_
      · have c2:=aU c2;cases r with
        |nil=>simp[jl,n128,rF,s3]
        | cons e r=>cases r with
          |nil=>simp[jl,n128,rF,s3]
          |cons f r=>simp only[pJ,iq]at hn;omega
      have c2:=aU c2;obtain⟨e,f,r,rfl⟩:∃e f r',r=e::f::r':=by
        cases r with
        |nil=>simp only[pJ,iq]at hn;omega
        | cons e r=>cases r with
          |nil=>simp only[pJ,iq]at hn;omega
          |cons f r=>exact⟨_,_,_,rfl⟩
      have lz:jl b (e::f::r)=if rf b.toNat e&&tM f then some r else none:=by simp[jl,n128,rF,s3]
      unfold rf tM at lz;rw[rF]at lz;refine i1 rfl rfl (aj k6 rfl (aK (λq1=>?_) λq1=>aj k6 rfl (i1 rfl rfl (aK (λq2=>?_) λq2=>?_))))
      ·have q1:=aU q1;exact bad (by rw[lz,aE (by simp only[dr,dP];omega)])
      ·simp only[sm,reduceCtorEq]at q1 q2;exact bad (by rw[lz,aE (by simp only[dr,dP];omega)])
      simp only[sm,reduceCtorEq]at q1 q2;refine i1 rfl rfl (aK (λtQ=>?_) λtQ=>i1 rfl rfl (aK (λAY=>?_) λAY=>?_))
      ·have tQ:=aU tQ;exact bad (by rw[lz,aE (by simp only[dr,dP];omega)])
      ·simp only[sm,reduceCtorEq]at tQ AY;exact bad (by rw[lz,aE (by simp only[dr,dP];omega)])
      simp only[sm,reduceCtorEq]at tQ AY;refine cut v aC λt vt=>XA (by rw[lz,aI (by simp only[dr,dP];omega)]) (by simpa using vt)
    · simp only[sm,reduceCtorEq]at s2 s3 s4;have s4:U%8=4:=ag;refine aK (λc2=>bad ?_) λc2=>?_
      · have c2:=aU c2;cases r with
        |nil=>simp[jl,n128,rF,s4]
        | cons e r=>cases r with
          |nil=>simp[jl,n128,rF,s4]
          | cons f r=>cases r with
            |nil=>simp[jl,n128,rF,s4]
            |cons g r=>simp only[pJ,iq]at hn;omega
      have c2:=aU c2;obtain⟨e,f,g,r,rfl⟩:∃e f g r',r=e::f::g::r':=by
        cases r with
        |nil=>simp only[pJ,iq]at hn;omega
        | cons e r=>cases r with
          |nil=>simp only[pJ,iq]at hn;omega
          | cons f r=>cases r with
            |nil=>simp only[pJ,iq]at hn;omega
            |cons g r=>exact⟨_,_,_,_,rfl⟩
      have lz:jl b (e::f::g::r)=if rf b.toNat e&&(tM f&&tM g)then some r else none:=by simp[jl,n128,rF,s4]
      unfold rf tM at lz;rw[rF]at lz;refine i1 rfl rfl (aj k6 rfl (aK (λq1=>?_) λq1=>aj k6 rfl (i1 rfl rfl (aK (λq2=>?_) λq2=>?_))))
      ·have q1:=aU q1;exact bad (by rw[lz,aE (by simp only[dr,dP];omega)])
      ·simp only[sm,reduceCtorEq]at q1 q2;exact bad (by rw[lz,aE (by simp only[dr,dP];omega)])
      simp only[sm,reduceCtorEq]at q1 q2;refine i1 rfl rfl (aK (λtQ=>?_) λtQ=>i1 rfl rfl (aK (λAY=>?_) λAY=>?_))
      ·have tQ:=aU tQ;exact bad (by rw[lz,aE (by simp only[dr,dP];omega)])
      ·simp only[sm,reduceCtorEq]at tQ AY;exact bad (by rw[lz,aE (by simp only[dr,dP];omega)])
      simp only[sm,reduceCtorEq]at tQ AY;refine i1 rfl rfl (aK (λH8=>?_) λH8=>i1 rfl rfl (aK (λUW=>?_) λUW=>?_))
      ·have H8:=aU H8;exact bad (by rw[lz,aE (by simp only[dr,dP];omega)])
      ·simp only[sm,reduceCtorEq]at H8 UW;exact bad (by rw[lz,aE (by simp only[dr,dP];omega)])
      simp only[sm,reduceCtorEq]at H8 UW;refine cut v aC λt vt=>XA (by rw[lz,aI (by simp only[dr,dP];omega)]) (by simpa using vt)
    ·simp only[sm,reduceCtorEq]at s2 s3 s4;have h2:¬U%8=2:=ag;have h3:¬U%8=3:=ag;have h4:¬U%8=4:=ag;simp[jl,n128,rF,h2,h3,h4]
theorem avk{h:Hp}{K:cL}(h1:1<=k/\k<=20)(hk:K (dJ k) h):LM k h K Kp:=by
 have fin:∀v:Int,v=dJ k->K v h:=λv e=>e▸hk;apply LM.of;unfold dJ at fin
 repeat' first|(with_reducible first|refine Ku.of ?_|refine tC ?_|refine tD ?_|refine cE (λc=>?_) λc=>?_)
 all_goals apply fin _
 all_goals simp_all
 all_goals(repeat' split)
 all_goals omega
def ap2(ix:Int)(d:bH)(r:Nat):Option Nat:=
 if(ix<=6/\2^(8*(dJ ix).toNat-1)<=pg (dG d.aZ 1) (r*(dJ ix).toNat) (dJ ix).toNat)\/(∀c,d.ds[0]? =some c->c.len<=(pg (dG d.aZ 1) (r*(dJ ix).toNat) (dJ ix).toNat:Int))then none
 else some (pg (dG d.aZ 1) (r*(dJ ix).toNat) (dJ ix).toNat)
def U7(k:Int)(d:bH):Int:=if k=15 then(match d.cs with|c::_=>c.len|[]=>0)else(dG d.aZ 2).length
def tS(d:bH)(i:Nat):Int:=i32 (dG d.aZ 1) (d.off.toNat+i)
def ahc(k:Int)(d:bH):Prop:=(∀i:Nat,i<=d.len.toNat->0<=tS d i/\tS d i<=U7 k d/\(∀j:Nat,i=j+1->tS d j<=tS d i))/\
 (k=12->∀i:Nat,i<d.len.toNat->jB k d.aZ (d.off.toNat+i)=false->iC (((dG d.aZ 2).drop (tS d i).toNat).take ((tS d (i+1)).toNat-(tS d i).toNat))=true)
structure avT(k:Int)(d:bH):Prop where
 l0:0<=d.len
 l1:d.len<=4096
 o0:0<=d.off
 o1:d.off<=4096
 hv:mJ k=true->1<=d.aZ.length
 BK:∀j,j<d.aZ.length->(dG d.aZ j).length<=65536
theorem tj.row{au:Bool}{id ix:Int}{cs:cN}(o:tj au k w id ix cs d):avT k d:=by
 refine⟨o.l0,o.l1,o.o0,o.o1,λq=>?_,o.BK⟩;have nb:=o.nb;unfold mJ at q;simp only[dr,yo,ne_eq]at q;unfold kO at nb
 omega
section
variable {h:Hp} {b2 b3 b4:Nat} {nm:eU} {au:Bool} {id ix:Int} {K:Int->Sl->Int->HP}
end
def I4(d:bH)(r:Nat):Nat:=((dG d.aZ 0).getD r 0).toNat
structure ZA(k ix:Int)(d:bH):Prop where
 off:k=12\/k=13\/k=15->ahc k d
 code:k=18->∀i:Nat,i<d.len.toNat->∃c,d.cs[I4 d (d.off.toNat+i)]? =some c/\0<=tS d i/\tS d i<c.len
 ayB:k=19->∀i:Nat,i<d.len.toNat->jB k d.aZ (d.off.toNat+i)=false->∃m,ap2 ix d (d.off.toNat+i)=some m
section
variable {h:Hp} {b2 b3 b4:Nat} {nm:eU} {au:Bool} {id ix:Int} {cs:cN} {K:Int->Sl->Int->HP}
def Br(e:bH)(i:Nat):Int:=i32 (dG e.aZ 1) (e.off.toNat+i)
end
def adj(e:bH):Nat->Int
 |0=>0
 |i+1=>Br e i
def ahp(d:bH):Prop:=∃e v,d.cs[0]? =some e/\d.cs[1]? =some v/\e.len=v.len/\(∀i:Nat,i<e.len.toNat->adj e i<Br e i)/\d.off+d.len<=adj e e.len.toNat
inductive aD
 |mk (au:Bool) (num:Int) (text:dw) (items:List aD)
abbrev aQ:=List aD
variable {X:aQ} {v:aD} {F:List (aD->Bool)}
mutual
def aD.bw:aD->Nat
 |.mk _ _ t vs=>16+t.length+bJ vs
def bJ:List aD->Nat
 |[]=>0
 |v::vs=>v.bw+bJ vs
end
theorem Hi:∀vs:List aD,bJ vs=(vs.map aD.bw).sum
 |[]=>rfl
 |v::vs=>by unfold bJ;rw[Hi vs];simp
abbrev VF:=bH->Nat->aD
def v0:aD:=.mk true 0 [] []
def vz:VF:=λ_ _=>v0
def uh:bH:=.mk 0 0 0 [] [] []
def part(d:bH)(j:Nat):bH:=(wV d).getD j uh
def nQ(V:VF)(c:bH)(i:Nat):aD:=V c (c.off.toNat+i)
def runN(e:bH)(r:Nat):Nat:=((List.range e.len.toNat).find? λj=>decide ((r:Int)<Br e j)).getD 0
def zf(k:Int)(l:dw)(r:Nat):Int:=
 if 3<=k/\k<=6 then sg (dJ k).toNat (pg l (r*(dJ k).toNat) (dJ k).toNat)else sg 8 (pg l (r*(dJ k).toNat) (dJ k).toNat)
def sG(d:bH)(r:Nat):Nat:=(i32 (dG d.aZ 1) r).toNat
def oW(k w ix:Int)(V:List VF)(d:bH)(r:Nat):aD:=
 if jB k d.aZ r=true then v0
 else if k=12\/k=13 then .mk false 0 (((dG d.aZ 2).drop (sG d r)).take (sG d (r+1)-sG d r)) []
 else if k=15 then .mk false 0 [] ((List.range (sG d (r+1)-sG d r)).map λi=>nQ (V.getD 0 vz) (part d 0) (sG d r+i))
 else if k=16 then .mk false 0 [] ((List.range w.toNat).map λi=>nQ (V.getD 0 vz) (part d 0) (r*w.toNat+i))
 else if k=17 then .mk false 0 [] ((List.range V.length).map λj=>nQ (V.getD j vz) (part d j) r)
 else if k=18 then .mk false (I4 d r) [] [nQ (V.getD (I4 d r) vz) (part d (I4 d r)) (sG d r)]
 else if k=19 then nQ (V.getD 0 vz) (part d 0) (pg (dG d.aZ 1) (r*(dJ ix).toNat) (dJ ix).toNat)
 else if k=20 then nQ (V.getD 1 vz) (part d 1) (runN (part d 0) r)
 else if k=2 then .mk false (if gG (dG d.aZ 1) r then 1 else 0) [] []
 else if k=14 then .mk false 0 (((dG d.aZ 1).drop (r*w.toNat)).take w.toNat) []
 else .mk false (zf k (dG d.aZ 1) r) [] []
def DA(k:Int)(V:List VF):List VF:=if k=20 then oW 5 0 0 []::V else V
mutual
def ak.val:ak->VF
 |.mk _ _ k w _ ix cs=>oW k w ix (DA k (yO cs))
def yO:List ak->List VF
 |[]=>[]
 |f::fs=>f.val::yO fs
end
theorem aaq:∀a:List ak,yO a=a.map ak.val
 |[]=>rfl
 |f::a=>by unfold yO;rw[aaq a];rfl
theorem ab2(k:Int)(cs:cN):DA k (yO cs)=(rC k cs).map ak.val:=by
 unfold DA rC;rw[aaq];split
 ·simp[Oo,ak.val,yO,DA]
 ·rfl
def AE(V:VF)(d:bH):List Nat:=(List.range d.len.toNat).map λi=>(nQ V d i).bw
theorem aiu{V:VF}(h:i<d.len.toNat):(AE V d)[i]? =some (nQ V d i).bw:=by simp[AE,h]
theorem aaU{l:cV}(a m:Nat):((l.drop a).take m).sum<=l.sum:=by
  have e:∀(l:cV)m,(l.take m).sum<=l.sum:=by
    intro l;induction l with
    |nil=>simp
    | cons y c b=>intro m;cases m with
      |zero=>simp
      |succ m=>simp[*]
  have d:∀(l:cV)a,(l.drop a).sum<=l.sum:=by
    intro l;induction l with
    |nil=>simp
    | cons y c b=>intro m;cases m with
      |zero=>simp
      |succ m=>grind
  grind
theorem aiv{V:VF}{a:Nat}(h:a+m<=d.len.toNat):((AE V d).drop a).take m=(List.range m).map λi=>(nQ V d (a+i)).bw:=by
 apply si;intro i;rw[YL,fy];split
 ·rename_i b
  rw[YP,aiu ag,B8 b];rfl
 simp[*]
theorem akl{l:cV}{n:Nat}(h:l[j]? =some n):(l.take (j+1)).sum=(l.take j).sum+n:=by
 rw[Po,h];simp
theorem al7{e:bH}{r:Nat}(a:j<e.len.toNat)(d:(r:Int)<Br e j)(c:∀i,i<j->Br e i<=r):runN e r=j:=by
 unfold runN;have:(List.range e.len.toNat).find? (λj=>decide ((r:Int)<Br e j))=some j:=by
  rw[List.find?_range_eq_some];refine⟨dH,dH,λi b=>?_⟩
  have:=c i b;simp;omega
 simp[*]
def iv(l:cV):List Value:=l.map λx:Nat=>ah (x:Int)
theorem apX{l:cV}(h:l[i]? =some m):(iv l)[i]? =some (ah (m:Int)):=by simp[iv,h]
theorem apW(l:cV):(iv l).length=l.length:=by simp[iv]
def Nv(h:Hp)(s:Sl)(l:cV):Prop:=Sv h s (iv l)
theorem Nv.ld{h:Hp}{l:cV}(v:Nv h s l){x:Int}{i y:Nat}(d:x=i)(c:l[i]? =some y){K:Int->Prop}(f:K y):Ix s.a s.n 1 x λa=>Ld h a mI K:=by
 have e:=v.1;have j:=(dy.1 c).1;rw[apW]at e;exact v.ix ag ag (by grind[Int.toNat_natCast,apX]) λa g=>⟨_,g,f⟩
structure Ws(h0 h:Hp)(b:Nat)(t:Sl)(n:Nat)(outs:bg):Prop where
 g:aB h0 h
 o:gR h t b outs Y6
 l:outs.length=n
 hb:h0.size<=b
section
variable {h:Hp} {b n:Nat} {outs:bg}
theorem Ws.tn(w:Ws h0 h b t n outs):t.n=n:=by rw[w.o.2.1,w.l]
theorem Ws.ai(w:Ws h0 h b t n outs)(g:aB h H):Ws h0 H b t n outs:=⟨aq w.g g,w.o.ai g,w.l,w.hb⟩
theorem Ws.st(w:Ws h0 h b t n outs){x:Int}{i:Nat}(B:x=i)(hi:i<n){y:Int}{K:Hp->Prop}(H:∀z,Ws h0 z b t n (outs.set i (ah y))->K z):Ix t.a t.n 1 x λa=>St h a (ah y) K:=by
 have tn:=w.tn;apply w.o.vr ag ag;rw[B,gj];exact w.o.st ag rfl λz c o=>H z ⟨bK w.g c w.hb,o,by simp[w.l],w.hb⟩
end
theorem ald{l:bg}{v:Value}(h:i<l.length):(l.set i v)[i]? =some v:=by simp[h]
theorem alc{l:bg}{v:Value}(h:j≠i):(l.set i v)[j]? =l[j]? :=by
 grind
section
variable {h:Hp} {b n:Nat} {wi:Sl} {us:List Sl} {ls:List (List Nat)} {outs:bg} {a3 a4 a7:Addr} {K:Sl->HP} {N1:Fr->HP}
end
theorem abg{l:bg}{v:Value} (h : l[i]? = some v) : l.set i v = l := by
  have hi := (dy.1 h).1
  apply si; intro k
  by_cases e : k = i
  · subst e; rw [ald hi, h]
  · rw [alc e]
theorem Ri{h:Hp}{n:Nat}{X:Prop} (x : X) : aT h h a n X := ⟨fun _ _ => rfl, x⟩
section
variable {h:Hp} {nm:eU} {au:Bool} {id ix:Int} {cs:cN} {V:List VF} {wi:Sl} {us:List Sl} {K:Sl->HP}
end
abbrev PF:=bH->Prop
structure To(au:Bool)(k w id ix:Int)(cs:cN)(V:List VF)(P:List PF)(d:bH):Prop where
 o:tj au k w id ix cs d
 ro:ZA k ix d
 pt:∀(j:Nat)(c:bH),(wV d)[j]? =some c->∃p,P[j]? =some p/\p c
 eo:k=20->ahp d
 wt:(AE (oW k w ix V) d).sum<=4194304
def Nk(k:Int)(P:List PF):List PF:=if k=20 then To false 5 0 0 0 [] [] []::P else P
mutual
def ak.arr:ak->PF
 |.mk _ au k w id ix cs=>To au k w id ix cs (DA k (yO cs)) (Nk k (EO cs))
def EO:List ak->List PF
 |[]=>[]
 |f::fs=>f.arr::EO fs
end
theorem agx:∀a:List ak,EO a=a.map ak.arr
 |[]=>rfl
 |f::a=>by unfold EO;rw[agx a];rfl
theorem asl:Oo.arr=To false 5 0 0 0 [] [] []:=by
 grind[Oo,ak.arr,EO,yO,DA,Nk]
theorem amL(k:Int)(cs:cN):Nk k (EO cs)=(rC k cs).map ak.arr:=by
 grind[Nk,rC,agx,asl]
theorem ak.Yn:f.arr d↔To f.au f.k f.w f.id f.ix f.cs ((rC f.k f.cs).map ak.val) ((rC f.k f.cs).map ak.arr) d:=by
 obtain⟨n,au,k,w,id,ix,cs⟩:=f;unfold ak.arr;rw[amL,ab2];exact Iff.rfl
theorem ak.aiT(f:ak):f.val=oW f.k f.w f.ix ((rC f.k f.cs).map ak.val):=by
 obtain⟨n,au,k,w,id,ix,cs⟩:=f;unfold ak.val;rw[ab2];rfl
abbrev vL:=@ak.aiT
def aD.au:aD->Bool|.mk n _ _ _=>n
def aD.num:aD->Int|.mk _ x _ _=>x
def aD.text:aD->List UInt8|.mk _ _ t _=>t
def aD.items:aD->List aD|.mk _ _ _ l=>l
def wO(n:Bool)(x:Int)(t:dw)(s:Sl):List Value:=[.bool n,ah x,.string (bs t),Sl.v s]
def aD.row(v:aD)(s:Sl):List Value:=wO v.au v.num v.text s
theorem AG(v:aD)(s:Sl):∀x∈v.row s,one x=true:=by intro x a;simp[aD.row,wO]at a;rcases a with rfl|rfl|rfl|rfl <;> rfl
mutual
def aS(D:aR)(h:Hp)(s:Sl):List aD->Prop
 |[]=>s.n=0/\s.n<=s.c
 |v::vs=>s.n=vs.length+1/\s.n<=s.c/\∃a,s.a=some a/\D a.block/\VA D h a v/\iA D h a 1 vs
def iA(D:aR)(h:Hp)(a:Addr)(i:Nat):List aD->Prop
 |[]=>True
 |v::vs=>VA D h (a.add (i*4)) v/\iA D h a (i+1) vs
def VA(D:aR)(h:Hp)(a:Addr):aD->Prop
 |.mk n x t vs=>∃s,Cs h a (wO n x t s)/\aS D h s vs
end
theorem VA.row{h:Hp}(c:VA D h a v):∃s,Cs h a (v.row s)/\aS D h s v.items:=by
 obtain⟨n,x,t,vs⟩:=v;unfold VA at c;exact c
theorem VA.of{h:Hp}(c:Cs h a (v.row s))(w:aS D h s v.items):VA D h a v:=by
 obtain⟨n,x,t,vs⟩:=v;unfold VA;exact⟨s,c,w⟩
section
variable {D':aR} {h:Hp}
theorem VA.lt(g:VA D h a v):a.block<h.size:=by obtain⟨_,c,_⟩:=g.row;exact Cs.lt c
mutual
theorem aS.fr(f:Tn S h h')(hn:∀b,D b->b<h.size->¬S b)(hD:∀b,D b->D' b):∀{s:Sl}(vs:aQ),aS D h s vs->aS D' h' s vs
  |_,[],hh=>by unfold aS at hh ⊢;exact hh
  | _,v::vs,hh=>by
    unfold aS at hh⊢
    obtain⟨a,b,p,e,q,x,y⟩:=hh
    exact⟨a,b,p,e,hD _ q,VA.fr f hn hD (hn _ q x.lt) v x,iA.fr f hn hD (hn _ q x.lt) vs y⟩
theorem iA.fr(f:Tn S h h')(hn:∀b,D b->b<h.size->¬S b)(hD:∀b,D b->D' b):∀{a:Addr}(ha:¬S a.block){i:Nat}(vs:aQ),iA D h a i vs->iA D' h' a i vs
  |_,_,_,[],_=>by unfold iA;trivial
  | _,ha,i,v::vs,hh=>by
    unfold iA at hh⊢
    exact⟨VA.fr f hn hD (by rw[JJ];exact ha) v hh.1,iA.fr f hn hD ha vs hh.2⟩
theorem VA.fr(f:Tn S h h')(hn:∀b,D b->b<h.size->¬S b)(hD:∀b,D b->D' b):∀{a:Addr}(ha:¬S a.block)(v:aD),VA D h a v->VA D' h' a v
  | _,ha,.mk n x t vs,hh=>by
    unfold VA at hh⊢
    obtain⟨s,hc,h1⟩:=hh
    exact⟨s,hc.fr f ha,aS.fr f hn hD vs h1⟩
end
mutual
theorem aS.lt:∀{s:Sl}(vs:aQ),aS D h s vs->aS (λb=>D b/\b<h.size) h s vs
  |_,[],hh=>by unfold aS at hh ⊢;exact hh
  | _,v::vs,hh=>by
    unfold aS at hh⊢
    obtain⟨a,b,p,e,q,x,y⟩:=hh
    exact⟨a,b,p,e,⟨q,x.lt⟩,VA.lt' v x,iA.lt vs y⟩
theorem iA.lt:∀{a:Addr}{i:Nat}(vs:aQ),iA D h a i vs->iA (λb=>D b/\b<h.size) h a i vs
 |_,_,[],_=>by unfold iA;trivial
 |_,i,v::vs,hh=>by unfold iA at hh ⊢;exact⟨VA.lt' v hh.1,iA.lt vs hh.2⟩
theorem VA.lt':∀{a:Addr}(v:aD),VA D h a v->VA (λb=>D b/\b<h.size) h a v
  | _,.mk n x t vs,hh=>by
    unfold VA at hh⊢
    obtain⟨s,hc,h1⟩:=hh
    exact⟨s,hc,aS.lt vs h1⟩
end
theorem aS.gr{vs:aQ}(v:aS D h s vs)(g:aB h h'):aS D h' s vs:=aS.fr (bx g) (λ_ _ _=>id) (λ_ q=>q) vs v
abbrev eO:=@aS.gr
theorem aS.mo{vs:aQ}(v:aS D h s vs)(a:∀b,D b->D' b):aS D' h s vs:=aS.fr (iW _ _) (λ_ _ _=>id) a vs v
abbrev rY:=@aS.mo
theorem iA.get:∀{a:Addr}{vs:aQ}{i:Nat},iA D h a i vs->∀(j:Nat)v,vs[j]? =some v->VA D h (a.add ((i+j)*4)) v
  |_,[],_,_,_,_,b=>by simp at b
  |_,f::d,i,c,0,g,b=>by grind[iA]
  | _,f::d,i,c,j+1,g,b=>by
    unfold iA at c;have:=iA.get c.2 j g (by simpa using b)
    grind
theorem iA.of:∀{vs:aQ}{i:Nat},(∀j v,vs[j]? =some v->VA D h (a.add ((i+j)*4)) v)->iA D h a i vs
  |[],_,_=>by unfold iA;trivial
  | f::c,i,H=>by
    unfold iA;refine⟨H 0 f rfl,iA.of λj g b=>?_⟩;have:=H (j+1) g dH
    grind
theorem aS.n{vs:aQ}(z:aS D h s vs):s.n=vs.length/\s.n<=s.c:=by
 cases vs with
 |nil=>unfold aS at z;exact z
 |cons g a=>unfold aS at z;grind
theorem aS.all{vs:aQ}(c:aS D h s vs)(d:vs≠[]):∃a,s.a=some a/\D a.block/\∀(j:Nat)v,vs[j]? =some v->VA D h (a.add (j*4)) v:=by
  cases vs with
  |nil=>grind
  | cons g m=>
    unfold aS at c;obtain⟨_,_,a,i,f,l,k⟩:=c;refine⟨a,i,f,λj v b=>?_⟩;cases j with
    |zero=>simp_all[EH,add_zero']
    | succ j=>
      have:=k.get j v (by simpa using b)
      grind
theorem aS.of{vs:aQ}(q:s.n=vs.length)(z:s.n<=s.c)(B:vs≠[]->∃a,s.a=some a/\D a.block/\∀(j:Nat)v,vs[j]? =some v->VA D h (a.add (j*4)) v):aS D h s vs:=by
  cases vs with
  |nil=>unfold aS;simp[*]
  | cons g k=>
    obtain⟨a,i,f,b⟩:=B aC;unfold aS;refine⟨q,z,a,i,f,by simpa[add_zero']using b 0 g rfl,iA.of λj v d=>?_⟩
    have:=b (j+1) v dH
    grind
theorem aS.nil(h:Hp):aS D h Sl.nil []:=by unfold aS;exact⟨rfl,cr _⟩
abbrev oz:=@aS.nil
theorem aS.ix{vs:aQ}(g:aS D h s vs){x:Int}{i:Nat}(B:x=(i:Int)){v:aD}(z:vs[i]? =some v){K:Addr->Prop}(C:∀a t,Cs h a (v.row t)->aS D h t v.items->K a):Ix s.a s.n 4 x K:=by
 have b:i<vs.length:=bZ;obtain⟨a,f,_,d⟩:=g.all bZ
 obtain⟨p,c,w⟩:=(d i v z).row;have j:=g.n;subst B;rw[f];exact⟨ag,ag,by rw[gj];exact C _ _ c w⟩
theorem aS.acD{b:Nat}{vs:aQ}{ss:List Sl}(o:lX 4 h s b (List.zipWith aD.row vs ss) el)(hl:ss.length=vs.length)(g:D b)
  (f:∀(j:Nat)(v:aD)(t:Sl),vs[j]? =some v->ss[j]? =some t->aS D h t v.items):aS D h s vs:=by
 have e:=o.n;rw[qn,hl,JD]at e;refine aS.of e o.cap λ_=>⟨_,o.a,g,λj v d=>?_⟩;have i:=(dy.1 d).1;have c:ss[j]? =some ss[j]:=aC;rw[bz,bX];exact VA.of (o.cs bZ) (f j v _ d c)
theorem aS.snoc{n:Nat}{vs:aQ}{ss:List Sl}(o:fO n 4 h s (List.zipWith aD.row vs ss) el)(hl:ss.length=vs.length)(f:∀b,n<=b->D b)
    (a:∀(j:Nat)(v:aD)(t:Sl),vs[j]? =some v->ss[j]? =some t->aS D h t v.items):aS D h s vs:=by
  rcases o.cases with⟨rfl,e⟩|⟨b,c,o⟩
  · have:vs=[]:=by
      cases vs with
      |nil=>rfl
      |cons d ds=>simp_all
    subst this;exact oz h
  ·exact aS.acD o hl (f b c) a
end
mutual
def ak.dep:ak->Nat
 |.mk _ _ _ _ _ _ cs=>XO cs+1
def XO:List ak->Nat
 |[]=>0
 |f::fs=>max f.dep (XO fs)
end
theorem amU{cs:cN}{d:Nat}:∀{n:Nat}{a:List Int},gC n a (lM d B cs)->∀f∈cs,∃(n:Nat)(a:List Int),gC n a (f.places d [] B):=by
  induction cs with
  |nil=>simp
  | cons g e c=>
    intro n a h f b;simp only[lM,G9]at h;grind
theorem XD{α:Type}{l:List α}{x y:α}(h:l[j]? =some x):l.getD j y=x:=by simp[h]
theorem ak.arr.Dm(h:f.arr d):tj f.au f.k f.w f.id f.ix f.cs d:=(ak.Yn.1 h).o
def xw(k:Int):Value:=if k=12\/k=13 then .iface agM (.agg #[])else if k=15\/k=16 then .iface agL (.agg #[])else if k=17 then .iface agK (.agg #[])else if k=18 then .iface agJ (.agg #[])else if k=19 then .iface agI (.agg #[])else if k=20 then .iface agH (.agg #[])else .iface JN (.agg #[])
theorem ar1{h:Hp}{K:de}{r:PK}(u:K (xw k) h):Mp k h K r:=by
 have fin:∀v:Value,v=xw k->K v h:=λv e=>e▸u;unfold xw at fin;have j2:∀b:Bool,(b=true↔(k=15\/k=16))->¬(k=12\/k=13)->F7 K r k b h:=by
  intro b i g;refine F7.of (aK (λc=>fin _ ?_) λc=>?_)
  ·rw[aE g,aI (i.1 c)]
  have t:¬(k=15\/k=16):=λq=>by rw[i.2 q]at c;cases c
  refine aK (λa=>fin _ ?_) λa=>aK (λj=>fin _ ?_) λj=>aK (λl=>fin _ ?_) λl=>aK (λm=>fin _ ?_) λm=>fin _ ?_
  all_goals simp only[sm,reduceCtorEq]at*
  all_goals rw[aE g,aE t]
  ·rw[aI a]
  ·rw[aE a,aI j]
  ·rw[aE a,aE j,aI l]
  ·simp_all
  ·simp_all
 have j1:∀b:Bool,(b=true↔(k=12\/k=13))->F8 K r k b h:=by
  intro b i;refine F8.of (aK (λc=>fin _ ?_) λc=>?_)
  ·rw[aI (i.1 c)]
  have g:¬(k=12\/k=13):=λq=>by rw[i.2 q]at c;cases c
  refine aK (λa=>j2 _ ?_ g) λa=>j2 _ ?_ g
  all_goals simp only[sm,reduceCtorEq]at*
  all_goals omega
 grind[Mp.of,aK,sm]
abbrev avp(f:ak)(s:Sl)(d:bH)(q:Sl×Sl×Sl)(o n:Int):Array Value:=#[.string f.name,.bool f.au,ah f.k,ah f.w,ah f.id,ah f.ix,Sl.v s,ah d.len,ah d.off,ah d.au,Sl.v q.1,Sl.v q.2.1,Sl.v q.2.2,ah o,ah n,.pointer none,xw f.k]
structure nC(D:aR)(h:Hp)(b:Nat)(f:ak)(d:bH)(o n:Int)(s:Sl)(q:Sl×Sl×Sl):Prop where
 k:aO h b (avp f s d q o n) agP
 fs:ck D h s f.cs
 dv:eD D D h q d
section
variable {D':aR} {h:Hp} {b:Nat} {o n:Int}
theorem nC.fr(A:nC D h b f d o n s q)(t:Tn S h h')(G:¬S b)(z:∀x,D x->¬S x)(B:∀x,D x->D' x):nC D' h' b f d o n s q:=
 ⟨t.bq A.k G,ck.fr t z B _ A.fs,A.dv.fr t (λx a _=>z x a) (λx a _=>z x a) B B⟩
theorem nC.gr(A:nC D h b f d o n s q)(g:aB h h'):nC D h' b f d o n s q:=A.fr (bx g) (λx=>x) (λ_ _ x=>x) λ_ x=>x
theorem nC.lt(A:nC D h b f d o n s q):nC (λx=>D x/\x<h.size) h b f d o n s q:=⟨A.k,ck.lt _ A.fs,A.dv.lt⟩
theorem iy.get:∀{a:Addr}{l:cN}{i:Nat},iy D h a i l->∀(j:Nat)f,l[j]? =some f->jt D h (a.add ((i+j)*7)) f
  |_,[],_,_,_,_,c=>by simp at c
  |_,f::l,i,k,0,g,c=>by grind[iy]
  | _,f::l,i,k,j+1,g,c=>by
    unfold iy at k;have:=iy.get k.2 j g (by simpa using c)
    grind
theorem jt.row(c:jt D h a f):∃u,Cs h a (f.row u)/\ck D h u f.cs:=by cases f;unfold jt at c;exact c
theorem ck.ix(B:ck D h s fs){x:Int}{i:Nat}(C:x=(i:Int)){g:ak}(z:fs[i]? =some g){K:Addr->Prop}(E:∀a u,Cs h a (g.row u)->ck D h u g.cs->K a):Ix s.a s.n 7 x K:=by
  have r:=B.n;have t:i<fs.length:=bZ;cases fs with
  |nil=>simp at z
  | cons f fs=>
    unfold ck at B;obtain⟨_,_,a,k,_,m,l⟩:=B;have:jt D h (a.add (i*7)) g:=by
      cases i with
      |zero=>simp_all[EH,add_zero']
      | succ j=>
        have:=l.get j g (by simpa using z)
        grind
    obtain⟨u,c,v⟩:=this.row;subst C;rw[k];exact⟨ag,ag,by rw[gj];exact E _ _ c v⟩
theorem anp{K:Option Addr->HP}(hs:ck D h s f.cs)(v:eD D D h q d)(hk:∀b' h',aB h h'->h.size<=b'->nC D h' b' f d d.off d.len s q->K (bD b') h'):
  KS f.name f.au f.k f.w f.id f.ix s d.len d.off d.au q.1 q.2.1 q.2.2 none h K Kp:=by
 refine KS.of (aJ λb3 h1 e1 g1 k3 _=>aJ λb4 h2 e2 g2 k4 _=>?_);simp only[bz];have G:=aq g1 g2;have k3:=k3.ai g2;refine dM k3 (fB k4 (aj k4 rfl (aj k4 rfl (aj k3 rfl (ar1 (Ri (Ri (Ri (Ri ?_)))))))));have na:∀{X:Prop},X->NA (xw f.k) X:=λ{X}hX=>by unfold xw;(repeat' split) <;> exact⟨rfl,hX⟩
 exact na (aJ λb5 h3 e3 g3 k5 _=>hk _ _ (aq G g3) ag ⟨k5,hs.gr (aq G g3),v.gr (aq G g3)⟩)
end
section
variable {h:Hp}
end
section
variable {h:Hp} {l:dw}
theorem eL.gr{vs:bg}(v:eL D h u vs)(g:aB h H):eL D H u vs:=v.fr (bx g) (λ_ _ _=>id) λ_ q=>q
theorem anJ{K:Sl->Int->Option Addr->HP}(v:eL D h u (bv l))(B:∀t i,aB h i->eL D i t (bv l)->K t 0 none i):Ma u h K Kp:=by
 have tn:=v.1.1;rw[fH]at tn;refine Ma.of (aJ λb2 E e1 r c _=>ag1 (v.1.ai r) (a:=0) rfl rfl rfl (eH _) (by rw[fH];omega) (cr _) v.1.2.1 λt _ _ C k=>sr.b c rfl λF p c=>rZ c (B _ _ (bK r p ag) ?_))
 rw[af3,YM,pK ag]at k;have w:eL (λx=>x<h.size/\D x) E t (bv l):=⟨k,λA a j=>by
  obtain⟨y,z,e⟩:=C a j;have:=v.lt.2 A y z;simp[*]⟩
 exact w.fr p.fr (λx g _ e=>ag) λx g=>g.2
theorem aiL{o:Int}{w m:Option Addr}{K:Sl->Int->Option Addr->HP}(v:eL D h u (bv l))(p:∀g,aB h g->eL D g u (bv l)->K u o w g):L9 u o m w h K Kp:=by
 refine L9.of (aJ λb2 A e1 i a _=>aJ λC z B k e _=>?_);simp only[bz];have G:=aq i k;exact dN (a.ai k) aC rfl λy c a=>rZ a (sr.b (c.bq e ag) rfl λx j e=>rZ e (p _ (bK (bK G c ag) j ag) (v.gr (bK (bK G c ag) j ag))))
theorem TX{o n:Int}{w:Option Addr}{K:fD}(hl:u.n<=2^40)(j:0<=x)(g:0<=n)(t:x+n<=u.n)(e:∀c,aB h c->K true c):C5 u o w x n h K Kp:=by
 refine C5.of (aJ λv r e1 i a _=>bQ (by simpa using j) (KH.of (by
  have p:decide (n>=0)=true:=by simpa using g
  rw[p];refine bQ rfl (aj a rfl ?_);have m:decide (x<=(u.n:Int))=true:=by rw[dP];omega
  rw[m];refine KG.of (bQ rfl (aj a rfl (aY ag ag ?_)));have k:decide (n<=(u.n:Int)-x)=true:=by rw[dP];omega
  rw[k];exact e _ i)))
theorem UB{o n:Int}{a:Nat}{K:Sl->HP}(v:Sv h u (bv l))(hl:l.length<=2^40)(j:x=a)(k:n=m)(r:a+m<=l.length)(p:∀t c,aB h c->Sv c t (bv ((l.drop a).take m))->K t c):C4 u o none x n h K Kp:=by
 subst j k;have un:=v.1;rw[fH]at un;refine C4.of (aJ λy w e1 i g _=>?_);simp only[bz];refine aj g rfl (bu rfl (KE.of (bu rfl (aj g rfl (aY ag ag (aY ag ag (ag1 (v.ai i) (a:=a) (m:=a+m) aC aC aC ag (by rw[fH];omega) (cr _) (by have:=v.2.1;omega) λt _ _ _ e=>p _ _ i ?_)))))))
 grind[af3]
theorem afX{o:Int}{b:UInt8}{K:Int->Int->HP}(v:Sv h u (bv l))(hl:l.length<=2^40)(p:x=i)(e:l[i]? =some b)(r:∀g,aB h g->K b.toNat 0 g):GS u o none x h K Kp:=by
 have y:=(dy.1 e).1;have un:=v.1;rw[fH]at un;refine GS.of (aJ λC B e1 j c _=>rZ c (TX ag ag ag ag λA a=>bu rfl (rZ (c.ai a) (UB (v.ai (aq j a)) hl p (m:=1) rfl ag λt z w k=>Zv k rfl ?_ (r _ (aq (aq j a) w))))));grind
theorem aiD{K:fD}(c:m=1\/m=2\/m=4\/m=8)(a:K true h):Aw (m:Int) h K Kp:=by
 rcases c with rfl|rfl|rfl|rfl
 ·exact Aw.of (bQ rfl (Aj.of (bQ rfl (Ai.of (bQ rfl a)))))
 ·exact Aw.of (bu rfl (Aj.of (bQ rfl (Ai.of (bQ rfl a)))))
 ·exact Aw.of (bu rfl (Aj.of (bu rfl (Ai.of (bQ rfl a)))))
 ·exact Aw.of (bu rfl (Aj.of (bu rfl (Ai.of (bu rfl a)))))
theorem anN{K:cL}(v:Sv h u (bv l))(hl:l.length<=8)(y:K (jD l) h):LY u h K Kp:=by
 have un:=v.1;rw[fH]at un;apply LY.of;rw[un];apply QV.bC (λr p z=>z=h/\∃i:Nat,p=i/\i<=l.length/\r=jD (l.take i)) (λ_ p _=>l.length-p.toNat) ⟨rfl,0,rfl,by omega,by simp[jD]⟩
 rintro r p B ⟨rfl,i,rfl,A,rfl⟩ C hN;refine cE (λc=>?_) λc=>?_
 ·have g:i<l.length:=ag;have j:=bL g;have e:=kP g;generalize l[i]=b at j e;have m:=b.toNat_lt;have a:=WH (l.take i);have t:(l.take i).length=i:=by simp;omega
  rw[t]at a;rw[<-un];refine Zv v rfl j (pO rfl (mQ m bh) ?_);rw[show(8:Int)*(i:Int)=((8*i:Nat):Int) by omega]
  have x:b.toNat*2^(8*i)<2^64:=by
   have w:b.toNat*2^(8*i)<2^8*2^(8*i):=Nat.mul_lt_mul_of_pos_right m (Nat.two_pow_pos _);rw[<-JB]at w;exact mQ w (EG bh ag)
  refine aY ag ag (yX ?_ a x (mQ a (EG bh ag)) ?_)
  ·have:IntKind.bits .u64=64:=rfl;rw[this,gj];omega
  ·rw[un];refine aY ag ag (hN _ _ _ ⟨rfl,i+1,by simp,by omega,?_⟩ ag)
   rw[e,ada,t]
 ·have:i=l.length:=ag;simp_all
theorem ac4{o:Int}{a:Nat}{K:Int->Int->HP}(v:Sv h u (bv l))(hl:l.length<=2^40)(r:m=1\/m=2\/m=4\/m=8)(p:x=a)(k:y=m)(z:a+m<=l.length)(w:∀g,aB h g->K (pg l a m) 0 g):Ay u o none x y h K Kp:=by
 subst k;have un:=v.1;rw[fH]at un;refine Ay.of (aJ λF E e1 i e _=>aiD r (bu rfl (rZ e (TX ag ag ag ag λC c=>bu rfl (rZ (e.ai c) (UB (v.ai (aq i c)) hl p rfl z λt B A j=>anN j cy (w _ (aq (aq i c) A))))))))
theorem alb{x:Nat}(hm:m=1\/m=2\/m=4\/m=8)(hx:x<2^(8*m)):Int.fdiv (IntKind.i64.wrap (IntKind.u64.wrap ((x:Int)*2^(64-8*m)))) (2^(64-8*m))=sg m x:=by
 have ax:∀y:Int,Int.fdiv y (2^(64-8*m))=y/2^(64-8*m):=bZ;rw[ax];unfold sg;rcases hm with rfl|rfl|rfl|rfl
 all_goals simp only[IntKind.wrap,IntKind.signed,IntKind.bits]
 all_goals grind
theorem ala{o:Int}{a:Nat}{K:Int->Int->HP}(v:Sv h u (bv l))(hl:l.length<=2^40)(hm:m=1\/m=2\/m=4\/m=8)(hx:x=a)(hy:y=m)(h3:a+m<=l.length)(hk:∀h',aB h h'->K (sg m (pg l a m)) 0 h'):Mm u o none x y h K Kp:=by
 have fR:=acO l a m;refine Mm.of (aJ λb3 h1 e1 g1 k3 _=>rZ k3 (ac4 (v.ai g1) hl hm hx hy h3 λh2 g2=>bu rfl ?_));subst hy;have e1:(64:Int)-8*(m:Int)=((64-8*m:Nat):Int):=ag;have e2:min (Int.toNat ((64-8*m:Nat):Int)) 64=64-8*m:=by rw[gj];omega
 refine aY ag ag (aY ag ag ?_);rw[e1];apply js ag;unfold Wr;apply js ag;unfold Lt;have e3:IntKind.bits .u64=64:=rfl;have e4:IntKind.bits .i64=64:=rfl;grind[alb,aB.trans]
theorem ajE{o n:Int}{a:Nat}{K:ByteArray->Int->HP}(v:Sv h u (bv l))(hl:l.length<=2^40)(k:x=a)(p:n=m)(w:a+m<=l.length)(r:∀i,aB h i->K (bs ((l.drop a).take m)) 0 i):LI u o none x n h K Kp:=by
 have un:=v.1;rw[fH]at un;refine LI.of (aJ λC B e1 j g _=>rZ g (TX ag ag ag ag λA c=>bu rfl (rZ (g.ai c) (UB (v.ai (aq j c)) hl k p w λt z y e=>⟨(l.drop a).take m,?_,r _ (aq (aq j c) y)⟩))));have:=e.AU e.na;rw[zS]at this;exact this
end
section
variable {h:Hp} {b:Nat} {o n:Int}
theorem O0{K:Sl->Int->Option Addr->HP}(A:nC D h b f d o n s q)(c:x=j)(E:j<d.aZ.length)(C:∀u p,aB h p->eL D p u (bv (dG d.aZ j))->K u 0 none p):wK (bD b) x h K Kp:=by
 refine wK.of (aJ λM L e1 w i _=>?_);simp only[n9,bz];have g:=A.lt.gr w;refine aj g.k rfl (g.dv.b.ix c E λa t F y=>⟨_,F,aj g.k rfl (anJ y λG J m B=>bR g.k m (aiL B λI v z=>sr.b ((i.ai m).ai v) rfl λH r i=>rZ i (C _ _ (bK (aq w (aq m v)) r ag) (z.fr r.fr (λx c _ e=>ag) λx c=>c.1))))⟩)
theorem acK{r:Int}{K:fD}(A:nC D h b f d o n s q)(hr:r=i)(h1:mJ f.k=true->1<=d.aZ.length)(hl:(dG d.aZ 0).length<=2^40)(hi:(dG d.aZ 0).length≠0->i/8<(dG d.aZ 0).length)(h40:i<=2^40)
  (hk:∀h',aB h h'->K (jB f.k d.aZ i) h'):Gd (bD b) r h K Kp:=by
 subst hr;apply Gd.of;simp only[n9,bz];refine aj A.k rfl (aK (λc1=>?_) λc1=>aj A.k rfl (ad1 ?_))
 ·have:=hk _ (cW _);simp_all[jB,Bool.true_or]
 refine aK (λc2=>?_) λc2=>?_
 ·rw[qR]at c2;have:=hk _ (cW _);unfold jB at this;rw[c1,c2,EB,Pv]at this;exact this
 rw[YU]at c2;have hb:=h1 c2;refine aj A.k rfl (A.dv.b.ix rfl hb λa t ca vt=>⟨_,ca,?_⟩);have tn:=vt.1.1;rw[fH]at tn;refine aK (λc3=>?_) λc3=>Rl.of (O0 A rfl hb λu h1 g1 v1=>?_)
 ·have c3:=aU c3;simp_all[ag,cW,jB]
 ·have c3:=aU c3;have Bf:(dG d.aZ 0).length≠0:=ag;have fR:=hi Bf;have e1:Int.tdiv (i:Int) 8=((i/8:Nat):Int):=rfl;have e2:Int.tmod (i:Int) 8=((i%8:Nat):Int):=rfl;have IP:=bL fR;have hg:(dG d.aZ 0).getD (i/8) 0=(dG d.aZ 0)[i/8]:=by simp[fR]
  have hnl:jB f.k d.aZ i=!gG (dG d.aZ 0) i:=by
   unfold jB;rw[c1,c2];have:((dG d.aZ 0).length !=0)=true:=by rw[yo];exact Bf
   rw[this];rfl
  rw[hnl]at hk;unfold gG at hk;rw[hg]at hk;generalize(dG d.aZ 0)[i/8]=y at IP hk;refine oT bh (aY (by rw[e1];omega) (by rw[e1];omega) (afX v1.1 hl e1 IP λh2 g2=>oT bh ?_))
  unfold Lt;rw[e2];apply js ag;have e3:Int.fdiv (y.toNat:Int) (2^(min (Int.toNat ((i%8:Nat):Int)) (IntKind.bits .u8)))=((y.toNat/2^(i%8):Nat):Int):=by
   have:min (Int.toNat ((i%8:Nat):Int)) (IntKind.bits .u8)=i%8:=by
    have:IntKind.bits .u8=8:=rfl;rw[this,gj];omega
   rw[this,EE _ (Jz (ED bh))]
   norm_cast
  rw[e3]
  show K (gu .and .u8 ((y.toNat/2^(i%8):Nat):Int) 1==0) h2
  rw[Yr];have:((((y.toNat/2^(i%8))%2:Nat):Int)==0)=!(y.toNat/2^(i%8)%2==1):=by
   rw[j0];simp only[nU,qR,PB,ne_eq];omega
  grind[aB.trans]
theorem anM{r:Int}{K:cL}(A:nC D h b f d o n s q)(hk3:3<=k/\k<=11)(hr:r=i)(hb:1<d.aZ.length)(hl:(dG d.aZ 1).length<=2^40)(hi:(i+1)*(dJ k).toNat<=(dG d.aZ 1).length)(hk:∀h',aB h h'->K (zf k (dG d.aZ 1) i) h'):LH (bD b) k r h K Kp:=by
 subst hr;have wk:(dJ k).toNat=1\/(dJ k).toNat=2\/(dJ k).toNat=4\/(dJ k).toNat=8:=by unfold dJ;repeat' omega
 have wi:dJ k=((dJ k).toNat:Int):=ag;have e0:(i+1)*(dJ k).toNat=i*(dJ k).toNat+(dJ k).toNat:=by rw[JG,Nat.one_mul]
 have e1:(i:Int)*dJ k=((i*(dJ k).toNat:Nat):Int):=by rw[wi];simp
 have lt:=acO (dG d.aZ 1) (i*(dJ k).toNat) (dJ k).toNat;have l64:pg (dG d.aZ 1) (i*(dJ k).toNat) (dJ k).toNat<2^64:=mQ lt (EG bh ag);have uns:¬(3<=k/\k<=6)->wK (bD b) 1 h (λt0 t1 t2 h2=>aP ((i:Int)*dJ k) λt36=>Ay t0 t1 t2 t36 (dJ k) h2 (λaj9 axf h3=>Wr .i64 aj9 λt42=>K t42 h3) Kp) Kp:=λno=>
  O0 A (j:=1) rfl hb λu h1 g1 v1=>aY ag ag (ac4 v1.1 hl wk e1 wi ag λh2 g2=>by
   have:=hk _ (aq g1 g2);unfold zf at this;rw[aE no]at this;unfold Wr;have e:IntKind.i64.wrap (pg (dG d.aZ 1) (i*(dJ k).toNat) (dJ k).toNat:Int)=sg 8 (pg (dG d.aZ 1) (i*(dJ k).toNat) (dJ k).toNat):=by
    unfold sg;rw[IntKind.wrap_i64];omega
   rw[e];exact this)
 refine LH.of (avk ag (bQ dH (aK (λc=>?_) λc=>uns ?_)))
 ·have c:=aU c;refine O0 A (j:=1) rfl hb λu h1 g1 v1=>aY ag ag (ala v1.1 hl wk e1 wi ag λh2 g2=>?_);have:=hk _ (aq g1 g2);unfold zf at this;rw[aI ⟨hk3.1,c⟩]at this;exact this
 ·have c:=aU c;omega
end
abbrev Lc(h:Hp)(bl:Nat)(L:Int):Prop:=aO h bl #[ah L] Y6
theorem TH{h:Hp}{bl:Nat}{n:Int}{K:HP}(k:Lc h bl x)(t:0<=n)(p:n<=x)(r:x<=2^40)(g:∀c,eJ bl h c->Lc c bl (x-n)->K c):C3 (bD bl) n h K Kp:=by
 apply C3.of;simp only[n9];refine aj k rfl (aY ag ag (dN k aC rfl λp e a=>aj a rfl (bu ?_ (g _ e a))));rw[yp];omega
theorem jz.fr{h:Hp}(t:jz h)(f:Tn S h h')(B:¬S 0)(z:¬S 1):jz h':=
 ⟨λi c=>f.cell (t.f i c) B,λi c=>⟨f.cell (t.a i c).1 z,f.cell (t.a i c).2 z⟩⟩
abbrev KV:=Bool->Int->ByteArray->Sl->HP
def VK(h:Hp)(bl:Nat)(L:Int)(v:aD)(K:KV):Prop:=∀t h',Tn (·=bl) h h'->Lc h' bl (L-v.bw)->aS (Nw h) h' t v.items->K v.au v.num (bs v.text) t h'
theorem VK.fin{h:Hp}{bl:Nat}{K:KV}{cs:Array Value}(H:VK h0 bl y v K)(t:Tn (·=bl) h0 h)(C:Lc h bl (y-v.bw))(g:aO h m cs el)(G:cs.size=4)(J:h0.size<=m)(I:bl<h0.size)(w:aS (λc=>h0.size<=c/\c≠m) h u v.items):
  dK h (aF m) v.au v.num (bs v.text) u λj=>bN j (aF m) λr0 B A z=>K r0 B A z j:=
 mj g G λj a g=>eW g (H _ _ (t.trans' a.fr λd l k=>ag) (a.bq C ag) (aS.fr a.fr (λx i _ e=>i.2 e) (λx i=>i.1) _ w))
section
variable {h:Hp} {b:Nat} {o n:Int}
end
structure Vc(D:aR)(h:Hp)(b bl:Nat)(f:ak)(d:bH)(o n:Int)(s:Sl)(q:Sl×Sl×Sl)(L:Int)(i:Nat):Prop where
 A:nC D h b f d o n s q
 bn:b≠bl
 dn:¬D bl
 ar:f.arr d
 lo:d.off.toNat<=i
 hi:i<d.off.toNat+d.len.toNat
 kl:Lc h bl L
 wl:((f.val d i).bw:Int)<=L
 lm:L<=2^40
 tb:jz h
 b2:1<bl
theorem MG(f:ak)(d:bH)(i:Nat):f.val d i=oW f.k f.w f.ix ((rC f.k f.cs).map ak.val) d i:=by rw[vL]
theorem MM(l:dw):tx (bs l)=l:=rfl
section
variable {h:Hp} {b bl:Nat} {o n r L:Int} {K:KV}
theorem Vc.gr(V:Vc D h b bl f d o n s q L i)(g:aB h H):Vc D H b bl f d o n s q L i:=⟨V.A.gr g,V.bn,V.dn,V.ar,V.lo,V.hi,V.kl.ai g,V.wl,V.lm,V.tb.ai g,V.b2⟩
theorem Vc.bd(V:Vc D h b bl f d o n s q L i):0<=d.len/\d.len<=4096/\0<=d.off/\d.off<=4096/\i<=8192/\d.off+d.len<=4096/\0<=L:=by
 have a:=V.ar.Dm;have m:=a.l0;have k:=a.o0;have g:=V.hi;have e:=a.e1;have c:=V.wl;omega
theorem Vc.af(V:Vc D h b bl f d o n s q L i)(t:Tn (·=bl) h g):nC D g b f d o n s q:=V.A.fr t V.bn (λx a e=>V.dn (e▸a)) λ_ x=>x
def agS(f:ak):Prop:=∀{D:aR}{h:Hp}{b bl i:Nat}{d:bH}{o n r L:Int}{s:Sl}{q:Sl×Sl×Sl}{K:KV}{Kp:PK},Vc D h b bl f d o n s q L i->r=i->VK h bl L (f.val d i) K->Mb (bD b) r (bD bl) h K Kp
def Cf(f:ak):Prop:=∀{D:aR}{h:Hp}{b bl i:Nat}{d:bH}{o n x L:Int}{s:Sl}{q:Sl×Sl×Sl}{K:KV}{Kp:PK},Vc D h b bl f d o n s q L i->o+x=i->VK h bl L (f.val d i) K->Mo (bD b) x (bD bl) h K Kp
theorem ani(w:agS f):Cf f:=by
 intro D h b bl i d o n x L s q K Kp V p u;have bd:=V.bd;have g:=V.kl.lt;refine Mo.of (aJ λE v e1 a l _=>?_);simp only[n9,bz];refine aj (V.A.gr a).k rfl (aY ag ag (w (V.gr a) p λt C j e m=>?_));exact u.fin ((bx a).trans j) e (j.bq l ag) rfl ag g (m.mo λc(B:v.size<=c)=>⟨ag,ag⟩)
theorem arD(V:Vc D h b bl f d o n s q L i)(hr:r=i)(kk:f.k≠12/\f.k≠13/\f.k≠15/\f.k≠16/\f.k≠17/\f.k≠18/\f.k≠19/\f.k≠20)(DW:jB f.k d.aZ i=false)(hk:VK h bl L (f.val d i) K):LG (bD b) r (bD bl) h K Kp:=by
 subst hr;have bd:=V.bd;have V':=V;obtain⟨A,bn,dn,ar,lo,hi,kl,wl,lm,tb,b2⟩:=V';have so:=ar.Dm;have sh:=so.ty.kinds.1;unfold Shaped at sh;have nb:=so.nb;have Xh:f.k≠1:=by intro e;unfold jB at DW;rw[e]at DW;simp at DW
 have Bj:d.aZ.length=2:=by unfold kO at nb;(repeat' split at nb) <;> omega
 have n1:=so.Ib 1 ag;rw[jo,aA,aA]at n1;have ayF:=so.BK 1 ag;have bll:=kl.lt;have w16:16<=(f.val d i).bw:=by
  rcases hv:f.val d i with⟨a1,a2,a3,a4⟩
  simp only[aD.bw];omega
 refine LG.of (aJ λb4 h1 e1 g1 k4 _=>aJ λb8 h2 e2 g2 k8 _=>?_);simp only[n9,bz];have G:=aq g1 g2;have ct:Cs h2 ⟨b,2,none⟩ [ah f.k,ah f.w,ah f.id,ah f.ix,Sl.v s]:=by
  intro j v hv;rw[bz,gU (A.gr G).k];rcases j with _|_|_|_|_|j
  all_goals first|exact hv|(simp at hv)
 refine nh ct (aJ λb9 h3 e3 g3 k9 _=>pH k9 rfl λh4 o4 k9=>?_);have g4:=bK g3 o4 ag;have G4:=aq G g4;have k9l:=k9.lt;refine O0 (A.gr G4) (j:=1) rfl ag λu h5 g5 v5=>aJ λb10 h6 e6 g6 WT _=>sr.b WT rfl λh7 o7 WT=>?_;have g5s:=g5.1;have g7:=bK g6 o7 ag;have G7:=aq G4 (aq g5 g7);refine TH (kl.ai G7) ag ag lm λh8 o8 kl8=>?_;have T8:=(bx G7).trans o8.fr;have k8':=o8.bq (((k8.ai g4).ai g5).ai g7) ag;have NK:=o8.bq ((k9.ai g5).ai g7) (by omega:b9≠bl)
 have adA:=o8.bq WT (by omega:b10≠bl)
 have v8:=(v5.gr g7).fr o8.fr (λx hx _ e=>dn (e▸hx)) λ_ x=>x;have fin:∀(x:Int)h9,f.val d i=.mk false x [] []->aB h8 h9->dK h9 (aF b8) false x (bs []) bM λh'=>bN h' (aF b8) λr0 r1 r2 r3=>K r0 r1 r2 r3 h':=by
  intro x h9 hv g9;rw[hv]at hk;exact hk.fin (T8.trans (bx g9)) (kl8.ai g9) (k8'.ai g9) rfl ag bll (oz _)
 refine aj NK rfl (aK (λc=>rZ adA ?_) λc=>aK (λc2=>aj NK rfl ?_) λc2=>aj NK rfl ?_)
 ·have c:=aU c;rw[dU]at n1;have e1:Int.tdiv (i:Int) 8=((i/8:Nat):Int):=rfl;have e2:Int.tmod (i:Int) 8=((i%8:Nat):Int):=rfl;have fR:i/8<(dG d.aZ 1).length:=ag;have IP:=bL fR;have hg:(dG d.aZ 1).getD (i/8) 0=(dG d.aZ 1)[i/8]:=by simp[fR]
  have hv:f.val d i=.mk false (if gG (dG d.aZ 1) i then 1 else 0) [] []:=by
   rw[MG,oW,aE (by rw[DW];simp),aA,aA,aA,aA,aA,aA,aA,aI c]
  unfold gG at hv;rw[hg]at hv;generalize(dG d.aZ 1)[i/8]=y at IP hv;refine oT bh (aY (by rw[e1];omega) (by rw[e1];omega) (afX v8.1 ag e1 IP λh9 g9=>oT bh ?_))
  unfold Lt;rw[e2];apply js ag;have e3:Int.fdiv (y.toNat:Int) (2^(min (Int.toNat ((i%8:Nat):Int)) (IntKind.bits .u8)))=((y.toNat/2^(i%8):Nat):Int):=by
   have:min (Int.toNat ((i%8:Nat):Int)) (IntKind.bits .u8)=i%8:=by
    have:IntKind.bits .u8=8:=rfl;rw[this,gj];omega
   rw[this,EE _ (Jz (ED bh))]
   norm_cast
  rw[e3];dsimp only;rw[Yr];refine aY ag ag (fin _ h9 ?_ g9);rw[hv];have hx:(if(y.toNat/2^(i%8)%2==1)=true then(1:Int)else 0)=((y.toNat/2^(i%8)%2:Nat):Int):=by
   split
   ·rename_i e;simp only[nU]at e;omega
   ·rename_i e;simp only[nU]at e;omega
  rw[hx]
 ·simp only[sm,reduceCtorEq]at c c2;have hv:f.val d i=.mk false 0 (((dG d.aZ 1).drop (i*f.w.toNat)).take f.w.toNat) []:=by
   rw[MG,oW,aE (by rw[DW];simp),aA,aA,aA,aA,aA,aA,aA,aA,aI c2]
  have NL:mW f.k f.w f.ix=f.w:=by rw[mW,aI c2]
  rw[aA,aA,NL]at n1;have hrw:(i+1)*f.w.toNat<=(d.off+d.len).toNat*f.w.toNat:=pL _ ag;rw[JG,Nat.one_mul]at hrw;have e1:(i:Int)*f.w=((i*f.w.toNat:Nat):Int):=by rw[YO];congr 1;omega
  have ln:(((dG d.aZ 1).drop (i*f.w.toNat)).take f.w.toNat).length=f.w.toNat:=by simp;omega
  have hwg:(f.val d i).bw=16+f.w.toNat:=by rw[hv];simp only[aD.bw,bJ,ln];omega
  refine TH kl8 ag ag ag λh9 o9 kl9=>?_;have T9:=T8.trans o9.fr;have apu:=o9.bq k8' (by omega:b8≠bl)
  have adx:=o9.bq NK (by omega:b9≠bl)
  have apw:=o9.bq adA (by omega:b10≠bl)
  have v9:=v8.fr o9.fr (λx hx _ e=>dn (e▸hx)) λ_ x=>x;refine rZ apw (aj adx rfl (aY ag ag (aj adx rfl (ajE v9.1 ag e1 (m:=f.w.toNat) ag ag λxq g10=>?_))));have ads:Lc xq bl (L-((f.val d i).bw:Int)):=by
   have:=kl9.ai g10
   rwa [show L-16-f.w=L-((f.val d i).bw:Int) by omega]at this
  rw[hv]at hk ads;exact hk.fin (T9.trans (bx g10)) ads (apu.ai g10) rfl ag bll (oz _)
 ·simp only[sm,reduceCtorEq]at c c2;have hv:f.val d i=.mk false (zf f.k (dG d.aZ 1) i) [] []:=by
   rw[MG,oW,aE (by rw[DW];simp),aA,aA,aA,aA,aA,aA,aA,aE c,aE c2]
  have NL:mW f.k f.w f.ix=dJ f.k:=by rw[mW,aA,aA]
  rw[aA,aA,NL]at n1;have hrw:(i+1)*(dJ f.k).toNat<=(d.off+d.len).toNat*(dJ f.k).toNat:=pL _ ag;exact anM (V.af T8) ag rfl ag ag ag λh9 g9=>fin _ h9 hv g9
end
theorem mw{h:Hp}{b o n:Nat}{cs:Array Value}{X:Prop}(k:aO h b cs el)(a:aO g b cs el)(x:X):aT h g ⟨b,o,none⟩ n X:=
 ⟨λi _=>by rw[bz,gU a,gU k],x⟩
structure Ls(h6 h:Hp)(b9:Nat)(x:Sl)(vs:aQ):Prop where
 k9:aO h b9 #[.bool false,ah 0,.string (bs []),Sl.v x] di
 ss:∃ss:List Sl,ss.length=vs.length/\fO h6.size 4 h x (List.zipWith aD.row vs ss) di/\∀(j:Nat)(v:aD)(t:Sl),vs[j]? =some v->ss[j]? =some t->aS (λc=>h6.size<=c/\¬x.at c) h t v.items
theorem TD{vs:aQ}(j:Nat):bJ (vs.take j)=((vs.map aD.bw).take j).sum:=by rw[Hi,Jv]
section
variable {h:Hp} {b bl:Nat} {o n r L:Int} {K:KV}
end
section
variable {h:Hp} {b bl:Nat} {o n r L:Int} {K:KV}
abbrev KI(K:KV):Value->HP:=λv h'=>∃vg:Bool,∃u7:Int,∃uZ:ByteArray,∃Dx:Sl,v=(.agg #[(.bool vg),(ah u7),(.string uZ),(Sl.v Dx)])/\K vg u7 uZ Dx h'
abbrev CI(t:TypeId)(a:Option Addr)(r:Int)(left:Option Addr)(h:Hp)(K:KV)(Kp:PK):Prop:=fo aG (.iface t (.agg #[])) "colonnade/array.read" [.pointer a,ah r,.pointer left] h (KI K) Kp
theorem auG{e:TypeId}{gi:FuncId}{a left:Option Addr}{r:Int}{h:Hp}{K:de}(l:sI aG e "colonnade/array.read"=some (gi,false))(k:(Du aG e false&&jT aG gi)=true)
    (j:dW aG gi [(.agg #[]),(.pointer a),(ah r),(.pointer left)] h K Kp):fo aG (.iface e (.agg #[])) "colonnade/array.read" [.pointer a,ah r,.pointer left] h K Kp:=by
  unfold fo;grind
theorem aui{a left:Option Addr}{r:Int}{h:Hp}{K:KV}(c:LG a r left h K Kp):CI JN a r left h K Kp:=auG aX aX c
end
theorem anS{h:Hp}{b:Nat}{o n r:Int}{K:fD}(A:nC D h b f d o n s q)(w:f.arr d)(B:d.off.toNat<=i)(F:i<d.off.toNat+d.len.toNat)(p:r=i)(t:∀v,aB h v->K (jB f.k d.aZ i) v):Gd (bD b) r h K Kp:=by
 have a:=w.Dm;have C:=a.l1;have o0:=a.o0;have y:=a.o1;have u:=a.row.hv
 by_cases c:(dG d.aZ 0).length=0
 ·exact acK A p u ag (λe=>absurd c e) ag t
 ·have j:0<d.aZ.length:=by
   rcases YY d.aZ.length with z|z
   ·have:dG d.aZ 0=[]:=by unfold dG;rw[vR z];rfl
    grind
   ·exact z
  have l:=a.Ib 0 j;have x:=a.BK 0 j;refine acK A p u ag (λ_=>?_) ag t
  by_cases g:f.k=18
  ·rw[jo,aI g]at l;omega
  ·rw[jo,aE g,aA,aI (.inl rfl)]at l;omega
noncomputable def I5:Code:=Tryz.f71.body.getD .skip
noncomputable def OE:Code:=Tryz.f94.body.getD .skip
def zd(c:Code)(i:Nat):Oper:=(pe (sub [0] c)).getD i default
def X1(o:Oper):Call:=match o.op with|.call c=>c|.defer c=>c|_=>default
theorem awF{c0:Addr}{h:Hp}{K:Hp->Prop}(H:K h):∀w,aV w=h->oc aG 94 [cU c0] .returning w λu2 a=>u2=.returning/\cH w a/\K (aV a):=
 asM (bW:=[]) (D:=kT aG []) (zy _) (id:=0) (r1:=zd OE 0) (r2:=zd OE 1) (call:=X1 (zd OE 0)) (rest:=sub [1] OE) (tr:=5) (t2:=2)
  Tryz.func94 aX aX aX aX aX aX aX aX aX aX aX (.inl ⟨rfl,rfl,rfl⟩) aX (cast aX H)
def ack:v7:=[]
def z64:List Value:=[(.agg #[(.bool false),(ah 0),(.string (bs [])),(.slice none 0 0)]),(ah 0),(ah 0)]
def ado(K:Bool->Int->ByteArray->Sl->Int->Int->HP):Value->HP:=λv h=>rU v λvs=>rG (vs.getD 0 undef) λOD=>rB (OD.getD 0 undef) λvg=>rI (OD.getD 1 undef) λu7=>rT (OD.getD 2 undef) λuZ=>rS (OD.getD 3 undef) λDx=>rI (vs.getD 1 undef) λr1=>rI (vs.getD 2 undef) λr2=>K vg u7 uZ Dx r1 r2 h
def ag3(a:Option Addr)(i:Int)(a4 a6:Addr)(K:Bool->Int->ByteArray->Sl->Int->Int->HP)(h2:Hp):Prop:=
 aL h2 #[(ah 0)] Y6 λa7 h3=>
 St h3 a7 (ah 4194304) λh4=>
 Mo a i (some a7) h4 (λakh akg akf ake h5=>
  dK h5 a4 akh akg akf ake λh6=>
  bN h6 a4 λMS MR MQ MP=>
  Ld h6 a7 mI λt12=>
  aP ((4194304:Int)-t12) λt13=>
  dK h6 a4 MS MR MQ MP λh7=>
  aT h6 h7 a7 1 <|
  St h7 a6 (ah 0) λh8=>
  bN h8 a4 λvg u7 uZ Dx=>
  Ld h8 a6 mI λr2=>
  K vg u7 uZ Dx t13 r2 h8) (λ_ _=>False)
abbrev DX(ord:v7)(fn:Func)(c2:Code)(zs:bg)(Kv:de)(o:Operand)(fr:Fr)(h:Hp):Prop:=
 ∃(caps:bg)(KpX:PK),iF (ev fr) [o]=some caps/\fT aG [] (kT aG ord) none c2 (mF aG fn.results.toList zs Kv) KpX fr h/\
  (∀w,oc aG 94 caps .returning w λu' w'=>u'=.returning/\cH w w'/\aV w'=aV w)/\
  (∀ch w,KpX ch (aV w)->oc aG 94 caps (.panicking ch) w λu' w'=>settle u'=.returning/\cH w w'/\lD aG fn.results.toList (DS [] fr) (aV w') λvs=>nI zs (l9 vs) λv=>Kv v (aV w'))
theorem DX.of{z:v7}{fn:Func}{c2:Code}{zs:bg}{Kv:de}{o:Operand}{fr:Fr}{h:Hp}(h1:iF (ev fr) [o]=some [cU a])(B:fT aG [] (kT aG z) none c2 (mF aG fn.results.toList zs Kv) (λ_ _=>False) fr h):DX z fn c2 zs Kv o fr h:=
 ⟨_,λ_ _=>False,h1,B,λw=>awF (K:=λb=>b=aV w) rfl w rfl,λ_ _ q=>q.elim⟩
def arv(a:Option Addr)(i:Int)(a4 a6:Addr):Fr:=[some (.pointer a),some (ah i),none,none,some (cU a4),some (ah 0),some (cU a6),none,none,none,none,none,none,none]
theorem KQ.of{a:Option Addr}{i:Int}{h:Hp}{K:Bool->Int->ByteArray->Sl->Int->Int->HP}(H:aL h gl di λB h1=>aL h1 #[(ah 0)] PG λz I=>ag3 a i B z K I):KQ a i h K Kp:=by
 have:=arC (bW:=[]) (D:=kT aG ack) (zy _) (g:=94) (pre:=[sub [0] I5]) (c2:=sub [1,1] I5) (id:=1) (o:=zd (sub [1] I5) 0) (call:=X1 (zd (sub [1] I5) 0)) []
  (zs:=z64) (args:=[(.pointer a),(.int .i64 i)]) (h:=h) (Kv:=ado K) (Kp:=Kp) Tryz.func71 aX aX aX aX aX aX aX aX ?_
 ·exact cast aX this
 ·have X:∀B z h,ag3 a i B z K h->DX ack Tryz.f71 (sub [1,1] I5) z64 (ado K) (.tmp 6) (arv a i B z) h:=λB z h b=>DX.of (a:=z) aX (cast aX b);have Y:=X _ _ _ H;exact cast aX Y
structure Av(D:aR)(h:Hp)(b:Nat)(f:ak)(d:bH)(o n:Nat)(s:Sl)(q:Sl×Sl×Sl):Prop where
 A:nC D h b f d o n s q
 ar:f.arr d
 lo:d.off.toNat<=o
 hi:o+n<=d.off.toNat+d.len.toNat
def jY(f:ak)(d:bH)(o n:Nat):List aD:=(List.range n).map λi=>f.val d (o+i)
theorem Pc(f:ak)(d:bH)(o n:Nat):(jY f d o n).length=n:=by simp[jY]
theorem agk{o n:Nat}(h:i<n):(jY f d o n)[i]? =some (f.val d (o+i)):=by simp[jY,h]
theorem agl(a:f.arr d){o n:Nat}(c:d.off.toNat<=o)(g:o+n<=d.off.toNat+d.len.toNat):bJ (jY f d o n)<=4194304:=by
 have w:=(ak.Yn.1 a).wt;rw[<-vL]at w;have e:bJ (jY f d o n)=(((AE f.val d).drop (o-d.off.toNat)).take n).sum:=by
  rw[aiv ag,Hi,jY,Pn]
  congr 1
  refine BY λi _=>?_;simp only[Function.comp,nQ];rw[show d.off.toNat+(o-d.off.toNat+i)=o+i by omega]
 grind[Nat.le_trans,aaU]
section
variable {h:Hp} {b:Nat} {o n:Nat}
theorem Av.gr(V:Av D h b f d o n s q)(g:aB h H):Av D H b f d o n s q:=⟨V.A.gr g,V.ar,V.lo,V.hi⟩
theorem Av.bd(V:Av D h b f d o n s q):o+n<=4096:=by
 have a:=V.ar.Dm;have i:=a.l0;have g:=a.o0;have e:=a.e1;have c:=V.hi;omega
theorem Av.wt(V:Av D h b f d o n s q){i:Nat}(a:i<n):(f.val d (o+i)).bw<=4194304:=by
 have:=agl V.ar (o:=o+i) (n:=1) (by have:=V.lo;omega) (by have:=V.hi;omega)
 simpa[jY,bJ]using this
theorem jz.b2(t:jz h):1<h.size:=ae3 ((t.a 0 ag).1)
theorem Av.whole(A:nC D h b f d d.off d.len s q)(c:f.arr d):Av D h b f d d.off.toNat d.len.toNat s q:=by
 have a:=c.Dm;refine⟨?_,c,cr _,cr _⟩;rw[xZ a.l0,xZ a.o0];exact A
theorem Av.fr{D':aR}(V:Av D h b f d o n s q)(t:Tn S h h')(B:¬S b)(z:∀x,D x->¬S x)(G:∀x,D x->D' x):Av D' h' b f d o n s q:=⟨V.A.fr t B z G,V.ar,V.lo,V.hi⟩
theorem Av.lt(V:Av D h b f d o n s q):Av (λx=>D x/\x<h.size) h b f d o n s q:=⟨V.A.lt,V.ar,V.lo,V.hi⟩
theorem arj{K:Bool->Int->ByteArray->Sl->Int->Int->HP}(M:Cf f)(V:Av D h b f d o n s q)(F:jz h)(hx:x=i)(P:i<n)(O:∀t y,aB h y->aS (Nw h) y t (f.val d (o+i)).items->K (f.val d (o+i)).au (f.val d (o+i)).num (bs (f.val d (o+i)).text) t (f.val d (o+i)).bw 0 y):
  KQ (bD b) x h K Kp:=by
 have wt:=V.wt P;have ab:=V.A.k.lt;refine KQ.of (aJ λH h1 e1 G c _=>aJ λU S e2 C g _=>aJ λE h3 e3 T m _=>dN m aC rfl λa N m=>?_);have B:=bK T N ag;have u:=aq (aq G C) B;have c:=(c.ai C).ai B;have g:=g.ai B;have m:=m;refine M (i:=o+i) ⟨V.A.lt.gr u,ag,λe=>by have:=e.2;omega,V.ar,by have:=V.lo;omega,by have:=V.hi;omega,m,ag,ag,F.ai u,ag⟩ ag λt R v j L=>?_
 have W:=((bx u:Tn No h a).trans' v λz r a'=>ag).ai
 have X:=m.lt;refine mj (v.bq c (by omega:H≠E)) rfl λh6 l c=>eW c (aj (l.bq j ag) rfl (aY ag ag (mj c rfl λh7 p c=>mw (l.bq j ag) (p.bq (l.bq j ag) ag) ?_)))
 have g:=p.bq (l.bq (v.bq g (by omega:U≠E)) ag) ag
 refine dN g aC rfl λQ w g=>eW (w.bq c ag) (aj g rfl ?_);have e:(4194304:Int)-(4194304-((f.val d (o+i)).bw:Int))=((f.val d (o+i)).bw:Int):=ag;rw[e];apply O t Q (bK (bK (bK W l ag) p ag) w ag);have J:=aS.fr l.fr (λz(r:a.size<=z)_ e=>ag) (λ_ z=>z) _ L
 have I:=aS.fr p.fr (λz(r:a.size<=z)_ e=>ag) (λ_ z=>z) _ J
 exact aS.fr w.fr (λz(r:a.size<=z)_ e=>ag) (λz(r:a.size<=z)=>by have:=u.1;show h.size<=z;omega) _ I
end
def ZU{α:Type}(P:Program)(fv:Value)(xs:List α)(E:α->List Value->Hp->HP)(tq:Hp->Prop):Prop:=
 ∀(l:Nat)(J:List α->HP)(h:Hp),h.size=l+1->J [] h->(∀pre h1,J pre h1->tq h1)->(∀pre h1 h2,aB h1 h2->J pre h1->J pre h2)->
  (∀pre x gH hp h1 args,J pre hp->aB hp h1->E x args hp h1->xs=pre++x::gH->vV P l args h1 (λv h2=>v=.bool true/\J (pre++[x]) h2) qt)->
  tK P fv [.func (.yield l) #[] #[]] h (λ_ h2=>J xs h2) qt
theorem amA{P:Program}{bW:fP}{D:Nat->Array Oper->(Fr->HP)->PK->Fr->HP}(hD:∀r,uN P r D){g:Operand}{ps:Array Tmp}{assign body:Code}{Q:Qt}
  {Kp:PK} {fr:Fr} {h:Hp} {fv:Value} (uf:ev fr g=some fv) {α:Type} {xs:List α} {E:α->List Value->Hp->HP} {tq:Hp->Prop} (vu:ZU P fv xs E tq) (adY:∀x args hp h1,E x args hp h1->args.length=ps.size)
  (I:List α->HP) (h0:I [] h) (hG:∀pre h1 h2,aB h1 h2->I pre h1->I pre h2)
  (hI:∀l pre h1 h2,h.size<=l->Tw l h1 h2->I pre h1->I pre h2) (xp:∀pre h1,I pre h1->tq h1)
  (IN:∀l pre x gH hp h1 args,I pre hp->aB hp h1->E x args hp h1->xs=pre++x::gH->h.size<=l->(∃r,h1[l]? =some (.loop r))->∀(N:Hp->Prop)(X:Code->HP),(∀h' h2,Tw l h1 h'->h2[l]? =h'[l]?->I (pre++[x]) h2->N h2)->
   Uz P bW D l (bW.find (iE assign+4000) fr) ps assign body args N X h1)
  (done:∀h2,I xs h2->Q .normal (bW.find (iE assign+4000) fr) h2):fT P bW D none (.rangeFunc g ps assign body) Q Kp fr h:=by
 simp only[fT,uf];intro fn tm xo;simp only[Ei];have pn:h.size<=(h.push (.deferred none)).size:=aC
 have Bg:aB h (h.push (.deferred none)):=rW _ _;have key:∀(hh:Hp)(d:Nat),aB h hh->tK P fv [.func (.yield hh.size) #[] #[]] (hh.push (.loop {state:=.ready,pending:=none,fn,tmps:=tm,params:=ps,assign,body,defers:=d}))
   (λ_ h'=>zw hh.size h' λjump qk=>match jump with
    |none=>Q .normal (bW.find (iE assign+4000) fr) qk
    |some .ret=>Q .ret (bW.find (iE assign+4000) fr) qk
    |some (.exit id)=>Q (.exit id) (bW.find (iE assign+4000) fr) qk
    |_=>False) Kp:=by
  intro hh d Bg;have pn:=Bg.1;have Xd:(hh.push (.loop {state:=.ready,pending:=none,fn,tmps:=tm,params:=ps,assign,body,defers:=d}))[hh.size]? =some (.loop {state:=.ready,pending:=none,fn,tmps:=tm,params:=ps,assign,body,defers:=d}):=UL rfl
  let ak:Loop->Prop:=λr=>r.tmps=tm/\r.params=ps/\r.assign=assign/\r.body=body
  refine ahs (vu hh.size (λpre h1=>I pre h1/\∃r,h1[hh.size]? =some (.loop r)/\r.state=.ready/\r.pending=none/\ak r) _
   aC ⟨hG _ _ _ (aq Bg (rW _ _)) h0,_,Xd,rfl,rfl,rfl,rfl,rfl,rfl⟩ (λpre h1 hj=>xp pre h1 hj.1) ?_ ?_) ?_ (λ_ _ hp=>hp.elim)
  ·grind[IS]
  ·rintro pre x gH hp h1 args ⟨hi,r,ID,rH,Be,f1,f2,f3,f4⟩ hg hE zj;have hr:=IS hg ID;have hb:=IN hh.size pre x gH hp h1 args hi hg hE zj pn ⟨r,hr⟩
    (λh2=>I (pre++[x]) h2/\∃r2,h2[hh.size]? =some (.loop r2)/\ak r2) (λ_ _=>False) ?_
   ·refine agA hD hr rH (by rw[f2];exact adY x args hp h1 hE) (by rw[f1];exact xo) (by rw[f2,f3,f4];exact hb) ?_ ?_
    all_goals grind[AK,Array.getElem?_eq_some_iff]
   ·rintro h' h2 ⟨_,_,r',st',pd',IC,W3⟩ heq Xj;rw[hr]at IC;cases IC;exact⟨Xj,_,heq.trans W3,f1,f2,f3,f4⟩
  ·rintro v h2 ⟨hi,r,hr,rH,Be,_⟩;simp only[zw,hr,rH,Be];grind[AK]
 exact key _ _ Bg
theorem avU{p:Addr}{V:Value}{K:Sl->HP}{h:Hp}{α:Type}{u:List α}(E:α->Int->Bool->Int->ByteArray->Sl->Hp->HP){q:Hp->Prop}(x:ZU aG V u (λy d m b=>∃k j i f e,d=[(ah k),(.agg #[(.bool j),(ah i),(.string f),(Sl.v e)])]/\E y k j i f e m b) q)(I:List α->HP)(G:I [] h)
  (F:∀a b c,aB b c->I a b->I a c) (C:∀l a b c,h.size<=l->Tw l b c->I a b->I a c) (t:∀a b,I a b->q b)
  (o:∀l a y n m b k j i f e,I a m->aB m b->E y k j i f e m b->u=a++y::n->h.size<=l->(∃r,b[l]? =some (.loop r))->∀(N:Hp->Prop)(X:Code->HP),(∀A c,Tw l b A->c[l]? =A[l]?->I (a++[y]) c->N c)->ag5 l N X s p V k j i f e b)
  (done:∀c,I u c->ag7 K Kp s p V c):ag9 K Kp s p V h:=
 Eq.mp aX (amA (bW:=Yp) (D:=(kT aG UZ)) (λ_=>zy _) (g:=.tmp 7) (ps:=#[8,9]) (assign:=sub [1,1,0,1,0,0] XW) (body:=sub [1,1,0,1,0,1] XW) (Q:=sQ aG Yp (kT aG UZ) none Kp [1,1,0,1,0] XW [] (mF aG Tryz.f32.results.toList TA (apk K))) (Kp:=Kp) (fr:=([nO,nO,vS s,vP p,nO,nO,nO,some V]++nn 9)) aX
  x (λ_ _ _ _ w=>by obtain⟨_,_,_,_,_,rfl,_⟩:=w;rfl) I G F C t
  (by
   intro l a y n m b d e0 z w e1 L J N X hN;obtain⟨k,j,i,f,e,rfl,H⟩:=w;exact Eq.mp aX (o l a y n m b k j i f e e0 z H e1 L J N X hN))
  (λc B=>Eq.mp aX (done c B)))
theorem auo{h:Hp}{v:Value}{l:Nat}{r:Loop}(c:cell h a=some v)(hl:h[l]? =some (.loop r)):a.block≠l:=by
 intro e;unfold Go.Sh.cell at c;rw[e,hl]at c;simp at c
section
variable {h:Hp} {l:Nat} {r:Loop}
theorem VA.nlb(hl:h[l]? =some (.loop r)){a:Addr}{v:aD}(b:VA D h a v):a.block≠l:=by
 obtain⟨s,c,_⟩:=b.row;exact auo (Cs.c0 c) hl
mutual
theorem aS.nl(hl:h[l]? =some (.loop r)):∀{s:Sl}(vs:aQ),aS D h s vs->aS (λb=>D b/\b≠l) h s vs
  |_,[],hh=>by unfold aS at hh ⊢;exact hh
  | _,v::vs,hh=>by
    unfold aS at hh⊢
    obtain⟨a,b,p,e,q,x,y⟩:=hh
    exact⟨a,b,p,e,⟨q,x.nlb hl⟩,VA.nl hl v x,iA.nl hl vs y⟩
theorem iA.nl(hl:h[l]? =some (.loop r)):∀{a:Addr}{i:Nat}(vs:aQ),iA D h a i vs->iA (λb=>D b/\b≠l) h a i vs
 |_,_,[],_=>by unfold iA;trivial
 |_,i,v::vs,hh=>by unfold iA at hh ⊢;exact⟨VA.nl hl v hh.1,iA.nl hl vs hh.2⟩
theorem VA.nl(hl:h[l]? =some (.loop r)):∀{a:Addr}(v:aD),VA D h a v->VA (λb=>D b/\b≠l) h a v
  | _,.mk n x t vs,hh=>by
    unfold VA at hh⊢
    obtain⟨s,hc,h1⟩:=hh
    exact⟨s,hc,aS.nl hl vs h1⟩
end
theorem aS.tw(t:Tw l h h'){s:Sl}{vs:aQ}(v:aS D h s vs):aS D h' s vs:=by
 obtain⟨r,_,_,c,_⟩:=t.2.2;exact aS.fr t.only.fr (λb a _ e=>a.2 e) (λb a=>a.1) _ (aS.nl c _ v)
end
structure Lv(h0 h:Hp)(x:Sl)(vs:aQ):Prop where
 ss:∃ss:List Sl,ss.length=vs.length/\fO h0.size 4 h x (List.zipWith aD.row vs ss) di/\∀(j:Nat)(v:aD)(t:Sl),vs[j]? =some v->ss[j]? =some t->aS (λc=>h0.size<=c/\¬x.at c) h t v.items
theorem Lv.gr{h:Hp}{x:Sl}{vs:aQ}(v:Lv h0 h x vs)(g:aB h h'):Lv h0 h' x vs:=by
 obtain⟨a,d,c,b⟩:=v;exact⟨a,d,c.ai g,λj v t e1 e=>(b j v t e1 e).gr g⟩
theorem Lv.tw{h:Hp}{vs:aQ}{l:Nat}(v:Lv g h s vs)(t:Tw l h h'):Lv g h' s vs:=by
 obtain⟨b,d,a,c⟩:=v;exact⟨b,d,⟨a.len,a.n,(a.sh.tw t).wide (cr _) (EJ t.1.symm)⟩,λj v u e1 e=>aS.tw t (c j v u e1 e)⟩
theorem Lv.at{h:Hp}{x:Sl}{vs:aQ}(v:Lv h0 h x vs){c:Nat}(z:x.at c):h0.size<=c/\c<h.size:=by
 obtain⟨b,e,a,d⟩:=v;exact a.at z
theorem Lv.n{h:Hp}{x:Sl}{vs:aQ}(v:Lv h0 h x vs):x.n=vs.length:=by
 obtain⟨c,b,a,d⟩:=v;have:=a.n;simp_all
abbrev agr(a1:Nat):Value:=.func (.func 70) #[] #[bB a1]
abbrev EV(v:aD)(_:Int)(y1:Bool)(y2:Int)(y3:eU)(y4:Sl)(hp h1:Hp):Prop:=y1=v.au/\y2=v.num/\y3=bs v.text/\aS (Nw hp) h1 y4 v.items
theorem aiN{b b3:Nat}{o n:Nat}(ow:Cf f)(V:Av D g b f d o n s q)(tb:jz g)(k1:aO g m #[bB b] Zd)(a:¬D b3/\b≠b3/\m≠b3/\1<b3):
  ZU aG (agr m) (jY f d o n) (λv E hp L=>∃X W U T S,E=[(ah X),(.agg #[(.bool W),(ah U),(.string T),(Sl.v S)])]/\EV v X W U T S hp L) (λh=>Tn (·=b3) g h):=by
 intro lb J h b' C u hG Y;have bd:=V.bd;have R:jT aG 70=true:=by kernel_rfl
 unfold tK agr;simp only[R,x8,uw];refine dW.mono (ZZ.of ?_) (λ_ _ H=>H.2) (λ_ _ H=>H);have t0:=u _ _ C;have fr:∀{h':Hp},Tn (·=b3) g h'->Av D h' b f d o n s q/\aO h' m #[bB b] Zd/\jz h':=λt=>
  ⟨V.fr t a.2.1 (λz hz e=>a.1 (e▸hz)) λ_ z=>z,t.bq k1 a.2.2.1,tb.fr t (by have:=a.2.2.2;omega) (by have:=a.2.2.2;omega)⟩
 apply aj (fr t0).2.1 rfl;simp only[n9,bz];apply aj (fr t0).1.A.k rfl;have a':=agl V.ar V.lo V.hi;have w:∀j,bJ ((jY f d o n).take j)<=bJ (jY f d o n):=λj=>by rw[TD,Hi];have:=aaU (l:=(jY f d o n).map aD.bw) 0 j;simpa using this
 apply Re.bC (λZ p h'=>∃i:Nat,p=i/\i<=n/\Z=4194304-(bJ ((jY f d o n).take i):Nat)/\J ((jY f d o n).take i) h') (λ_ p _=>n-p.toNat) ⟨0,rfl,ag,by simp[bJ],by simpa using C⟩
 rintro Z p L ⟨i,rfl,hi,rfl,F⟩ N1 hN;obtain⟨V1,N,M⟩:=fr (u _ _ F);refine cE (λc=>?_) λc=>?_
 ·have B:i<n:=ag;have x:=agk (f:=f) (d:=d) (o:=o) B;have P:((jY f d o n).map aD.bw)[i]? =some (f.val d (o+i)).bw:=by simp[x]
  have Q:=akl P;rw[<-TD,<-TD]at Q;have c':=w (i+1);have y:(jY f d o n).take (i+1)=(jY f d o n).take i++[f.val d (o+i)]:=by rw[Po,x];rfl
  have O:jY f d o n=(jY f d o n).take i++f.val d (o+i)::(jY f d o n).drop (i+1):=by
   conv=>lhs;rw[<-EI (i+1) (jY f d o n),y]
   simp
  refine aj N rfl (arj ow V1 M rfl B λt I g2 w2=>aJ λb5 h3 e5 g3 G _=>mj G rfl λh4 o4 G=>aY ag ag (bu rfl ?_));have g4:=bK g3 o4 ag;have e0:decide ((4194304:Int)-(bJ ((jY f d o n).take i):Nat)-((f.val d (o+i)).bw:Int)<0)=false:=by rw[yp];omega
  rw[e0];refine KO.of (bu rfl (eW G ?_));unfold c8;simp only[x8];refine vV.mono (Y ((jY f d o n).take i) (f.val d (o+i)) _ L h4 _ F (aq g2 g4) ⟨_,_,_,_,_,rfl,rfl,rfl,rfl,w2.gr g4⟩ O) (λv h5 hv=>?_) (λ_ _ q=>q);obtain⟨rfl,j5⟩:=hv;refine⟨true,rfl,bu rfl (aY ag ag (hN _ _ _ ⟨i+1,ag,ag,ag,by rw[y];exact j5⟩ ag))⟩
 ·obtain rfl:i=n:=ag;rw[pK (by rw[Pc];omega)]at F
  exact F
theorem agQ{h:Hp}{b:Nat}{n:Nat}{K:Sl->HP}(ow:Cf f)(V:Av D h b f d m n s q)(tb:jz h)(hk:∀t h',aB h h'->aS (Nw h) h' t (jY f d m n)->K t h'):GR (bD b) h K Kp:=by
 have ab:=V.A.k.lt;have t2:=tb.b2;have bd:=V.bd;refine GR.of (aJ λb3 F e3 g1 k3 s3=>Sq.of (aJ λa1 p e1 g2 k1 s1=>?_));have G:=aq g1 g2;have k3:=k3.ai g2;refine avU EV (aiN ow (V.lt.gr G) (tb.ai G) k1 ⟨λe=>by have:=e.2;omega,by omega,by omega,by omega⟩) (λi F=>Tn (·=b3) p F/\∃x,aO F b3 #[Sl.v x] PD/\Lv p F x i)
  ⟨iW _ _,Sl.nil,k3,⟨[],rfl,sU _ _ _ _,by simp⟩⟩ ?_ ?_ (λi F hi=>hi.1) ?_ ?_
 ·rintro i F h2 g ⟨t,x,k,v⟩;exact⟨t.trans (bx g),x,k.ai g,v.gr g⟩
 ·rintro l i F h2 hl tw ⟨t,x,k,v⟩;exact⟨t.trans' tw.only.fr λz hz I=>by omega,x,tw.only.bq k ag,v.tw tw⟩
 ·rintro l i y x' hp F y0 y1 y2 y3 H ⟨tp,x,kp,vp⟩ J ⟨rfl,rfl,rfl,w1⟩ l' hl P N X hN;have m':l<F.size:=by obtain⟨r,R⟩:=P;exact(mq.1 R).1
  have v':=tp.1;have xn:=vp.n;have pl:i.length<n:=by have:=sY List.length l';rw[Pc]at this;simp at this;omega
  unfold ag5;refine aJ λb5 h2 e5 p' k5 _=>mj k5 rfl λh3 o3 k5=>?_;have B:=bK p' o3 ag;have r':=B.1;refine⟨B.2 l m',λh4 t4=>?_⟩;have o4:=t4.only;have s4:h4.size=h3.size:=t4.1;have k5:=o4.bq k5 ag;have b':=o4.bq ((kp.ai J).ai B) ag;have v4:=((vp.gr J).gr B).tw t4;have w4:=aS.tw t4 (w1.gr B);obtain⟨ht,c',d'⟩:=Tw.back B t4 P;refine aj b' rfl (eW k5 (aJ λb13 h5 e13 M j' _=>bR k5 M (bR b' M ?_)));obtain⟨Q,q1,q2,q3⟩:=v4;have A6:=q2.sh.A6 t4;have Y:∀c,x.at c->p.size<=c/\c<hp.size:=λc T=>vp.at T;have k':(List.zipWith aD.row i Q).length=i.length:=by rw[qn,q1,JD]
  refine(q2.ai M).ap ag rfl (new:=[[.bool false,ah 0,.string (bs []),Sl.v Sl.nil]]) rfl (λr R=>by simp at R;subst R;rfl) (λr R=>by simp at R;subst R;intro v hv;simp at hv;rcases hv with rfl|rfl|rfl|rfl <;> rfl) (jn j' rfl) ag ag λL h6 f6 i' o6=>?_
  have f6s:=f6.1;rcases o6.cases with⟨_,e⟩|⟨W,o',oR⟩
  ·exact absurd e aC
  have e':L.at W:=⟨(aF W),oR.a,rfl⟩;have q':∀c,L.at c->c=W:=by
   rintro c ⟨a,ha,rfl⟩;rw[oR.a]at ha;cases ha;rfl
  have g':=f6.bq (b'.ai M) λT=>by have:=Y _ T;omega
  have E:i.length<(List.zipWith aD.row i Q++[[.bool false,ah 0,.string (bs []),Sl.v Sl.nil]]).length:=by simp;omega
  have O:(List.zipWith aD.row i Q++[[.bool false,ah 0,.string (bs []),Sl.v Sl.nil]]).set i.length (y.row H)=List.zipWith aD.row (i++[y]) (Q++[H]):=by
   rw[JC ag,xY _ _ ag,k'];simp
  have y':W≠l:=λe=>by
   rcases i' _ e' with z|z
   ·exact A6 (e▸z)
   ·omega
  have l6:=(f6.2 l ag A6).trans (M.2 l ag)
  -- w' end of u' ways
  have fin:∀C,lX 4 C L W (List.zipWith aD.row (i++[y]) (Q++[H])) di->aO C b3 #[Sl.v L] PD->Tn (λc=>c=W\/c=b3) h6 C->N C:=by
   intro C w Z t8;refine hN ht C c' ?_ ⟨?_,L,Z,⟨Q++[H],by simp[q1],⟨w.len,w.n,.inr ⟨W,o',w.lt,w.own⟩⟩,λj v u e1 U=>?_⟩⟩
   ·rw[t8.2 l ag ag,l6];exact d'
   ·refine(((((tp.trans (bx J)).trans (bx B)).trans' o4.fr λz hz I=>by omega).trans (bx M)).trans' f6 λz hz I=>by have:=Y z hz;omega).trans' t8 λz hz I=>?_
    rcases hz with rfl|rfl
    ·omega
    ·rfl
   ·have new:∀{u:Sl}{ws:aQ},aS (λc=>p.size<=c/\¬x.at c) h4 u ws->aS (λc=>p.size<=c/\¬L.at c) C u ws:=λ{u ws}z=>by
     have z1:=aS.fr (bx M) (λ_ _ _=>id) (λ_ q=>q) _ (aS.lt _ z);have z2:=aS.fr (D':=λc=>p.size<=c/\¬L.at c) f6 (λb p _ q=>p.1.2 q) (λb p=>⟨p.1.1,λq=>by
      rcases i' b q with q|q
      ·exact p.1.2 q
      ·have:=p.2;omega⟩) _ z1
     exact aS.fr t8 (λb p _ e=>by
      rcases e with rfl|rfl
      ·exact p.2 e'
      ·have:=p.1;omega) (λ_ q=>q) _ z2
    by_cases hj:j<i.length
    ·rw[iX hj]at e1;rw[iX ag]at U;exact new (q3 j v u e1 U)
    ·have n':=(dy.1 e1).1;simp only[ij,jy]at n';obtain rfl:j=i.length:=ag;rw[gv (cr _)]at e1;rw[<-q1,gv (cr _)]at U;simp at e1 U;subst e1 U;exact new (w4.mo λc(T:hp.size<=c)=>⟨by omega,λq=>by have:=Y c q;omega⟩)
  refine oR.ix ag E ⟨xU (oR.set E rfl (AG y H) λh7 o7 f'=>?_),?_⟩
  ·rw[O]at f';refine dN (o7.bq g' ag) aC rfl λC o8 Z=>fin C (f'.fr o8.fr ag) (by simpa using Z) ((o7.fr.mono λ_ z _=>.inl z).trans (o8.fr.mono λ_ z _=>.inr z))
  ·refine dN g' aC rfl λh7 o7 a'=>xU ((oR.fr o7.fr ag).set E rfl (AG y H) λC o8 w=>?_);rw[O]at w;have a':aO h7 b3 #[Sl.v L] PD:=by simpa using a'
   exact fin C w (o8.bq a' ag) ((o7.fr.mono λ_ z _=>.inr z).trans (o8.fr.mono λ_ z _=>.inl z))
 ·rintro h2 ⟨t,x,k,Q,q1,q2,q3⟩;unfold ag7;exact aj k rfl (hk x h2 (((bx G:Tn No h p).trans' t λz hz I=>by omega).ai) (aS.snoc q2 q1 (λc T=>by show h.size<=c;omega) λj v u e1 U=>(q3 j v u e1 U).mo λc T=>by have:=T.1;show h.size<=c;omega))
abbrev Or(T:aR)(h:Hp):Nat->Prop:=λc=>T c\/h.size<=c
def Os(T:aR)(h:Hp)(s:Sl)(vs:bg)(el:TypeId):Prop:=s=Sl.nil/\vs=[]\/∃b,T b/\gR h s b vs el
section
variable {T T':aR} {h:Hp} {s0:Sl} {vs l0:bg}
theorem Os.nil:Os T h Sl.nil [] el:=.inl ⟨rfl,rfl⟩
theorem Os.fr(o:Os T h s vs el)(f:Tn S h h')(z:∀c,T c->c<h.size->¬S c):Os T h' s vs el:=
 o.imp id λ⟨b,t,o⟩=>⟨b,t,o.fr f (z b t o.lt)⟩
theorem Os.mono(o:Os T h s vs el)(hT:∀c,T c->T' c):Os T' h s vs el:=o.imp id λ⟨b,t,o⟩=>⟨b,hT b t,o⟩
theorem Os.gr(o:Os T h s vs el)(g:aB h h'):Os T h' s vs el:=o.imp id λ⟨b,t,o⟩=>⟨b,t,o.ai g⟩
theorem Os.n(o:Os T h s vs el):s.n=vs.length:=by
 rcases o with⟨rfl,rfl⟩|⟨b,_,o⟩
 ·rfl
 ·exact o.2.1
theorem Os.sv(o:Os T h s vs el):Sv h s vs:=by
 rcases o with⟨rfl,rfl⟩|⟨b,_,o⟩
 ·exact xW h
 ·exact o.sv
theorem Os.at(o:Os T h s vs el){c:Nat}(z:s.at c):T c/\c<h.size:=by
 obtain⟨a,d,rfl⟩:=z;rcases o with⟨rfl,_⟩|⟨b,t,o⟩
 ·cases d
 ·have:=o.1;rw[this]at d;cases d;exact⟨t,o.lt⟩
structure Old(T:aR)(h:Hp)(s s0:Sl)(l0:bg)(el:TypeId):Prop where
 le:s0.n<=s.n
 iS:s0=Sl.nil/\l0=[]\/∃b cs,T b/\s0.a=some (aF b)/\s0.n=l0.length/\aO h b cs el/\s0.n<=s0.c/\cs.size=s0.c/\∀i,i+1<s0.n->cs[i]? =l0[i]?
theorem Old.of(o:Os T h s vs el):Old T h s s vs el:=by
 refine⟨cr _,o.imp id ?_⟩;rintro⟨b,t,g,f,cs,e,d,c,a⟩;grind
theorem Old.fr(o:Old T h s s0 l0 el)(f:Tn S h h')(z:∀c,T c->c<h.size->¬S c):Old T h' s s0 l0 el:=
 ⟨o.le,o.iS.imp id λ⟨b,cs,t,g,e,a,d⟩=>⟨b,cs,t,g,e,f.bq a (z b t a.lt),d⟩⟩
theorem Old.mono(o:Old T h s s0 l0 el)(hT:∀c,T c->T' c):Old T' h s s0 l0 el:=
 ⟨o.le,o.iS.imp id λ⟨b,cs,t,x⟩=>⟨b,cs,hT b t,x⟩⟩
theorem Os.ap{bytes:Nat}{x:Value}{f:List Value->Prop}{z:Array Value}{K:Sl->HP}(o:Os T h s vs el)(W:z.size=1)(Y:one x=true)(J:f [x])
  (E:(s.n+1+(s.n+1)/4+192)*bytes<=2^48) (Z:s.n+1<2^63)
  (L:∀u h',Tn T h h'->Os (Or T h) h' u (vs++[x]) el->(∀{s0:Sl}{l0:bg},Old T h s s0 l0 el->Old (Or T h) h' u s0 l0 el)->K u h'):Ap h el z 1 bytes s 1 f K:=by
 have g:∀iS:List Value,rd h s.a (s.n*1) iS->iS=vs->s.c<s.n+1->Ap h el z 1 bytes s 1 f K:=by
  intro iS A p k;subst p;have hl:=o.n;refine⟨[x],J,.inr ⟨k,?_,Z,iS,A,?_⟩⟩
  ·have:=nextslicecap_le_wide k;have h7:=pL bytes this;omega
  ·intro r B a';refine L _ _ (bx (rW h _)) (.inr ⟨h.size,.inr (cr _),rfl,?_,_,by simp only[aO,Y0];rfl,B,?_,λi j=>?_⟩) λq=>?_
   ·simp[hl]
   ·simp[Builtin.zeroCells,hl,W];omega
   ·grind
   ·exact⟨by have:=q.le;grind,(((q.fr (bx (rW h _)) λ_ _ _=>id).mono λ_ c=>.inl c).iS)⟩
 rcases o with⟨rfl,rfl⟩|⟨b,t,N,h2,cs,w,h4,h5,M⟩
 ·exact g [] rfl rfl (by simp only[Sl.nil];omega)
 ·by_cases k:s.n+1<=s.c
  ·refine⟨[x],J,.inl ⟨k,?_⟩⟩;rw[N]
   show iZ h ((Addr.mk b 0 none).add (s.n*1)) 0 [x] _
   rw[bz];refine vZ [x] w cy dH λh' m I H G F=>L _ h' (I.fr.mono λd X _=>X▸t) (.inr ⟨b,.inl t,rfl,by simp[h2],m,H,k,by rw[G,h5],λi j=>?_⟩) λq=>⟨?_,?_⟩
   ·grind
   ·have:=q.le;grind
   ·apply q.iS.imp id;rintro⟨y,l,D,V,U,R,Q,P,O⟩
    by_cases e:y=b
    ·subst e;have:l=cs:=by have:=R.symm.trans w;simpa using this
     subst this;refine⟨y,m,.inl D,V,U,H,Q,by rw[G,P],λi j=>?_⟩
     have:=q.le;grind
    ·exact⟨y,l,.inl D,V,U,I.bq R e,Q,P,O⟩
  ·refine g vs ?_ rfl ag;rw[N];refine⟨ag,λi v j=>?_⟩
   have:i<vs.length:=bZ;rw[bz,bX,gU w,M i ag];exact j
theorem Os.M0{v:Value}{K:HP}(o:Os T h s vs el)(D:0<s.n)(I:∃b,s.a=some (aF b)/\a=⟨b,s.n-1,none⟩)(C:one v=true)
  (E:∀h',Tn T h h'->Os T h' s (vs.set (s.n-1) v) el->(∀{s0:Sl}{l0:bg},Old T h s s0 l0 el->Old T h' s s0 l0 el)->K h'):St h a v K:=by
 rcases o with⟨rfl,rfl⟩|⟨b,t,o⟩
 ·simp[Sl.nil]at D
 ·obtain⟨g,l,rfl⟩:=I;have e:g=b:=by have:=l.symm.trans o.1;simpa using this
  subst e;obtain⟨O,N,cs,r,M,L,J⟩:=o;refine dN r ag C λh' p k=>E h' (p.fr.mono λd H _=>H▸t) (.inr ⟨g,t,O,by simp[N],_,k,M,by simp[L],λj F=>?_⟩) λq=>⟨q.le,q.iS.imp id ?_⟩
  ·grind
  ·rintro⟨f,c,m,B,A,z,y,w,u⟩
   by_cases e:f=g
   ·subst e;have:c=cs:=by have:=z.symm.trans r;simpa using this
    subst this;refine⟨f,_,m,B,A,k,y,by simp[w],λi G=>?_⟩
    have:=q.le;grind
   ·exact⟨f,c,m,B,A,p.bq z e,y,w,u⟩
theorem Old.back{x:Value}{K:HP}(o:Old T h s s0 l0 el)(p:0<s0.n)(l:l0[s0.n-1]? =some x)(u:∃b,s0.a=some (aF b)/\a=⟨b,s0.n-1,none⟩)(m:one x=true)
  (q:∀h',Tn T h h'->Os T h' s0 l0 el->K h'):St h a x K:=by
 rcases o.iS with⟨rfl,rfl⟩|⟨b,cs,t,f,A,z,y,w,v⟩
 ·simp[Sl.nil]at p
 ·obtain⟨g,c,rfl⟩:=u;have e:g=b:=by have:=c.symm.trans f;simpa using this
  subst e;refine dN z ag m λh' i k=>q h' (i.fr.mono λd r _=>r▸t) (.inr ⟨g,t,f,A,_,k,y,by simp[w],λj B=>?_⟩)
  grind
theorem Old.avi(o:Old T h s s0 l0 el)(g:¬0<s0.n):Os T h s0 l0 el:=by
 rcases o.iS with q|⟨b,cs,t,f,e,d,c,a,k⟩
 ·exact .inl q
 ·exact .inr ⟨b,t,f,e,cs,d,c,a,λi j=>ag⟩
end
def m8(k:Int)(au:Bool)(L:List Bool):Bool:=if k=20/\L.length=1 then L.getD 0 false else au&&decide (k≠18)
mutual
def ak.lets:ak->Bool
 |.mk _ au k _ _ _ cs=>m8 k au (tW cs)
def tW:List ak->List Bool
 |[]=>[]
 |f::fs=>f.lets::tW fs
end
def yN(k w:Int)(l:Bool)(W:cV):Nat:=
 if l then 16 else min 4194305 (if k=14 then 16+w.toNat else if k=16 then 16+w.toNat*W.getD 0 0 else if k=17 then 16+W.sum else if k=18 then 16+W.getD 0 0 else if k=19\/k=20 then W.getD 0 0 else 16)
mutual
def ak.wz:ak->Nat
 |.mk _ au k w _ _ cs=>yN k w (m8 k au (tW cs)) (MB cs)
def MB:List ak->List Nat
 |[]=>[]
 |f::fs=>f.wz::MB fs
end
def C8(k w:Int)(l:Bool)(Z:aQ):aD:=
 if l then v0 else if k=14 then .mk false 0 (List.replicate w.toNat 0) []else if k=16 then .mk false 0 [] (List.replicate w.toNat (Z.getD 0 v0))else if k=17 then .mk false 0 [] Z
 else if k=18 then .mk false 0 [] [Z.getD 0 v0]else if k=19\/k=20 then Z.getD 0 v0 else .mk false 0 [] []
mutual
def ak.zv:ak->aD
 |.mk _ au k w _ _ cs=>C8 k w (m8 k au (tW cs)) (Mw cs)
def Mw:List ak->List aD
 |[]=>[]
 |f::fs=>f.zv::Mw fs
end
def AH:aD:=.mk false 0 [] []
def ak.cm(f:ak):aD:=if f.wz<=4194304 then f.zv else AH
def ak.small(f:ak):Bool:=decide (f.wz<=4194304)
def kV(k n:Int):Bool:=
 if k=6\/k=10\/k=11 then decide (-9223372036854775808<=n)&&decide (n<=9223372036854775807)else if 3<=k/\k<=5 then decide (-(2^(8*(dJ k).toNat-1))<=n)&&decide (n<2^(8*(dJ k).toNat-1))else decide (0<=n)&&decide (n<2^(8*(dJ k).toNat))
def rV:List (aD->Bool)->List aD->Bool
 |F::Fs,v::vs=>F v&&rV Fs vs
 |[],[]=>true
 |_,_=>false
def tU:aD->Bool:=λ_=>false
def fm(k w:Int)(l:Bool)(F:List (aD->Bool))(v:aD):Bool:=
 decide (v.items.length<=4096)&&
 (if v.au then decide (v.num=0)&&decide (v.text.length=0)&&decide (v.items.length=0)&&l
 else if k=19\/k=20 then F.getD 0 tU v
 else if k=18 then decide (v.text.length=0)&&(decide (0<=v.num)&&(decide (v.num<F.length)&&(decide (v.items.length=1)&&F.getD v.num.toNat tU (v.items.getD 0 v0))))
 else if k=15 then decide (v.num=0)&&(decide (v.text.length=0)&&v.items.all (F.getD 0 tU))
 else if k=16 then decide (v.num=0)&&(decide (v.text.length=0)&&(decide (v.items.length=w.toNat)&&v.items.all (F.getD 0 tU)))
 else if k=17 then decide (v.num=0)&&(decide (v.text.length=0)&&rV F v.items)
 else if k=12\/k=13\/k=14 then decide (v.num=0)&&(decide (v.items.length=0)&&((decide (k≠12)||iC v.text)&&(decide (k≠14)||decide (v.text.length=w.toNat))))
 else decide (v.text.length=0)&&(decide (v.items.length=0)&&(if k=2 then decide (v.num=0\/v.num=1)else decide (3<=k/\k<=11)&&kV k v.num)))
mutual
def ak.fit:ak->aD->Bool
 |.mk _ au k w _ _ cs=>fm k w (m8 k au (tW cs)) (fits cs)
def fits:List ak->List (aD->Bool)
 |[]=>[]
 |f::fs=>f.fit::fits fs
end
structure Rb where
 rows:Nat
 cz:Nat
 bits:List UInt8
 bF:Nat
 dQ:List Nat
 texts:List (List UInt8)
 ends:List Nat
 all:List UInt8
 aH:List aD
inductive Raw
 |mk (b:Rb) (kids:List Raw)
def Raw.b:Raw->Rb|.mk b _=>b
def Raw.kids:Raw->List Raw|.mk _ k=>k
def Dw:Rb:=⟨0,0,[],0,[],[],[],[],[]⟩
def r0:Raw:=.mk Dw []
def Raw.aN(r:Raw)(i:Nat):Raw:=r.kids.getD i r0
def Raw.eZ(r:Raw)(i:Nat)(c:Raw):Raw:=.mk r.b (r.kids.set i c)
def Raw.up(r:Raw)(g:Rb->Rb):Raw:=.mk (g r.b) r.kids
def oZ(l:dw)(i:Nat):List UInt8:=l.set (i/8) (UInt8.ofNat ((l.getD (i/8) 0).toNat|||2^(i%8)))
def Rb.row(au:Bool)(b:Rb):Rb:=
 {b with rows:=b.rows+1,cz:=if au then b.cz+1 else b.cz,bits:=if au then(if b.rows%8=0 then b.bits++[0]else b.bits)else oZ (if b.rows%8=0 then b.bits++[0]else b.bits) b.rows}
def cQ(x:Int×Raw)(g:Raw->Int×Raw):Int×Raw:=if x.1=0 then g x.2 else x
def eN(au:Bool)(r:Raw):Int×Raw:=if 4096<=r.b.rows then(3,r)else(0,r.up (Rb.row au))
def fj(n:Nat)(r:Raw):Int×Raw:=(if 4194304<r.b.bF+n then 3 else 0,r.up λb=>{b with bF:=b.bF+n})
def dc(i:Nat)(g:Raw->Int×Raw)(r:Raw):Int×Raw:=((g (r.aN i)).1,r.eZ i (g (r.aN i)).2)
def fc:List (Raw->Int×Raw)->Raw->Int×Raw
 |[],r=>(0,r)
 |g::gs,r=>cQ (g r) (fc gs)
abbrev PJ:=Raw->aD->Int×Raw
abbrev JK:=Raw->Int×Raw
def om:PJ:=λr _=>(0,r)
def od:JK:=λr=>(0,r)
def dZ(r:Raw)(i:Nat):Nat:=(r.aN i).b.bF
def total(r:Raw):Nat:=(r.kids.map λc=>c.b.bF).sum
def ou(ix:Int):Nat:=if ix=3 then 128 else if ix=7 then 256 else 4097
open Classical in
noncomputable def gf(v:aD):List aD->Option Nat
 |[]=>none
 |x::xs=>if x=v then some 0 else(gf v xs).map (·+1)
def sL(code:Nat)(g:Raw->Int×Raw)(r:Raw):Int×Raw:=
 cQ (eN false r) λr1=>cQ (dc code g (r1.up λb=>{b with all:=b.all++[UInt8.ofNat code],ends:=b.ends++[(r1.aN code).b.rows]})) λr2=>fj (16+(dZ r2 code-dZ r1 code)) r2
open Classical in
noncomputable def iD(k w ix:Int)(T:List PJ)(Z:List JK)(r:Raw)(v:aD):Int×Raw:=
 if k=1 then cQ (eN true r) (fj 16)
 else if k=12\/k=13 then cQ (eN v.au r) λr1=>if 65536<r1.b.all.length+v.text.length then(4,r1)else fj (16+v.text.length) (r1.up λb=>{b with all:=b.all++v.text,ends:=b.ends++[b.all.length+v.text.length]})
 else if k=15 then cQ (eN v.au r) λr1=>cQ (fc (v.items.map λx=>dc 0 λc=>(T.getD 0 om) c x) r1) λr2=>fj (16+(dZ r2 0-dZ r1 0)) (r2.up λb=>{b with ends:=b.ends++[(r2.aN 0).b.rows]})
 else if k=16 then cQ (eN v.au r) λr1=>cQ (fc (if v.au then List.replicate w.toNat (dc 0 (Z.getD 0 od))else v.items.map λx=>dc 0 λc=>(T.getD 0 om) c x) r1) λr2=>fj (if v.au then 16 else 16+(dZ r2 0-dZ r1 0)) r2
 else if k=17 then cQ (eN v.au r) λr1=>cQ (fc ((List.range T.length).map λi=>dc i (if v.au then Z.getD i od else λc=>(T.getD i om) c (v.items.getD i v0))) r1) λr2=>fj (if v.au then 16 else 16+(total r2-total r1)) r2
 else if k=18 then sL v.num.toNat (λc=>(T.getD v.num.toNat om) c (v.items.getD 0 v0)) r
 else if k=19 then cQ (eN v.au r) λr1=>
  if v.au then fj 16 (r1.up λb=>{b with ends:=b.ends++[0]})
  else match gf v r1.b.aH with
   |some i=>fj v.bw (r1.up λb=>{b with ends:=b.ends++[i]})
   |none=>if ou ix<=r1.b.aH.length then(102,r1)else cQ (dc 0 (λc=>(T.getD 0 om) c v) r1) λr2=>fj v.bw (r2.up λb=>{b with aH:=b.aH++[v],ends:=b.ends++[b.aH.length]})
 else if k=20 then cQ (eN false r) λr1=>
  if r1.b.aH.getLast? =some v then fj v.bw (r1.up λb=>{b with ends:=b.ends.dropLast++[b.rows]})
  else cQ (dc 0 (λc=>(T.getD 0 om) c v) r1) λr2=>fj v.bw (r2.up λb=>{b with ends:=b.ends++[b.rows],aH:=b.aH++[v]})
 else cQ (eN v.au r) λr1=>fj (16+v.text.length) (r1.up λb=>{b with dQ:=b.dQ++[(v.num%2^64).toNat],texts:=b.texts++[v.text]})
noncomputable def nE(small:Bool)(k w ix:Int)(tk:Raw->Int×Raw)(Z:List JK)(r:Raw):Int×Raw:=
 if small\/¬(16<=k/\k<=20)then tk r
 else if k=16 then cQ (eN false r) λr1=>cQ (fc (List.replicate w.toNat (dc 0 (Z.getD 0 od))) r1) λr2=>fj (16+(dZ r2 0-dZ r1 0)) r2
 else if k=17 then cQ (eN false r) λr1=>cQ (fc ((List.range Z.length).map λi=>dc i (Z.getD i od)) r1) λr2=>fj (16+(total r2-total r1)) r2
 else if k=18 then sL 0 (Z.getD 0 od) r
 else if k=19 then cQ (eN false r) λr1=>if ou ix<=r1.b.aH.length then(102,r1)else cQ (dc 0 (Z.getD 0 od) r1) λr2=>(3,r2)
 else cQ (eN false r) λr1=>cQ (dc 0 (Z.getD 0 od) r1) λr2=>(3,r2)
mutual
noncomputable def ak.tk:ak->PJ
 |.mk _ _ k w _ ix cs=>iD k w ix (Ht cs) (C9 cs)
noncomputable def Ht:List ak->List PJ
 |[]=>[]
 |f::fs=>f.tk::Ht fs
noncomputable def ak.zk:ak->JK
 |.mk nm au k w id ix cs=>nE (ak.small (.mk nm au k w id ix cs)) k w ix (λr=>iD k w ix (Ht cs) (C9 cs) r (ak.cm (.mk nm au k w id ix cs))) (C9 cs)
noncomputable def C9:List ak->List JK
 |[]=>[]
 |f::fs=>f.zk::C9 fs
end
def iT(x n:Nat):List UInt8:=(List.range n).map λi=>UInt8.ofNat (x/2^(8*i))
def laidB(l:cV)(n:Nat):List UInt8:=l.flatMap λx=>iT x n
def dF(b:Rb):List UInt8:=if b.cz=0 then[]else b.bits
def qM(l:cV):List UInt8:=l.zipIdx.foldl (λb x=>if x.1%2=1 then oZ b x.2 else b) (List.replicate ((l.length+7)/8) 0)
def mb(w:Nat)(l:ie):List UInt8:=l.flatMap λt=>if t=[]then List.replicate w 0 else t
def wB(k:Int):Nat:=if k=3\/k=7 then 1 else if k=4\/k=8 then 2 else if k=5\/k=9 then 4 else 8
def mK(k w ix:Int)(D:List (Raw->bH))(r:Raw):bH:=
 if k=1 then .mk r.b.rows 0 r.b.cz [] [] []
 else if k=12\/k=13 then .mk r.b.rows 0 r.b.cz [dF r.b,laidB r.b.ends 4,r.b.all] [] []
 else if k=15 then .mk r.b.rows 0 r.b.cz [dF r.b,laidB r.b.ends 4] ((List.range D.length).map λi=>(D.getD i λ_=>uh) (r.aN i)) []
 else if k=16\/k=17 then .mk r.b.rows 0 r.b.cz [dF r.b] ((List.range D.length).map λi=>(D.getD i λ_=>uh) (r.aN i)) []
 else if k=18 then .mk r.b.rows 0 r.b.cz [r.b.all,laidB r.b.ends 4] ((List.range D.length).map λi=>(D.getD i λ_=>uh) (r.aN i)) []
 else if k=19 then .mk r.b.rows 0 r.b.cz [dF r.b,laidB r.b.ends (wB ix)] [] ((List.range D.length).map λi=>(D.getD i λ_=>uh) (r.aN i))
 else if k=20 then .mk r.b.rows 0 0 [] (.mk r.b.ends.length 0 0 [[],laidB r.b.ends 4] [] []::(List.range D.length).map λi=>(D.getD i λ_=>uh) (r.aN i)) []
 else if k=2 then .mk r.b.rows 0 r.b.cz [dF r.b,qM r.b.dQ] [] []
 else if k=14 then .mk r.b.rows 0 r.b.cz [dF r.b,mb w.toNat r.b.texts] [] []
 else .mk r.b.rows 0 r.b.cz [dF r.b,laidB r.b.dQ (wB k)] [] []
mutual
def ak.dn:ak->Raw->bH
 |.mk _ _ k w _ ix cs=>mK k w ix (Ox cs)
def Ox:List ak->List (Raw->bH)
 |[]=>[]
 |f::fs=>f.dn::Ox fs
end
mutual
def ak.begun:ak->Raw
 |.mk _ _ k _ _ _ cs=>.mk {Dw with ends:=if k=12\/k=13\/k=15 then[0]else[]} (Pa cs)
def Pa:List ak->List Raw
 |[]=>[]
 |f::fs=>f.begun::Pa fs
end
theorem ank(a:m<256)(b:i<8):m|||2^i<256:=
 Jy a (Pm bh b)
theorem Dn(l:dw)(i:Nat):(oZ l i).length=l.length:=by simp[oZ]
theorem O9(l:dw)(r:Nat):gG l r=(l.getD (r/8) 0).toNat.testBit (r%8):=by
 unfold gG;grind
theorem abk{l:dw}(h:i/8<l.length)(j:Nat):gG (oZ l i) j=(decide (j=i)||gG l j):=by
 rw[O9,O9];unfold oZ
 by_cases e:j/8=i/8
 ·have e1:(l.set (i/8) (UInt8.ofNat ((l.getD (i/8) 0).toNat|||2^(i%8)))).getD (j/8) 0=UInt8.ofNat ((l.getD (i/8) 0).toNat|||2^(i%8)):=by
   rw[gB,e,EL h];rfl
  rw[e1,sW,uv (ank ((l.getD (i/8) 0).toNat_lt) (ym _ bh)),Nat.testBit_or,e,Nat.testBit_two_pow];grind
 grind
theorem au2(l m:dw){j:Nat}(h:j/8<l.length):gG (l++m) j=gG l j:=by
 unfold gG;grind
theorem au1(l:dw){j:Nat}(h:l.length<=j/8):gG (l++[0]) j=false:=by
 unfold gG;have:(l++[0]).getD (j/8) 0=0:=by
  rw[gB,gv h];rcases a:j/8-l.length with _|k <;> simp[a]
 rw[this];simp
def AX(n:Nat)(x:Bool)(b:dw):List UInt8:=if x then oZ (if n%8=0 then b++[0]else b) n else(if n%8=0 then b++[0]else b)
def nL:List Bool->List UInt8
 |[]=>[]
 |x::xs=>AX xs.length x (nL xs)
def qD(l:List Bool):List UInt8:=nL l.reverse
theorem am3(l:List Bool)(x:Bool):qD (l++[x])=AX l.length x (qD l):=by simp[qD,nL]
theorem UT:∀l:List Bool,(nL l).length=(l.length+7)/8
  |[]=>rfl
  | x::a=>by
    unfold nL AX;split <;> split <;> simp only[Dn,ij,iq,pJ,(UT a)] <;> omega
theorem UU(l:List Bool):(qD l).length=(l.length+7)/8:=by rw[qD,UT,List.length_reverse]
theorem ab8:∀(l:List Bool)(i:Nat),gG (nL l) i=(decide (i<l.length)&&l.getD (l.length-1-i) false)
  |[],i=>by simp[nL,gG]
  | x::a,i=>by
    have f:=ab8 a i;have hl:=UT a;have base:gG (if a.length%8=0 then nL a++[0]else nL a) i=gG (nL a) i:=by
      split
      · by_cases h:i/8<(nL a).length
        ·exact au2 _ _ h
        ·rw[au1 _ ag,f];grind
      ·rfl
    have d:a.length/8<(if a.length%8=0 then nL a++[0]else nL a).length:=by
      split <;> simp only[ij,iq,pJ,hl] <;> omega
    have key:gG (nL (x::a)) i=((decide (i=a.length)&&x)||gG (nL a) i):=by
      rw[show nL (x::a)=AX a.length x (nL a)from rfl];unfold AX;cases x
      ·simp[*]
      ·simp_all[fY,abk,Bool.and_true]
    grind
theorem ab9(l:List Bool)(i:Nat):gG (qD l) i=l.getD i false:=by
 rw[qD,ab8,List.length_reverse]
 grind
theorem Rb.qC(au:Bool)(b:Rb):(b.row au).bits=AX b.rows (!au) b.bits:=by
 unfold Rb.row AX;grind
theorem Bb(x n:Nat):(iT x n).length=n:=by simp[iT]
theorem aoU(x n:Nat):iT x (n+1)=iT x n++[UInt8.ofNat (x/2^(8*n))]:=by simp[iT,uu]
theorem adb(x:Nat):∀n,jD (iT x n)=x%2^(8*n)
  |0=>by simp[iT,jD,Nat.mod_one]
  | n+1=>by
    rw[aoU,ada,Bb,adb x n,sW,show 8*(n+1)=8*n+8 by omega,JB,Nat.mod_mul,JA (2^(8*n)) (_%_)]
theorem Ir(l:cV)(n:Nat):(laidB l n).length=l.length*n:=by
 simp[laidB,BX,Bb,List.map_const',List.sum_replicate_nat]
theorem adm(x:Nat)(l:cV)(n:Nat):laidB (x::l) n=iT x n++laidB l n:=by simp[laidB]
theorem adn{n:Nat}:∀{l:cV}{i x:Nat},l[i]? =some x->((laidB l n).drop (i*n)).take n=iT x n
  |[],i,x,h=>by simp at h
  | y::l,0,x,h=>by
    simp_all[B0,mS,adm,EH,YM,Pk,Bb,pK]
  | y::l,i+1,x,h=>by
    simp only[BW]at h;rw[adm,qP,Pj,<-BZ,List.drop_left' (Bb y n)];exact adn h
theorem WN{l:cV}{n:Nat}(h:l[i]? =some m):pg (laidB l n) (i*n) n=m%2^(8*n):=by
 unfold pg;rw[adn h,adb]
theorem WO{l:cV}{n:Nat}(h:l[i]? =some n)(a:n<2^31):i32 (laidB l 4) i=n:=by
 unfold i32;rw[JA,WN h,uv ag];unfold sg;omega
theorem af8(l:cV):(qM l).length=(l.length+7)/8:=by
 unfold qM;have:∀(m:List (Nat×Nat))(b:dw),(m.foldl (λb x=>if x.1%2=1 then oZ b x.2 else b) b).length=b.length:=by
  intro m
  induction m with
  |nil=>simp
  |cons x m a=>grind[Dn]
 simp[*]
theorem auY(l:cV):∀(k:Nat)(b:dw),(∀j,k<=j->j<k+l.length->j/8<b.length)->∀i,gG ((l.zipIdx k).foldl (λb x=>if x.1%2=1 then oZ b x.2 else b) b) i=(gG b i||decide (k<=i/\l.getD (i-k) 0%2=1)):=by
  induction l with
  |nil=>simp
  | cons x l m=>
    intro k b g i;rw[List.zipIdx_cons,List.foldl_cons];have f:∀j,k+1<=j->j<k+1+l.length->j/8<(if x%2=1 then oZ b k else b).length:=by
      intro j a d;have:=g j ag bZ
      grind[Dn]
    rw[m (k+1) _ f i];have e0:gG (if x%2=1 then oZ b k else b) i=(gG b i||(decide (i=k)&&decide (x%2=1))):=by
      split
      ·rename_i h;rw[abk (g k (cr _) aC)];grind
      ·simp[*]
    grind
theorem af9(l:cV)(i:Nat):gG (qM l) i=decide (l.getD i 0%2=1):=by
 unfold qM;rw[auY l 0 _ (λj _ h=>bZ) i]
 have:gG (List.replicate ((l.length+7)/8) (0:UInt8)) i=false:=by
  unfold gG;have:(List.replicate ((l.length+7)/8) (0:UInt8)).getD (i/8) 0=0:=by
   rw[gB,List.getElem?_replicate];split <;> rfl
  rw[this];simp
 simp[*]
theorem aei(w:Nat)(t:dw)(l:ie):mb w (t::l)=(if t=[]then List.replicate w 0 else t)++mb w l:=by simp[mb]
theorem Oa{w:Nat}:∀{l:ie},(∀t∈l,t=[]\/t.length=w)->(mb w l).length=l.length*w
  |[],_=>by simp[mb]
  | t::l,h=>by
    have a:=Oa (l:=l) λx b=>h x (by simp[b])
    have c:(if t=[]then List.replicate w (0:UInt8)else t).length=w:=by
      rcases h t aC with q|q
      ·simp[q]
      ·split <;> simp_all
    rw[aei,ij,c,a,iq,qP,Pj]
theorem aej{w:Nat}:∀{l:ie}{i:Nat}{t:dw},(∀t∈l,t=[]\/t.length=w)->l[i]? =some t->t.length=w->((mb w l).drop (i*w)).take w=t
  |[],i,t,_,h,_=>by simp at h
  | u::l,i,t,b,h,a=>by
    have d:(if u=[]then List.replicate w (0:UInt8)else u).length=w:=by
      rcases b u aC with q|q
      ·simp[q]
      ·split <;> simp_all
    rw[aei];cases i with
    | zero=>
      grind
    | succ i=>
      simp only[BW]at h;rw[qP,Pj,<-BZ,List.drop_left' d];exact aej (λx c=>b x (by simp[c])) h a
theorem adC:∀{a b:List Pl}{d c:List Int},a.map Pl.f=b.map Pl.f->(∀x∈c,x∈d)->∀x∈kX c b,x∈kX d a
  |[],[],d,c,_,i=>i
  |[],_::_,_,_,h,_=>by simp at h
  |_::_,[],_,_,h,_=>by simp at h
  | x::a,y::b,d,c,h,i=>by
    simp only[qQ,List.cons.injEq]at h;unfold kX;refine adC h.2 λz g=>?_;grind[w7]
structure ZO(d d':Nat)(ins Iw:Bool):Prop where
 d:d'<=d
 i:Iw=true->ins=true
abbrev ZF(f:ak):Prop:=∀{d d':Nat}{ins Iw:Bool}{n n':Nat}{ids adE:List Int},ZO d d' ins Iw->n'<=n->(∀x∈adE,x∈ids)->gC n ids (f.places d [] ins)->
 gC n' adE (f.places d' [] Iw)/\(f.places d [] ins).map Pl.f=(f.places d' [] Iw).map Pl.f
theorem amS{cs:cN}(j:∀f∈cs,ZF f){d d':Nat}{c a:Bool}(l:ZO d d' c a):∀{n n':Nat}{e b:List Int},n'<=n->(∀x∈b,x∈e)->gC n e (lM d c cs)->
    gC n' b (lM d' a cs)/\(lM d c cs).map Pl.f=(lM d' a cs).map Pl.f:=by
  induction cs with
  |nil=>intro n n' e b _ _ _;simp[lM,gC]
  | cons f s k=>
    intro n n' e b m i h;simp only[lM,G9]at h ⊢;obtain⟨q,e1⟩:=j f aC l m i h.1;have el:(f.places d [] c).length=(f.places d' [] a).length:=by simpa using sY List.length e1
    obtain⟨p,r⟩:=k (λg o=>j g (by simp[o])) (n':=n'+(f.places d' [] a).length) ag (adC e1 i) h.2
    simp[*]
theorem amW{l:cN}{d:Nat}:∀{ahead:cN},(dX d ahead B l).map Pl.f=(lM d B l).map Pl.f:=by
  induction l with
  |nil=>intro a;rfl
  | cons f l b=>
    intro a;have:(f.places d a B).map Pl.f=(f.places d [] B).map Pl.f:=by cases f;unfold ak.places;simp
    simp only[dX,lM,kY,b,this]
theorem ab4:∀f:ak,ZF f
  | .mk r au k w id ix cs=>by
    rename_i d t m c n n' o g
    intro l J j h;have I:∀f∈cs,ZF f:=λf _=>ab4 f;have s:d<=64:=by unfold ak.places at h;exact h.1.1
    have b:=jH l.d s;rw[DC s]at h ⊢;rw[DC b];obtain⟨L,K,H,G,F,E,D,u⟩:=h.1;obtain⟨C,b2⟩:=He.1 h.2;have z:ZO (d+1) (t+1) (m||k==19) (c||k==19):=⟨by have:=l.d;omega,λq=>by
      rcases(EK _ _).mp q with q|q
      ·rw[l.i q];rfl
      simp[*]⟩
    have p:∀x∈w7 g (.mk r au k w id ix cs),x∈w7 o (.mk r au k w id ix cs):=by
      intro x a;unfold w7 at a ⊢;split
      ·grind
      ·grind
    obtain⟨B,A⟩:=amS I z (n':=n'+1) ag p b2;refine⟨⟨⟨b,ag,H,G,F,E,?_,λe=>⟨(u e).1,λq=>(u e).2 (j _ q)⟩⟩,He.2 ⟨C,B⟩⟩,?_⟩
    ·rintro⟨y,v⟩;exact D ⟨l.i y,v⟩
    grind[amW]
theorem bE.places(h:bE f):gC 0 [] (f.places 1 [] false):=by
 have:=h.2.2.2.2
 simpa only[lM,pM]using this
theorem bE.anI(h:gC 0 [] (f.places 1 [] false)):bE f:=by
 refine⟨aC,aC,λj m c=>by simp at c,?_,by simpa only[lM,pM]using h⟩
 intro i j a b e d g;grind
abbrev Yw:=@bE.anI
theorem bE.aN(h:bE f)(u:c∈f.cs):bE c:=by
 obtain⟨i,au,k,w,id,ix,cs⟩:=f;have a:=h.places;rw[DC ag]at a;obtain⟨n,g,e⟩:=amU (He.1 a.2).2 c u;exact Yw (ab4 c ⟨ag,λq=>by cases q⟩ (eH _) (λx b=>by simp at b) e).1
theorem bE.right(h:bE f):Shaped f.k f.w f.id f.ix f.cs.length/\Ab f.k f.au f.cs/\(f.k=19->∃c,f.cs[0]? =some c/\c.au=false):=by
 obtain⟨b,au,k,w,id,ix,cs⟩:=f;have a:=h.places;rw[DC ag]at a;exact⟨a.1.2.2.2.2.1,a.1.2.2.2.2.2.1,λe=>(a.1.2.2.2.2.2.2.2 e).1⟩
theorem acN:E6 (bs [97]):=by
 refine⟨by decide,by decide,λj b h=>?_⟩
 rcases j with _|j
 ·have a:=h;cases a;exact .inl (.inl bh)
 ·rw[getElem?_neg _ _ (by show¬j+1<1;omega)]at h;cases h
theorem bE.ty(h:bE f):th f.k f.w f.id f.ix f.cs:=by
 obtain⟨p,au,k,w,id,ix,cs⟩:=f;have d:=h.places;apply Yw;unfold Xw;rw[DC ag]at d ⊢;obtain⟨⟨o,n,s,r,m,l,j,i⟩,b⟩:=d;refine⟨⟨o,n,acN,aC,m,⟨λe=>?_,λe=>?_,λe=>?_⟩,j,i⟩,b⟩
 ·simp only[ak.k]at e;subst e;simp[gJ,ak.au,ak.k]
 ·simp only[ak.k]at e;subst e;simp[gJ,ak.au,ak.k]
 ·simp only[ak.k]at e;subst e;obtain⟨c,a,_⟩:=l.2.2 rfl;refine⟨c,a,?_⟩;simp only[ak.cs]at a;cases cs with
  |nil=>simp at a
  |cons g q=>simp at a;subst a;simp[gJ,ak.au,ak.k,ak.cs]
def dY(k:Int)(v:aD):Bool:=if k=1 then true else if k=18\/k=20 then false else v.au
open Classical in
noncomputable def qK(l:aQ)(v:aD):List aD:=if v.au then l else match gf v l with|some _=>l|none=>l++[v]
noncomputable def dR(vs:aQ):List aD:=vs.foldl qK []
open Classical in
noncomputable def wU(x:List aD×List Nat)(v:aD):List aD×List Nat:=
 if x.1.getLast? =some v then(x.1,x.2.dropLast++[x.2.getLastD 0+1])else(x.1++[v],x.2++[x.2.getLastD 0+1])
noncomputable def cR(vs:aQ):List aD×List Nat:=vs.foldl wU ([],[])
theorem xA(vs:aQ)(v:aD):dR (vs++[v])=qK (dR vs) v:=by simp[dR]
theorem AQ(vs:aQ)(v:aD):cR (vs++[v])=wU (cR vs) v:=by simp[cR]
def jR(g:aD->Nat)(vs:aQ):List Nat:=(List.range (vs.length+1)).map λi=>((vs.take i).map g).sum
theorem axe{α:Type}(vs:List α)(v:α){i:Nat}(h:i<=vs.length):(vs++[v]).take i=vs.take i:=Pk h
theorem MT(g:aD->Nat)(vs:aQ)(v:aD):jR g (vs++[v])=jR g vs++[((vs++[v]).map g).sum]:=by
 unfold jR;rw[ij,jy,uu,kY]
 congr 1
 all_goals grind[List.map_congr_left]
theorem TZ{g:aD->Nat}{vs:aQ}(h:i<=vs.length):(jR g vs)[i]? =some ((vs.take i).map g).sum:=by
 unfold jR;grind
theorem Dh(g:aD->Nat)(vs:aQ):(jR g vs).length=vs.length+1:=by simp[jR]
def fG(v:aD):Nat:=v.num.toNat
noncomputable def dB(k w:Int)(N:aQ)(j:Nat)(vs:aQ):List aD:=
 if k=15 then vs.flatMap aD.items
 else if k=16 then vs.flatMap λv=>if v.au then List.replicate w.toNat (N.getD 0 v0)else v.items
 else if k=17 then vs.map λv=>if v.au then N.getD j v0 else v.items.getD j v0
 else if k=18 then(vs.filter λv=>decide (fG v=j)).map λv=>v.items.getD 0 v0
 else if k=19 then dR vs
 else(cR vs).1
def fE(k:Int):Bool:=!(k==1||k==12||k==13||k==15||k==16||k==17||k==18||k==19||k==20)
noncomputable def aM(k:Int)(vs:aQ):Rb where
 rows:=vs.length
 cz:=vs.countP (dY k)
 bits:=qD (vs.map λv=>!dY k v)
 bF:=bJ vs
 dQ:=if fE k then vs.map λv=>(v.num%2^64).toNat else[]
 texts:=if fE k then vs.map aD.text else[]
 ends:=if k=12\/k=13 then jR (λv=>v.text.length) vs else if k=15 then jR (λv=>v.items.length) vs
  else if k=18 then(List.range vs.length).map λi=>((vs.take i).filter λv=>decide (fG v=fG (vs.getD i v0))).length
  else if k=19 then vs.map λv=>if v.au then 0 else(gf v (dR vs)).getD 0 else if k=20 then(cR vs).2 else[]
 all:=if k=12\/k=13 then vs.flatMap aD.text else if k=18 then vs.map λv=>UInt8.ofNat (fG v)else[]
 aH:=if k=19 then dR vs else if k=20 then(cR vs).1 else[]
abbrev PN:=List aD->Raw
def st0:PN:=λ_=>r0
noncomputable def stK(k w:Int)(N:aQ)(S:List PN)(vs:aQ):Raw:=.mk (aM k vs) ((List.range S.length).map λj=>(S.getD j st0) (dB k w N j vs))
def dh:List ak->List aD:=List.map ak.cm
mutual
noncomputable def ak.st:ak->PN
 |.mk _ _ k w _ _ cs=>stK k w (dh cs) (MV cs)
noncomputable def MV:List ak->List PN
 |[]=>[]
 |f::fs=>f.st::MV fs
end
abbrev PR:=List aD->Prop
structure OkK(k w ix:Int)(N:aQ)(F:aD->Bool)(O:List PR)(vs:aQ):Prop where
 fit:∀v∈vs,F v=true
 n4:vs.length<=4096
 wt:bJ vs<=4194304
 tx:k=12\/k=13->(vs.flatMap aD.text).length<=65536
 ds:k=19->(dR vs).length<=ou ix
 aN:∀(j:Nat)(o:PR),O[j]? =some o->o (dB k w N j vs)
mutual
noncomputable def ak.can:ak->PR
 |.mk nm au k w id ix cs=>OkK k w ix (dh cs) (ak.fit (.mk nm au k w id ix cs)) (OH cs)
noncomputable def OH:List ak->List PR
 |[]=>[]
 |f::fs=>f.can::OH fs
end
theorem aaV:∀a:List ak,MV a=a.map ak.st
 |[]=>rfl
 |f::a=>by simp[MV,aaV a]
theorem ae6:∀a:List ak,OH a=a.map ak.can
 |[]=>rfl
 |f::a=>by simp[OH,ae6 a]
theorem TW:∀a:List ak,Ht a=a.map ak.tk
 |[]=>rfl
 |f::a=>by simp[Ht,TW a]
theorem Ts:∀a:List ak,C9 a=a.map ak.zk
 |[]=>rfl
 |f::a=>by simp[C9,Ts a]
theorem aeN:∀a:List ak,Ox a=a.map ak.dn
 |[]=>rfl
 |f::a=>by simp[Ox,aeN a]
theorem ael:∀a:List ak,fits a=a.map ak.fit
 |[]=>rfl
 |f::a=>by simp[fits,ael a]
theorem ac7:∀a:List ak,tW a=a.map ak.lets
 |[]=>rfl
 |f::a=>by simp[tW,ac7 a]
theorem aag:∀a:List ak,MB a=a.map ak.wz
 |[]=>rfl
 |f::a=>by simp[MB,aag a]
theorem Z6:∀a:List ak,Mw a=a.map ak.zv
 |[]=>rfl
 |f::a=>by simp[Mw,Z6 a]
theorem agc:∀a:List ak,Pa a=a.map ak.begun
 |[]=>rfl
 |f::a=>by simp[Pa,agc a]
theorem ak.akz(f:ak)(vs:aQ):f.st vs=.mk (aM f.k vs) ((List.range f.cs.length).map λj=>((f.cs.map ak.st).getD j st0) (dB f.k f.w (dh f.cs) j vs)):=by
 obtain⟨a,au,k,w,id,ix,cs⟩:=f;simp only[ak.st,stK,aaV,cC];rfl
abbrev Jo:=@ak.akz
theorem ak.aup(f:ak)(vs:aQ):f.can vs↔OkK f.k f.w f.ix (dh f.cs) f.fit (f.cs.map ak.can) vs:=by
 obtain⟨a,au,k,w,id,ix,cs⟩:=f;simp only[ak.can,ae6];exact Iff.rfl
abbrev gh:=@ak.aup
theorem ak.ajs(f:ak):f.tk=iD f.k f.w f.ix (f.cs.map ak.tk) (f.cs.map ak.zk):=by
 obtain⟨a,au,k,w,id,ix,cs⟩:=f;simp only[ak.tk,TW,Ts];rfl
abbrev kD:=@ak.ajs
theorem ak.ahM(f:ak):f.zk=nE f.small f.k f.w f.ix (λr=>f.tk r f.cm) (f.cs.map ak.zk):=by
 obtain⟨a,au,k,w,id,ix,cs⟩:=f;simp only[ak.zk,ak.tk,TW,Ts];rfl
abbrev rX:=@ak.ahM
theorem ak.asF(f:ak):f.dn=mK f.k f.w f.ix (f.cs.map ak.dn):=by
 obtain⟨a,au,k,w,id,ix,cs⟩:=f;simp only[ak.dn,aeN];rfl
abbrev qO:=@ak.asF
theorem ak.arM(f:ak):f.fit=fm f.k f.w f.lets (f.cs.map ak.fit):=by
 obtain⟨a,au,k,w,id,ix,cs⟩:=f;simp only[ak.fit,ak.lets,ael];rfl
abbrev eG:=@ak.arM
theorem ak.aoR(f:ak):f.lets=m8 f.k f.au (f.cs.map ak.lets):=by
 obtain⟨a,au,k,w,id,ix,cs⟩:=f;simp only[ak.lets,ac7];rfl
abbrev xS:=@ak.aoR
theorem ak.aiq(f:ak):f.wz=yN f.k f.w f.lets (f.cs.map ak.wz):=by
 obtain⟨a,au,k,w,id,ix,cs⟩:=f;simp only[ak.wz,ak.lets,aag];rfl
abbrev zM:=@ak.aiq
theorem ak.Mz(f:ak):f.zv=C8 f.k f.w f.lets (f.cs.map ak.zv):=by
 obtain⟨a,au,k,w,id,ix,cs⟩:=f;simp only[ak.zv,ak.lets,Z6];rfl
theorem ak.au5(f:ak):f.begun=.mk {Dw with ends:=if f.k=12\/f.k=13\/f.k=15 then[0]else[]} (f.cs.map ak.begun):=by
 obtain⟨a,au,k,w,id,ix,cs⟩:=f;simp only[ak.begun,agc];rfl
abbrev Pe:=@ak.au5
theorem ak.aa1(a:f.cs[j]? =some c)(vs:aQ):(f.st vs).aN j=c.st (dB f.k f.w (dh f.cs) j vs):=by
 have b:=(dy.1 a).1;rw[Jo];simp only[Raw.aN,Raw.kids,gB,fy,B8 b,a,oD,oG]
abbrev mM:=@ak.aa1
theorem ak.X0(a:f.cs[j]? =some c){vs:aQ}(h:f.can vs):c.can (dB f.k f.w (dh f.cs) j vs):=
 ((gh f vs).1 h).aN j c.can dH
abbrev fh:=@ak.X0
theorem XU(k w:Int)(N:aQ)(j:Nat):dB k w N j []=[]:=by unfold dB dR cR;simp
theorem UD(k:Int):aM k []={Dw with ends:=if k=12\/k=13\/k=15 then[0]else[]}:=by
 simp only[aM,Dw,pJ,List.countP_nil,BN,List.flatMap_nil,List.range_zero,bJ,qD,nL,List.reverse_nil,ite_self,dR,cR,YK,jR,List.take_nil,Rb.mk.injEq,true_and,yl]
 grind
theorem aa0:∀f:ak,f.st []=f.begun
  | .mk d au k w id ix cs=>by
    have b:∀c∈cs,c.st []=c.begun:=λc _=>aa0 c;rw[Jo,Pe]
    congr 1
    ·exact UD k
    · refine si λj=>?_;simp only[ak.cs,ak.k,ak.w,fy,XU]
      by_cases a:j<cs.length
      all_goals simp[*]
theorem bE.one(h:bE f)(d:f.k=15\/f.k=16\/f.k=19\/f.k=20):∃c,f.cs=[c]/\bE c:=by
 match a:f.cs,(h.right.1.2.2.2.2.2.2.2.1 d)with
 |[c],_=>exact⟨c,rfl,h.aN (by rw[a];simp)⟩
theorem bE.ks(h:bE f):1<=f.k/\f.k<=20:=⟨h.right.1.1,h.right.1.2.1⟩
theorem oV(a b:aQ):bJ (a++b)=bJ a+bJ b:=by
 induction a with
 |nil=>simp[bJ]
 |cons v a c=>simp only[uw,bJ,c];omega
theorem aaj(n:Nat)(v:aD):bJ (List.replicate n v)=n*v.bw:=by
 induction n with
 |zero=>simp[bJ]
 |succ n a=>rw[Ju,bJ,a,qP];omega
theorem gS(v:aD):v.bw=16+v.text.length+bJ v.items:=by cases v;rfl
theorem aen:fm k w true F v0=true:=by
 unfold fm v0;simp[aD.au,aD.num,aD.text,aD.items]
theorem aah:∀{cs:cN},(∀c∈cs,c.wz=min 4194305 c.zv.bw)->min 4194305 (16+(cs.map ak.wz).sum)=min 4194305 (16+bJ (cs.map ak.zv))
  |[],_=>rfl
  | c::cs,h=>by
    have h1:=h c aC;have h2:=aah (cs:=cs) λx hx=>h x (by simp[hx])
    simp only[qQ,YJ,bJ];omega
theorem ago:∀{cs:cN},(∀c∈cs,c.fit c.zv=true)->rV (cs.map ak.fit) (cs.map ak.zv)=true
  |[],_=>rfl
  | c::cs,h=>by
    simp only[qQ,rV,h c aC,EC];exact ago λx a=>h x (by simp[a])
theorem sJ:∀f:ak,bE f->f.lets=f.au
  | .mk n au k w id ix cs,h=>by
    have i:∀c∈cs,c.lets=c.au:=λc m=>sJ c (h.aN m);obtain⟨_,b,_⟩:=h.right;have one:=λl=>bE.one h l;rw[xS]
    show m8 k au (cs.map ak.lets)=au
    simp only[ak.k,ak.cs,ak.au]at b one;unfold m8
    by_cases e:k=20
    · obtain⟨c,rfl,_⟩:=one (by simp[e])
      obtain⟨d,g,j⟩:=b.2.2 e;grind
    · rw[aE (λq:k=20/\_=>e q.1)]
      by_cases a:k=18
      ·have:=b.2.1 a;simp[*]
      ·simp[a]
theorem Z8:∀f:ak,bE f->f.au=false->f.zv.au=false
  | .mk o au k w id ix cs,h,g=>by
    have l:∀c∈cs,c.au=false->c.zv.au=false:=λc n=>Z8 c (h.aN n);obtain⟨_,j,i⟩:=h.right;have one:=λm=>bE.one h m;rw[ak.Mz,(sJ _ h),g];simp only[ak.k,ak.w,ak.cs,ak.au]at j i one g ⊢;simp only[C8,lH,kF];split
    ·rfl
    split
    ·rfl
    split
    ·rfl
    split
    ·rfl
    split
    · rename_i e
      obtain⟨c,rfl,_⟩:=one ag;simp only[qQ,BN,EA];apply l c aC;rcases e with rfl|rfl
      ·obtain⟨d,b,a⟩:=i rfl;simp only[B0,mS]at b;subst b;exact a
      ·obtain⟨d,b,a⟩:=j.2.2 rfl;grind
    ·rfl
theorem Ec{l:Bool}(h:fm k w l F v=true):v.items.length<=4096:=by
 unfold fm at h;grind
theorem Z7:∀f:ak,bE f->f.fit f.zv=true/\f.wz=min 4194305 f.zv.bw
  | .mk nm au k w id ix cs,h=>by
    have ih:∀c∈cs,c.fit c.zv=true/\c.wz=min 4194305 c.zv.bw:=λc hc=>Z7 c (h.aN hc);rw[eG,ak.Mz,zM];obtain⟨⟨s1,s2,s3,s4,s5,s6,s7,s8,s9,s10,s11⟩,n1,n2⟩:=h.right;have one:=λhk=>bE.one h hk;simp only[ak.k,ak.w,ak.cs,ak.au,ak.id,ak.ix]at s1 s2 s3 s4 s5 s6 s7 s8 s9 s10 s11 n1 n2 one ⊢;generalize hl:(ak.mk nm au k w id ix cs).lets=l;have hl':l=m8 k au (cs.map ak.lets):=by rw[<-hl,xS];rfl
    cases l with
    |true=>exact⟨by simpa[C8]using aen,by simp[yN,C8,v0,aD.bw,bJ]⟩
    | false =>
      have k1:k≠1:=by
        rintro rfl;simp[m8,n1.1]at hl'
      simp only[C8,yN,lH,kF]
      by_cases IY:k=14
      ·subst IY;have:=s3 rfl;simp[fm,aD.au,aD.num,aD.text,aD.items,aD.bw,bJ]
      rw[aE IY,aE IY]
      by_cases Ou:k=16
      · subst Ou;have:=s4 rfl;obtain⟨c,rfl,hc⟩:=one aC;obtain⟨h1,h2⟩:=ih c aC;simp only[fY,qQ,BN,EA,aD.bw,aaj,h2];refine⟨?_,?_⟩
        ·simp only[fm,aD.au,aD.num,aD.text,aD.items,Jt];simp[h1,tU];omega
        · have hw:1<=w.toNat:=ag;generalize w.toNat=n at hw
          by_cases hc:c.zv.bw<=4194305
          ·grind
          ·have q2:n*4194305<=n*c.zv.bw:=YI _ ag;grind
      rw[aE Ou,aE Ou]
      by_cases Ot:k=17
      ·subst Ot;have vB:=s9 rfl;simp only[fY,aD.bw,pJ,BP];refine⟨?_,aah λc hc=>(ih c hc).2⟩;simp only[fm,aD.au,aD.num,aD.text,aD.items,cC,ago λc hc=>(ih c hc).1];simp;omega
      rw[aE Ot,aE Ot]
      by_cases Oq:k=18
      · subst Oq;have vB:=s10 rfl;obtain⟨c,XS,rfl⟩:∃c XS,cs=c::XS:=by
          cases cs with
          |nil=>simp at vB
          |cons c XS=>simp
        obtain⟨h1,h2⟩:=ih c aC;simp only[fY,qQ,EA,aD.bw,bJ,pJ,h2];refine⟨?_,ag⟩
        simp only[fm,aD.au,aD.num,aD.text,aD.items,cC,iq,pJ];simp[h1]
      rw[aE Oq,aE Oq]
      by_cases Ej:k=19\/k=20
      · obtain⟨c,rfl,hc⟩:=one ag;obtain⟨h1,h2⟩:=ih c aC;simp only[Ej,fY,qQ,BN,EA,h2];refine⟨?_,ag⟩
        have hn:c.zv.au=false:=by
          apply Z8 c hc;have hll:=sJ _ h;rw[hl]at hll;rcases Ej with rfl|rfl
          ·obtain⟨d,hd,DY⟩:=n2 rfl;simp only[B0,mS]at hd;subst hd;exact DY
          ·obtain⟨d,hd,DY⟩:=n1.2.2 rfl;simp only[B0,mS]at hd;subst hd;rw[<-DY];exact hll.symm
        have hlen:=h1;rw[eG]at hlen;have hlen:=Ec hlen;unfold fm;simp_all
      rw[aE Ej,aE Ej];refine⟨?_,by simp[aD.bw,bJ]⟩
      simp only[not_or]at Ej;have hu:iC []=true:=rfl;unfold fm;simp only[aD.au,aD.num,aD.text,aD.items,pJ,kF,lH,Ej,Oq,Ou,Ot,IY,hu]
      by_cases e15:k=15
      ·simp[e15]
      · by_cases e12:k=12\/k=13
        ·simp[*]
        · by_cases e2:k=2
          ·simp[e2]
          · simp only[e15,e12,IY,e2];have:kV k 0=true:=by
              unfold kV;split
              ·rfl
              ·have hp:∀n:Nat,(0:Int)<2^n:=λn=>ED bh;grind
            grind
theorem sD(h:bE f)(b:f.small=true):f.cm=f.zv/\f.fit f.cm=true/\f.cm.bw=f.wz/\f.wz<=4194304:=by
 have a:f.wz<=4194304:=by simpa[ak.small]using b
 have e:f.cm=f.zv:=by unfold ak.cm;simp[*]
 obtain⟨c,d⟩:=Z7 f h;grind
theorem jP{x:Int×Raw}{g:Raw->Int×Raw}(h:(cQ x g).1=0):x.1=0/\(g x.2).1=0/\cQ x g=g x.2:=by
 unfold cQ at h ⊢;grind
theorem amg{n:Bool}{r:Raw}(h:(eN n r).1=0):r.b.rows<4096/\(eN n r).2=r.up (Rb.row n):=by
 unfold eN at h ⊢;grind
theorem pT{n:Nat}{r:Raw}(h:(fj n r).1=0):r.b.bF+n<=4194304/\(fj n r).2=r.up λb=>{b with bF:=b.bF+n}:=by
 grind[fj]
theorem Rb.eq{a b:Rb}(o:a.rows=b.rows)(n:a.cz=b.cz)(k:a.bits=b.bits)(h:a.bF=b.bF)(g:a.dQ=b.dQ)(f:a.texts=b.texts)(e:a.ends=b.ends)(d:a.all=b.all)(c:a.aH=b.aH):a=b:=by
 cases a;cases b;simp_all
abbrev sS:=@Rb.eq
theorem lC{r:Raw}{c:Raw}(h:i<r.kids.length):(r.eZ i c).aN i=c:=by
 cases r;simp only[Raw.eZ,Raw.aN,Raw.kids]at h ⊢;simp[*]
theorem uX{r:Raw}{c:Raw}:(r.eZ i c).kids.length=r.kids.length:=by cases r;simp[Raw.eZ,Raw.kids]
theorem alg{r:Raw}{c d:Raw}:(r.eZ i c).eZ i d=r.eZ i d:=by cases r;simp[Raw.eZ,Raw.kids,Raw.b]
theorem mY{r:Raw}{c:Raw}:(r.eZ i c).b=r.b:=rfl
theorem AM{r:Raw}{c:Raw}(h:i≠j):(r.eZ i c).aN j=r.aN j:=by
 cases r;simp only[Raw.eZ,Raw.aN,Raw.kids];simp[*]
theorem alh{r:Raw}(h:i<r.kids.length):r.eZ i (r.aN i)=r:=by
  cases r with
  | mk b ks=>
    simp only[Raw.eZ,Raw.aN,Raw.kids,Raw.b]at h⊢
    simp[*]
theorem iQ{r:Raw}{g:Rb->Rb}:(r.up g).aN i=r.aN i:=by cases r;rfl
theorem jO{r:Raw}{g:Rb->Rb}:(r.up g).kids=r.kids:=by cases r;rfl
theorem gm{r:Raw}{g:Rb->Rb}:(r.up g).b=g r.b:=by cases r;rfl
theorem Raw.eq{a b:Raw}(d:a.b=b.b)(c:a.kids=b.kids):a=b:=by
 cases a;cases b;simp only[Raw.b,Raw.kids]at d c;rw[d,c]
def dV(c:ak)(g:Raw->Int×Raw)(x:aD):Prop:=∀vs,c.can vs->(g (c.st vs)).1=0->c.can (vs++[x])/\(g (c.st vs)).2=c.st (vs++[x])
theorem vk{g:Raw->Int×Raw}{Y:aD}(b:dV c g Y){r:Raw}{i:Nat}{kv:aQ}(a:r.aN i=c.st kv)(d:c.can kv)(h:(dc i g r).1=0):
  c.can (kv++[Y])/\(dc i g r).2=r.eZ i (c.st (kv++[Y])):=by
 unfold dc at h ⊢;rw[a]at h ⊢;obtain⟨f,e⟩:=b kv d h;simp[*]
theorem Hz{G:aD->Raw->Int×Raw}:∀{xs:aQ},(∀x∈xs,dV c (G x) x)->∀{r:Raw}{kv:aQ},i<r.kids.length->r.aN i=c.st kv->c.can kv->(fc (xs.map λx=>dc i (G x)) r).1=0->
    c.can (kv++xs)/\(fc (xs.map λx=>dc i (G x)) r).2=r.eZ i (c.st (kv++xs))
  |[],_,r,kv,a,b,d,_=>by rw[pM];exact⟨d,by rw[<-b,alh a];rfl⟩
  | x::xs,f,r,kv,a,b,d,h=>by
    simp only[qQ,fc]at h ⊢;obtain⟨m,g,l⟩:=jP h;obtain⟨j,e⟩:=vk (f x aC) b d m;rw[l,e];rw[e]at g;have:=Hz (λy k=>f y (by simp[k])) (by rw[uX];exact a) (lC a) j g
    grind[List.append_assoc,alg]
theorem M8:∀(a:List (Raw->Int×Raw))(g:Raw->Int×Raw)(r:Raw),fc (a++[g]) r=cQ (fc a r) g
  | [],g,r=>by
    simp only[x8,fc,cQ,fY];grind
  | f::a,g,r=>by
    simp only[uw,fc,cQ];split
    ·rw[M8 a g];rfl
    simp
theorem Ew{cs:cN}{G:Nat->Raw->Int×Raw}{x:Nat->aD}{kv:Nat->List aD}{r:Raw}(hl:r.kids.length=cs.length)(j:∀i c,cs[i]? =some c->r.aN i=c.st (kv i)/\c.can (kv i))(k:∀i c,cs[i]? =some c->dV c (G i) (x i)):
    ∀m,m<=cs.length->(fc ((List.range m).map λi=>dc i (G i)) r).1=0->(fc ((List.range m).map λi=>dc i (G i)) r).2.b=r.b/\(fc ((List.range m).map λi=>dc i (G i)) r).2.kids.length=cs.length/\
      ∀i c,cs[i]? =some c->(i<m->c.can (kv i++[x i]))/\(fc ((List.range m).map λi=>dc i (G i)) r).2.aN i=if i<m then c.st (kv i++[x i])else c.st (kv i)
  |0,_,_=>⟨rfl,hl,λi c d=>⟨λq=>ag,by rw[aA];exact(j i c d).1⟩⟩
  | m+1,y,h=>by
    rw[uu,kY,Js,M8]at h ⊢;obtain⟨t,s,p⟩:=jP h;obtain⟨w,v,l⟩:=Ew hl j k m ag t;have a:cs[m]? =some cs[m]:=aC;have f:=(l m _ a).2;rw[aA]at f;obtain⟨o,n⟩:=vk (k m _ a) f (j m _ a).2 s;rw[p,n];refine⟨w,by rw[uX];exact v,λi c d=>?_⟩
    by_cases e:i=m
    ·subst e;rw[a]at d;cases d;exact⟨λ_=>o,by rw[lC ag,dU]⟩
    ·obtain⟨u,b2⟩:=l i c d;refine⟨λq=>u ag,?_⟩;grind[AM]
theorem ku{l:Bool}(h:fm k w l F v=true)(a:v.au=true):v=v0/\l=true:=by
 unfold fm at h;simp only[a,fY,dr,dP]at h;obtain⟨_,⟨⟨d,c⟩,b⟩,e⟩:=h;obtain⟨n,x,t,s⟩:=v;simp only[aD.au,aD.num,aD.text,aD.items,jw]at a d c b;subst a d c b;exact⟨rfl,e⟩
theorem TJ:v0.bw=16:=rfl
theorem lJ(vs:aQ)(v:aD):bJ (vs++[v])=bJ vs+v.bw:=by rw[oV];simp[bJ]
theorem sR{vs:aQ}(h:f.can vs)(g:f.fit v=true)(l:vs.length<4096)(b:bJ vs+v.bw<=4194304)(tx:f.k=12\/f.k=13->(vs.flatMap aD.text).length+v.text.length<=65536)
  (ds:f.k=19->(dR (vs++[v])).length<=ou f.ix) (aN:∀(j:Nat)c,f.cs[j]? =some c->c.can (dB f.k f.w (dh f.cs) j (vs++[v]))):f.can (vs++[v]):=by
 refine(gh f _).2 ⟨λu d=>?_,by simp;omega,by rw[lJ];exact b,λe=>bZ,ds,λj o a=>?_⟩
 ·rcases ni.1 d with q|q
  ·exact((gh f vs).1 h).fit u q
  grind
 ·rw[fy,uD]at a;obtain⟨c,i,rfl⟩:=a;simp[*]
theorem sC{vs:aQ}{r:Raw}(g:r.b=aM f.k vs)(hl:r.kids.length=f.cs.length)(e:∀(j:Nat)c,f.cs[j]? =some c->r.aN j=c.st (dB f.k f.w (dh f.cs) j vs)):r=f.st vs:=by
  rw[Jo];refine Raw.eq g (si λj=>?_)
  show r.kids[j]? =((List.range f.cs.length).map _)[j]?
  rw[fy]
  by_cases a:j<f.cs.length
  · have d:f.cs[j]? =some f.cs[j]:=aC;have:=e j _ d;rw[B8 a];simp only[oD,gB,fy,d,oG];rw[<-this];cases r with
    | mk b ks=>
      have h:ks.length=f.cs.length:=hl
      show ks[j]? =some (ks.getD j r0)
      simp[*]
  simp[*]
theorem fC(f:ak)(vs:aQ):(f.st vs).b=aM f.k vs:=by rw[Jo];rfl
theorem aky(f:ak)(vs:aQ):(f.st vs).kids.length=f.cs.length:=by rw[Jo];simp[Raw.kids]
theorem sE(k:Int)(vs:aQ)(v:aD)(n:Bool):((aM k vs).row n).rows=(aM k (vs++[v])).rows:=by simp[Rb.row,aM]
theorem sF{vs:aQ}{n:Bool}(h:dY k v=n):((aM k vs).row n).cz=(aM k (vs++[v])).cz:=by
 simp only[Rb.row,aM,List.countP_append,List.countP_cons,List.countP_nil,h];grind
theorem qC{vs:aQ}{n:Bool}(h:dY k v=n):((aM k vs).row n).bits=(aM k (vs++[v])).bits:=by
 rw[Rb.qC];simp only[aM,kY,qQ,BN,am3,cC,h]
theorem mG(vs:aQ):(fE k=false->(aM k vs).dQ=[]/\(aM k vs).texts=[])/\(¬(k=12\/k=13\/k=15\/k=18\/k=19\/k=20)->(aM k vs).ends=[])/\(¬(k=12\/k=13\/k=18)->(aM k vs).all=[])/\(¬(k=19\/k=20)->(aM k vs).aH=[]):=by
 refine⟨λh=>by simp[aM,h],λh=>?_,λh=>?_,λh=>?_⟩ <;> simp only[not_or]at h <;> simp[aM,h]
structure ji(f:ak)(vs:aQ)(v:aD)(n:Bool)(r1:Raw):Prop where
 lt:vs.length<4096
 b:r1.b=(aM f.k vs).row n
 kids:r1.kids=(f.st vs).kids
theorem ji.of{vs:aQ}{n:Bool}(h:(eN n (f.st vs)).1=0):ji f vs v n (eN n (f.st vs)).2:=by
 obtain⟨b,a⟩:=amg h;rw[fC]at b;exact⟨b,by rw[a,gm,fC],by rw[a,jO]⟩
theorem ji.aN{vs:aQ}{n:Bool}{a:Raw}(R:ji f vs v n a){j:Nat}{c:ak}(u:f.cs[j]? =some c):a.aN j=c.st (dB f.k f.w (dh f.cs) j vs):=by
 rw[<-mM u];unfold Raw.aN;rw[R.kids]
theorem ji.len{vs:aQ}{n:Bool}{h:Raw}(R:ji f vs v n h):h.kids.length=f.cs.length:=by rw[R.kids,aky]
theorem pY(c:ak)(vs:aQ):(c.st vs).b.bF=bJ vs:=by rw[fC];rfl
theorem AL(c:ak)(vs:aQ):(c.st vs).b.rows=vs.length:=by rw[fC];rfl
theorem aaY(T:bE f)(S:f.k≠15/\f.k≠16/\f.k≠17/\f.k≠18/\f.k≠19/\f.k≠20){v:aD}(i:f.fit v=true):dV f (λr=>f.tk r v) v:=by
  intro vs O h;dsimp only at h ⊢;obtain⟨q,p,o,l,n,m⟩:=S;have a:f.cs=[]:=by
    have:=T.right.1.2.2.2.2.2.2.2.2.2.2 ⟨q,p,n,m,o,l⟩;exact jw.1 this
  rw[kD]at h ⊢;rw[eG]at i;have A:f.fit v=true:=by rw[eG];exact i
  unfold iD at h⊢
  by_cases x:f.k=1
  · simp only[aI x]at h ⊢;obtain⟨I,y,H⟩:=jP h;have R:=ji.of (v:=v) I;obtain⟨u,E⟩:=pT y;have t:v.au=true:=by
      cases t:v.au with
      |true=>rfl
      |false=>unfold fm at i;simp[t,x]at i
    obtain⟨rfl,_⟩:=ku i t;rw[R.b]at u;have w:dY f.k v0=true:=by simp[dY,x]
    refine⟨sR O A R.lt ?_ ag ag λj c d=>bZ,?_⟩
    ·have:((aM f.k vs).row true).bF=bJ vs:=rfl;rw[TJ];omega
    · rw[H,E];refine sC ?_ (by rw[jO,R.len]) λj c d=>bZ
      rw[gm,R.b];obtain⟨C,L,K,F⟩:=mG vs;obtain⟨D,N,M,G⟩:=mG (vs++[v0]);have s:fE f.k=false:=by simp[fE,x]
      refine sS (sE f.k vs v0 true) (sF w) (qC w) ?_ ((C s).1.trans (D s).1.symm) ((C s).2.trans (D s).2.symm) ((L ag).trans (N ag).symm) ((K ag).trans (M ag).symm) ((F ag).trans (G ag).symm)
      show bJ vs+16=bJ (vs++[v0])
      rw[lJ,TJ]
  simp only[aE x]at h⊢
  by_cases g:f.k=12\/f.k=13
  · simp only[aI g]at h ⊢;obtain⟨I,y,H⟩:=jP h;have R:=ji.of (v:=v) I;rw[H];have Q:(eN v.au (f.st vs)).2.b.all=vs.flatMap aD.text:=by rw[R.b];show(aM f.k vs).all=_;simp[aM,g]
    rw[Q]at y ⊢;split at y
    ·simp at y
    rename_i P
    rw[aE P];obtain⟨u,E⟩:=pT y;rw[gm,R.b]at u;have u:bJ vs+(16+v.text.length)<=4194304:=u;have B:v.items=[]:=by
      cases t:v.au with
      |true=>rw[(ku i t).1];rfl
      | false=>
        unfold fm at i;grind
    have z:v.bw=16+v.text.length:=by rw[gS,B];rfl
    have w:dY f.k v=v.au:=by unfold dY;simp[*]
    refine⟨sR O A R.lt ag (λ_=>ag) ag λj c d=>bZ,?_⟩
    rw[E];refine sC ?_ (by rw[jO,jO,R.len]) λj c d=>bZ
    rw[gm,gm,R.b];obtain⟨C,L,K,F⟩:=mG vs;obtain⟨D,N,M,G⟩:=mG (vs++[v]);have s:fE f.k=false:=by rcases g with e|e <;> simp[fE,e]
    refine sS (sE f.k vs v v.au) (sF w) (qC w) ?_ ((C s).1.trans (D s).1.symm) ((C s).2.trans (D s).2.symm) ?_ ?_ ((F ag).trans (G ag).symm)
    · show bJ vs+(16+v.text.length)=bJ (vs++[v])
      rw[lJ,z]
    · show(aM f.k vs).ends++[(aM f.k vs).all.length+v.text.length]=(aM f.k (vs++[v])).ends
      simp only[aM,aI g,MT];simp
    · show(aM f.k vs).all++v.text=(aM f.k (vs++[v])).all
      simp[aM,g]
  simp only[aE g,aE q,aE p,aE o,aE l,aE n,aE m]at h ⊢;obtain⟨I,y,H⟩:=jP h;have R:=ji.of (v:=v) I;rw[H];obtain⟨u,E⟩:=pT y;rw[gm,R.b]at u;have u:bJ vs+(16+v.text.length)<=4194304:=u;have B:v.items=[]:=by
    cases t:v.au with
    |true=>rw[(ku i t).1];rfl
    | false=>
      unfold fm at i
      grind
  have z:v.bw=16+v.text.length:=by rw[gS,B];rfl
  have w:dY f.k v=v.au:=by unfold dY;simp[*]
  refine⟨sR O A R.lt ag ag ag λj c d=>bZ,?_⟩
  rw[E];refine sC ?_ (by rw[jO,jO,R.len]) λj c d=>bZ
  rw[gm,gm,R.b];obtain⟨C,L,K,F⟩:=mG vs;obtain⟨D,N,M,G⟩:=mG (vs++[v]);have s:fE f.k=true:=by
    simp only[not_or]at g;simp[fE,x,g,q,p,o,l,n,m]
  refine sS (sE f.k vs v v.au) (sF w) (qC w) ?_ ?_ ?_ ((L ag).trans (N ag).symm) ((K ag).trans (M ag).symm) ((F ag).trans (G ag).symm)
  · show bJ vs+(16+v.text.length)=bJ (vs++[v])
    rw[lJ,z]
  · show(aM f.k vs).dQ++_=(aM f.k (vs++[v])).dQ
    simp[aM,s]
  · show(aM f.k vs).texts++_=(aM f.k (vs++[v])).texts
    simp[aM,s]
theorem zC{vs:aQ}:dB 15 w X j vs=vs.flatMap aD.items:=by simp[dB]
theorem Bz{vs:aQ}:dB 16 w X j vs=vs.flatMap λv=>if v.au then List.replicate w.toNat (X.getD 0 v0)else v.items:=by simp[dB]
theorem En{vs:aQ}:dB 17 w X j vs=vs.map λv=>if v.au then X.getD j v0 else v.items.getD j v0:=by simp[dB]
theorem Em{vs:aQ}:dB 18 w X j vs=(vs.filter λv=>decide (fG v=j)).map λv=>v.items.getD 0 v0:=by simp[dB]
theorem By{vs:aQ}:dB 19 w X j vs=dR vs:=by simp[dB]
theorem El{vs:aQ}:dB 20 w X j vs=(cR vs).1:=by simp[dB]
theorem Wv(vs:aQ):(vs.map aD.bw).sum=bJ vs:=(Hi vs).symm
theorem A5(a:f.cs=[c]){j:Nat}{d:ak}(h:f.cs[j]? =some d):j=0/\d=c:=by
 grind
theorem aeo(b:f.cs=[c])(g:f.k=15){v:aD}(a:f.fit v=true):v.text=[]/\∀x∈v.items,c.fit x=true:=by
  rw[eG]at a;cases d:v.au with
  |true=>rw[(ku a d).1];exact⟨rfl,λx e=>by simp[v0,aD.items]at e⟩
  | false=>
    simp_all[fm]
theorem Oc(b:f.cs=[c])(e:f.k=16){v:aD}(a:f.fit v=true)(d:v.au=false):v.text=[]/\v.items.length=f.w.toNat/\∀x∈v.items,c.fit x=true:=by
 rw[eG]at a;simp_all[fm]
theorem agq:∀{F:List (aD->Bool)}{vs:aQ},rV F vs=true->F.length=vs.length/\∀(i:Nat)g,F[i]? =some g->g (vs.getD i v0)=true
  |[],[],_=>⟨rfl,λi g h=>by simp at h⟩
  |[],_::_,h=>by simp[rV]at h
  |_::_,[],h=>by simp[rV]at h
  | g::F,v::vs,h=>by
    simp only[rV,dr]at h;obtain⟨c,b⟩:=agq h.2;refine⟨by simp[c],λi d a=>?_⟩
    cases i with
    |zero=>grind
    |succ i=>simp at a;grind
theorem Ea(h:f.k=17){v:aD}(a:f.fit v=true)(d:v.au=false):v.text=[]/\v.items.length=f.cs.length/\∀(i:Nat)c,f.cs[i]? =some c->c.fit (v.items.getD i v0)=true:=by
 rw[eG]at a;unfold fm at a;rw[h]at a;simp[d]at a;obtain⟨g,e⟩:=agq a.2.2.2;simp_all
theorem Of(j:f.k=18)(hl:f.lets=false){v:aD}(a:f.fit v=true):v.au=false/\v.text=[]/\0<=v.num/\∃c x,f.cs[fG v]? =some c/\v.items=[x]/\c.fit x=true:=by
  rw[eG]at a;cases g:v.au with
  |true=>have:=(ku a g).2;grind
  | false=>
    unfold fm at a;rw[j]at a;simp[g]at a;obtain⟨_,m,l,o,i,h⟩:=a;have b:fG v<f.cs.length:=by unfold fG;omega
    obtain⟨x,d⟩:∃x,v.items=[x]:=by
      match n:v.items,i with
      |[x],_=>simp
    refine⟨rfl,m,l,f.cs[fG v],x,bL b,d,?_⟩;have e:v.num.toNat=fG v:=rfl;simp_all
theorem sH(a:f.k≠1)(b:f.k≠18)(nM:f.k≠20):dY f.k v=v.au:=by unfold dY;simp[*]
theorem aks(X:bE f)(a:f.cs=[c])(l:f.k=15)(U:∀x,c.fit x=true->dV c (λr=>c.tk r x) x){v:aD}(A:f.fit v=true):dV f (λr=>f.tk r v) v:=by
 intro vs B h;dsimp only at h ⊢;have n:f.cs[0]? =some c:=by rw[a];rfl
 rw[kD]at h ⊢;unfold iD at h ⊢;rw[aA,aA,aI l]at h ⊢;obtain⟨T,D,S⟩:=jP h;have R:=ji.of (v:=v) T;rw[S];have hT:(f.cs.map ak.tk).getD 0 om=c.tk:=by rw[a];rfl
 rw[hT]at D ⊢;obtain⟨Q,C,P⟩:=jP D;obtain⟨M,N⟩:=aeo a l A;have m:=R.aN n;obtain⟨F,E⟩:=Hz (λx L=>U x (N x L)) (by rw[R.len,a];simp) m (fh n B) Q
 rw[P];rw[E]at C ⊢;obtain⟨o,t⟩:=pT C;have g:0<(eN v.au (f.st vs)).2.kids.length:=by rw[R.len,a];simp
 have O:dZ (((eN v.au (f.st vs)).2).eZ 0 (c.st (dB f.k f.w (dh f.cs) 0 vs++v.items))) 0-dZ (eN v.au (f.st vs)).2 0=bJ v.items:=by
  unfold dZ;rw[lC g,m,pY,pY,oV];omega
 rw[O]at o t ⊢;rw[gm,mY,R.b]at o;have o:bJ vs+(16+bJ v.items)<=4194304:=o;have s:v.bw=16+bJ v.items:=by rw[gS,M];rfl
 have u:dY f.k v=v.au:=sH ag ag ag;have e:dB f.k f.w (dh f.cs) 0 (vs++[v])=dB f.k f.w (dh f.cs) 0 vs++v.items:=by rw[l,zC,zC];simp
 refine⟨sR B A R.lt ag ag ag λj d q=>?_,?_⟩
 ·grind[A5]
 ·rw[t];refine sC ?_ (by rw[jO,jO,uX,R.len]) λj d q=>?_
  ·rw[gm,gm,mY,R.b];obtain⟨y,V,I,H⟩:=mG vs;obtain⟨z,W,K,J⟩:=mG (vs++[v]);have p:fE f.k=false:=by rw[l];rfl
   refine sS (sE f.k vs v v.au) (sF u) (qC u) ?_ ((y p).1.trans (z p).1.symm) ((y p).2.trans (z p).2.symm) ?_ ((I ag).trans (K ag).symm) ((H ag).trans (J ag).symm)
   ·show bJ vs+(16+bJ v.items)=bJ (vs++[v])
    rw[lJ,s]
   ·show(aM f.k vs).ends++[((((eN v.au (f.st vs)).2).eZ 0 (c.st (dB f.k f.w (dh f.cs) 0 vs++v.items))).aN 0).b.rows]=(aM f.k (vs++[v])).ends
    rw[lC g,AL,<-e,l,zC];simp[aM,MT,BX]
  grind[A5,iQ,lC]
theorem Nc{α β:Type}(n:Nat)(a:α)(b:β):List.replicate n b=(List.replicate n a).map λ_=>b:=aC
theorem aa8(a:f.cs=[c])(S:f.k=16){vs:aQ}{v:aD}{n:Bool}{m:Raw}(R:ji f vs v n m)(E:f.can vs)(Q:f.fit v=true)(D:dY f.k v=n){l:aQ}{G:aD->Raw->Int×Raw}(O:∀x∈l,dV c (G x) x)
  (o:dB f.k f.w (dh f.cs) 0 (vs++[v])=dB f.k f.w (dh f.cs) 0 vs++l) {s:Raw->Nat} (P:∀e,(∃C,e=m.eZ 0 (c.st C)/\C=dB f.k f.w (dh f.cs) 0 vs++l)->s e=v.bw) (h:(cQ (fc (l.map λx=>dc 0 (G x)) m) λe=>fj (s e) e).1=0):
  f.can (vs++[v])/\(cQ (fc (l.map λx=>dc 0 (G x)) m) λe=>fj (s e) e).2=f.st (vs++[v]):=by
 have p:f.cs[0]? =some c:=by rw[a];rfl
 obtain⟨U,u,T⟩:=jP h;have g:0<m.kids.length:=by rw[R.len,a];simp
 obtain⟨H,z⟩:=Hz O g (R.aN p) (fh p E) U;rw[T];have y:=P _ ⟨_,z,rfl⟩;rw[y]at u ⊢;rw[z]at u ⊢;obtain⟨q,F⟩:=pT u;rw[mY,R.b]at q;have q:=q;refine⟨sR E Q R.lt q ag ag λj d t=>?_,?_⟩
 ·grind
 ·rw[F];refine sC ?_ (by rw[jO,uX,R.len]) λj d t=>?_
  ·rw[gm,mY,R.b];obtain⟨A,K,J,I⟩:=mG vs;obtain⟨B,N,M,L⟩:=mG (vs++[v]);have r:fE f.k=false:=by rw[S];rfl
   refine sS (sE f.k vs v n) (sF D) (qC D) ?_ ((A r).1.trans (B r).1.symm) ((A r).2.trans (B r).2.symm) ((K ag).trans (N ag).symm) ((J ag).trans (M ag).symm) ((I ag).trans (L ag).symm)
   show bJ vs+v.bw=bJ (vs++[v])
   rw[lJ]
  grind[A5,iQ,lC]
theorem IL(a:f.cs=[c]){vs:aQ}{v:aD}{n:Bool}{d i:Raw}(R:ji f vs v n d){kv h:aQ}(j:i=d.eZ 0 (c.st kv))(e:kv=dB f.k f.w (dh f.cs) 0 vs++h):dZ i 0-dZ d 0=bJ h:=by
 have g:f.cs[0]? =some c:=by rw[a];rfl
 have b:0<d.kids.length:=by rw[R.len,a];simp
 subst j e;unfold dZ;rw[lC b,R.aN g,pY,pY,oV];omega
theorem akq(C:bE f)(a:f.cs=[c])(d:f.k=16)(z:∀x,c.fit x=true->dV c (λr=>c.tk r x) x)(y:dV c c.zk c.cm){v:aD}(g:f.fit v=true):dV f (λr=>f.tk r v) v:=by
  intro vs n h;dsimp only at h ⊢;rw[kD]at h ⊢;unfold iD at h ⊢;rw[aA,aA,aA,aI d]at h ⊢;obtain⟨t,e,s⟩:=jP h;have R:=ji.of (v:=v) t;rw[s];have hT:(f.cs.map ak.tk).getD 0 om=c.tk:=by rw[a];rfl
  have q:(f.cs.map ak.zk).getD 0 od=c.zk:=by rw[a];rfl
  have hN:(dh f.cs).getD 0 v0=c.cm:=by rw[a];rfl
  rw[hT,q]at e ⊢;have i:dY f.k v=v.au:=sH ag ag ag;cases b:v.au with
  | true=>
    simp only[b,fY]at e ⊢;rw[b]at R i;have l:v=v0:=by rw[eG]at g;exact(ku g b).1
    rw[Nc f.w.toNat c.cm]at e ⊢;exact aa8 a d R n g i (λx j=>by simp_all) (by rw[d,Bz,Bz,hN];simp[b]) (λ_ _=>by rw[l];rfl) e
  | false=>
    simp only[b,lH,kF]at e ⊢;rw[b]at R i;obtain⟨o,hl,p⟩:=Oc a d g b;refine aa8 a d R n g i (λx j=>z x (p x j)) (by rw[d,Bz,Bz,hN];simp[b]) (λA m=>?_) e
    grind[IL,gS]
theorem sum_add(g h:Nat->Nat):∀n,((List.range n).map λi=>g i+h i).sum=((List.range n).map g).sum+((List.range n).map h).sum
  |0=>rfl
  | n+1=>by
    rw[uu,kY,kY,kY,Jr,Jr,Jr,sum_add g h n];simp;omega
theorem MU{g h:Nat->Nat}{n:Nat}(e:∀i,i<n->g i=h i):((List.range n).map g).sum=((List.range n).map h).sum:=by
 grind[List.map_congr_left]
theorem Hw{α:Type}(g:α->Nat)(d:α):∀l:List α,((List.range l.length).map λi=>g (l.getD i d)).sum=(l.map g).sum
  |[]=>rfl
  | a::l=>by
    rw[iq,List.range_succ_eq_map,qQ,Pn,YJ,qQ,YJ]
    congr 1
    rw[<-Hw g d l];rfl
theorem pV(r:Raw):total r=((List.range r.kids.length).map λi=>(r.aN i).b.bF).sum:=by
 unfold total Raw.aN;rw[Hw (λc:Raw=>c.b.bF)]
theorem aaW(Q:f.k=17){vs:aQ}{v:aD}{n:Bool}{l:Raw}(R:ji f vs v n l)(E:f.can vs)(P:f.fit v=true)(D:dY f.k v=n){x:Nat->aD}{G:Nat->Raw->Int×Raw}(N:∀i c,f.cs[i]? =some c->dV c (G i) (x i))
  (o:∀i,i<f.cs.length->dB f.k f.w (dh f.cs) i (vs++[v])=dB f.k f.w (dh f.cs) i vs++[x i]) {s:Raw->Nat} (O:∀e,(total e-total l=((List.range f.cs.length).map λi=>(x i).bw).sum)->s e=v.bw) (h:(cQ (fc ((List.range f.cs.length).map λi=>dc i (G i)) l) λe=>fj (s e) e).1=0):
  f.can (vs++[v])/\(cQ (fc ((List.range f.cs.length).map λi=>dc i (G i)) l) λe=>fj (s e) e).2=f.st (vs++[v]):=by
 obtain⟨V,t,U⟩:=jP h;obtain⟨z,y,u⟩:=Ew R.len (λi c a=>⟨R.aN a,fh a E⟩) N f.cs.length (cr _) V;rw[U];generalize(fc ((List.range f.cs.length).map λi=>dc i (G i)) l).2=e at t z y u;have g:∀(i:Nat)c,f.cs[i]? =some c->e.aN i=c.st (dB f.k f.w (dh f.cs) i vs++[x i]):=bZ
 have T:total e-total l=((List.range f.cs.length).map λi=>(x i).bw).sum:=by
  rw[pV,pV,y,R.len];have W:((List.range f.cs.length).map λi=>(e.aN i).b.bF).sum=((List.range f.cs.length).map λi=>(l.aN i).b.bF+(x i).bw).sum:=MU λi S=>by
   have a:f.cs[i]? =some f.cs[i]:=aC;rw[g i _ a,R.aN a,pY,pY,lJ]
  rw[W,sum_add];omega
 have A:=O e T;rw[A]at t ⊢;obtain⟨q,F⟩:=pT t;rw[z,R.b]at q;have q:=q;refine⟨sR E P R.lt q ag ag λj d m=>?_,?_⟩
 ·grind
 ·rw[F];refine sC ?_ (by rw[jO,y]) λj d m=>?_
  ·rw[gm,z,R.b];obtain⟨B,J,I,H⟩:=mG vs;obtain⟨C,M,L,K⟩:=mG (vs++[v]);have r:fE f.k=false:=by rw[Q];rfl
   refine sS (sE f.k vs v n) (sF D) (qC D) ?_ ((B r).1.trans (C r).1.symm) ((B r).2.trans (C r).2.symm) ((J ag).trans (M ag).symm) ((I ag).trans (L ag).symm) ((H ag).trans (K ag).symm)
   show bJ vs+v.bw=bJ (vs++[v])
   rw[lJ]
  grind[iQ,List.getElem?_eq_some_iff]
theorem lO{α:Type}{cs:cN}{g:ak->α}{d:α}(h:cs[i]? =some c):(cs.map g).getD i d=g c:=by
 simp[*]
theorem ako(y:bE f)(d:f.k=17)(u:∀c∈f.cs,∀x,c.fit x=true->dV c (λr=>c.tk r x) x)(t:∀c∈f.cs,dV c c.zk c.cm){v:aD}(e:f.fit v=true):dV f (λr=>f.tk r v) v:=by
  intro vs o h;dsimp only at h ⊢;rw[kD]at h ⊢;unfold iD at h ⊢;rw[aA,aA,aA,aA,aI d]at h ⊢;obtain⟨s,g,q⟩:=jP h;have R:=ji.of (v:=v) s;rw[q];rw[cC]at g ⊢;have j:dY f.k v=v.au:=sH ag ag ag;cases b:v.au with
  | true=>
    simp only[b,fY]at g ⊢;rw[b]at R j;have m:v=v0:=by rw[eG]at e;exact(ku e b).1
    refine aaW d R o e j (x:=λi=>(dh f.cs).getD i v0) (λi c a=>?_) (λi l=>by rw[d,En,En];simp[b]) (λ_ _=>by rw[m];rfl) g
    rw[lO a,dh,lO a];grind
  | false=>
    simp only[b,lH,kF]at g ⊢;rw[b]at R j;obtain⟨p,hl,l⟩:=Ea d e b;refine aaW d R o e j (x:=λi=>v.items.getD i v0) (λi c a=>?_) (λi l=>by rw[d,En,En];simp[b]) (λw n=>?_) g
    ·rw[lO a];grind
    ·rw[n,<-hl,Hw aD.bw v0,Wv,gS,p];rfl
theorem ayj{α:Type}{l m:List α}{d:α}(h:i<l.length):(l++m).getD i d=l.getD i d:=by
 grind
theorem ark{α:Type}{l:List α}{d a:α}:(l++[a]).getD l.length d=a:=by
 simp
theorem ao9(z:f.k=18){vs:aQ}{v x:aD}{a:Nat}{g:Raw->Int×Raw}(m:fG v=a)(t:v.items=[x])(P:v.text=[])(n:f.cs[a]? =some c)(S:dV c g x)(C:f.can vs)(O:f.fit v=true)
  (h:(sL a g (f.st vs)).1=0):f.can (vs++[v])/\(sL a g (f.st vs)).2=f.st (vs++[v]):=by
 unfold sL at h ⊢;obtain⟨X,W,V⟩:=jP h;have R:=ji.of (v:=v) X;rw[V];obtain⟨I,A,U⟩:=jP W;rw[U];generalize(eN false (f.st vs)).2=p at R I A;have u:a<p.kids.length:=by rw[R.len];exact(dy.1 n).1
 obtain⟨L,K⟩:=vk S (by rw[iQ];exact R.aN n) (fh n C) I
 rw[K]at A ⊢;have o:a<(p.up λb=>{b with all:=b.all++[UInt8.ofNat a],ends:=b.ends++[(p.aN a).b.rows]}).kids.length:=by rw[jO];exact u
 have T:dZ ((p.up λb=>{b with all:=b.all++[UInt8.ofNat a],ends:=b.ends++[(p.aN a).b.rows]}).eZ a (c.st (dB f.k f.w (dh f.cs) a vs++[x]))) a-dZ p a=x.bw:=by
  unfold dZ;rw[lC o,R.aN n,pY,pY,lJ];omega
 rw[T]at A ⊢;obtain⟨B,J⟩:=pT A;rw[mY,gm,R.b]at B;have B:bJ vs+(16+x.bw)<=4194304:=B;have D:v.bw=16+x.bw:=by rw[gS,P,t];simp[bJ]
 have F:dY f.k v=false:=by unfold dY;grind
 have l:∀j,dB f.k f.w (dh f.cs) j (vs++[v])=if j=a then dB f.k f.w (dh f.cs) j vs++[x]else dB f.k f.w (dh f.cs) j vs:=by
  intro j;rw[z,Em,Em];simp only[List.filter_append,kY];split
  ·grind
  ·grind
 refine⟨sR C O R.lt ag ag ag λj d s=>?_,?_⟩
 ·grind[ak.X0]
 ·rw[J];refine sC ?_ (by rw[jO,uX,jO,R.len]) λj d s=>?_
  ·rw[gm,mY,gm,R.b];obtain⟨G,Z,Y,M⟩:=mG vs;obtain⟨H,m2,m3,N⟩:=mG (vs++[v]);have y:fE f.k=false:=by rw[z];rfl
   refine sS (sE f.k vs v false) (sF F) (qC F) ?_ ((G y).1.trans (H y).1.symm) ((G y).2.trans (H y).2.symm) ?_ ?_ ((M ag).trans (N ag).symm)
   ·show bJ vs+(16+x.bw)=bJ (vs++[v])
    rw[lJ,D]
   ·show(aM f.k vs).ends++[(p.aN a).b.rows]=(aM f.k (vs++[v])).ends
    rw[R.aN n,AL,z,Em];simp only[aM];simp only[show¬((18:Int)=12\/(18:Int)=13) by omega,show¬((18:Int)=15) by omega,kF,fY]
    rw[ij,jy,uu,kY]
    congr 1
    ·grind[List.map_congr_left]
    ·simp[ark,m]
   ·show(aM f.k vs).all++[UInt8.ofNat a]=(aM f.k (vs++[v])).all
    rw[z];simp[aM,m]
  ·rw[iQ]
   by_cases e:j=a
   ·simp_all[lC,aI]
   ·rw[AM (λq=>e q.symm),iQ,R.aN s,l,aE e]
theorem akv(i:bE f)(b:f.k=18)(o:∀c∈f.cs,∀x,c.fit x=true->dV c (λr=>c.tk r x) x){v:aD}(d:f.fit v=true):dV f (λr=>f.tk r v) v:=by
 intro vs m h;dsimp only at h ⊢;rw[kD]at h ⊢;unfold iD at h ⊢;rw[aA,aA,aA,aA,aA,aI b]at h ⊢;have hl:f.lets=false:=by rw[sJ f i];exact i.right.2.1.2.1 b
 obtain⟨_,l,_,c,x,a,g,j⟩:=Of b hl d;have e:v.num.toNat=fG v:=rfl;have n:(f.cs.map ak.tk).getD (fG v) om=c.tk:=lO a;rw[e,n,g]at h ⊢;exact ao9 b rfl g l a (o c (bS a) x j) m d h
theorem DB:∀{l:aQ}{i:Nat},gf v l=some i->l[i]? =some v/\∀j,j<i->l[j]? ≠some v
  |[],i,h=>by simp[gf]at h
  | x::f,i,h=>by
    unfold gf at h;split at h
    ·grind
    · rename_i e
      rw[uD]at h;obtain⟨k,a,rfl⟩:=h;obtain⟨d,c⟩:=DB a;grind
theorem vh:∀{l:aQ},gf v l=none↔v∉l
  |[]=>by simp[gf]
  | x::a=>by
    unfold gf;split
    ·simp[*]
    · rename_i e
      rw[Option.map_eq_none_iff,vh];grind
theorem UN{m:aQ}:∀{l:aQ}{i:Nat},gf v l=some i->gf v (l++m)=some i
  |[],i,h=>by simp[gf]at h
  | x::b,i,h=>by
    unfold gf at h;simp only[uw];unfold gf;split
    ·grind
    · rename_i e
      rw[aE e,uD]at h;obtain⟨k,a,rfl⟩:=h;rw[UN a];rfl
theorem UM:∀{l:aQ},gf v l=none->gf v (l++[v])=some l.length
  |[],_=>by simp[gf]
  | x::a,h=>by
    unfold gf at h;split at h
    ·cases h
    · rename_i e
      rw[Option.map_eq_none_iff]at h;simp only[uw];unfold gf;rw[aE e,UM h];rfl
theorem asH{l:aQ}{Y:aD}(h:Y∈l):Y∈qK l v:=by
 unfold qK;grind
theorem asG{l:aQ}(h:v.au=false):v∈qK l v:=by
 unfold qK;rw[aE (by simp[h])]
 split
 ·rename_i i a;exact bS (DB a).1
 ·simp
theorem NF:∀(n:Nat)(vs:aQ),vs.length=n->∀u∈vs,u.au=false->u∈dR vs
  | 0,vs,b,u,d,_=>by
    grind
  | n+1,vs,b,u,d,h=>by
    have a:vs≠[]:=by intro e;subst e;simp at b
    obtain⟨c,w,rfl⟩:∃c w,vs=c++[w]:=⟨vs.dropLast,vs.getLast a,(zO a).symm⟩;rw[xA];rcases ni.1 d with q|q
    ·exact asH (NF n c bZ u q h)
    grind[asG]
theorem AR:∀(n:Nat)(vs:aQ),vs.length=n->(cR vs).2.getLastD 0=vs.length/\(cR vs).1.length=(cR vs).2.length
  | 0,vs,c=>by
    have:vs=[]:=vR c;subst this;exact⟨rfl,rfl⟩
  | n+1,vs,c=>by
    have b:vs≠[]:=by intro e;subst e;simp at c
    obtain⟨a,w,rfl⟩:∃a w,vs=a++[w]:=⟨vs.dropLast,vs.getLast b,(zO b).symm⟩;obtain⟨f,d⟩:=AR n a (by simp at c;omega)
    grind[AQ,wU,List.eq_nil_of_length_eq_zero,List.length_pos_iff,List.getLastD_concat,List.length_append,List.length_dropLast,List.length_singleton]
theorem Od(b:f.cs=[c])(e:f.k=19\/f.k=20){v:aD}(a:f.fit v=true)(d:v.au=false):c.fit v=true:=by
 rw[eG]at a;simp_all[fm]
theorem aku(hf:bE f)(n:f.cs=[c])(B:f.k=19)(IH:∀x,c.fit x=true->dV c (λr=>c.tk r x) x){v:aD}(G:f.fit v=true):dV f (λr=>f.tk r v) v:=by
  intro vs C h;dsimp only at h ⊢;have I:f.cs[0]? =some c:=by rw[n];rfl
  have J:=(gh f vs).1 C;rw[kD]at h ⊢;unfold iD at h ⊢;rw[aA,aA,aA,aA,aA,aA,aI B]at h ⊢;obtain⟨h1,q,h3⟩:=jP h;have R:=ji.of (v:=v) h1;rw[h3];have hT:(f.cs.map ak.tk).getD 0 om=c.tk:=by rw[n];rfl
  rw[hT]at q ⊢;have A:dY f.k v=v.au:=sH ag ag ag;generalize(eN v.au (f.st vs)).2=T at R q;have L:0<T.kids.length:=by rw[R.len,n];simp
  have D:T.b.aH=dR vs:=by rw[R.b];show(aM f.k vs).aH=_;simp[aM,B]
  obtain⟨E,n2,M,n4⟩:=mG vs;obtain⟨F,m2,N,m4⟩:=mG (k:=f.k) (vs++[v]);have p:fE f.k=false:=by rw[B];rfl
  have cont:∀j o,dB f.k f.w (dh f.cs) j o=dR o:=λj o=>by rw[B,By]
  have y:∀o,(aM f.k o).ends=o.map λu=>if u.au then 0 else(gf u (dR o)).getD 0:=λo=>by rw[B];simp[aM]
  have a:∀o,(aM f.k o).aH=dR o:=λo=>by simp[aM,B]
  have O:∀u∈vs,(if u.au then 0 else(gf u (dR (vs++[v]))).getD 0)=if u.au then 0 else(gf u (dR vs)).getD 0:=by
    intro u X;cases S:u.au with
    |true=>rfl
    | false=>
      simp only[lH,kF];cases s:gf u (dR vs)with
      |none=>simp_all[NF,vh]
      | some i=>
        grind[xA,qK,UN]
  have g:(aM f.k (vs++[v])).ends=(aM f.k vs).ends++[if v.au then 0 else(gf v (dR (vs++[v]))).getD 0]:=by
    rw[y,y,kY,Js]
    congr 1
    exact BY O
  cases z:v.au with
  | true=>
    rw[z]at R A g;simp only[z,fY]at q ⊢;obtain⟨m,H⟩:=pT q;rw[gm,R.b]at m;have m:bJ vs+16<=4194304:=m;have Q:v=v0:=by rw[eG]at G;exact(ku G z).1
    have P:v.bw=16:=by rw[Q];rfl
    have l:dR (vs++[v])=dR vs:=by rw[xA];unfold qK;rw[aI z]
    refine⟨sR C G R.lt ag ag (λe=>by rw[l];exact J.ds e) λj d t=>by rw[cont,l,<-cont];exact fh t C,?_⟩
    rw[H];refine sC ?_ (by rw[jO,jO,R.len]) λj d t=>by rw[iQ,iQ,R.aN t,cont,cont,l]
    rw[gm,gm,R.b];refine sS (sE f.k vs v true) (sF A) (qC A) ?_ ((E p).1.trans (F p).1.symm) ((E p).2.trans (F p).2.symm) ?_ ((M ag).trans (N ag).symm) ?_
    · show bJ vs+16=bJ (vs++[v])
      rw[lJ,P]
    · show(aM f.k vs).ends++[0]=(aM f.k (vs++[v])).ends
      rw[g];rfl
    · show(aM f.k vs).aH=(aM f.k (vs++[v])).aH
      rw[a,a,l]
  | false =>
    rw[z]at R A g;simp only[z,lH,kF]at q g ⊢;rw[D]at q ⊢;cases s:gf v (dR vs)with
    | some i=>
      simp only[s]at q ⊢;obtain⟨m,H⟩:=pT q;rw[gm,R.b]at m;have m:=m;have l:dR (vs++[v])=dR vs:=by rw[xA];unfold qK;rw[aE (by simp[z]),s]
      refine⟨sR C G R.lt m ag (λe=>by rw[l];exact J.ds e) λj d t=>by rw[cont,l,<-cont];exact fh t C,?_⟩
      rw[H];refine sC ?_ (by rw[jO,jO,R.len]) λj d t=>by rw[iQ,iQ,R.aN t,cont,cont,l]
      rw[gm,gm,R.b];refine sS (sE f.k vs v false) (sF A) (qC A) ?_ ((E p).1.trans (F p).1.symm) ((E p).2.trans (F p).2.symm) ?_ ((M ag).trans (N ag).symm) ?_
      · show bJ vs+v.bw=bJ (vs++[v])
        rw[lJ]
      · show(aM f.k vs).ends++[i]=(aM f.k (vs++[v])).ends
        rw[g,l,s];rfl
      · show(aM f.k vs).aH=(aM f.k (vs++[v])).aH
        rw[a,a,l]
    | none=>
      simp only[s]at q ⊢;split at q
      ·simp at q
      rename_i K
      rw[aE K];obtain⟨Z,U,Y⟩:=jP q;rw[Y];obtain⟨W,V⟩:=vk (IH v (Od n (.inl B) G z)) (R.aN I) (fh I C) Z;rw[V]at U ⊢;obtain⟨m,H⟩:=pT U;rw[gm,mY,R.b]at m;have m:=m;have l:dR (vs++[v])=dR vs++[v]:=by rw[xA];unfold qK;rw[aE (by simp[z]),s]
      refine⟨sR C G R.lt m ag (λ_=>by rw[l];simp;omega) λj d t=>?_,?_⟩
      ·obtain⟨rfl,rfl⟩:=A5 n t;rw[cont,l,<-cont 0];exact W
      rw[H];refine sC ?_ (by rw[jO,jO,uX,R.len]) λj d t=>?_
      · rw[gm,gm,mY,R.b];refine sS (sE f.k vs v false) (sF A) (qC A) ?_ ((E p).1.trans (F p).1.symm) ((E p).2.trans (F p).2.symm) ?_ ((M ag).trans (N ag).symm) ?_
        · show bJ vs+v.bw=bJ (vs++[v])
          rw[lJ]
        · show(aM f.k vs).ends++[(aM f.k vs).aH.length]=(aM f.k (vs++[v])).ends
          rw[g,l,UM s,a];rfl
        · show(aM f.k vs).aH++[v]=(aM f.k (vs++[v])).aH
          rw[a,a,l]
      ·obtain⟨rfl,rfl⟩:=A5 n t;rw[iQ,iQ,lC L,cont 0 (vs++[v]),l,<-cont 0]
theorem akr(I:bE f)(l:f.cs=[c])(q:f.k=20)(Z:∀x,c.fit x=true->dV c (λr=>c.tk r x) x){v:aD}(F:f.fit v=true):dV f (λr=>f.tk r v) v:=by
  intro vs G h;dsimp only at h ⊢;have u:f.cs[0]? =some c:=by rw[l];rfl
  rw[kD]at h ⊢;unfold iD at h ⊢;rw[aA,aA,aA,aA,aA,aA,aA,aI q]at h ⊢;obtain⟨X,t,W⟩:=jP h;have R:=ji.of (v:=v) X;rw[W];have hT:(f.cs.map ak.tk).getD 0 om=c.tk:=by rw[l];rfl
  rw[hT]at t ⊢;have C:dY f.k v=false:=by unfold dY;rw[aA,dU]
  generalize(eN false (f.st vs)).2=L at R t;have B:0<L.kids.length:=by rw[R.len,l];simp
  have Y:c.fit v=true:=by
    cases O:v.au with
    |false=>exact Od l (.inr q) F O
    | true=>
      have z:=F;rw[eG]at z;obtain⟨rfl,hl⟩:=ku z O;have K:c.lets=true:=by
        rw[sJ f I]at hl;obtain⟨d,P,J⟩:=I.right.2.1.2.2 q;rw[u]at P;cases P;rw[sJ c (I.aN (by rw[l];simp)),<-J];exact hl
      rw[eG,K];exact aen
  have y:L.b.aH=(cR vs).1:=by rw[R.b];show(aM f.k vs).aH=_;simp[aM,q]
  obtain⟨D,n2,M,n4⟩:=mG vs;obtain⟨E,m2,N,m4⟩:=mG (vs++[v]);have p:fE f.k=false:=by rw[q];rfl
  have cont:∀j m,dB f.k f.w (dh f.cs) j m=(cR m).1:=λj m=>by rw[q,El]
  have g:∀m,(aM f.k m).ends=(cR m).2:=λm=>by rw[q];simp[aM]
  have a:∀m,(aM f.k m).aH=(cR m).1:=λm=>by simp[aM,q]
  have A:=(AR _ vs rfl).1;rw[y]at t⊢
  by_cases e:(cR vs).1.getLast? =some v
  · simp only[e,fY]at t ⊢;obtain⟨n,H⟩:=pT t;rw[gm,R.b]at n;have n:=n;have o:cR (vs++[v])=((cR vs).1,(cR vs).2.dropLast++[(cR vs).2.getLastD 0+1]):=by rw[AQ];unfold wU;rw[aI e]
    refine⟨sR G F R.lt n ag ag λj d s=>by rw[cont,o,<-cont j vs];exact fh s G,?_⟩
    rw[H];refine sC ?_ (by rw[jO,jO,R.len]) λj d s=>by rw[iQ,iQ,R.aN s,cont,cont,o]
    rw[gm,gm,R.b];refine sS (sE f.k vs v false) (sF C) (qC C) ?_ ((D p).1.trans (E p).1.symm) ((D p).2.trans (E p).2.symm) ?_ ((M ag).trans (N ag).symm) ?_
    · show bJ vs+v.bw=bJ (vs++[v])
      rw[lJ]
    · show(aM f.k vs).ends.dropLast++[(aM f.k vs).rows+1]=(aM f.k (vs++[v])).ends
      rw[g,g,o,A];rfl
    · show(aM f.k vs).aH=(aM f.k (vs++[v])).aH
      rw[a,a,o]
  · simp only[e,kF]at t ⊢;obtain⟨V,Q,U⟩:=jP t;rw[U];obtain⟨T,S⟩:=vk (Z v Y) (R.aN u) (fh u G) V;rw[S]at Q ⊢;obtain⟨n,H⟩:=pT Q;rw[gm,mY,R.b]at n;have n:=n;have o:cR (vs++[v])=((cR vs).1++[v],(cR vs).2++[(cR vs).2.getLastD 0+1]):=by rw[AQ];unfold wU;rw[aE e]
    refine⟨sR G F R.lt n ag ag λj d s=>?_,?_⟩
    ·grind[A5]
    rw[H];refine sC ?_ (by rw[jO,jO,uX,R.len]) λj d s=>?_
    · rw[gm,gm,mY,R.b];refine sS (sE f.k vs v false) (sF C) (qC C) ?_ ((D p).1.trans (E p).1.symm) ((D p).2.trans (E p).2.symm) ?_ ((M ag).trans (N ag).symm) ?_
      · show bJ vs+v.bw=bJ (vs++[v])
        rw[lJ]
      · show(aM f.k vs).ends++[(aM f.k vs).rows+1]=(aM f.k (vs++[v])).ends
        rw[g,g,o,A];rfl
      · show(aM f.k vs).aH++[v]=(aM f.k (vs++[v])).aH
        rw[a,a,o]
    grind[A5,iQ,lC]
def uG(c:ak):Prop:=∀vs,c.can vs->(c.zk (c.st vs)).1=0->c.small=true
theorem Dk(f:ak):f.small=true↔f.wz<=4194304:=by simp[ak.small]
theorem Ue(b:bE f)(c:¬(16<=f.k/\f.k<=20)):f.small=true:=by
 rw[Dk,zM];unfold yN;split
 ·omega
 ·have a:=b.right.1.2.2.1;grind
theorem air(a:¬f.small=true):f.lets=false:=by
  cases hl:f.lets with
  |false=>rfl
  | true=>
    exfalso;apply a
    rw[Dk,zM,yN,hl];simp
theorem ahJ(H:bE f)(J:∀c∈f.cs,dV c c.zk c.cm/\uG c):uG f:=by
  intro vs u h;apply yj;intro O;have hk:=yj λq=>O (Ue H q);have j:4194304<f.wz:=by rw[Dk]at O;omega
  rw[zM,yN,(air O)]at j;rw[rX]at h;unfold nE at h;rw[aE (by simp[O,hk])]at h
  simp only[lH,kF]at j;rw[aA]at j
  by_cases A:f.k=16
  · obtain⟨c,o,D⟩:=H.one ag;have s4:=H.right.1.2.2.2.1 A;have d:f.cs[0]? =some c:=by rw[o];rfl
    obtain⟨T,B⟩:=J c (by rw[o];simp)
    rw[aI A]at h j;have hZ:(f.cs.map ak.zk).getD 0 od=c.zk:=by rw[o];rfl
    have hW:(f.cs.map ak.wz).getD 0 0=c.wz:=by rw[o];rfl
    rw[hZ]at h;rw[hW]at j;obtain⟨y,p,P⟩:=jP h;have R:=ji.of (v:=v0) y;obtain⟨n,l,h6⟩:=jP p;have s:0<(eN false (f.st vs)).2.kids.length:=by rw[R.len,o];simp
    have hw:f.w.toNat=(f.w.toNat-1)+1:=ag;have C:c.small=true:=by
      rw[hw,Ju,fc]at n;obtain⟨V,_,_⟩:=jP n;unfold dc at V;rw[R.aN d]at V;exact B _ (fh d u) V
    rw[Nc f.w.toNat c.cm]at n l;obtain⟨q1,S⟩:=Hz (λx hx=>by grind) s (R.aN d) (fh d u) n
    obtain⟨_,_,W,_⟩:=sD D C;rw[IL o R S rfl,aaj,W]at l;obtain⟨Y,_⟩:=pT l;omega
  rw[aE A]at h j
  by_cases L:f.k=17
  · rw[aI L]at h j;obtain⟨y,p,P⟩:=jP h;have R:=ji.of (v:=v0) y;obtain⟨n,l,h6⟩:=jP p;rw[cC]at n l;have N:∀m,m<=f.cs.length->(fc ((List.range m).map λi=>dc i ((f.cs.map ak.zk).getD i od)) (eN false (f.st vs)).2).1=0->∀i c,i<m->f.cs[i]? =some c->c.small=true:=by
      intro m
      induction m with
      |zero=>omega
      | succ m ih=>
        intro hm hh i c t r;rw[uu,kY,Js,M8]at hh;obtain⟨g1,I,g3⟩:=jP hh
        by_cases e:i<m
        ·exact ih ag g1 i c e r
        · obtain rfl:i=m:=ag;have E:∀i c,f.cs[i]? =some c->dV c ((f.cs.map ak.zk).getD i od) (c.cm):=by grind[lO,List.mem_of_getElem?]
          obtain⟨_,_,Q⟩:=Ew (x:=λi=>(dh f.cs).getD i v0) R.len (λi c a=>⟨R.aN a,fh a u⟩) (λi c a=>by rw[dh,lO (g:=ak.cm) a];exact E i c a) i ag g1
          have:=(Q i c r).2;rw[aA]at this;unfold dc at I;dsimp only at this I;rw[lO r]at I
          erw[this]at I
          exact(J c (bS r)).2 _ (fh r u) I
    obtain⟨a1,a2,Q⟩:=Ew (x:=λi=>(dh f.cs).getD i v0) R.len (λi c a=>⟨R.aN a,fh a u⟩) (λi c a=>by rw[dh,lO a,lO a];grind[List.mem_of_getElem?]) f.cs.length (cr _) n
    generalize(fc ((List.range f.cs.length).map λi=>dc i ((f.cs.map ak.zk).getD i od)) (eN false (f.st vs)).2).2=Z at l a1 a2 Q;have U:total Z-total (eN false (f.st vs)).2=((List.range f.cs.length).map λi=>((dh f.cs).getD i v0).bw).sum:=by
      rw[pV,pV,a2,R.len];have e2:((List.range f.cs.length).map λi=>(Z.aN i).b.bF).sum=((List.range f.cs.length).map λi=>((eN false (f.st vs)).2.aN i).b.bF+((dh f.cs).getD i v0).bw).sum:=MU λi t=>by
        have a:=bL t;have:=(Q i _ a).2;rw[aI t]at this;rw[this,R.aN a,pY,pY,lJ]
      rw[e2,sum_add];omega
    have X:((List.range f.cs.length).map λi=>((dh f.cs).getD i v0).bw).sum=(f.cs.map ak.wz).sum:=by
      rw[<-Hw ak.wz (.mk (bs []) false 0 0 0 0 []) f.cs];refine MU λi t=>?_;have a:=bL t;rw[dh,lO a,(sD (H.aN (kE t)) ((N f.cs.length (cr _) n) i _ t a)).2.2.1,gB,a];rfl
    rw[U,X]at l;obtain⟨Y,_⟩:=pT l;omega
  rw[aE L]at h j
  by_cases z:f.k=18
  · rw[aI z]at h j;have a':=H.right.1.2.2.2.2.2.2.2.2.2.1 z;have d:f.cs[0]? =some f.cs[0]:=bL ag;generalize f.cs[0]=c at d;have D:=H.aN (bS d);obtain⟨T,B⟩:=J c (bS d);rw[lO d]at h j;unfold sL at h;obtain⟨y,p,P⟩:=jP h;have R:=ji.of (v:=v0) y;obtain⟨n,l,h6⟩:=jP p;generalize(eN false (f.st vs)).2=F at R n l;have s:0<F.kids.length:=by rw[R.len];omega
    have M:(F.up λb=>{b with all:=b.all++[UInt8.ofNat 0],ends:=b.ends++[(F.aN 0).b.rows]}).aN 0=c.st (dB f.k f.w (dh f.cs) 0 vs):=by rw[iQ];exact R.aN d
    obtain⟨q1,S⟩:=vk T M (fh d u) n;have C:c.small=true:=by
      unfold dc at n;rw[M]at n;exact B _ (fh d u) n
    rw[S]at l;have U:dZ ((F.up λb=>{b with all:=b.all++[UInt8.ofNat 0],ends:=b.ends++[(F.aN 0).b.rows]}).eZ 0 (c.st (dB f.k f.w (dh f.cs) 0 vs++[c.cm]))) 0-dZ F 0=c.cm.bw:=by
      unfold dZ;rw[lC (by rw[jO];exact s),R.aN d,pY,pY,lJ];omega
    rw[U,(sD D C).2.2.1]at l;obtain⟨Y,_⟩:=pT l;omega
  rw[aE z]at h
  by_cases K:f.k=19
  ·rw[aI K]at h;grind[jP]
  ·rw[aE K]at h;grind[jP]
theorem ahL(g:bE f)(d:uG f)(c:∀v,f.fit v=true->dV f (λr=>f.tk r v) v):dV f f.zk f.cm:=by
 intro vs b h;have a:=d vs b h;have e:f.zk=λr=>f.tk r f.cm:=by
  rw[rX];funext r;unfold nE;simp[*]
 rw[e]at h ⊢;exact c _ (sD g a).2.1 vs b h
theorem mE:∀f:ak,bE f->(∀v,f.fit v=true->dV f (λr=>f.tk r v) v)/\dV f f.zk f.cm/\uG f
  | .mk q au k w id ix cs,b=>by
    have d:∀c∈cs,(∀v,c.fit v=true->dV c (λr=>c.tk r v) v)/\dV c c.zk c.cm/\uG c:=λc e=>mE c (b.aN e);generalize s:ak.mk q au k w id ix cs=f at b;have d:∀c∈f.cs,(∀v,c.fit v=true->dV c (λr=>c.tk r v) v)/\dV c c.zk c.cm/\uG c:=by rw[<-s];exact d
    have p:∀v,f.fit v=true->dV f (λr=>f.tk r v) v:=by
      intro v g;have ks:=b.ks
      by_cases h:f.k=15
      ·obtain⟨c,a,_⟩:=b.one (.inl h);grind[aks]
      by_cases n:f.k=16
      ·obtain⟨c,a,_⟩:=b.one ag;grind[akq]
      by_cases m:f.k=17
      ·grind[ako]
      by_cases l:f.k=18
      ·grind[akv]
      by_cases j:f.k=19
      ·obtain⟨c,a,_⟩:=b.one ag;grind[aku]
      by_cases i:f.k=20
      ·obtain⟨c,a,_⟩:=b.one ag;grind[akr]
      exact aaY b ⟨h,n,m,l,j,i⟩ g
    grind[ahJ,ahL]
theorem apm{cs:cN}{r:Raw}(a:cs[j]? =some c):((List.range (cs.map ak.dn).length).map λi=>((cs.map ak.dn).getD i λ_=>uh) (r.aN i))[j]? =some (c.dn (r.aN j)):=by
 have b:=(dy.1 a).1;simp_all
theorem ast{ix:Int}{D:List (Raw->bH)}{r:Raw}:(mK k w ix D r).off=0:=by unfold mK;repeat' (first|rfl|split)
theorem asv{ix:Int}{D:List (Raw->bH)}{r:Raw}:(mK k w ix D r).len=r.b.rows:=by unfold mK;repeat' (first|rfl|split)
theorem asu{ix:Int}{D:List (Raw->bH)}{r:Raw}(h:k=20->r.b.cz=0):(mK k w ix D r).au=r.b.cz:=by
 unfold mK
 repeat' (first|rfl|(rename_i e;rw[h e];rfl)|split)
theorem zA(f:ak)(r:Raw):(f.dn r).off=0:=by rw[qO,ast]
theorem xz(f:ak)(vs:aQ):(f.dn (f.st vs)).len=vs.length:=by rw[qO,asv,AL]
theorem ayE{α:Type}(p:α->Bool)(l:List α):l.countP p<=l.length:=List.countP_le_length
theorem XM(f:ak)(vs:aQ):(f.dn (f.st vs)).au=vs.countP (dY f.k):=by
 have:(f.st vs).b.cz=vs.countP (dY f.k):=by rw[fC];rfl
 have nM:f.k=20->vs.countP (dY f.k)=0:=λe=>by
  rw[YH];intro v _;simp[dY,e]
 rw[qO,asu ag,this]
theorem arn{vs:aQ}(a:vs[i]? =some v):(vs.map λv=>!dY k v).getD i false=!dY k v:=by
 simp[*]
theorem Dd{vs:aQ}{aZ:ie}(a:mJ k=true)(f:dG aZ 0=dF (aM k vs)){i:Nat}{v:aD}(b:vs[i]? =some v):jB k aZ i=dY k v:=by
 have d:(k==1)=false:=by
  unfold mJ at a;cases h:k==1 with
  |false=>rfl
  |true=>grind
 unfold jB;rw[a,f,d];unfold dF;have g:=(dy.1 b).1;split
 ·rename_i c
  have:dY k v=false:=by
   have:=(YH.1 c) v (bS b)
   simpa using this
  simp[*]
 ·rename_i c
  have e:gG (aM k vs).bits i=!dY k v:=by
   show gG (qD _) i=_
   rw[ab9,arn b]
  have l:(aM k vs).bits.length≠0:=by
   show(qD _).length≠0
   rw[UU,cC];omega
  simp[*]
theorem N9{α:Type}(g:aD->List α):∀{vs:aQ}{i:Nat}{v:aD},vs[i]? =some v->((vs.flatMap g).drop ((vs.take i).map λu=>(g u).length).sum).take (g v).length=g v
  |[],i,v,h=>by simp at h
  | u::vs,0,v,h=>by
    grind
  | u::vs,i+1,v,h=>by
    simp only[BW]at h;have:=N9 g h;simp_all
theorem aeh{α:Type}(g:aD->List α){vs:aQ}{i j:Nat}{v:aD}(h:vs[i]? =some v)(a:j<(g v).length):(vs.flatMap g)[((vs.take i).map λu=>(g u).length).sum+j]? =(g v)[j]? :=by
 have:=N9 g h;grind
theorem Hv(g:aD->Nat){vs:aQ}{i:Nat}{v:aD}(h:vs[i]? =some v):((vs.take (i+1)).map g).sum=((vs.take i).map g).sum+g v:=by
 rw[Po,h];simp
theorem MO(g:aD->Nat)(vs:aQ)(i:Nat):((vs.take i).map g).sum<=(vs.map g).sum:=by
 grind[List.take_append_drop]
theorem Nf{α:Type}{l:List α}{n:Nat}{g:Nat->α}(c:l.length=n)(h:∀i a,l[i]? =some a->g i=a):(List.range n).map g=l:=by
 refine si λi=>?_;grind
theorem aaS{g:aD->Nat}{vs:aQ}(h:(vs.map g).sum<2^31){i:Nat}(a:i<=vs.length):i32 (laidB (jR g vs) 4) i=((vs.take i).map g).sum:=
 WO (TZ a) (by have:=MO g vs i;omega)
theorem aaQ{g:aD->Nat}{vs:aQ}(h:(vs.map g).sum<2^31){d:bH}(b:dG d.aZ 1=laidB (jR g vs) 4){i:Nat}(a:i<=vs.length):sG d i=((vs.take i).map g).sum:=by
 unfold sG;rw[b,aaS h a];rfl
theorem abf{w:Nat}(a:w=1\/w=2\/w=4\/w=8){n:Int}(c: -(2^(8*w-1))<=n)(b:n<2^(8*w-1)):sg w ((n%2^64).toNat%2^(8*w))=n:=by
 grind[sg]
theorem aiY{w:Nat}(a:w=1\/w=2\/w=4){n:Int}(c:0<=n)(b:n<2^(8*w)):sg 8 ((n%2^64).toNat%2^(8*w))=n:=by
 unfold sg;rcases a with rfl|rfl|rfl <;> omega <;> split <;> omega
theorem Da(h:3<=k/\k<=11):(dJ k).toNat=wB k/\(wB k=1\/wB k=2\/wB k=4\/wB k=8)/\(k=6\/k=10\/k=11↔wB k=8):=by
 have:k=3\/k=4\/k=5\/k=6\/k=7\/k=8\/k=9\/k=10\/k=11:=ag;rcases this with rfl|rfl|rfl|rfl|rfl|rfl|rfl|rfl|rfl <;> decide
theorem anO(f:3<=k/\k<=11){l:cV}{i:Nat}{n:Int}(g:l[i]? =some (n%2^64).toNat)(a:kV k n=true):zf k (laidB l (wB k)) i=n:=by
 obtain⟨e1,h,e⟩:=Da f;unfold zf;rw[e1,WN g];unfold kV at a;rw[e1]at a
 by_cases c:k=6\/k=10\/k=11
 ·rw[aI c]at a;have d:=e.1 c;rw[d];simp only[dr,dP]at a;have:=abf (w:=8) ag (n:=n) cy cy;omega
 ·rw[aE c]at a;have d:wB k≠8:=ag
  by_cases b:3<=k/\k<=5
  ·rw[aI b]at a;simp only[dr,dP]at a;rw[dU];exact abf h a.1 a.2
  ·rw[aE b]at a;simp only[dr,dP]at a;rw[aA];exact aiY ag a.1 a.2
noncomputable def hY(f:ak)(vs:aQ):List bH:=(List.range (f.cs.map ak.dn).length).map λi=>((f.cs.map ak.dn).getD i λ_=>uh) ((f.st vs).aN i)
theorem tY{vs:aQ}(a:f.cs[j]? =some c):(hY f vs)[j]? =some (c.dn (c.st (dB f.k f.w (dh f.cs) j vs))):=by
 grind[hY,apm,ak.aa1]
theorem DQ(f:ak)(vs:aQ):(hY f vs).length=f.cs.length:=by simp[hY]
section
variable {vs:aQ}
theorem I2(h:f.k=1):f.dn (f.st vs)=.mk vs.length 0 (aM f.k vs).cz [] [] []:=by
 rw[qO];unfold mK;rw[aI h,fC];rfl
theorem vD(h:f.k=12\/f.k=13):f.dn (f.st vs)=.mk vs.length 0 (aM f.k vs).cz [dF (aM f.k vs),laidB (aM f.k vs).ends 4,(aM f.k vs).all] [] []:=by
 rw[qO];unfold mK;rw[aA,aI h,fC];rfl
theorem I1(h:f.k=15):f.dn (f.st vs)=.mk vs.length 0 (aM f.k vs).cz [dF (aM f.k vs),laidB (aM f.k vs).ends 4] (hY f vs) []:=by
 rw[qO];unfold mK;rw[aA,aA,aI h,fC];rfl
theorem Bu(h:f.k=16\/f.k=17):f.dn (f.st vs)=.mk vs.length 0 (aM f.k vs).cz [dF (aM f.k vs)] (hY f vs) []:=by
 rw[qO];unfold mK;rw[aA,aA,aA,aI h,fC];rfl
theorem Oz(h:f.k=18):f.dn (f.st vs)=.mk vs.length 0 (aM f.k vs).cz [(aM f.k vs).all,laidB (aM f.k vs).ends 4] (hY f vs) []:=by
 rw[qO];unfold mK;rw[aA,aA,aA,aA,aI h,fC];rfl
theorem I0(h:f.k=19):f.dn (f.st vs)=.mk vs.length 0 (aM f.k vs).cz [dF (aM f.k vs),laidB (aM f.k vs).ends (wB f.ix)] [] (hY f vs):=by
 rw[qO];unfold mK;rw[aA,aA,aA,aA,aA,aI h,fC];rfl
theorem Oy(h:f.k=20):f.dn (f.st vs)=.mk vs.length 0 0 [] (.mk (aM f.k vs).ends.length 0 0 [[],laidB (aM f.k vs).ends 4] [] []::hY f vs) []:=by
 rw[qO];unfold mK;rw[aA,aA,aA,aA,aA,aA,aI h,fC];rfl
theorem Bt(h:f.k=2):f.dn (f.st vs)=.mk vs.length 0 (aM f.k vs).cz [dF (aM f.k vs),qM (aM f.k vs).dQ] [] []:=by
 rw[qO];unfold mK;rw[aA,aA,aA,aA,aA,aA,aA,aI h,fC];rfl
theorem Bv(h:f.k=14):f.dn (f.st vs)=.mk vs.length 0 (aM f.k vs).cz [dF (aM f.k vs),mb f.w.toNat (aM f.k vs).texts] [] []:=by
 rw[qO];unfold mK;rw[aA,aA,aA,aA,aA,aA,aA,aA,aI h,fC];rfl
theorem zB(h:3<=f.k/\f.k<=11):f.dn (f.st vs)=.mk vs.length 0 (aM f.k vs).cz [dF (aM f.k vs),laidB (aM f.k vs).dQ (wB f.k)] [] []:=by
 rw[qO];unfold mK;rw[aA,aA,aA,aA,aA,aA,aA,aA,aA,fC];rfl
end
abbrev nw(c:ak):Prop:=∀us,c.can us->∀(i:Nat)v,us[i]? =some v->c.val (c.dn (c.st us)) i=v
theorem BL(h:nw c){a:aQ}(d:c.can a){i:Nat}{v:aD}(b:a[i]? =some v):nQ c.val (c.dn (c.st a)) i=v:=by
 unfold nQ;rw[zA];simp[*]
theorem Ed(m:f.k≠1/\f.k≠15/\f.k≠16/\f.k≠17/\f.k≠18/\f.k≠19/\f.k≠20){v:aD}(a:f.fit v=true)(l:v.au=false):
  v.items=[]/\(f.k=12\/f.k=13\/f.k=14->v.num=0/\(f.k=12->iC v.text=true)/\(f.k=14->v.text.length=f.w.toNat))/\(¬(f.k=12\/f.k=13\/f.k=14)->v.text=[]/\(f.k=2->v.num=0\/v.num=1)/\(f.k≠2->(3<=f.k/\f.k<=11)/\kV f.k v.num=true)):=by
 rw[eG]at a;unfold fm at a;grind
theorem val_mk(v:aD):v=.mk v.au v.num v.text v.items:=by cases v;rfl
theorem atZ(b:bE f)(a:f.k=18){v:aD}(d:f.fit v=true):fG v<32/\fG v<f.cs.length:=by
 have hl:f.lets=false:=by rw[sJ f b];exact b.right.2.1.2.1 a
 obtain⟨_,_,_,c,_,e,_⟩:=Of a hl d;have g:=(dy.1 e).1;have h:=(b.right.1.2.2.2.2.2.2.2.2.2.1 a).2;omega
theorem ac2(R:bE f)(P:f.k≠15/\f.k≠16/\f.k≠17/\f.k≠18/\f.k≠19/\f.k≠20):nw f:=by
  intro vs T i v z;have I:=(gh f vs).1 T;have y:=I.fit v (bS z);have W:=(dy.1 z).1;obtain⟨r,p,m,g,l,d⟩:=P;have ks:=R.ks;rw[vL];unfold oW
  by_cases x:f.k=1
  · rw[I2 x,aI (by unfold jB;simp[x])]
    have h:v.au=true:=by
      cases h:v.au with
      |true=>rfl
      |false=>simp_all[eG,fm]
    rw[eG]at y;exact(ku y h).1.symm
  have K:dY f.k v=v.au:=sH x g d;have L:mJ f.k=true:=by unfold mJ;simp[x,g,d]
  have M:dG (f.dn (f.st vs)).aZ 0=dF (aM f.k vs):=by
    by_cases a:f.k=12\/f.k=13
    ·rw[vD a];rfl
    · by_cases A:f.k=2
      ·rw[Bt A];rfl
      · by_cases b:f.k=14
        ·rw[Bv b];rfl
        ·rw[zB ag];rfl
  rw[Dd L M z,K];cases h:v.au with
  | true=>
    rw[aI rfl];rw[eG]at y;exact(ku y h).1.symm
  | false=>
    obtain⟨s,D,G⟩:=Ed ⟨x,r,p,m,g,l,d⟩ y h;rw[aE aC]
    by_cases a:f.k=12\/f.k=13
    · rw[aI a,vD a];have J:=I.tx a;have S:(aM f.k vs).ends=jR (λv=>v.text.length) vs:=by simp[aM,a]
      have V:(aM f.k vs).all=vs.flatMap aD.text:=by simp[aM,a]
      have O:(vs.map λv=>v.text.length).sum<2^31:=by
        rw[BX]at J;omega
      have o:∀{j},j<=vs.length->sG (bH.mk vs.length 0 (aM f.k vs).cz [dF (aM f.k vs),laidB (aM f.k vs).ends 4,(aM f.k vs).all] [] []) j=((vs.take j).map λv=>v.text.length).sum:=λQ=>aaQ O (by rw[S];rfl) Q
      rw[o ag,o ag,Hv _ z,agu]
      show aD.mk false 0 (((aM f.k vs).all.drop _).take _) []=v
      rw[V,N9 aD.text z];rw[val_mk v,h,(D ag).1,s];rfl
    rw[aE a,aE r,aE p,aE m,aE g,aE l,aE d]
    by_cases A:f.k=2
    · rw[aI A,Bt A];obtain⟨E,U,_⟩:=G ag
      show aD.mk false (if gG (qM (aM f.k vs).dQ) i=true then 1 else 0) [] []=v
      have c:(aM f.k vs).dQ=vs.map λv=>(v.num%2^64).toNat:=by simp[aM,A,fE]
      grind[af9,val_mk]
    rw[aE A]
    by_cases b:f.k=14
    · rw[aI b,Bv b];have c:(aM f.k vs).texts=vs.map aD.text:=by simp[aM,b,fE]
      show aD.mk false 0 (((mb f.w.toNat (aM f.k vs).texts).drop (i*f.w.toNat)).take f.w.toNat) []=v
      rw[c,aej (λt E=>?_) bZ ((D ag).2.2 b)]
      ·rw[val_mk v,h,(D ag).1,s];rfl
      · obtain⟨u,N,rfl⟩:=kZ.1 E;have C:=I.fit u N;cases F:u.au with
        |true=>rw[eG]at C;rw[(ku C F).1];exact .inl rfl
        |false=>exact .inr (((Ed ⟨x,r,p,m,g,l,d⟩ C F).2.1 ag).2.2 b)
    rw[aE b];obtain⟨E,_,H⟩:=G ag;obtain⟨B,H⟩:=H A;rw[zB B];have c:(aM f.k vs).dQ=vs.map λv=>(v.num%2^64).toNat:=by
      simp only[not_or]at a;simp[aM,fE,x,a,r,p,m,g,l,d]
    show aD.mk false (zf f.k (laidB (aM f.k vs).dQ (wB f.k)) i) [] []=v
    rw[anO B bZ H,val_mk v,h,E,s];rfl
theorem ak2{α:Type}{n:Nat}{l:List α}(h:l.length=n+1):∃b w,l=b++[w]/\b.length=n:=by
 have a:l≠[]:=by intro e;subst e;simp at h
 exact⟨l.dropLast,l.getLast a,(zO a).symm,by simp[h]⟩
structure avS(vs:aQ):Prop where
 len:(cR vs).1.length=(cR vs).2.length
 pos:∀(j e:Nat),(cR vs).2[j]? =some e->0<e/\e<=vs.length
 inc:∀(i j e e':Nat),i<j->(cR vs).2[i]? =some e->(cR vs).2[j]? =some e'->e<e'
 row:∀(i:Nat)v,vs[i]? =some v->∃j e:Nat,(cR vs).1[j]? =some v/\(cR vs).2[j]? =some e/\i<e/\∀j2 e2:Nat,j2<j->(cR vs).2[j2]? =some e2->e2<=i
theorem abt:∀(n:Nat)(vs:aQ),vs.length=n->avS vs
  | 0,vs,G=>by
    have:vs=[]:=vR G;subst this;exact⟨rfl,λj e h=>by simp[cR]at h,λi j e Q _ h=>by simp[cR]at h,λi v h=>by simp at h⟩
  | n+1,vs,G=>by
    obtain⟨c,w,rfl,K⟩:=ak2 G;obtain⟨len,p,C,D⟩:=abt n c K;have f:=(AR n c K).1;have g:=AQ c w;unfold wU at g
    by_cases e:(cR c).1.getLast? =some w
    · rw[aI e,f]at g;have L:(cR c).2≠[]:=by
        intro q;rw[q]at len;have O:=vR (by simpa using len)
        rw[O]at e;simp at e
      have P:=List.length_pos_iff.2 L;have get:∀j,((cR c).2.dropLast++[c.length+1])[j]? =if j<(cR c).2.length-1 then(cR c).2[j]? else if j=(cR c).2.length-1 then some (c.length+1)else none:=by
        intro j;have I:(cR c).2.dropLast.length=(cR c).2.length-1:=aC
        by_cases r:j<(cR c).2.length-1
        ·simp_all[aI,iX,ag,List.getElem?_dropLast]
        · rw[aE r,gv ag,I];split
          ·rename_i u;subst u;simp
          simp[zV,cy];omega
      have J:(cR c).2[(cR c).2.length-1]? =some c.length:=by
        have:(cR c).2.getLast? =(cR c).2[(cR c).2.length-1]? :=YG;rw[<-this];rw[agt]at f;cases N:(cR c).2.getLast? with
        |none=>simp_all
        |some x=>rw[N]at f;simp at f;rw[f]
      refine⟨?_,?_,?_,?_⟩
      ·rw[g];simp[len];omega
      · intro j x h;rw[g]at h;rw[get]at h;rw[ij,jy];split at h
        ·obtain⟨a,b⟩:=p j x h;omega
        · split at h
          ·cases h;omega
          ·cases h
      · intro i j x y z m l;rw[g]at m l;rw[get]at m l;split at l
        ·rw[dU]at m;exact C i j x y z m l
        · split at l
          ·rw[dU]at m;cases l;have:=(p i x m).2;omega
          ·cases l
      · intro i v o;rw[g]
        by_cases r:i<c.length
        · rw[iX r]at o;obtain⟨j,x,F,B,H,E⟩:=D i v o;have M:=(dy.1 B).1
          by_cases u:j<(cR c).2.length-1
          · refine⟨j,x,F,by rw[get,aI u];exact B,H,λt s k d=>?_⟩
            rw[get,dU]at d;exact E t s k d
          · refine⟨j,c.length+1,F,by rw[get,aE u,dU],ag,λt s k d=>?_⟩
            rw[get,dU]at d;exact E t s k d
        · have A:i=c.length:=by have:=(dy.1 o).1;simp at this;omega
          subst A;rw[gv (cr _)]at o;simp at o;subst o;refine⟨(cR c).2.length-1,c.length+1,?_,aC,ag,λt s k d=>?_⟩
          ·have:(cR c).1.getLast? =(cR c).1[(cR c).1.length-1]? :=YG;rw[<-len,<-this,e]
          ·rw[get,aI k]at d;exact(p t s d).2
    · rw[aE e,f]at g;have get:∀j,((cR c).2++[c.length+1])[j]? =if j<(cR c).2.length then(cR c).2[j]? else if j=(cR c).2.length then some (c.length+1)else none:=by
        intro j
        by_cases r:j<(cR c).2.length
        ·rw[aI r,iX r]
        · rw[aE r,gv ag];split
          ·rename_i u;subst u;simp
          simp[zV,cy];omega
      refine⟨?_,?_,?_,?_⟩
      ·simp[*]
      · intro j x h;rw[g]at h;rw[get]at h;rw[ij,jy];split at h
        ·obtain⟨a,b⟩:=p j x h;omega
        · split at h
          ·cases h;omega
          ·cases h
      · intro i j x y z m l;rw[g]at m l;rw[get]at m l;split at l
        ·rw[dU]at m;exact C i j x y z m l
        · split at l
          ·rw[dU]at m;cases l;have:=(p i x m).2;omega
          ·cases l
      · intro i v o;rw[g]
        by_cases r:i<c.length
        · rw[iX r]at o;obtain⟨j,x,F,B,H,E⟩:=D i v o;have M:=(dy.1 B).1;refine⟨j,x,by rw[iX ag];exact F,by rw[get,aI M];exact B,H,λt s k d=>?_⟩
          rw[get,dU]at d;exact E t s k d
        · have A:i=c.length:=by have:=(dy.1 o).1;simp at this;omega
          subst A;rw[gv (cr _)]at o;simp at o;subst o;refine⟨(cR c).2.length,c.length+1,dH,aC,ag,λt s k d=>?_⟩
          rw[get,aI k]at d;exact(p t s d).2
theorem aes(c:Nat):∀{vs:aQ}{i:Nat}{v:aD},vs[i]? =some v->fG v=c->(vs.filter λu=>decide (fG u=c))[((vs.take i).filter λu=>decide (fG u=c)).length]? =some v
  |[],i,v,h,_=>by simp at h
  | u::vs,0,v,h,a=>by
    grind
  | u::vs,i+1,v,h,a=>by
    simp only[BW]at h;have b:=aes c h a;grind
theorem ae1{g:aD->Nat}{w:Nat}{vs:aQ}(h:∀v∈vs,g v=w):∀i,i<=vs.length->((vs.take i).map g).sum=i*w
  |0,_=>aC
  | i+1,b=>by
    have a:vs[i]? =some vs[i]:=aC;rw[Hv g a,ae1 h i ag,h _ (bS a),qP]
theorem DD{l:Int}{b:ie}{cs:kB}{c:bH}(h:cs[j]? =some c):part (.mk l x y b cs []) j=c:=by
 unfold part wV;rw[aE (by simp[bH.ds])];exact XD h
theorem am1{l:Int}{b:ie}{cs ds:kB}{c:bH}(h:ds[j]? =some c):part (.mk l x y b cs ds) j=c:=by
 have:ds.length>0:=by have:=(dy.1 h).1;omega
 unfold part wV;rw[aI (by simpa[bH.ds]using this)];exact XD h
theorem H7{cs:cN}(h:k≠20):rC k cs=cs:=by unfold rC;simp[*]
theorem D2{cs:cN}(h:cs[j]? =some c):(cs.map ak.val).getD j vz=c.val:=by
 simp[*]
theorem atW{vs:aQ}(h:vs[i]? =some v)(a:v.au=false):(dB 17 w X j vs)[i]? =some (v.items.getD j v0):=by
 grind[En]
theorem aoF(y:bE f)(p:f.cs=[c])(d:f.k=15)(r:nw c):nw f:=by
  intro vs q i v e;have m:=((gh f vs).1 q).fit v (bS e);have u:=(dy.1 e).1;have b:f.cs[0]? =some c:=by rw[p];rfl
  have h:=fh b q;rw[vL];unfold oW;rw[I1 d,Dd (by rw[d];rfl) rfl e,sH ag ag ag]
  cases n:v.au with
  |true=>rw[aI rfl];rw[eG]at m;exact(ku m n).1.symm
  | false=>
    rw[aE aC,aA,aI d,H7 ag,D2 b,DD (tY b)];have a:=m;rw[eG]at a;unfold fm at a;rw[d]at a;simp[n]at a;have g:dB f.k f.w (dh f.cs) 0 vs=vs.flatMap aD.items:=by rw[d,zC]
    have t:(aM f.k vs).ends=jR (λv=>v.items.length) vs:=by simp[aM,d]
    have s:(vs.map λv=>v.items.length).sum<2^31:=by
      have:=((gh c _).1 h).n4;rw[g,BX]at this;omega
    have o:∀{j},j<=vs.length->sG (bH.mk vs.length 0 (aM f.k vs).cz [dF (aM f.k vs),laidB (aM f.k vs).ends 4] (hY f vs) []) j=((vs.take j).map λv=>v.items.length).sum:=λl=>aaQ s (by rw[t];rfl) l
    rw[o ag,o ag,Hv _ e,agu];grind[Nf,BL,aeh,List.getElem?_eq_some_iff,val_mk]
theorem akJ(a:f.cs=[c])(e:f.k=16){vs:aQ}(g:f.can vs):∀v∈vs,(if v.au then List.replicate f.w.toNat ((dh f.cs).getD 0 v0)else v.items).length=f.w.toNat:=by
 intro v b;cases d:v.au with
 |true=>simp
 |false=>simpa using(Oc a e (((gh f vs).1 g).fit v b) d).2.1
theorem aoD(u:bE f)(d:f.cs=[c])(b:f.k=16)(r:nw c):nw f:=by
  intro vs n i v m;have a:=((gh f vs).1 n).fit v (bS m);have t:=(dy.1 m).1;have g:f.cs[0]? =some c:=by rw[d];rfl
  rw[vL];unfold oW;rw[Bu (.inl b),Dd (by rw[b];rfl) rfl m,sH ag ag ag]
  cases h:v.au with
  |true=>rw[aI rfl];rw[eG]at a;exact(ku a h).1.symm
  | false=>
    rw[aE aC,aA,aA,aI b,H7 ag,D2 g,DD (tY g)];obtain⟨s,hl,_⟩:=Oc d b a h;have l:v.num=0:=by
      rw[eG]at a;unfold fm at a;rw[b]at a;simp[h]at a;exact a.2.1
    have p:dB f.k f.w (dh f.cs) 0 vs=vs.flatMap λv=>if v.au then List.replicate f.w.toNat ((dh f.cs).getD 0 v0)else v.items:=by rw[b,Bz]
    have:(List.range f.w.toNat).map (λj=>nQ c.val (c.dn (c.st (dB f.k f.w (dh f.cs) 0 vs))) (i*f.w.toNat+j))=v.items:=by
      refine Nf hl λj x q=>BL r (fh g n) ?_;have e:=aeh (λv=>if v.au then List.replicate f.w.toNat ((dh f.cs).getD 0 v0)else v.items) m (j:=j) bZ
      rw[ae1 (akJ d b n) i ag]at e;rw[p,e];simpa[h]using q
    rw[this,val_mk v,h,s,l];rfl
theorem aoB(q:bE f)(d:f.k=17)(o:∀c∈f.cs,nw c):nw f:=by
  intro vs n i v l;have a:=((gh f vs).1 n).fit v (bS l);rw[vL];unfold oW;rw[Bu (.inr d),Dd (by rw[d];rfl) rfl l,sH ag ag ag]
  cases e:v.au with
  |true=>rw[aI rfl];rw[eG]at a;exact(ku a e).1.symm
  | false=>
    rw[aE aC,aA,aA,aA,aI d,H7 ag,cC];obtain⟨p,hl,_⟩:=Ea d a e;have h:v.num=0:=by
      rw[eG]at a;unfold fm at a;rw[d]at a;simp[e]at a;exact a.2.1
    have:(List.range f.cs.length).map (λj=>nQ ((f.cs.map ak.val).getD j vz) (part (bH.mk vs.length 0 (aM f.k vs).cz [dF (aM f.k vs)] (hY f vs) []) j) i)=v.items:=by
      refine Nf hl λj x m=>?_;have g:j<f.cs.length:=by have:=(dy.1 m).1;omega
      have b:f.cs[j]? =some f.cs[j]:=aC;rw[D2 b,DD (tY b)];apply BL (o _ (kE g)) (fh b n);rw[d,atW l e,XD m]
    rw[this,val_mk v,e,p,h];rfl
theorem aoI(l:bE f)(a:f.k=18)(s:∀c∈f.cs,nw c):nw f:=by
 intro vs o i v e;have p:=(gh f vs).1 o;have n:=p.fit v (bS e);have m:=(dy.1 e).1;have B:=p.n4;have hl:f.lets=false:=by rw[sJ f l];exact l.right.2.1.2.1 a
 obtain⟨w,t,A,c,x,b,g,C⟩:=Of a hl n;have r:=(atZ l a n).1;rw[vL];unfold oW;rw[Oz a,aE (by unfold jB mJ;simp[a]),aA,aA,aA,aA,aI a,H7 ag]
 have z:(aM f.k vs).all=vs.map λv=>UInt8.ofNat (fG v):=by simp[aM,a]
 have y:(aM f.k vs).ends=(List.range vs.length).map λi=>((vs.take i).filter λv=>decide (fG v=fG (vs.getD i v0))).length:=by simp[aM,a]
 have d:I4 (bH.mk vs.length 0 (aM f.k vs).cz [(aM f.k vs).all,laidB (aM f.k vs).ends 4] (hY f vs) []) i=fG v:=by
  show(((aM f.k vs).all.getD i 0)).toNat=_
  rw[z,gB,fy,e];simp only[oD,oG,sW];omega
 have j:(aM f.k vs).ends[i]? =some ((vs.take i).filter λu=>decide (fG u=fG v)).length:=by
  rw[y,fy,B8 m,oD,gB,e];rfl
 have q:((vs.take i).filter λu=>decide (fG u=fG v)).length<=4096:=by
  have:=YF (λu=>decide (fG u=fG v)) (vs.take i);rw[mP]at this;omega
 have h:sG (bH.mk vs.length 0 (aM f.k vs).cz [(aM f.k vs).all,laidB (aM f.k vs).ends 4] (hY f vs) []) i=((vs.take i).filter λu=>decide (fG u=fG v)).length:=by
  show(i32 (laidB (aM f.k vs).ends 4) i).toNat=_
  rw[WO j ag];rfl
 rw[d,h,D2 b,DD (tY b),BL (s c (bS b)) (fh b o) (v:=x) (by rw[a,Em,fy,aes _ e rfl,oD,g];rfl)]
 rw[val_mk v,w,t,g];have:((fG v:Nat):Int)=v.num:=by unfold fG;omega
 simp only[aD.mk.injEq,true_and,yl];rw[show fG (aD.mk false v.num [] [x])=fG v from rfl,this]
theorem aoH(A:bE f)(r:f.cs=[c])(b:f.k=19)(z:nw c):nw f:=by
  intro vs u i v g;have y:=(gh f vs).1 u;have t:=y.fit v (bS g);have e:f.cs[0]? =some c:=by rw[r];rfl
  have j:=fh e u;have E:=A.right.1.2.2.2.2.2.1 b;rw[vL];unfold oW;rw[I0 b,Dd (by rw[b];rfl) rfl g,sH ag ag ag]
  cases n:v.au with
  |true=>rw[aI rfl];rw[eG]at t;exact(ku t n).1.symm
  | false=>
    rw[aE aC,aA,aA,aA,aA,aA,aI b,H7 ag,D2 e,am1 (tY e)];obtain⟨e1,D,H⟩:=Da (k:=f.ix) ag;have B:(aM f.k vs).ends=vs.map λv=>if v.au then 0 else(gf v (dR vs)).getD 0:=by simp[aM,b]
    obtain⟨p,m⟩:∃p,gf v (dR vs)=some p:=by
      cases m:gf v (dR vs)with
      |none=>exact absurd (NF _ vs rfl v (bS g) n) (vh.1 m)
      |some p=>exact⟨p,rfl⟩
    have l:(aM f.k vs).ends[i]? =some p:=by rw[B,fy,g];simp[n,m]
    have a:=(DB m).1;have F:=(dy.1 a).1;have d:=y.ds b;have h:dB f.k f.w (dh f.cs) 0 vs=dR vs:=by rw[b,By]
    have o:=((gh c _).1 j).n4;rw[h]at o;have C:p<2^(8*wB f.ix):=by
      unfold ou at d;rcases D with q|q|q|q <;> rw[q] <;> simp <;> (try omega)
      have:f.ix=3\/f.ix=7:=by
        unfold wB at q
        by_cases x:f.ix=3\/f.ix=7
        ·exact x
        ·rw[aE x]at q;split at q <;> (try omega);split at q <;> omega
      rcases this with s|s <;> rw[s]at d <;> simp at d <;> omega
    show nQ c.val _ (pg (laidB (aM f.k vs).ends (wB f.ix)) (i*(dJ f.ix).toNat) (dJ f.ix).toNat)=v
    grind[WN,Nat.mod_eq_of_lt,BL]
theorem aeE{l:cV}(hl:∀x∈l,x<=4096){n u:Int}{b:dw}{i x:Nat}(a:l[i]? =some x):Br (.mk n 0 u [b,laidB l 4] [] []) i=x:=by
 have:=hl x (bS a)
 show i32 (laidB l 4) (0+i)=x
 rw[bX];exact WO a ag
theorem aoE(D:bE f)(d:f.cs=[c])(a:f.k=20)(t:nw c):nw f:=by
 intro vs r i v q;have g:f.cs[0]? =some c:=by rw[d];rfl
 have C:=((gh f vs).1 r).n4;have R:=abt _ vs rfl;have y:(aM f.k vs).ends=(cR vs).2:=by rw[a];simp[aM]
 have b:∀x∈(cR vs).2,x<=4096:=λx h=>by
  obtain⟨j,u⟩:=uy.1 h;have:=(R.pos j x u).2;omega
 rw[vL];unfold oW;rw[Oy a,aE (by unfold jB mJ;simp[a]),aA,aA,aA,aA,aA,aA,aI a]
 have m:(rC f.k f.cs)[1]? =some c:=by unfold rC;rw[aI a,d];rfl
 rw[D2 m,DD (c:=c.dn (c.st (dB f.k f.w (dh f.cs) 0 vs))) (by grind[List.getElem?_cons_succ,tY]),DD rfl,y]
 obtain⟨j,e,A,s,E,z⟩:=R.row i v q;have n:=(dy.1 s).1;rw[al7 (by simpa[bH.len]using n) (by rw[aeE b s];omega) (λp o=>by
  grind[aeE])]
 grind[BL,ak.X0,El]
theorem ac1:∀f:ak,bE f->nw f
  | .mk m au k w id ix cs,b=>by
    have d:∀c∈cs,nw c:=λc n=>ac1 c (b.aN n);generalize o:ak.mk m au k w id ix cs=f at b;have d:∀c∈f.cs,nw c:=by rw[<-o];exact d
    by_cases e:f.k=15
    ·obtain⟨c,a,_⟩:=b.one (.inl e);grind[aoF]
    by_cases l:f.k=16
    ·obtain⟨c,a,_⟩:=b.one ag;grind[aoD]
    by_cases j:f.k=17
    ·exact aoB b j d
    by_cases i:f.k=18
    ·exact aoI b i d
    by_cases h:f.k=19
    ·obtain⟨c,a,_⟩:=b.one ag;grind[aoH]
    by_cases g:f.k=20
    ·obtain⟨c,a,_⟩:=b.one ag;grind[aoE]
    grind[ac2]
end
end Go.Proofs.YtmjifnioaoamfaaGreatDoor
