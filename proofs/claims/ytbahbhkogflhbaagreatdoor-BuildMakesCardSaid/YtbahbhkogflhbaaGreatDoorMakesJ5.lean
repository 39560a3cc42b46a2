import Derived.Test.YtbahbhkogflhbaaGreatDoorMakesJ4
set_option linter.all false
set_option maxRecDepth 99999
set_option maxHeartbeats 999999
namespace Go.Proofs.YtbahbhkogflhbaaGreatDoor
open Go Go.Sh Go.WideShapes
section
variable {v:aB} {lo i j:Nat} {f c:aq} {h h0 h':Hp} {Kp:PK} {s t:Sl} {S D:aQ} {el:TypeId} {vs:aR} {z:Array Value} {kc:Nat->List aB} {G:Nat->aB}
section
variable {KM:List BF} {p:Nat} {Q0 T0 Q Q' T E A A':aQ} {h1:Hp} {g:dM} {n:Bn} {X X':Bx} {vl Zs:aR} {s':Sl} {w:Nat} {M:BF}
theorem gp.SM{x:Int}{K:Option Addr->Prop}(G:gp f KM Q T h p g n X vl kc)(c:g.kp[j]? =some w)(e:x=j)(k:K (bC w)):Ix g.sp.a g.sp.n 1 x λd=>Ld h d Value.pointer K:=by
 subst e;have m:=(de.1 c).1;have b:=G.pt.n;rw[cr]at b;refine G.pt.sv.ix ag ag (v:=oJ w) bZ λa l=>?_
 exact⟨some _,l,k⟩
theorem gp.m(G:gp f KM Q T h p g n X vl kc)(o:j<KM.length):∃M A w,KM[j]? =some M/\g.KT[j]? =some A/\g.kp[j]? =some w/\M Q A h w (kc j):=by
 have lk:=G.lk;exact⟨_,_,_,bJ o,bJ ag,bJ ag,G.aM j _ _ _ (bJ o) (bJ ag) (bJ ag)⟩
theorem gw.aM(KF:∀M∈KM,ov M)(C:gw f KM p Q0 T0 h0 Q T h g n X vl kc E)(H:KM[j]? =some M)(I:g.KT[j]? =some A)(K:g.kp[j]? =some w)(y:Ext Q Q' A A' h h')(m:M Q' A' h' w vs):gw f KM p Q0 T0 h0 Q' (λc=>T c\/A' c) h' {g with KT:=g.KT.set j A'} n X vl (λi=>if i=j then vs else kc i) E/\Tn (λc=>¬E c) h h':=by
 have G:=C.S;have r:=g.fF I;have F:=y.tn.1;have jL:=(de.1 I).1;have a:∀c,A c->T c/\c≠p:=λc z=>G.t.sub _ (bT r) c z;have b:∀{B:aQ}(k:Nat),g.Ls[k]? =some B->k≠2+g.ST.length+j->∀c,B c->¬A c:=λ{B}k L ne c z=>G.t.ne L r ne c z;have o:∀c,Q c->¬A c:=λc z x=>(G.q c z).1 (a c x).1;have J:=(KF M (bT H)).d m;have D:∀c,Q' c->¬(T c\/A' c)/\c<h'.size:=λc z=>by
  have:=J c z;refine⟨λx=>x.elim (λx=>?_) this.1,this.2⟩;rcases y.q' c z with z|z
  ·exact(G.q c z).1 x
  ·have:=G.t.lt c x;omega
 have tr:iX (λc=>T c\/A' c) h' p (({g with KT:=g.KT.set j A'}:dM).Ls):=by
  have:=G.t.put r F y.t';have O:g.Ls.set (2+g.ST.length+j) A'=({g with KT:=g.KT.set j A'}:dM).Ls:=by
   unfold dM.Ls;rw[show 2+g.ST.length+j=g.ST.length+j+1+1 by omega]
   simp only[tP];simp
  grind
 refine⟨⟨⟨tr,D,y.tn.aZ G.k λz=>(a p z).2 rfl,bM.fr y.tn o y.q _ G.fs,G.ls,λi s B x h1(l:g.ST[i]? =some B)u=>(G.sl i s B x h1 l u).fr y.tn λc z _=>b _ (g.iw l) bZ c z,(G.aH.fr y.tn (b 0 rfl ag) o).q y.q,
  G.pt.fr y.tn λc z _=>b 1 rfl ag c z,by simp[G.lk],λk N B v h1 l u=>?_⟩,?_,λc z=>?_⟩,y.tn.mono λc z _ x=>(C.e c x).2 (a c z).1⟩
 ·simp only at l
  by_cases e:j=k
  ·subst e;rw[yC jL]at l;rw[H]at h1;rw[show({g with KT:=g.KT.set j A'}:dM).kp=g.kp from rfl,K]at u
   cases h1;cases l;cases u;simp only[gB];exact m
  ·rw[yB e]at l;simp only[aC (Aq e)];have ok:=KF N (bT h1);refine ok.q (ok.fr (G.aM k N B v h1 l u) y.tn (b _ (g.fF l) ag) o) y.q λc z=>⟨λx=>(D c z).1 (.inl (G.t.sub _ (bT (g.fF l)) c x).1),(D c z).2⟩
 ·exact C.x.trans ⟨y.tn.mono λc z _=>(a c z).1,y.q,y.q',λ_ z=>.inl z,λc z=>z.elim .inl λz=>(y.t' c z).imp (λz=>(a c z).1) id⟩
 ·have:=C.e c z;refine⟨ag,λx=>?_⟩
  rcases x with x|x
  ·exact this.2 x
  ·rcases y.t' c x with x|x
   all_goals grind
theorem gw.cells{x':List Value×TypeId}(KF:∀M∈KM,ov M)(u:gw f KM p Q0 T0 h0 Q T h g n X vl kc E)(D:g.SS[i]? =some s)(C:g.ST[i]? =some A)(t:Tn A h h')(o:Os A h' s x'.1 x'.2)(J:X'.fm=X.fm.set i x'):gw f KM p Q0 T0 h0 Q T h' g n X' vl kc E/\Tn (λc=>¬E c) h h':=by
 have G:=u.S;have r:=g.iw C;have b:∀c,A c->T c/\c≠p:=λc z=>G.t.sub _ (bT r) c z;have m:∀c,Q c->¬A c:=λc z x=>(G.q c z).1 (b c x).1;have a:∀{B:aQ}(k:Nat),g.Ls[k]? =some B->k≠2+i->∀c,B c->¬A c:=λ{B}k H ne c z=>G.t.ne H r ne c z;refine⟨⟨⟨G.t.grow t.1,λc z=>⟨(G.q c z).1,by have:=(G.q c z).2;have:=t.1;omega⟩,t.aZ G.k λz=>(b p z).2 rfl,bM.fr t m (λ_ z=>z) _ G.fs,G.ls,λj y B x h1 l d=>?_,G.aH.fr t (a 0 rfl ag) m,G.pt.fr t λc z _=>a 1 rfl ag c z,G.lk,λj N B v h1 l d=>(KF N (bT h1)).fr (G.aM j N B v h1 l d) t (a _ (g.fF l) bZ) m⟩,?_,λc z=>?_⟩,t.mono λc z _ x=>(u.e c x).2 (b c z).1⟩
 ·rw[J]at d
  by_cases e:i=j
  ·grind
  ·rw[yB e]at d;exact(G.sl j y B x h1 l d).fr t λc z _=>a _ (g.iw l) ag c z
 ·exact u.x.trans ⟨t.mono λc z _=>(b c z).1,λ_ z=>z,λ_ z=>.inl z,λ_ z=>z,λ_ z=>.inl z⟩
 ·have:=u.e c z;exact⟨by have:=t.1;omega,this.2⟩
theorem gw.alI(KF:∀M∈KM,ov M)(u:gw f KM p Q0 T0 h0 Q T h g n X vl kc E)(t:Tn (λc=>g.VT c\/c=p) h h')(o:vj (Tr g.VT h h') Q h' s' Zs)(F:aN h' p (({g with sv:=s',VT:=Tr g.VT h h'}:dM).row f n).toArray EW):gw f KM p Q0 T0 h0 Q (λc=>T c\/Tr g.VT h h' c) h' {g with sv:=s',VT:=Tr g.VT h h'} n X Zs kc E/\Tn (λc=>¬E c) h h':=by
 have G:=u.S;have C:=t.1;have d:g.Ls[0]? =some g.VT:=rfl;have b:∀c,g.VT c->T c/\c≠p:=λc z=>G.t.sub _ (bT d) c z;have kA:∀c,(g.VT c\/c=p)->T c:=λc z=>z.elim (λz=>(b c z).1) λz=>z▸G.t.tb;have m:∀c,Q c->¬(g.VT c\/c=p):=λc z x=>(G.q c z).1 (kA c x);have a:∀{B:aQ}(k:Nat),g.Ls[k]? =some B->k≠0->∀c,B c->¬(g.VT c\/c=p):=λ{B}k y ne c z x=>x.elim (λx=>G.t.ne y d ne c z x) λx=>(G.t.sub _ (bT y) c z).2 x;refine⟨⟨⟨G.t.put d C λ_ z=>z,λc z=>⟨λx=>?_,by have:=(G.q c z).2;omega⟩,F,bM.fr t m (λ_ z=>z) _ G.fs,G.ls,λj D B x h1 l r=>(G.sl j D B x h1 l r).fr t λc z _=>a _ (g.iw l) ag c z,o,G.pt.fr t λc z _=>a 1 rfl ag c z,G.lk,
  λj N B v h1 l r=>(KF N (bT h1)).fr (G.aM j N B v h1 l r) t (a _ (g.fF l) ag) m⟩,?_,λc z=>?_⟩,t.mono λc z _ x=>(u.e c x).2 (kA c z)⟩
 ·have:=G.q c z;grind
 ·exact u.x.trans ⟨t.mono λc z _=>kA c z,λ_ z=>z,λ_ z=>.inl z,λ_ z=>.inl z,λc z=>z.elim .inl λz=>z.imp (λz=>(b c z).1) id⟩
 ·have:=u.e c z;grind
theorem gw.alF{u:Sl}{a:Nat}{ty:TypeId}{K:HP}(KF:∀M∈KM,ov M)(s0:gw f KM p Q0 T0 h0 Q T h g n X vl kc E)(k:aN h a #[.bool false,ah 0,.string (bs []),Sl.v Sl.nil] ty)(hv:aO Q h u v.items)(hn:vl.length<=5000)
  (hk:∀Q T h' g,Tn (λc=>¬E c) h h'->gw f KM p Q0 T0 h0 Q T h' g n X (vl++[v]) kc E->K h'):Ap h dh fY 4 56 g.sv 1 (rd h (bC a) (1*4)) λt h1=>Ix t.a t.n 4 (g.sv.n:Int) λb=>
   (dL h1 b v.au v.num (bs v.text) u λP=>St P ⟨p,17,none⟩ (Sl.v t) K)/\(St h1 ⟨p,17,none⟩ (Sl.v t) λP=>dL P b v.au v.num (bs v.text) u K):=by
 have G:=s0.S;obtain⟨L,e,r,og,vv⟩:=G.aH;have on:=r.n;rw[m7]at on;have c':g.Ls[0]? =some g.VT:=rfl;have y:∀c,g.VT c->T c/\c≠p:=λc z=>G.t.sub _ (bT c') c z;have e':=G.t.lt p G.t.tb;refine r.ap (eu _) rfl (new:=[[.bool false,ah 0,.string (bs []),Sl.v Sl.nil]]) rfl (λr O=>by simp at O;subst O;rfl) (λr O w J=>by simp at O;subst O;simp at J;rcases J with rfl|rfl|rfl|rfl <;> rfl) (by simpa using iJ k rfl) ag ag λt h1 f1 d' r1=>?_
 have W:=f1.mono λc z _=>og c z;have k1:=W.aZ G.k λz=>(y p z).2 rfl;have rn:=r1.n;rw[iA,jC,m7]at rn;rcases r1.cases with⟨z,_⟩|⟨b,_,I⟩
 ·rw[z]at rn;simp[Sl.nil]at rn
 have tb:t.at b:=⟨_,I.a,rfl⟩;have bV:Tr g.VT h h1 b:=(d' b tb).imp (og b) λz=>⟨z,I.lt⟩;have bp:b≠p:=λz=>by
  subst z;rcases bV with z|z
  ·exact(y _ z).2 rfl
  ·omega
 have Y:(List.zipWith aB.row vl L).length=vl.length:=by rw[m7];omega
 refine I.ix (i:=vl.length) ag (by rw[iA,Y];simp) ?_
 have B:(List.zipWith aB.row vl L++[[.bool false,ah 0,.string (bs []),Sl.v Sl.nil]]).set vl.length (v.row u)=List.zipWith aB.row (vl++[v]) (L++[u]):=by
  rw[yx _ _ ag,Y,yz,kj,FG e]
 have U:(g.row f n).length=19:=by unfold dM.row;simp[Gc,G.ls.1]
 have C:(g.row f n).toArray.setIfInBounds 17 (Sl.v t)=(({g with sv:=t,VT:=Tr g.VT h h1}:dM).row f n).toArray:=by
  rw[oP];unfold dM.row;rw[yx _ _ (by show 10<=17;omega),yx _ _ (by show _<=17-10;rw[cr,G.ls.1];omega),cr,G.ls.1];rfl
 have fin:∀{m:Hp},Tn (λc=>c=b\/c=p) h1 m->m.size=h1.size->me 4 m t b (List.zipWith aB.row (vl++[v]) (L++[u])) dh->aN m p (({g with sv:=t,VT:=Tr g.VT h h1}:dM).row f n).toArray EW->K m:=by
  intro m f3 z3 d Z;have tt:Tn (λc=>g.VT c\/c=p) h m:=(W.mono λc z _=>.inl z).trans' f3 λc z b'=>by
   rcases z with rfl|z
   ·exact .inl (bV.elim id λz=>ag)
   ·exact .inr z
  have V:∀c,Q c->¬(g.VT c\/c=p):=λc z x=>(G.q c z).1 (x.elim (λx=>(y c x).1) λx=>x▸G.t.tb);have eV:Tr g.VT h m=Tr g.VT h h1:=by unfold Tr;rw[z3]
  have o:vj (Tr g.VT h m) Q m t (vl++[v]):=by
   refine⟨L++[u],by simp[e],⟨d.len,d.n,.inr ⟨b,eu _,d.lt,d.own⟩⟩,λc z=>?_,λj z w N J=>?_⟩
   ·obtain⟨a',ea,rfl⟩:=z;rw[I.a]at ea;cases ea;rw[eV];exact bV
   ·rcases zn e J with⟨b',J⟩|⟨rfl,rfl⟩
    ·rw[gN ag]at N;exact aO.fr tt (λc hc _=>V c hc) (λ_ q=>q) _ (vv j z w N J)
    ·rw[fU (bX _)]at N;simp at N;subst N;exact aO.fr tt (λc hc _=>V c hc) (λ_ q=>q) _ hv
  obtain⟨S',t'⟩:=s0.alI KF tt o (by rw[eV];exact Z)
  exact hk _ _ _ _ t' S'
 have D:=A5 v u;refine⟨yp (I.set (by rw[iA,Y];simp) rfl D λP H R=>dI (H.aZ k1 (Aq bp)) (by rw[ED,U];omega) rfl λm F Z=>?_),
  dI k1 (by rw[ED,U];omega) rfl λP H k2=>yp ((I.fr H.fr bp).set (by rw[iA,Y];simp) rfl D λm F d=>?_)⟩
 ·rw[B]at R;rw[C]at Z;exact fin ((H.fr.mono λc z _=>.inl z).trans (F.fr.mono λc z _=>.inr z)) (by have:=H.1;have:=F.1;omega) (R.fr F.fr bp) Z
 ·rw[B]at d;rw[C]at k2;exact fin ((H.fr.mono λc z _=>.inr z).trans (F.fr.mono λc z _=>.inl z)) (by have:=H.1;have:=F.1;omega) d (F.aZ k2 (Aq bp))
end
def JS(b:UInt8)(r:dy)(n:Nat):Prop:=n<=r.length+1/\rR b.toNat (r.getD 0 0)=true/\∀j,1<=j->j+1<n->uv (r.getD j 0)=true
theorem al0{b:UInt8}{r:dy}{n:Nat}(k:128<=b.toNat)(f:uF b.toNat%8=n)(d:n=2\/n=3\/n=4):(JS b r n->js b r=some (r.drop (n-1)))/\(¬JS b r n->js b r=none):=by
 have e0:¬b.toNat<128:=ag;unfold js JS;rw[aC e0,f];rcases d with rfl|rfl|rfl
 ·rw[aK rfl];rcases r with _|⟨c,r⟩
  all_goals grind
 ·rw[aC bw,aK rfl];rcases r with _|⟨c,_|⟨e,r⟩⟩
  ·simp
  ·simp
  ·simp only[Iq,iN];refine⟨λq=>by rw[aK (by rw[q.2.1];exact q.2.2 1 ag ag)];rfl,λq=>aC λz=>q ⟨ag,?_,λj a c=>?_⟩⟩
   all_goals grind
 ·rw[aC bw,aC bw,aK rfl];rcases r with _|⟨c,_|⟨e,_|⟨g,r⟩⟩⟩
  ·simp
  ·simp
  ·simp
  ·simp only[Iq,iN];refine⟨λq=>by rw[aK (by rw[q.2.1,Aw,dw];exact⟨q.2.2 1 ag ag,q.2.2 2 ag ag⟩)];rfl,λq=>aC λz=>?_⟩
   grind
section
variable {V:fh} {K:cK} {b:UInt8} {r:dy}
def agE(K:cK)(h:Hp)(b:UInt8)(r:dy):Prop:=(∀n:Nat,1<=n->n<=r.length+1->js b r=some (r.drop (n-1))->K n h)/\(js b r=none->K 0 h)
theorem alR{n hi:Nat}(D:(tx V).drop i=b::r)(hl:V.size<=9223372036854775000)(O:128<=b.toNat)(M:uF b.toNat%8=n)(L:n=2\/n=3\/n=4)(J:FJ (uF b.toNat/16)=lo)(I:FK (uF b.toNat/16)=hi)
  (s:agE K h b r):AM K Kp V i lo hi n h:=by
 obtain⟨G,u2⟩:=al0 O M L;have w:(tx V).length=V.size:=rfl;have F:i+(r.length+1)=V.size:=by
  have:=tQ List.length D;rw[Iu,iN,w]at this;omega
 have l:∀{j:Nat},j<r.length->(tx V)[i+(j+1)]? =some (r.getD j 0):=λ{j}t=>by
  have e:((tx V).drop i)[j+1]? =r[j]? :=by rw[D];rfl
  grind[List.getElem?_eq_getElem]
 have A:(¬JS b r n->K 0 h)->(n<=r.length+1->rR b.toNat (r.getD 0 0)=true->WG K Kp V i n 2 h)->AM K Kp V i lo hi n h:=by
  intro p v;refine aDu (aX ag ag (cE (λc=>?_) λc=>?_))
  ·exact ajb (bS rfl (p λq=>by have:=q.1;omega))
  ·have y:0<r.length:=ag;have E:=l y;have e1:((i:Int)+1)=((i+(0+1):Nat):Int):=ag;have o:rR b.toNat (r.getD 0 0)=(decide (lo<=(r.getD 0 0).toNat)&&decide ((r.getD 0 0).toNat<=hi)):=by unfold rR;rw[J,I]
   refine aX ag ag (yU e1 E (ajb (cE (λk=>?_) λk=>?_)))
   ·refine p λq=>?_;have:=q.2.1;rw[o,dw,dR]at this;omega
   ·refine aX ag ag (yU e1 E (cE (λf=>?_) λf=>?_))
    ·refine p λq=>?_;have:=q.2.1;rw[o,dw,dR,dR]at this;omega
    ·refine aDt (v ag ?_);simp_all
 refine A (λq=>s.2 (u2 q)) λC H=>aA3 (λx u=>u=h/\∃d:Nat,x=d/\2<=d/\d<=n/\∀j,1<=j->j+1<d->uv (r.getD j 0)=true) (λx _=>n-x.toNat) ⟨rfl,2,rfl,ag,ag,λj a c=>ag⟩ ?_
 rintro x u ⟨rfl,d,rfl,Q,P,m⟩ N hN;refine cE (λc=>?_) λc=>?_
 ·have t:d-1<r.length:=ag;have g:=l t;have e1:((i:Int)+(d:Int))=((i+(d-1+1):Nat):Int):=ag;have B:uv _=(decide _&&decide ((r.getD (d-1) 0).toNat<=191)):=rfl;have bad:¬(128<=(r.getD _ 0).toNat/\(r.getD _ 0).toNat<=191)->K 0 u:=λz=>s.2 (u2 λq=>by
   have:=q.2.2 (d-1) ag ag;rw[B,dw,dR,dR]at this;exact z this)
  refine aX ag ag (yU e1 g (aG (λk=>?_) λk=>aX ag ag (yU e1 g (aG (λf=>?_) λf=>aX ag ag (hN _ _ ⟨rfl,d+1,ag,ag,ag,λj a z=>?_⟩ ag)))))
  ·have k:=aS k;exact bad ag
  ·have f:=aS f;exact bad ag
  ·by_cases e:j+1<d
   ·exact m j a e
   ·obtain rfl:j=d-1:=ag;simp only[sm,reduceCtorEq]at k f;rw[B,dw,dR,dR];omega
 ·obtain rfl:d=n:=ag;exact s.1 d ag C (G ⟨C,H,m⟩)
theorem alQ{x:Int}(hx:x=i)(hd:(tx V).drop i=b::r)(hl:V.size<=9223372036854775000)(hk:agE K h b r):YH V x h K Kp:=by
 subst hx;have nB:(tx V).length=V.size:=rfl;have hlen:i+(r.length+1)=V.size:=by
  have:=tQ List.length hd;rw[Iu,iN,nB]at this;omega
 have g0:(tx V)[i]? =some b:=by
  have e:((tx V).drop i)[0]? =some b:=by rw[hd];rfl
  rwa [Iy,ES]at e
 have are:¬b.toNat<128->(∀n,n=2\/n=3\/n=4->uF b.toNat%8≠n)->K 0 h:=λz w=>hk.2 (by
  simp_all[js,aC])
 have one:∀{n:Nat}{x:Int},x=n->(128<=b.toNat)->uF b.toNat%8=n->n=2\/n=3\/n=4->yT K Kp V i b.toNat 128 191 x h:=by
  rintro n x rfl h1 h2 h3;have go:=λlo hi q1 q2=>alR (Kp:=Kp) (lo:=lo) (hi:=hi) hd hl h1 h2 h3 q1 q2 hk;have zh:∀k,b.toNat=k->uF b.toNat=uF k:=λk e=>by rw[e]
  refine aDv (aG (λc=>?_) λc=>aG (λc2=>?_) λc2=>aG (λc3=>?_) λc3=>aG (λc4=>?_) λc4=>?_)
  ·have c:=aS c;exact go 160 191 (by rw[zh 224 ag];rfl) (by rw[zh 224 ag];rfl)
  ·have c2:=aS c2;exact go 128 159 (by rw[zh 237 ag];rfl) (by rw[zh 237 ag];rfl)
  ·have c3:=aS c3;exact go 144 191 (by rw[zh 240 ag];rfl) (by rw[zh 240 ag];rfl)
  ·have c4:=aS c4;exact go 128 143 (by rw[zh 244 ag];rfl) (by rw[zh 244 ag];rfl)
  ·simp only[sm,reduceCtorEq]at c c2 c3 c4;have e:uF b.toNat/16=0:=by unfold uF at h2 ⊢;(repeat' split at h2) <;> (repeat' split) <;> omega
   exact go 128 191 (by rw[e];rfl) (by rw[e];rfl)
 refine aGM (bu cy (yU rfl g0 (cE (λc=>?_) λc=>?_)))
 ·apply hk.1 1 ag ag;unfold js;rw[dV];rfl
 ·have c2:194<=b.toNat/\b.toNat<=223->uF b.toNat%8=2:=λq=>by grind[uF]
  have c3:224<=b.toNat/\b.toNat<=239->uF b.toNat%8=3:=λq=>by grind[uF]
  have c4:240<=b.toNat/\b.toNat<=244->uF b.toNat%8=4:=λq=>by unfold uF;(repeat' split) <;> omega
  have cn:¬(194<=b.toNat/\b.toNat<=244)->∀n,n=2\/n=3\/n=4->uF b.toNat%8≠n:=λq n hn=>by unfold uF;(repeat' split) <;> omega
  have n0:¬(194<=b.toNat/\b.toNat<=244)->K 0 h:=λq=>are ag (cn q)
  repeat' (with_reducible refine aG (λc=>?_) λc=>?_)
  all_goals simp only[sm,reduceCtorEq]at*
  all_goals first|(with_reducible apply n0;omega)|(with_reducible refine one rfl ?_ (c2 ?_) ?_ <;> omega)|(with_reducible refine one rfl ?_ (c3 ?_) ?_ <;> omega)|(with_reducible refine one rfl ?_ (c4 ?_) ?_ <;> omega)
theorem asb(hl:V.size<=9223372036854775000){K:fB}(d:K (iH (tx V)) h):YR V h K Kp:=by
 have j:(tx V).length=V.size:=rfl;refine aG2 (aBh (λx k=>k=h/\∃i:Nat,x=i/\i<=V.size/\iH ((tx V).drop i)=iH (tx V)) (λx _=>V.size-x.toNat) ⟨rfl,0,rfl,ag,aA⟩ ?_)
 rintro x k ⟨rfl,i,rfl,p,a⟩ N hN;refine cE (λc=>?_) λc=>?_
 ·obtain⟨b,r,f⟩:∃b r,(tx V).drop i=b::r:=by
   cases o:(tx V).drop i with
   |nil=>grind[List.drop_eq_nil_iff]
   |cons b r=>simp
  have l:i+(r.length+1)=V.size:=by
   have:=tQ List.length f;rw[Iu,iN,j]at this;omega
  rw[f,JO]at a;refine alQ rfl f hl ⟨λn s q g=>?_,λg=>?_⟩
  ·refine bu cy (aX ag ag (hN _ _ ⟨rfl,i+n,ag,ag,?_⟩ ag))
   rw[g]at a;rw[<-a,<-Cz,f]
   congr 1
   obtain⟨m,rfl⟩:∃m,n=m+1:=⟨n-1,ag⟩
   simp
  grind[bS]
 ·have:(tx V).drop i=[]:=List.drop_eq_nil_iff.2 ag;rw[this]at a;have e:iH ([]:dy)=true:=rfl;rw[e]at a;rw[<-a]at d;exact d
end
def Cd(w:Nat)(Bv:Int):Int:=if(w:Int)<=Bv then w else Bv+1
def Wd(v:aB):Prop:=∀{D:aQ}{h:Hp}{s:Sl}{Bv:Int}{K:cK}{Kp:PK},aO D h s v.items->-100<=Bv->Bv<=2^50->(∀h',az h h'->K (Cd v.bx Bv) h')->Jn v.au v.num (bs v.text) s Bv h K Kp
theorem alq(l:aR)(i:Nat):bL (l.take i)<=bL l:=by
 grind[pq,List.take_append_drop]
theorem Zn:∀l:List aB,l.length*16<=bL l
 |[]=>by simp[bL]
 |z::l=>by have:=hO z;have:=Zn l;simp only[bL,iN];omega
theorem aoU(R:∀x∈v.items,Wd x):Wd v:=by
 intro D h s b K Kp H Y X I;have G:=hO v;have U:=H.n;have k:b<v.bx->∀f,az h f->K (b+1) f:=λq f g=>by
  have:=I f g;simp_all[Cd,aC]
 refine aFS (aF λQ M e1 J t _=>aj t rfl (aX ag ag (cE (λc=>?_) λc=>?_)))
 ·rw[jl]at c;exact aX ag ag (k ag M J)
 rw[jl]at c;apply aj t rfl;rw[jl];apply aX ag ag;refine aAN (λy x f=>∃i:Nat,x=i/\i<=v.items.length/\az h f/\aN f Q #[.bool v.au,ah v.num,.string (bs v.text),Sl.v s] dh/\((y=((16+v.text.length+bL (v.items.take i):Nat):Int)/\y<=b)\/(y=b+1/\b<v.bx))) (λ_ x _=>v.items.length-x.toNat)
  ⟨0,rfl,eu _,J,t,.inl ⟨by simp[bL],ag⟩⟩ ?_
 rintro y x B ⟨i,rfl,V,j,p,w⟩ N hN;have e:y>b->K _ B:=λq=>k (w.elim (λz=>ag) λz=>z.2) B j
 refine aj p rfl (aG (λE=>aG (λd=>?_) λd=>?_) λE=>aG (λd=>?_) λd=>?_)
 ·have d:=aS d;exact aX ag ag (e d)
 ·simp only[sm,reduceCtorEq]at E d;obtain⟨C,_⟩:=w.resolve_right λz=>ag
  have m:i<v.items.length:=ag;have A:=bJ m;have l:=kS m;have F:=Zn (v.items.take i);rw[m8]at F;generalize v.items[i]=z at A l;have o:=bT A;have S:=alq v.items (i+1);have O:bL (v.items.take (i+1))=bL (v.items.take i)+z.bx:=by rw[l,pq];simp[bL]
  refine aj p rfl ((dU H j).ix rfl A λa u P L=>gY P (aX ag ag (R z o L ag ag λW r=>?_)));unfold Cd
  by_cases q:(z.bx:Int)<=b-y
  ·rw[aK q];exact aX ag ag (aX ag ag (hN _ _ _ ⟨i+1,ag,ag,ak j r,p.ai r,.inl ⟨by rw[O];push_cast;omega,ag⟩⟩ ag))
  ·rw[aC q];exact aX ag ag (aX ag ag (hN _ _ _ ⟨i+1,ag,ag,ak j r,p.ai r,.inr ⟨ag,ag⟩⟩ ag))
 ·have d:=aS d;exact aX ag ag (e d)
 ·simp only[sm,reduceCtorEq]at E d;obtain⟨C,_⟩:=w.resolve_right λz=>ag
  have:i=v.items.length:=ag;simp_all[Cd]
theorem Qa:∀v:aB,Wd v
 |.mk a b c items=>aoU (v:=.mk a b c items) λx(_:x∈items)=>Qa x
section
variable {K:fB}
theorem apo{k:Int}(a:K (decide (2<=k/\k<=11)) h):X0 k h K Kp:=by
 refine aFt (cE (λc=>?_) λc=>?_)
 ·simp_all
 ·simp_all
theorem aph{k n:Int} (hn : -9223372036854775808<=n/\n<=9223372036854775807) (hr:2<=k/\k<=11) (hk:∀b,(b=true↔if k=2 then n=0\/n=1 else kW k n=true)->K b h):XZ k n h K Kp:=by
 have e:k=2\/k=3\/k=4\/k=5\/k=6\/k=7\/k=8\/k=9\/k=10\/k=11:=ag;rcases e with rfl | rfl | rfl | rfl | rfl | rfl | rfl | rfl | rfl | rfl
 all_goals apply aFs
 all_goals repeat' first | (with_reducible first | refine ug ?_ | refine uh ?_ | refine cE (λc => ?_) λc => ?_)
 all_goals apply hk _
 all_goals simp_all
 all_goals (try simp[kW,dN])
 all_goals first | omega | exact absurd trivial ‹¬True›
end
def Wf(f:aq):Prop:=∀{D:aQ}{h:Hp}{s:Sl}{K:fB}{Kp:PK},bB f->bM D h s f.cs->(∀h',az h h'->K f.lets h')->OQ f.name f.au f.k f.w f.id f.ix s h K Kp
theorem apr(x:∀c∈f.cs,Wf c):Wf f:=by
 intro D h s K Kp i p n;have q:=(bB.self i).1;unfold Shaped at q;refine aFu (aF λb t e1 l j _=>aj j rfl (aG (λc=>?_) λc=>aCb (aj j rfl ?_)))
 ·have c:=aS c;have g:f.cs[0]? =some (f.cs[0]' ag):=bJ _;have d:(f.cs[0]' ag)∈f.cs:=kH _;have el:f.lets=(f.cs[0]' ag).lets:=by
   rw[ym];unfold ny;rw[aK ⟨c,by rw[cr];omega⟩,gV,eY,g];rfl
  generalize f.cs[0]' ag=c0 at g d el;refine aj j rfl ((p.gr l).ix rfl g λa u w o=>gH w (x c0 d (bB.aM i d) o λr v=>?_));rw[<-el];exact n r (ak l v)
 ·have c:=aS c;have el:f.lets=(f.au&&decide (f.k≠18)):=by rw[ym];unfold ny;rw[aC λz=>c z.1]
  have:=n t l;rw[el]at this;refine aG (λm=>aj j rfl ?_) λm=>?_
  ·rw[m,Aw]at this;have e:(f.k !=18)=decide (f.k≠18):=by rw[ki];simp
   rw[e];exact this
  ·rw[m,EG]at this;exact this
theorem aaI:∀f:aq,Wf f
 |.mk a b k w i x cs=>apr (f:=.mk a b k w i x cs) λc(_:c∈cs)=>aaI c
theorem apt{c:Int}{K:fB}(hk:∀b,(b=true↔(yP c\/sK c))->K b h):Yp c h K Kp:=by
 apply aGk;unfold yP sK at hk
 repeat' first|(with_reducible first|refine aC7 ?_|refine aC6 ?_|refine aC5 ?_|refine ug ?_|refine uh ?_|refine cE (λc=>?_) λc=>?_)
 all_goals apply hk _
 all_goals simp_all
 all_goals omega
theorem aps{s:fh}{K:fB}{t:PK}(I:s.size<=9223372036854775807)(w:∀b,(b=true↔Fa s)->K b h):Yz s h K t:=by
 have p:¬Fa s->K false h:=λn=>w false ⟨aA,λx=>(n x).elim⟩
 have loop:1<=s.size->s.size<=48->(∀b:UInt8,s[0]? =some b->¬sK (b.toNat:Int))->I9 K t s h:=by
  intro D C B;refine aDn (aA1 (λx F=>F=h/\∃i:Nat,x=i/\i<=s.size/\∀j b,j<i->s[j]? =some b->FB j (b.toNat:Int)) (λx _=>s.size-x.toNat) ⟨rfl,0,rfl,ag,λj b E=>ag⟩ ?_)
  rintro x L ⟨rfl,i,rfl,J,g⟩ M hN;refine cE (λf=>?_) λf=>?_
  ·have u:i<s.size:=ag;have a:=getElem?_pos s i u;generalize s[i]=b at a;refine⟨b,ag,by rw[gf];exact a,apt λr v=>aG (λl=>?_) λl=>?_⟩
   ·have l:=aS l;subst l;refine p λq=>?_;have:=q.2.2 i b a;have z:¬(yP _\/sK _):=λz=>by simpa using v.2 z
    exact z (this.imp id And.left)
   ·have l:=aS l;subst l;refine aX ag ag (hN _ _ ⟨rfl,i+1,aA,ag,λj A E d=>?_⟩ ag)
    by_cases e:j=i
    ·subst e;rw[a]at d;cases d;rcases v.1 rfl with q|q
     ·exact .inl q
     ·refine .inr ⟨q,λe0=>?_⟩;subst e0;exact B b a q
    ·exact g j A ag d
  ·refine w true ⟨λ_=>⟨D,C,λj b a=>?_⟩,λ_=>rfl⟩;have:j<s.size:=by
    rcases Nat.lt_or_ge j s.size with h|h
    ·exact h
    ·simp_all
   exact g j b ag a
 refine aGA (aG (λc=>?_) λc=>aja (aG (λf=>?_) λf=>?_))
 ·have c:=aS c;exact aja (bS rfl (p λq=>by have:=q.1;omega))
 ·have f:=aS f;exact p λq=>by have:=q.2.1;omega
 ·simp only[sm,reduceCtorEq]at c f;have a:=getElem?_pos s 0 ag;generalize s[0]=b at a;have ix:∀{K:Int->Prop},K b.toNat->iu s 0 K:=λk=>⟨b,ag,a,k⟩
  have o:sK (b.toNat:Int)->K false h:=λz=>p λq=>by
   rcases q.2.2 0 b a with y|y
   ·grind[yP,sK]
   ·exact y.2 rfl
  have m:¬sK _->I9 K t s h:=λz=>loop ag ag λA d=>by rw[a]at d;cases d;exact z
  grind[sK,aG,sm]
theorem ape{k w id ix:Int}{K:fB}(hk:∀b h',az h h'->(b=true↔Shaped k w id ix s.n)->K b h'):Yy k w id ix s h K Kp:=by
 refine aGz (aF λb1 h1 e1 g1 k1 _=>?_);have hk:=λb=>hk b h1 g1;have last:∀{lo hi:Int}{wb ib xb:Bool},(∀b:Bool,(b=true↔(1<=k/\k<=20)/\wb=true/\ib=true/\xb=true/\lo<=s.n/\(s.n:Int)<=hi)->K b h1)->uf K Kp (aJ b1) lo hi wb ib xb h1:=by
  intro lo hi wb ib xb q;refine aDm (aj k1 rfl (aj k1 rfl ?_));cases wb <;> cases ib <;> cases xb <;> repeat' first|(with_reducible first|refine aDl ?_|refine aDk ?_|refine aDj ?_|refine aDi ?_|refine aDh ?_|refine ug ?_|refine uh ?_|refine cE (λc=>?_) λc=>?_)|refine aj k1 rfl ?_
  all_goals apply q _
  all_goals simp_all
  all_goals try omega
 unfold Shaped at hk;refine aj k1 rfl (aj k1 rfl (aj k1 rfl (aj k1 rfl ?_)))
 repeat' first|(with_reducible first|refine aDg ?_|refine aDf ?_|refine ug ?_|refine uh ?_|refine cE (λc=>?_) λc=>?_)|refine aj k1 rfl ?_
 all_goals refine last λb hb=>hk b (hb.trans ?_)
 all_goals simp only[sm,reduceCtorEq]at*
 all_goals simp[false_and];omega
 all_goals omega
theorem apq{n:fh}{au:Bool}{k w id ix:Int}{cs:cN}{H:Hp}{K:fB}{x:PK}(g:az H h)(p:cH H s cs)(t:k=20->cs.length=1)(d:∀b m,az h m->(b=true↔AH k au cs)->K b m):Yx n au k w id ix s h K x:=by
 refine aGy (aF λy r e1 o j _=>?_);have d:=λb=>d b r o;unfold AH at d;simp only[bz,Nat.reduceAdd];refine aj j rfl (aG (λc=>?_) λc=>aG (λi=>?_) λi=>aG (λe=>?_) λe=>?_)
 ·have c:=aS c;subst c;refine aj j rfl (d _ ?_);simp
 ·have i:=aS i;subst i;refine aj j rfl (d _ ?_);simp
 ·have e:=aS e;subst e;have l:cs[0]? =some cs[0]:=by simp_all
  refine aj j rfl (aj j rfl ?_);generalize cs[0]=f at l;refine p.ix rfl l λa q=>?_;obtain⟨u,_,_,v,_⟩:=q.cells;refine⟨_,(ak g o).cell v,d _ ?_⟩;simp[l]
 ·simp only[sm,reduceCtorEq]at c i e;apply d _;simp[c,i,e]
def Pl.row(x:Pl)(sp sf sa:Sl):List Value:=[Sl.v sp,.string x.f.name,.bool x.f.au,ah x.f.k,ah x.f.w,ah x.f.id,ah x.f.ix,Sl.v sf,Sl.v sa,.bool x.ins]
def Wn(h0:Hp)(x:Pl)(sp sf sa:Sl):Prop:=sp.n=x.deep/\sp.n<=sp.c/\cH h0 sf x.f.cs/\cH h0 sa x.ahead/\x.f.fN/\x.ahead.length<=jO
structure mJ(lo:Nat)(h0 h:Hp)(s:Sl)(xs:List Pl):Prop where
 r:∃rows,eW lo 10 h s rows IK/\rows.length=xs.length/\∀(i:Nat)x,xs[i]? =some x->∃sp sf sa,rows[i]? =some (x.row sp sf sa)/\Wn h0 x sp sf sa
section
variable {xs:List Pl}
theorem mJ.n(o:mJ lo h0 h s xs):s.n=xs.length:=by
 obtain⟨rows,r,l,_⟩:=o.r;rw[<-l];exact r.n
theorem mJ.at(o:mJ lo h0 h s xs){c:Nat}(z:s.at c):lo<=c/\c<h.size:=by
 obtain⟨rows,r,_⟩:=o.r;exact r.at z
theorem mJ.fr(o:mJ lo h0 h s xs)(f:Tn S h h')(z:∀c,s.at c->¬S c):mJ lo h0 h' s xs:=by
 obtain⟨rows,r,l,q⟩:=o.r;refine⟨rows,⟨r.len,r.n,?_⟩,l,q⟩;rcases r.sh with e|⟨b,d,b2,a⟩
 ·exact .inl e
 ·exact .inr ⟨b,d,by have:=f.1;omega,a.fr f (z b ⟨_,a.1,rfl⟩)⟩
theorem mJ.ai(o:mJ lo h0 h s xs)(g:az h h'):mJ lo h0 h' s xs:=o.fr (bg g) λ_ _=>id
theorem mJ.ix(o:mJ lo h0 h s xs){x:Int}{i:Nat}(B:x=i){p:Pl}(z:xs[i]? =some p){K:Addr->Prop}(C:∀a sp c g,Cs h a (p.row sp c g)->Wn h0 p sp c g->K a):Ix s.a s.n 10 x K:=by
 obtain⟨rows,r,l,q⟩:=o.r;have f:=(de.1 z).1;obtain⟨sp,c,g,e,ok⟩:=q i p z;rcases r.cases with⟨_,e0⟩|⟨b,_,d⟩
 ·grind
 ·exact d.ix B ag (C _ sp c g (d.cs e) ok)
theorem mJ.P1(o:mJ lo h0 h s xs){i:Nat}(w:i<=xs.length){K:Sl->Prop}(g:∀t,(∀c,t.at c->s.at c)->t.n=i->(∀(j:Nat)p,j<i->xs[j]? =some p->∀{K:Addr->Prop},(∀a sp d f,Cs h a (p.row sp d f)->Wn h0 p sp d f->K a)->Ix t.a t.n 10 (j:Int) K)->K t):jo s 10 none (some (i:Int)) none K:=by
 have u:=o.n;obtain⟨rows,r,l,q⟩:=id o.r;have y:=r.cap;refine⟨aA,aA,by simp;omega,aA,?_⟩
 simp only[wG,pQ,MB,gf];have m:kV s.a 0 s.c 10=s.a:=by
  unfold kV;split
  ·rfl
  ·simp[add_zero']
 rw[m];refine g _ (λc h=>h) rfl λj p v b K k=>?_;have:=o.ix rfl b k;unfold Ix at this ⊢;grind
end
def Oh(h0:Hp)(lo:Nat)(cs:cN):Prop:=∀{h:Hp}{sl sp so:Sl}{x:Bool}{xs:List Pl}{vs:bq}{d:Nat}{K:Sl->HP}{Kp:PK},cH h0 sl cs->cs.length<=jO->hY cs->az h0 h->h0.size<=lo->lo<=h.size->Sv h sp vs->(sp.a≠none\/vs=[])->(∀v∈vs,one v=true)->
 sp.n=d->d<=64->(∀c,sp.at c->c<h.size/\¬so.at c)->mJ lo h0 h so xs->xs.length<=257->(∀s' h',Tn so.at h h'->(∀c,s'.at c->so.at c\/h.size<=c)->mJ lo h0 h' s' ((xs++eB (d+1) [] x cs).take 257)->K s' h')->Fw sl sp x so h K Kp
theorem aqj{a:cN}{d:Nat}{B:Bool}:eB d [] B (a++[f])=eB d [] B a++f.places d a B:=by
 rw[Kr,Az];simp only[eB,qA]
theorem ads{cs:cN}(IH:∀f∈cs,Oh h0 lo f.cs):Oh h0 lo cs:=by
 intro h sl sp I x xs vs d K Kp hf hl n' g p' u' hp o' G hd q' m o hx hk;have sn:=hf.n;have s':jO=9223372036854775807:=rfl;have e':∀c,I.at c->h0.size<=c:=λc q=>by have:=(o.at q).1;omega
 refine aGO (aA6 (λc i h'=>∃j:Nat,i=j/\j<=cs.length/\Tn I.at h h'/\(∀b,c.at b->I.at b\/h.size<=b)/\mJ lo h0 h' c ((xs++eB (d+1) [] x (cs.take j)).take 257)) (λ_ i _=>cs.length-i.toNat) ⟨0,rfl,eu _,iV _ _,λb q=>.inl q,by
  simp only[IB,eB];grind[List.take_of_length_le]⟩ ?_)
 rintro c i P ⟨j,rfl,hj,M,V,E⟩ N hN;have s1:=M.1;have g1:az h0 P:=((bg g:Tn No h0 h).trans' M λc q l=>by have:=e' c q;omega).ai
 refine cE (λU=>?_) λU=>?_;rotate_left
 ·obtain rfl:j=cs.length:=ag;rw[m5]at E;exact hk c P M V E
 have l:j<cs.length:=ag;have hc:=bJ l;have D:=kH l;have f':=kS l;generalize cs[j]=f at hc D f';have B:=hY.get n' f D;have next:eB (d+1) [] x (cs.take (j+1))=eB (d+1) [] x (cs.take j)++f.places (d+1) (cs.take j) x:=by rw[f',aqj]
 refine hf.ix rfl hc λa ha=>?_;obtain⟨u,cu,hu⟩:=ha.row;refine gH (cu.ai g1) (aF λb2 h2 e2 g2 k2 _=>oO k2 rfl λh3 o3 k3=>?_);have T:=bI g2 o3 ag;have s3:=T.1;have cn:=E.n;refine aG (λZ=>?_) λZ=>?_
 ·have Z:=aS Z;have j':257<=(xs++eB (d+1) [] x (cs.take j)).length:=by rw[m8]at cn;omega
  apply hk c h3 (M.trans (bg T)) V;have e:(xs++eB (d+1) [] x cs).take 257=(xs++eB (d+1) [] x (cs.take j)).take 257:=by
   have e2:eB (d+1) [] x cs=eB (d+1) [] x (cs.take j)++eB (d+1) ([]++cs.take j) x (cs.drop j):=by rw[<-Kr,EL]
   rw[e2,<-rz,Is j']
  rw[e];exact E.ai T
 have Z:=aS Z;have mw:(xs++eB (d+1) [] x (cs.take j)).length<=256:=by rw[m8]at cn;omega
 rw[qy ag]at E;have v':∀b,sp.at b->b<h.size/\¬c.at b:=λb q=>⟨(m b q).1,λz=>by
  rcases V b z with y|y
  ·exact(m b q).2 y
  ·have:=(m b q).1;omega⟩
 have m':=hp.fr M λa e z=>(m a.block ⟨a,e,rfl⟩).2 z;refine aX ag ag (Fb ag ag ag λt h4 g4 ow t'=>?_);have l':=m'.ai (ak T g4);have b':t.n=d+1:=by have:=ow.2.1;simp at this;omega
 obtain⟨R,w2,wc,w3,w4,w5,w6⟩:=ow;have pl:=hp.1
 -- r' a'
 have a':∀{X:HP},(∀F,az h3 F->F.size=h4.size->Sv F t (vs++[ah (j:Int)])->X F)->AW h4 t.a (rd h4 sp.a (Nat.min sp.n t.n*1)) λh5=>Ix t.a t.n 1 (sp.n:Int) λp=>St h5 p (ah (j:Int)) X:=by
  intro X hX;have mn:Nat.min sp.n t.n*1=sp.n*1:=by rw[show Nat.min sp.n t.n=sp.n from Cr ag]
  rw[mn];refine⟨vs,l'.Bj o',?_⟩;rw[R];have i':=G;refine wP vs w3 ag i' λh5 w' o5 k5 l5 q5=>⟨ag,ag,?_⟩
  rw[bz];simp only[cF,gf,vi];refine dI k5 ag rfl λF o6 k6=>?_;have Q:=bI (bI g4 o5 ag) o6 ag;refine hX F Q (by have:=o5.1;have:=o6.1;omega) ⟨by simp;omega,ag,λy J=>⟨_,R,λi v A=>?_⟩⟩
  rw[bz,ia k6,sF];simp only[cF]
  by_cases e:sp.n=i
  ·subst e;rw[aK rfl,dV];rw[fU ag]at A;rw[show sp.n-vs.length=0 by omega]at A
   exact A
  ·rw[aC e,q5 i];have:i<(vs++[ah (j:Int)]).length:=(de.1 A).1;simp at this;rw[dV];rw[gN ag]at A
   simpa using A
 refine a' λF Q z6 k'=>dO (k3.ai Q) ?_;have ea:kV sl.a 0 sl.c 7=sl.a:=by
  unfold kV;split
  ·rfl
  ·cases sl.a with
   |none=>rfl
   |some a=>simp[add_zero']
 refine⟨aA,aA,by simp;omega,aA,?_⟩
 simp only[wG,pQ,MB,gf,MJ,ea];have hq:cH h0 ⟨sl.a,j,sl.c⟩ (cs.take j):=hf.take hj rfl rfl rfl;generalize(⟨sl.a,j,sl.c⟩:Sl)=q at hq;refine aF λb7 h7 e7 g7 k7 _=>?_;have G7:=ak (ak T Q) g7;obtain⟨rows,r1,rl,rq⟩:=(E.ai G7).r;refine r1.ap ag rfl (new:=[Pl.row ⟨d+1,cs.take j,f,x⟩ t u q]) rfl (by intro r S;simp at S;subst S;rfl) (by intro r S v A;simp at S;subst S;simp[Pl.row]at A;rcases A with rfl|rfl|rfl|rfl|rfl|rfl|rfl|rfl|rfl|rfl <;> rfl)
  (by simp only[Vu,List.flatten_nil,qA];exact iJ k7 rfl) ag ag λc' h8 f8 g' r8=>?_
 have s8:=f8.1;have o8:mJ lo h0 h8 c' (xs++eB (d+1) [] x (cs.take j)++[⟨d+1,cs.take j,f,x⟩]):=by
  refine⟨_,r8,by simp only[iA,jC]at rl ⊢;omega,λi y J=>?_⟩
  by_cases e:i<(xs++eB (d+1) [] x (cs.take j)).length
  ·rw[gN e]at J;rw[gN ag];exact rq i y J
  ·have hi:=(de.1 J).1;rw[iA,jC]at hi;rw[fU ag,show i-(xs++eB (d+1) [] x (cs.take j)).length=0 by omega]at J
   simp at J;subst J;refine⟨t,u,q,by rw[fU ag,show i-rows.length=0 by omega];rfl,b',ag,hu,hq,B,?_⟩
   show(cs.take j).length<=jO
   rw[m8];omega
 have C:∀b,c.at b->b<P.size:=λb z=>(E.at z).2;have t8:=(M.trans (bg G7)).trans' f8 λb z l=>(V b z).elim id λy=>ag
 have L:∀b,c'.at b->I.at b\/h.size<=b:=λb z=>(g' b z).elim (V b) λy=>.inr ag;have k8:=f8.aZ (k3.ai (ak Q g7)) (by intro z;have:=C b2 z;omega)
 have step:∀{W:Sl}{O:Hp},Tn I.at h O->(∀b,W.at b->I.at b\/h.size<=b)->mJ lo h0 O W ((xs++eB (d+1) [] x (cs.take (j+1))).take 257)->aP ((j:Int)+1) λi=>N (By sl sp x sl (sl.n:Int) W i) O:=λt9 a9 o9=>
  aX ag ag (hN _ _ _ ⟨j+1,ag,ag,t9,a9,o9⟩ ag)
 have d':f.places (d+1) (cs.take j) x=⟨d+1,cs.take j,f,x⟩::(if d+1<65 then eB (d+1+1) [] (x||f.k==19) f.cs else[]):=by
  obtain⟨nm,au,k,w,id,ix,ds⟩:=f;simp only[aq.places,aq.k,aq.cs]
 refine cE (λY=>?_) λY=>?_;rotate_left
 ·apply step t8 L;rw[next,d',ay,<-rz,qy (by simp at mw ⊢;omega)]
  exact o8
 have H:∀{y:Bool},y=(x||f.k==19)->Fw u t y c' h8 (λW O=>aP ((j:Int)+1) λi=>N (By sl sp x sl (sl.n:Int) W i) O) Kp:=by
  rintro y rfl;refine IH f D hu (by obtain⟨nm,au,k,w,id,ix,ds⟩:=f;unfold aq.fN at B;exact B.2.1) (by obtain⟨nm,au,k,w,id,ix,ds⟩:=f;unfold aq.fN at B;exact B.2.2)
   (((bg g:Tn No h0 h).trans' t8 λb z l=>by have:=e' b z;omega).ai) p' ag (((k'.ai g7).fr f8 λa e z=>by rw[R]at e;cases e;have:=C _ z;simp at this;omega)) (.inl (by rw[R];simp))
   (by intro v A;rcases nh.1 A with z|z;exact G v z;simp at z;subst z;rfl) b' ag (λb z=>?_) o8 (by simp at mw ⊢;omega) λs9 O t9 a9 o9=>?_
  ·obtain⟨a,e,rfl⟩:=z;rw[R]at e;cases e;refine⟨by simp only;omega,λz=>?_⟩
   rcases g' _ z with y|y
   ·have:=C _ y;simp at this;omega
   ·simp at y;omega
  ·refine step (t8.trans' t9 λb z l=>(L b z).elim id λy=>ag) (λb z=>(a9 b z).elim (L b) λy=>.inr (by have:=t8.1;omega)) ?_
   rw[next,d',dV];have e:xs++(eB (d+1) [] x (cs.take j)++(⟨d+1,cs.take j,f,x⟩::eB (d+1+1) [] (x||f.k==19) f.cs))=xs++eB (d+1) [] x (cs.take j)++[⟨d+1,cs.take j,f,x⟩]++eB (d+1+1) [] (x||f.k==19) f.cs:=aA
   rw[e];exact o9
 refine aj k8 rfl (aG (λcx=>?_) λcx=>aj k8 rfl ?_)
 ·exact H (by rw[cx];rfl)
 ·exact H (by rw[cx];rfl)
theorem adt:∀f:aq,Oh h0 lo f.cs
 |.mk _ _ _ _ _ _ cs=>ads (cs:=cs) λf _=>adt f
theorem auQ(cs:cN):Oh h0 lo cs:=ads λf _=>adt f
theorem uQ{b n:Nat}{cs:Array Value}{vs:bq}(k:aN h b cs el)(c:∀(i:Nat)v,vs[i]? =some v->cs[n+i]? =some v):Cs h ⟨b,n,none⟩ vs:=λi v q=>by
 rw[bz,ia k];simp[*]
theorem acO{w:Int}{l:List Pl}:∀{b:List Int},w∈lG b l↔w∈b\/∃y∈l,y.f.k=19/\y.f.id=w:=by
  induction l with
  |nil=>intro b;simp[lG]
  | cons x xs c=>
    intro b;simp only[lG,c,xw];grind
section
variable {xs:List Pl} {x:Pl}
theorem aoT{a:Int}{K:cK}(o:mJ lo h0 h s xs)(g:az h0 h)(hx:a=i)(hp:xs[i]? =some x)(hl:xs.length<=257)(hk:∀c G,az h G->(c=0↔AG i (lG [] (xs.take i)) x)->K c G):YI s a h K Kp:=by
 subst hx;have q':jO=9223372036854775807:=rfl;have s':=(de.1 hp).1;have d:∀{c:Int}{G:Hp},az h G->c≠0->¬AG i _ x->K c G:=λg' c0 n=>hk _ _ g' ⟨λe=>absurd e c0,λe=>absurd e n⟩;refine aGN (o.ix rfl hp λa sp sf sa cs ok=>?_);obtain⟨p1,p2,p3,p4,p5,p6⟩:=ok;have r':x.f.name.size<=jO:=by obtain⟨_,_,f,_⟩:=x;obtain⟨nm,au,k,w,id,ix,ds⟩:=f;simp only[aq.fN]at p5;exact p5.1
 refine Fe.c cs (aF λb1 h1 e1 g1 k1 _=>yJ.b k1 rfl λh2 o2 D=>gH (uQ D (vs:=[.string x.f.name,.bool x.f.au,ah x.f.k,ah x.f.w,ah x.f.id,ah x.f.ix,Sl.v sf]) λi v Y=>?_) ?_)
 ·rcases i with _|_|_|_|_|_|_|i <;> simp at Y⊢ <;> exact Y
 have g2:=bI g1 o2 ag;refine aF λb3 h3 e3 g3 k3 _=>oO k3 rfl λh4 o4 m=>?_;have g4:=bI g3 o4 ag;have G4:=ak g2 g4;have D:=D.ai g4;refine aj D rfl (aG (λc=>?_) λc=>aG (λc2=>?_) λc2=>?_)
 ·have c:=aS c;exact d G4 bw λq=>by have:=q.1;omega
 ·have c2:=aS c2;exact d G4 bw λq=>by have:=q.2.1;omega
 simp only[sm,reduceCtorEq]at c c2;refine aj m rfl (aps ag λb J=>aG (λS=>?_) λS=>aj D rfl ?_)
 ·have S:=aS S;subst S;exact d G4 bw λq=>by have:=J.2 q.2.2.1;cases this
 have S:=aS S;subst S;have q3:=J.1 rfl;have an:=p4.n;apply aA4 (λy G=>∃j:Nat,y=j/\j<=x.ahead.length/\az h4 G/\∀g∈x.ahead.take j,g.name≠x.f.name) (λy _=>x.ahead.length-y.toNat) ⟨0,rfl,eu _,cQ _,λg hg=>by simp at hg⟩
 rintro y h5 ⟨j,rfl,hj,g5,r⟩ N hN;have G5:=ak G4 g5;have D:=D.ai g5;have m:=m.ai g5;refine cE (λc5=>?_) λc5=>?_
 ·have B:j<x.ahead.length:=ag;have W:=bJ B;have E:=kS B;have M:=kH B;generalize x.ahead[j]=f at W E M;refine p4.ix rfl W λa2 U=>?_;obtain⟨u,cu,hu⟩:=U.row;refine gH (cu.ai (ak g G5)) (aF λb6 h6 e6 P k6 _=>oO k6 rfl λX o7 k7=>?_);have L:=bI P o7 ag;refine aj k7 rfl (aj (m.ai L) rfl (aG (λA=>?_) λA=>?_))
  ·rw[Ck]at A;exact d (ak G5 L) bw λq=>q.2.2.2.1 f M A
  ·rw[Vq,ne_eq,Ck]at A;refine aX ag ag (hN _ _ ⟨j+1,ag,ag,ak g5 L,λg' c'=>?_⟩ ag)
   rw[E]at c';rcases nh.1 c' with z|z
   ·exact r g' z
   ·simp at z;subst z;exact A
 obtain rfl:j=x.ahead.length:=ag;rw[m5]at r;refine aDy (nF (uQ m (vs:=[ah x.f.k,ah x.f.w,ah x.f.id,ah x.f.ix,Sl.v sf]) λi v Y=>?_) (ape λb h6 P J=>aG (λA=>?_) λA=>?_))
 ·rcases i with _|_|_|_|_|i <;> simp at Y⊢ <;> exact Y
 ·have A:=aS A;subst A;exact d (ak G5 P) bw λq=>by have:=J.2 (by rw[p3.n.1];exact q.2.2.2.2.1);cases this
 have A:=aS A;subst A;have q5:Shaped x.f.k x.f.w x.f.id x.f.ix x.f.cs.length:=by have:=J.1 rfl;rwa [p3.n.1]at this
 have G6:=ak G5 P;have m:=m.ai P;have D:=D.ai P;have i':=q5;unfold Shaped at i';refine dO m (apq (ak g G6) p3 (λe=>ag) λb X L d'=>cE (λR=>?_) λR=>?_)
 ·subst R;exact d (ak G6 L) bw λq=>by have:=d'.2 q.2.2.2.2.2.1;cases this
 subst R;have q6:=d'.1 rfl;have T:=ak G6 L;have m:=m.ai L;have D:=D.ai L;have two:¬(x.ins=true/\(x.f.k=19\/x.f.k=20))->N9 K Kp s i (aJ b3) X:=by
  intro q7;refine aDx (aj m rfl (aG (λl=>aj m rfl ?_) λl=>?_));rotate_left
  ·have l:=aS l;exact hk 0 X T ⟨λ_=>⟨ag,ag,q3,r,q5,q6,q7,λe=>absurd e l⟩,λ_=>rfl⟩
  have l:=aS l;have I:x.f.cs[0]? =some x.f.cs[0]:=bJ ag;generalize x.f.cs[0]=c0 at I;refine p3.ix rfl I λa2 U=>?_;obtain⟨u,_,_,cn,_⟩:=U.cells;refine⟨_,(ak g T).cell cn,aG (λQ=>?_) λQ=>?_⟩
  ·exact d T bw λq=>by
    obtain⟨c,e,z⟩:=(q.2.2.2.2.2.2.2 l).1;rw[I]at e;cases e;rw[Q]at z;cases z
  refine(o.ai T).P1 ag λt _ tn f'=>aA5 (λy G=>∃j:Nat,y=j/\j<=i/\az X G/\∀p∈xs.take j,¬(p.f.k=19/\p.f.id=x.f.id)) (λy _=>i-y.toNat) ⟨0,rfl,eu _,cQ _,λp hp=>by simp at hp⟩ ?_
  rintro y h8 ⟨j,rfl,hj,Z,b'⟩ N hN;refine cE (λF=>?_) λF=>?_
  ·have B:j<xs.length:=ag;have W:=bJ B;have E:=kS B;generalize xs[j]=p at W E;refine f' j p ag W λa3 l' m' n' k' o'=>Fe.c (k'.ai Z) (aF λb9 h9 e9 g9 k9 _=>yJ.b k9 rfl λe' j' a'=>?_);have V:=bI g9 j' ag;have step:¬(p.f.k=19/\p.f.id=x.f.id)->aP ((j:Int)+1) λc=>N (Gz (aJ b3) t (t.n:Int) c) e':=λz=>
    aX ag ag (hN _ _ ⟨j+1,ag,ag,ak Z V,λp' H=>by
     rw[E]at H;rcases nh.1 H with y|y
     ·exact b' p' y
     ·simp at y;subst y;exact z⟩ ag)
   refine aj a' rfl (aG (λC=>aj a' rfl (aj (m.ai (ak Z V)) rfl (aG (λsx=>?_) λsx=>step ?_))) λC=>step ?_)
   ·simp only[sm,reduceCtorEq]at C sx;refine d (ak T (ak Z V)) bw λq=>(q.2.2.2.2.2.2.2 l).2 (acO.2 (.inr ⟨p,?_,C,sx⟩));exact bT (i:=j) (by rw[Vi,dV];exact W)
   ·have sx:=aS sx;exact λz=>sx z.2
   ·have C:=aS C;exact λz=>C z.1
  ·obtain rfl:j=i:=ag;refine hk 0 h8 (ak T Z) ⟨λ_=>⟨ag,ag,q3,r,q5,q6,q7,λe=>⟨⟨c0,I,Q⟩,λz=>?_⟩⟩,λ_=>rfl⟩
   rcases acO.1 z with z|⟨p,H,z⟩
   ·simp at z
   ·exact b' p H z
 have O:∀{b:Bool},(b=true↔x.f.k=19\/x.f.k=20)->N8 K Kp s i (aJ b1) (aJ b3) b X:=by
  intro b J;refine aDw (aG (λl=>aj D rfl (aG (λQ=>?_) λQ=>two λq=>by rw[Q]at q;cases q.1)) λl=>two λq=>by have:=J.2 q.2;rw[l]at this;cases this)
  exact d T bw λq=>q.2.2.2.2.2.2.1 ⟨Q,J.1 l⟩
 refine aj m rfl (aG (λl=>O ?_) λl=>aj m rfl (O ?_))
 ·have l:=aS l;simp[l]
 ·have l:=aS l;simp[l]
end
theorem aHu{xs:List Pl}:∀{n:Nat}{a:List Int},gP n a xs↔∀(i:Nat)x,xs[i]? =some x->AG (n+i) (lG a (xs.take i)) x:=by
  induction xs with
  |nil=>intro n a;simp[gP]
  | cons y f c=>
    intro n a;simp only[gP,c];constructor
    · rintro⟨e,d⟩ i x b;rcases i with _|i
      ·simp at b;subst b;exact e
      · have:=d i x (by simpa using b)
        rw[show n+(i+1)=n+1+i by omega];exact this
    · intro q;refine⟨q 0 y rfl,λi x b=>?_⟩;have:=q (i+1) x dG
      rw[show n+1+i=n+(i+1) by omega];exact this
theorem aHt{xs:List Pl}:gP 0 [] (xs.take 257)↔gP 0 [] xs:=by
 by_cases h:xs.length<=257
 ·rw[qy h]
 ·constructor
  ·intro q;have:=Y1 q ag;grind
  ·intro q;have:=Y1 q ag;omega
section
variable {K:Int->Sl->Int->HP}
theorem apH{sl:Sl}{l:cN}(T:cH h sl l)(O:hY l)(hl:l.length<=32)(S:∀e p n g,az h g->p.n<=p.c->(e=0↔E6 l [])->K e p n g):YS sl Sl.nil h K Kp:=by
 have a':jO=9223372036854775807:=rfl;have sn:=T.n;refine aG3 (aF λa h1 e1 X t _=>aF λb h2 e2 J A _=>?_);have t:=t.ai J;have Y:=ak X J;refine aj t rfl (bu cy (aj t rfl (bu (by rfl) (aj t rfl (aBi (λy g=>y=0/\g=h2) (λ_ _=>0) ⟨rfl,rfl⟩ ?_)))))
 rintro y g ⟨rfl,rfl⟩ N hN;refine bu (by rfl) (aDM (aj t rfl ?_))
 have M:mJ g.size h g Sl.nil []:=⟨[],tL _ _ _ _,rfl,λi x B=>by simp at B⟩
 refine auQ l (d:=0) T ag O Y ag (bX _) (yu _) (.inr rfl) aA rfl ag (λc q=>absurd q (Sl.UN c)) M aA λs' V Z _ w=>?_
 have W:=Z.TO λd q=>absurd q (Sl.UN d);rw[Az]at w;have A:=A.ai W;have L:=ak Y W;have o:((eB 1 [] false l).take 257).length<=257:=by rw[m8];omega
 have f:gP 0 [] ((eB 1 [] false l).take 257)↔E6 l []:=by
  rw[aHt,FE];unfold E6;constructor
  ·simp[*]
  ·simp
 generalize(eB (0+1) [] false l).take 257=xs at w o f;have f:=f;have on:=w.n;rw[aHu]at f;simp only[cF]at f;apply aBj (λy g=>∃j:Nat,y=j/\j<=xs.length/\az V g/\∀(i:Nat)x,i<j->xs[i]? =some x->AG i (lG [] (xs.take i)) x) (λy _=>xs.length-y.toNat) ⟨0,rfl,eu _,cQ _,λi x hi=>ag⟩
 rintro y h4 ⟨j,rfl,hj,r,R⟩ N hN;have Q:=w.ai r;refine cE (λc=>?_) λc=>?_
 ·have u:xs[j]? =some xs[j]:=aA;generalize xs[j]=x at u;refine aoT Q (ak L r) rfl u o λe h5 C U=>cE (λk=>?_) λk=>?_
  ·refine(Q.ai C).ix rfl u λa2 sp sf sa cs ok=>?_;have c0:=Cs.c0 cs;refine⟨sp,c0,mZ ((A.ai r).ai C) rfl λI F G=>oN G (S _ _ _ I ?_ ok.2.1 ⟨λz=>absurd z k,λz=>absurd (U.2 (f.2 z j x u)) k⟩)⟩;exact bI (ak (ak L r) C) F ag
  ·refine aX ag ag (hN _ _ ⟨j+1,ag,ag,ak r C,λi y hi H=>?_⟩ ag)
   by_cases e:i=j
   ·subst e;rw[u]at H;cases H;exact U.1 k
   ·exact R i y ag H
 ·refine mZ (A.ai r) rfl λI F G=>oN G (S _ _ _ I (bI (ak L r) F ag) (bX _) ⟨λ_=>f.1 λi x B=>?_,λ_=>rfl⟩);have:=(de.1 B).1;exact R i x ag B
theorem aaK(P:cH h s f.cs)(y:f.fN)(z:∀e p n C,az h C->(e=0↔bB f)->K e p n C):Oi f.name f.au f.k f.w f.id f.ix s h K Kp:=by
 refine aD3 (aF λa h1 e1 E N _=>aF λb h2 e2 u g _=>dO (N.ai u) (aF λc T e3 t M _=>?_));have G:=ak (ak E u) t;have g:=g.ai t;have Q:cH T ⟨some (aJ c),1,1⟩ [f]:=by
  unfold cH;refine⟨rfl,bX _,_,rfl,?_,trivial⟩;obtain⟨nm,au,k,w,id,ix,ds⟩:=f;unfold jR;exact⟨s,uQ M λi v O=>by rw[cF,pO];exact O,P.gr G⟩
 refine apH Q ⟨y,trivial⟩ aA λe p n S r pc A=>aF λd h5 e5 D L _=>mZ L rfl λB I l=>aj l rfl ?_;have q:=bI D I ag;have g:=g.ai r;have l2:=g.lt;have g:=g.ai q;have F:=ak (ak G r) q;refine aG (λc=>aj l rfl ?_) λc=>oN l (mZ g rfl λo j m=>oN m (z _ _ _ o (bI F j ag) A));refine⟨aA,bZ,dG,aA,(dI l aA rfl λo j m=>?_)⟩
 have j:eJ d B o:=j;refine oN m (mZ (j.aZ g ag) rfl λR H J=>oN J (z _ _ _ R ?_ A));exact bI (bI F j ag) H ag
theorem Kg{K:fB}(l:cH h s f.cs)(c:f.fN)(m:∀b d,az h d->(b=true↔bB f)->K b d):Om f.name f.au f.k f.w f.id f.ix s h K Kp:=by
 refine aEc (aF λa t e1 g j _=>dO j (aaK (l.gr g) c λe p n q r o=>m _ q (ak g r) ?_));simp[*]
theorem apg{K:fB}(r:cH h s f.cs)(c:f.fN)(t:∀b d,az h d->(b=true↔bB f)->K b d):XT f.name f.au f.k f.w f.id f.ix s h K Kp:=by
 refine aFk (aF λa B e1 j q _=>dO q (aaK (r.gr j) c λe p n A y u=>aF λb z C g o _=>mZ o rfl λv l m=>aj m rfl (t _ v ?_ ?_)))
 ·have:=g.1;exact ak (ak j y) (bI g l ag)
 simp[*]
end
def MS(f:aq):Prop:=∀{D E:aQ}{h:Hp}{s t:Sl}{v:aB}{K:fB}{Kp:PK},bB f->bM D h s f.cs->aO E h t v.items->v.lU->v.bx<=2^50->(∀b h',az h h'->(b=true↔f.fit v=true)->K b h')->
 AS f.name f.au f.k f.w f.id f.ix s v.au v.num (bs v.text) t h K Kp
section
variable {E:aQ} {K:fB}
theorem xC(h:f.fit v=true):v.items.length<=4096:=by rw[eM]at h;exact Eh h
theorem asa(IH:∀c∈f.cs,MS c)(O:bB f)(f':f.k=1\/(15<=f.k/\f.k<=18))(gR:v.au=false)(ht:v.text.length=0)(hs:bM D h s f.cs)(hv:aO E h t v.items)(hr:v.lU)(hw:v.bx<=2^50)(hk:∀b H,az h H->(b=true↔f.fit v=true)->K b H):XY f.k f.w f.id f.ix s v.au v.num (bs v.text) t h K Kp:=by
 obtain⟨h0,oa,i',W,_,_,_,T,b',g',_⟩:=O.right.1;have hn:=hv.n;have e':=hs.n;have d':=hO v;refine aFr (aF λb1 hA e1 g1 o _=>aF λb2 hB e2 g2 r _=>aj r rfl (aj (o.ai g2) rfl ?_));have L:=ak g1 g2;have o:=o.ai g2;have A:∀{H},az hB H->f.fit v≠true->K false H:=λg q=>hk false _ (ak L g) ⟨λz=>by(cases z),λz=>absurd z q⟩
 have B:=cQ hB;have X:¬v.items.length<=4096->f.fit v≠true:=λq z=>q (xC z);have loop:(f.k=15\/f.k=16\/f.k=17)->v.items.length<=4096->v.num=0->(f.k=16->v.items.length=f.w.toNat)->(f.k=17->v.items.length=f.cs.length)->Fi K Kp (aJ b1) (aJ b2) (t.n:Int) hB:=by
  intro C cl cn cw cc;have U:=Ej C (λq=>T ag) cl gR;refine aCa (aAA (λy H=>∃j:Nat,y=j/\j<=v.items.length/\az hB H/\Fl f v.items j) (λy _=>v.items.length-y.toNat) ⟨0,rfl,eu _,B,λi y hi=>ag⟩ ?_)
  rintro y h4 ⟨j,rfl,hj,I,V⟩ N hN;have o:=o.ai I;have r:=r.ai I;refine cE (λc=>?_) λc=>?_
  ·have S:v.items[j]? =some (v.items[j]' ag):=aA;generalize v.items[j]' ag=x at S;have d:=bT S;have a':=oB d;have G:∀m:Nat,m=uJ f j->Nk K Kp N (aJ b1) (aJ b2) (t.n:Int) (j:Int) (m:Int) h4:=by
    intro m Y;have ml:m<f.cs.length:=by
     unfold uJ at Y;split at Y
     ·omega
     ·omega
    have Z:f.cs[m]? =some (f.cs[m]' ml):=aA;have l:f.cs[m]' ml∈f.cs:=aA;generalize f.cs[m]' ml=c0 at Z l;refine aB9 (aj o rfl ((hs.gr (ak L I)).ix rfl Z λp u cp hu=>gH cp (aj r rfl ((dU hv (ak L I)).ix rfl S λp2 u2 Q M=>gY Q (IH c0 l (O.aM l) hu M (Bi hr.items x d) ag λb h5 g5 hb=>aG (λa=>A (ak I g5) λq=>?_) λa=>aX ag ag (hN _ _ ⟨j+1,ag,ag,ak I g5,λi y hi F=>?_⟩ ag))))))
    ·have a:=aS a;subst a;obtain⟨c',e1,e2⟩:=(U.1 q).2.2.2.2 j x ag S;rw[<-Y,Z]at e1;cases e1;have:=hb.2 e2;cases this
    ·have a:=aS a;subst a
     by_cases e:i=j
     ·subst e;rw[S]at F;cases F;exact⟨c0,by rw[<-Y];exact Z,hb.1 rfl⟩
     ·exact V i y ag F
   refine aj o rfl (aG (λa=>G j ?_) λa=>G 0 ?_)
   ·have a:=aS a;unfold uJ;simp[*]
   ·have a:=aS a;unfold uJ;simp[*]
  ·obtain rfl:j=v.items.length:=ag;exact hk true h4 (ak L I) ⟨λ_=>U.2 ⟨cn,ht,cw,cc,V⟩,λ_=>rfl⟩
 have num:(f.k=15\/f.k=16\/f.k=17)->(f.k=16->v.items.length=f.w.toNat)->(f.k=17->v.items.length=f.cs.length)->v.items.length<=4096->If (v.num !=0) (K false hB) (Fi K Kp (aJ b1) (aJ b2) (t.n:Int) hB):=by
  intro C cw cc cl;refine aG (λc=>A B λq=>?_) λc=>loop C cl ?_ cw cc
  ·have c:=aS c;exact c ((Ej C (λq=>T ag) cl gR).1 q).1
  ·have c:=aS c;exact c
 refine aG (λc=>aG (λa=>A B (X ?_)) λa=>aj r rfl (num (.inl ?_) (λz=>?_) (λz=>?_) ?_)) λc=>aG (λa=>aj o rfl (aG (λR=>A B λq=>?_) λR=>aj r rfl (num (.inr (.inl ?_)) (λz=>?_) (λz=>?_) ?_))) λa=>
  aG (λR=>aj o rfl (aG (λJ=>A B λq=>?_) λJ=>aj r rfl (num (.inr (.inr ?_)) (λz=>?_) (λz=>?_) ?_))) λR=>aG (λJ=>?_) λJ=>A B λq=>?_
 all_goals simp only[sm,reduceCtorEq]at*
 ·omega
 ·omega
 ·omega
 ·omega
 ·omega
 ·have:=((Ej (.inr (.inl a)) (λq=>T ag) (xC q) gR).1 q).2.2.1 a;omega
 ·omega
 ·omega
 ·omega
 ·omega
 ·have:=((Ej (.inr (.inr R)) (λq=>T ag) (xC q) gR).1 q).2.2.2.1 R;omega
 ·omega
 ·omega
 ·omega
 ·omega
 ·refine aG (λc5=>aj r rfl (aG (λc6=>aj r rfl (aj o rfl (aG (λc7=>aj o rfl (aj r rfl ?_)) λc7=>A B λq=>?_))) λc6=>A B λq=>?_)) λc5=>A B λq=>?_
  all_goals simp only[sm,reduceCtorEq]at*
  ·have l1:v.items.length=1:=ag;have U:=Ek J ag gR;have P:f.cs[v.num.toNat]? =some (f.cs[v.num.toNat]' ag):=aA;have l:f.cs[v.num.toNat]' ag∈f.cs:=aA;have F:v.items[0]? =some (v.items[0]' ag):=aA;generalize f.cs[v.num.toNat]' ag=c0 at P l;generalize v.items[0]' ag=x at F;have d:=bT F;have a':=oB d;have e1:(f.cs.map aq.fit).getD v.num.toNat uE (v.items.getD 0 v0)=c0.fit x:=by rw[gV,eY,P,gV,F];rfl
   rw[e1]at U;refine(hs.gr L).ix ag P λp u cp hu=>gH cp (aj r rfl ((dU hv L).ix rfl F λp2 u2 Q M=>gY Q (IH c0 l (O.aM l) hu M (Bi hr.items x d) ag λb h5 g5 hb=>hk b h5 (ak L g5) (hb.trans ?_))));rw[U];exact⟨λq=>⟨ht,c6,ag,l1,q⟩,λq=>q.2.2.2.2⟩
  ·have:=(Ek J (xC q) gR).1 q;omega
  ·have:=(Ek J (xC q) gR).1 q;omega
  grind[Ek,xC]
 ·have o:f.k=1:=ag;simp_all[eM,fG,aC,ag]
theorem apw(IH:∀c∈f.cs,MS c):MS f:=by
 intro D E h s t v K Kp O hs hv hr hw hk;obtain⟨h0,oa,a',g',_,_,_,Z,f',e',_⟩:=O.right.1;have hn:=hv.n;have d':=hO v;refine aFA (aF λb1 hA e1 g1 X _=>aF λb2 hB e2 g2 o _=>nF (Bh (X.ai g2)) (aF λb3 hC e3 g3 G _=>pM G rfl λH o3 G=>?_));have g4:=bI g3 o3 ag;have V:=ak (ak g1 g2) g4;have X:=(X.ai g2).ai g4;have o:=o.ai g4;have fin:∀{b h'},az H h'->(b=true↔f.fit v=true)->K b h':=λg q=>hk _ _ (ak V g) q;have N:=cQ H;have B:f.fit v=fG f.k f.w f.lets (f.cs.map aq.fit) v:=by rw[eM]
 have S:((bs v.text).toList==(bs []).toList)=decide (v.text.length=0):=by
  rw[Cm,ki];simp[jB]
 have L:((t.n:Int)==0)=decide (v.items.length=0):=by rw[ki];simp[hn.1]
 have n0:((v.num:Int)==0)=decide (v.num=0):=by rw[ki];simp
 refine aj o rfl (aG (λc=>?_) λc=>aCw (aj G rfl (apo (aG (λJ=>?_) λJ=>?_))))
 ·have C:f.fit v=true↔f.lets=true/\v.num=0/\v.text.length=0/\v.items.length=0:=by
   rw[B];unfold fG;rw[aK c];simp only[dw,dR];exact⟨λq=>⟨q.2.2,q.2.1.1.1,q.2.1.1.2,q.2.1.2⟩,λq=>⟨ag,⟨⟨q.2.1,q.2.2.1⟩,q.2.2.2⟩,q.1⟩⟩
  refine dO X (aaI f O (hs.gr V) λY R=>?_);have o:=o.ai R;have j6:∀b,(b=true↔f.lets=true/\v.num=0)->Nz K Kp (aJ b2) b Y:=by
   intro b r;have j7:∀b,(b=true↔f.lets=true/\v.num=0/\v.text.length=0)->Ny K Kp (aJ b2) b Y:=by
    intro b r;refine aCq (aG (λc=>aj o rfl (fin R ?_)) λc=>fin R ?_)
    ·rw[L,C,dR];have:=r.1 c;exact⟨λq=>⟨this.1,this.2.1,this.2.2,q⟩,λq=>q.2.2.2⟩
    ·rw[C];exact⟨λq=>(by cases q),λq=>by rw[r.2 ⟨q.1,q.2.1,q.2.2.1⟩]at c;cases c⟩
   refine aCr (aG (λc=>aj o rfl (j7 _ ?_)) λc=>j7 _ ?_)
   ·rw[S,dR];have:=r.1 c;exact⟨λq=>⟨this.1,this.2,q⟩,λq=>q.2.2⟩
   ·exact⟨λq=>(by cases q),λq=>by rw[r.2 ⟨q.1,q.2.1⟩]at c;cases c⟩
  refine aG (λJ=>aj o rfl (j6 _ ?_)) λJ=>j6 _ ?_
  all_goals simp[*]
 ·have J:=aS J;have C:f.fit v=true↔(if f.k=2 then v.num=0\/v.num=1 else kW f.k v.num=true)/\v.text.length=0/\v.items.length=0:=by
   rw[B];unfold fG;rw[aC (by simp[c]),ay,ay,ay,ay,ay,ay]
   by_cases e:f.k=2
   ·rw[aK e,aK e];simp only[dw,dR];exact⟨λq=>⟨q.2.2.2,q.2.1,q.2.2.1⟩,λq=>⟨ag,q.2.1,q.2.2,q.1⟩⟩
   ·rw[aC e,aC e];simp only[dw,dR];exact⟨λq=>⟨q.2.2.2.2,q.2.1,q.2.2.1⟩,λq=>⟨ag,q.2.1,q.2.2,ag,q.1⟩⟩
  refine aj G rfl (aj o rfl (aph hr.num J λb r=>?_));have j3:∀b,(b=true↔(if f.k=2 then v.num=0\/v.num=1 else kW f.k v.num=true)/\v.text.length=0)->NF K Kp (aJ b2) b H:=by
   intro b r;refine aCu (aG (λc=>aj o rfl (fin N ?_)) λc=>fin N ?_)
   ·rw[L,C,dR];have:=r.1 c;exact⟨λq=>⟨this.1,this.2,q⟩,λq=>q.2.2⟩
   ·rw[C];exact⟨λq=>(by cases q),λq=>by rw[r.2 ⟨q.1,q.2.1⟩]at c;cases c⟩
  refine aG (λF=>aj o rfl (j3 _ ?_)) λF=>j3 _ ?_
  all_goals simp_all
 have J:=aS J;have P:f.k=12\/f.k=13\/f.k=14->(f.fit v=true↔v.num=0/\v.items.length=0/\(f.k=12->iH v.text=true)/\(f.k=14->v.text.length=f.w.toNat)):=λe=>by
  rw[B];unfold fG;rw[aC (by simp[c]),ay,ay,ay,ay,ay,aK e]
  simp only[dw,IE,dR];constructor
  ·rintro⟨q1,q2,q3,q4,q5⟩;exact⟨q2,q3,λz=>q4.resolve_left λy=>y z,λz=>q5.resolve_left λy=>y z⟩
  ·rintro⟨q2,q3,q4,q5⟩;refine⟨ag,q2,q3,?_,?_⟩
   ·by_cases z:f.k=12
    ·exact .inr (q4 z)
    ·exact .inl z
   ·by_cases z:f.k=14
    ·exact .inr (q5 z)
    ·exact .inl z
 refine aj G rfl (aG (λF=>aj o rfl (asb (by rw[jl];omega) ?_)) λF=>aj G rfl (aG (λM=>aj o rfl (aG (λI=>aj o rfl (fin N ?_)) λI=>fin N ?_)) λM=>aj G rfl (aG (λI=>aj o rfl ?_) λI=>?_)))
 ·have F:=aS F;rw[JT];have C:=P ag;have j4:∀b,(b=true↔iH v.text=true/\v.num=0)->ND K Kp (aJ b2) b H:=by
   intro b r;refine aCt (aG (λc=>aj o rfl (fin N ?_)) λc=>fin N ?_)
   ·rw[L,C,dR];have:=r.1 c;exact⟨λq=>⟨this.2,q,λ_=>this.1,λz=>ag⟩,λq=>q.2.1⟩
   ·rw[C];exact⟨λq=>(by cases q),λq=>by rw[r.2 ⟨q.2.2.1 F,q.1⟩]at c;cases c⟩
  refine aG (λM=>aj o rfl (j4 _ ?_)) λM=>j4 _ ?_
  all_goals simp[*]
 ·simp_all
 ·simp_all
 ·simp only[sm,reduceCtorEq]at F M I;have C:=P ag;have j5:∀b,(b=true↔v.num=0/\v.items.length=0)->NC K Kp (aJ b2) (aJ b3) b H:=by
   intro b r;refine aCs (aG (λc=>aj o rfl (aj G rfl (fin N ?_))) λc=>fin N ?_)
   ·rw[C,oh,jl];have:=r.1 c;exact⟨λq=>⟨this.1,this.2,λz=>ag,λz=>ag⟩,λq=>by have:=q.2.2.2 I;omega⟩
   ·rw[C];exact⟨λq=>(by cases q),λq=>by rw[r.2 ⟨q.1,q.2.1⟩]at c;cases c⟩
  refine aG (λA=>aj o rfl (j5 _ ?_)) λA=>j5 _ ?_
  ·have A:=aS A;rw[L,dR];exact⟨λq=>⟨A,q⟩,λq=>q.2⟩
  ·have A:=aS A;exact⟨λq=>(by cases q),λq=>absurd q.1 A⟩
 simp only[sm,reduceCtorEq]at F M I;have Q:f.k=19\/f.k=20->Ld H (Addr.add (aJ b3) 4) Sl.v λa=>Ix a.a a.n 7 0 λa=>bR H a λa c d e f g i=>bP H (aJ b2) λj k l m=>AS a c d e f g i j k l m H (λa b=>K a b) Kp:=by
  intro e;have U:f.cs[0]? =some (f.cs[0]' ag):=aA
  have T:f.cs[0]' ag∈f.cs:=aA
  generalize f.cs[0]' ag=c0 at U T
  have C:=adP e U c;refine aj G rfl ((hs.gr V).ix rfl U λp u cp hu=>gH cp (fk o (IH c0 T (O.aM T) hu (dU hv V) hr hw λb Y R r=>fin R (r.trans ?_))));rw[C,dw,dR];exact⟨λq=>⟨xC q,q⟩,λq=>q.2⟩
 have W:f.k≠19/\f.k≠20->NG K Kp (aJ b2) (aJ b3) H:=by
  intro e;refine aCv (aj o rfl ?_);rw[S];refine aG (λA=>yq G (fk o (asa IH O ag c ?_ (hs.gr V) (dU hv V) hr hw λb Y R r=>fin R r))) λA=>fin N ⟨λq=>(by cases q),λq=>?_⟩
  ·simpa using A
  ·have A:=aS A;refine absurd ?_ A
   by_cases b':f.k=18
   ·exact((Ek b' (xC q) c).1 q).1
   ·by_cases e1:f.k=1
    ·rw[B]at q;unfold fG at q;rw[aC (by simp[c]),ay,ay,ay,ay,ay,ay,e1]at q
     simp at q
    ·exact((Ej ag (λz=>Z ag) (xC q) c).1 q).2.1
 refine aj G rfl (aG (λA=>bS A (Q ?_)) λA=>aj G rfl (aG (λc7=>Q ?_) λc7=>W ?_))
 all_goals simp only[sm,reduceCtorEq]at*
 all_goals omega
end
theorem aaJ:∀f:aq,MS f
 |.mk a b k w i x cs=>apw (f:=.mk a b k w i x cs) λc(_:c∈cs)=>aaJ c
theorem apv{E:aQ}{K:fB}(e:bB f)(o:bM D h s f.cs)(i:aO E h t v.items)(p:v.lU)(j:∀b l,az h l->(b=true↔v.bx<=4194304/\f.fit v=true)->K b l):X5 f.name f.au f.k f.w f.id f.ix s v.au v.num (bs v.text) t h K Kp:=by
 refine aFJ (aF λC A e1 m n _=>aF λb2 hB B d g _=>fk g (Qa v (dU i (ak m d)) ag ag λx c=>?_));have a:=ak (ak m d) c;unfold Cd
 by_cases q:(v.bx:Int)<=4194304
 ·rw[aK q];refine bS dG (dO ((n.ai d).ai c) (fk (g.ai c) (aaJ f e (o.gr a) (dU i a) p ag λb u y r=>j b u (ak a y) (r.trans ⟨λz=>⟨ag,z⟩,λz=>z.2⟩))))
 ·rw[aC q];exact bu aA (j false x a ⟨λz=>(by cases z),λz=>ag⟩)
theorem Pq(hl:f.lets=false):f.wz=min 4194305 (if f.k=14 then 16+f.w.toNat else if f.k=16 then 16+f.w.toNat*(f.cs.map aq.wz).getD 0 0 else if f.k=17 then 16+(f.cs.map aq.wz).sum else if f.k=18 then 16+(f.cs.map aq.wz).getD 0 0 else if f.k=19\/f.k=20 then(f.cs.map aq.wz).getD 0 0 else 16):=by
 rw[Am,hl];rfl
theorem Dd(a:f.cs[0]? =some c):(f.cs.map aq.wz).getD 0 0=c.wz:=by simp_all
theorem alj(a:f.k=20)(b:f.cs[0]? =some c)(d:f.cs.length=1):f.wz=c.wz:=by
  have el:f.lets=c.lets:=by
    rw[ym];unfold ny;rw[aK ⟨a,by rw[cr];exact d⟩,gV,eY,b];rfl
  cases hl:f.lets with
  |true=>rw[FH hl,FH (el▸hl)]
  | false=>
    simp_all[Pq,aC]
theorem Z1:∀(l:cU)(i:Nat),(l.take i).sum<=l.sum
 |[],i=>aA
 |x::l,0=>aA
 |x::l,i+1=>by have:=Z1 l i;simp_all
def EU(fn:aq->Sl->Hp->(Int->HP)->PK->Prop)(f:aq):Prop:=∀{h:Hp}{s:Sl}{K:cK}{Kp:PK},bB f->cH h s f.cs->(∀h',az h h'->K (f.wz:Int) h')->fn f s h K Kp
abbrev f320(f:aq)(s:Sl)(h:Hp)(K:cK)(Kp:PK):Prop:=yX f.name f.au f.k f.w f.id f.ix s h K Kp
abbrev f336(f:aq)(s:Sl)(h:Hp)(K:cK)(Kp:PK):Prop:=C6 f.name f.au f.k f.w f.id f.ix s 4194304 h K Kp
section
theorem ako(IH:∀c∈f.cs,EU f320 c):EU f320 f:=by
 intro h s K Kp ff hs hk;obtain⟨h0,oa,zV,Ea,_,_,_,h1,TN,BP,_⟩:=ff.right.1;have ln:=sZ f ff;have hn:=hs.n;refine aFw (aF λb1 hA e1 g1 k1 _=>nF (Bh k1) (aF λb2 hB e2 g2 k2 _=>pM k2 rfl λhC o2 k2=>aj (k1.ai (bI g2 o2 ag)) rfl ?_));have g3:=bI g2 o2 ag;have G3:=ak g1 g3;have cap:∀{n:Nat}{h'},az hC h'->f.wz=min 4194305 n->aV ((n:Int)>4194304) _ _:=λ{n h'}g e=>by
  have:=hk h' (ak G3 g);rw[e]at this;refine cE (λc=>?_) λc=>?_
  ·rw[Cr ag]at this;exact this
  ·rw[Ms ag]at this;exact this
 refine aG (λc=>?_) λc=>?_
 ·have:=hk hC G3;grind[FH]
 have hl:=ln.trans c;have ez:=Pq hl;have uI:∀{Q:Prop},f.cs.length>=1->(∀c0,f.cs[0]? =some c0->c0∈f.cs->Q)->Q:=λq r=>r _ (bJ ag) (kH ag);refine aj k2 rfl (aG (λie=>?_) λie=>aG (λkD=>?_) λkD=>aG (λmX=>?_) λmX=>aG (λfS=>?_) λfS=>?_)
 all_goals simp only[sm,reduceCtorEq]at*
 ·have:=zV ie;rw[aK ie]at ez;refine aj k2 rfl (aX ag ag ?_);have:=cap (cQ _) ez
  rwa [show(((16+f.w.toNat:Nat):Int))=16+f.w by omega]at this
 ·rw[aC ie,aK kD]at ez;refine uI (by have:=h1 ag;omega) λc0 eH gS=>aj k2 rfl ((hs.gr G3).ix rfl eH λp hp=>?_)
  rw[Dd eH]at ez;obtain⟨u,cu,hu⟩:=hp.row;have ct:=rO c0;refine gH cu (IH c0 gS (ff.aM gS) hu λh4 g4=>aAC (λc d h'=>∃i:Nat,d=i/\(i:Int)<=f.w/\c=((16+i*c0.wz:Nat):Int)/\c<=9000000/\az hC h') (λ_ d _=>(f.w-d).toNat) ⟨0,rfl,ag,aA,ag,g4⟩ ?_)
  rintro c d h5 ⟨i,rfl,hi,rfl,hc,g5⟩ N hN;have up:f.w.toNat*c0.wz>=i*c0.wz:=oQ _ ag;refine aj (k2.ai g5) rfl (aG (λc5=>aG (λc6=>aX ag ag (aX ag ag (hN _ _ _ ⟨i+1,ag,?_,?_,?_,g5⟩ ?_))) λc6=>?_) λc5=>?_)
  all_goals simp only[sm,reduceCtorEq]at*
  ·omega
  ·rw[rC];push_cast;omega
  ·omega
  ·omega
  ·have:=hk h5 (ak G3 g5);rw[ez,Cr ag]at this;exact bS cy this
  ·have:i=f.w.toNat:=ag;subst this;exact cap g5 ez
 ·rw[aC ie,aC kD,aK mX]at ez;have aJv:∀x∈f.cs.map aq.wz,x<=4194305:=by grind[rO]
  apply aAB (λc d h'=>∃i:Nat,d=i/\i<=f.cs.length/\c=((16+((f.cs.map aq.wz).take i).sum:Nat):Int)/\c<=9000000/\az hC h') (λ_ d _=>f.cs.length-d.toNat) ⟨0,rfl,eu _,aA,ag,cQ _⟩
  rintro c d h5 ⟨i,rfl,hi,rfl,hc,g5⟩ N hN;have up:=Z1 (f.cs.map aq.wz) i;refine aj (k2.ai g5) rfl (aG (λc5=>aG (λc6=>aCc (aj (k2.ai g5) rfl ?_)) λc6=>?_) λc5=>?_)
  all_goals simp only[sm,reduceCtorEq]at*
  ·have eC:i<f.cs.length:=ag;have eH:=bJ eC;have gS:=kH eC;have lH:(f.cs.map aq.wz).take (i+1)=(f.cs.map aq.wz).take i++[(f.cs[i]' eC).wz]:=by rw[kS (by simpa using eC)];simp
   generalize f.cs[i]' eC=c0 at eH gS lH;have ct:=rO c0;refine(hs.gr (ak G3 g5)).ix rfl eH λp hp=>?_;obtain⟨u,cu,hu⟩:=hp.row;refine gH cu (IH c0 gS (ff.aM gS) hu λh6 g6=>aX ag ag (aX ag ag (hN _ _ _ ⟨i+1,ag,ag,?_,ag,ak g5 g6⟩ ag)))
   rw[lH];simp;omega
  ·have:=hk h5 (ak G3 g5);rw[ez,Cr ag]at this;exact bS cy this
  ·have:i=f.cs.length:=ag;subst this;have:=cap g5 ez
   rwa [show f.cs.map aq.wz=(f.cs.map aq.wz).take f.cs.length by rw[qy aA]]at this
 ·rw[aC ie,aC kD,aC mX,aK fS]at ez;refine uI (by have:=BP fS;omega) λc0 eH gS=>aj k2 rfl ((hs.gr G3).ix rfl eH λp hp=>?_)
  rw[Dd eH]at ez;obtain⟨u,cu,hu⟩:=hp.row;have ct:=rO c0;refine gH cu (IH c0 gS (ff.aM gS) hu λh4 g4=>aX ag ag ?_);have:=cap g4 ez;grind[Int.natCast_add]
 ·rw[aC ie,aC kD,aC mX,aC fS]at ez;have ZM:f.k=19\/f.k=20->Ld hC (Addr.add (aJ b2) 4) Sl.v λa=>Ix a.a a.n 7 0 λa=>bR hC a λa b d e f g i=>yX a b d e f g i hC (λa b=>K a b) Kp:=by
   intro q;rw[aK q]at ez;refine uI (by have:=h1 ag;omega) λc0 eH gS=>aj k2 rfl ((hs.gr G3).ix rfl eH λp hp=>?_)
   rw[Dd eH,Ms (rO c0)]at ez;obtain⟨u,cu,hu⟩:=hp.row;refine gH cu (IH c0 gS (ff.aM gS) hu λh4 g4=>?_);rw[<-ez];exact hk h4 (ak G3 g4)
  refine aG (λod=>bS od (ZM ?_)) λod=>aG (λAh=>ZM ?_) λAh=>?_
  all_goals simp only[sm,reduceCtorEq]at*
  ·exact .inl od
  ·exact .inr Ah
  ·rw[ay]at ez;exact cap (cQ _) ez
theorem akp(IH:∀c∈f.cs,EU f336 c):EU f336 f:=by
 intro h s K Kp ff hs hk;obtain⟨h0,oa,zV,Ea,_,_,_,h1,TN,BP,_⟩:=ff.right.1;have ln:=sZ f ff;have hn:=hs.n;refine aFj (aF λb1 hA e1 g1 k1 _=>nF (Bh k1) (aF λb2 hB e2 g2 k2 _=>pM k2 rfl λhC o2 k2=>aj (k1.ai (bI g2 o2 ag)) rfl ?_));have g3:=bI g2 o2 ag;have G3:=ak g1 g3;have cap:∀{n:Nat}{h'},az hC h'->f.wz=min 4194305 n->aV ((n:Int)>4194304) (aP ((4194304:Int)+1) λa=>K a h') _:=λ{n h'}g e=>by
  have:=hk h' (ak G3 g);rw[e]at this;refine aG (λc=>aX ag ag ?_) λc=>?_
  ·have c:=aS c;rw[Cr ag]at this;exact this
  ·have c:=aS c;rw[Ms ag]at this;exact this
 have uI:∀{Q:Prop},f.cs.length>=1->(∀c0,f.cs[0]? =some c0->c0∈f.cs->Q)->Q:=λq r=>r _ (bJ ag) (kH ag);have j1:(f.k=20\/f.lets=false)->Nd K Kp 4194304 (aJ b2) 16 hC:=by
  intro hl;have El:=λq:f.k≠20=>Pq (hl.resolve_left q);have j2:∀b,b=decide (f.k=19\/f.k=20)->f.k≠14->Nc K Kp 4194304 (aJ b2) 16 f.k b hC:=by
   rintro b rfl ie;refine aBX (cE (λc=>?_) λc=>?_)
   ·refine uI (by have:=h1 ag;omega) λc0 eH gS=>aj k2 rfl ((hs.gr G3).ix rfl eH λp hp=>?_)
    obtain⟨u,cu,hu⟩:=hp.row;refine gH cu (IH c0 gS (ff.aM gS) hu λh4 g4=>?_);have:=hk h4 (ak G3 g4);have e:f.wz=c0.wz:=by
     by_cases q:f.k=20
     ·exact alj q eH (h1 ag)
     ·rw[El q,ay,ay,ay,ay,aK c,Dd eH];exact Ms (rO c0)
    rw[<-e];exact this
   have ez:=El ag;rw[aC ie]at ez;refine aG (λfS=>?_) λfS=>aG (λkD=>?_) λkD=>aG (λmX=>?_) λmX=>?_
   all_goals simp only[sm,reduceCtorEq]at*
   ·rw[ay,ay,aK fS]at ez;refine uI (by have:=BP fS;omega) λc0 eH gS=>aj k2 rfl ((hs.gr G3).ix rfl eH λp hp=>?_)
    rw[Dd eH]at ez;obtain⟨u,cu,hu⟩:=hp.row;have ct:=rO c0;refine gH cu (IH c0 gS (ff.aM gS) hu λh4 g4=>aX ag ag ?_);have:=cap g4 ez;rw[Int.natCast_add]at this;exact this
   ·rw[aK kD]at ez;refine aj k2 rfl (uI (by have:=h1 ag;omega) λc0 eH gS=>aj k2 rfl ((hs.gr G3).ix rfl eH λp hp=>?_))
    rw[Dd eH]at ez;obtain⟨u,cu,hu⟩:=hp.row;have ct:=rO c0;have up:f.w.toNat*c0.wz<=64*4194305:=tO ag ct;have ew:f.w*(c0.wz:Int)=((f.w.toNat*c0.wz:Nat):Int):=by rw[Vk,yy ag]
    refine gH cu (IH c0 gS (ff.aM gS) hu λh4 g4=>bQ k2 g4 ?_);rw[ew];refine aX ag ag (aX ag ag ?_);have:=cap g4 ez;rw[Int.natCast_add]at this;exact this
   ·rw[aC kD,aK mX]at ez;apply aAq (λc d h'=>∃i:Nat,d=i/\i<=f.cs.length/\c=((16+((f.cs.map aq.wz).take i).sum:Nat):Int)/\c<=16+4194305*(i:Int)/\az hC h') (λ_ d _=>f.cs.length-d.toNat) ⟨0,rfl,eu _,aA,ag,cQ _⟩
    rintro c d h5 ⟨i,rfl,hi,rfl,hc,g5⟩ N hN;refine aj (k2.ai g5) rfl (aG (λc5=>aj (k2.ai g5) rfl ?_) λc5=>?_)
    all_goals simp only[sm,reduceCtorEq]at*
    ·have eC:i<f.cs.length:=ag;have eH:=bJ eC;have gS:=kH eC;have lH:(f.cs.map aq.wz).take (i+1)=(f.cs.map aq.wz).take i++[(f.cs[i]' eC).wz]:=by rw[kS (by simpa using eC)];simp
     generalize f.cs[i]' eC=c0 at eH gS lH;have ct:=rO c0;refine(hs.gr (ak G3 g5)).ix rfl eH λp hp=>?_;obtain⟨u,cu,hu⟩:=hp.row;refine gH cu (IH c0 gS (ff.aM gS) hu λh6 g6=>aX ag ag (aX ag ag (hN _ _ _ ⟨i+1,ag,ag,?_,ag,ak g5 g6⟩ ag)))
     rw[lH];simp;omega
    ·have:i=f.cs.length:=ag;subst this;have:=cap g5 ez
     rwa [show f.cs.map aq.wz=(f.cs.map aq.wz).take f.cs.length by rw[qy aA]]at this
   ·rw[aC kD,aC mX,aC fS,ay]at ez;exact cap (cQ _) ez
  refine aBY (aj k2 rfl (aG (λie=>?_) λie=>aG (λod=>j2 _ ?_ ?_) λod=>j2 _ ?_ ?_))
  all_goals simp only[sm,reduceCtorEq]at*
  ·have:=zV ie;have ez:=El ag;rw[aK ie]at ez;refine aj k2 rfl (aX ag ag ?_);have:=cap (cQ _) ez
   rwa [show(((16+f.w.toNat:Nat):Int))=16+f.w by omega]at this
  ·simp[od]
  ·exact ie
  ·rw[ki];simp[od]
  ·exact ie
 refine aG (λc=>aj k2 rfl (aG (λc2=>?_) λc2=>j1 (.inl ?_))) λc=>j1 (.inr (ln.trans c))
 ·have:=hk hC G3;grind[FH]
 ·have c2:=aS c2;exact c2
end
theorem Y2:∀f:aq,EU f320 f
 |.mk a b k w i x cs=>ako (f:=.mk a b k w i x cs) λc(_:c∈cs)=>Y2 c
theorem Y3:∀f:aq,EU f336 f
 |.mk a b k w i x cs=>akp (f:=.mk a b k w i x cs) λc(_:c∈cs)=>Y3 c
def Wc(f:aq):Prop:=∀{h:Hp}{s:Sl}{K:Bool->Int->ByteArray->Sl->HP}{Kp:PK},bB f->cH h s f.cs->(∀t h',az h h'->aO (Nw h) h' t f.zv.items->K f.zv.au f.zv.num (bs f.zv.text) t h')->C5 f.name f.au f.k f.w f.id f.ix s h K Kp
theorem akr(b:f.k=19\/f.k=20)(hl:f.lets=false\/f.k=20)(a:f.cs[0]? =some c)(d:f.cs.length=1):f.zv=c.zv:=by
 have key:f.lets=false->f.zv=c.zv:=λe=>by
  rw[Pa e,ay,ay,ay,ay,aK b,JF a]
 rcases hl with e|e
 ·exact key e
 ·have el:f.lets=c.lets:=by
   rw[ym];unfold ny;rw[aK ⟨e,by rw[cr];exact d⟩,gV,eY,a];rfl
  grind[JE]
theorem aoR(IH:∀c∈f.cs,Wc c):Wc f:=by
 intro h s K Kp ff hs hk;obtain⟨h0,oa,zV,Ea,_,_,_,h1,TN,BP,_⟩:=ff.right.1;have ln:=sZ f ff;have hn:=hs.n;refine aFi (aF λb1 hA e1 g1 k1 _=>aF λa2 hB e2 g2 k2 _=>nF (Bh (k1.ai g2)) (aF λa4 hC e4 g4 k4 _=>pM k4 rfl λhD o4 k4=>?_));have k4l:=k4.lt;have gD:=bI g4 o4 ag;have GD:=ak (ak g1 g2) gD;have k2:=k2.ai gD;apply aj ((k1.ai g2).ai gD) rfl;have j1:(f.k=20\/f.lets=false)->Nb K Kp (aJ a2) (aJ a4) hD:=by
  intro hl;refine aBW (aF λa3 hE e3 g3 k3 _=>mC k3 rfl λhF o3 k3=>?_);have k3l:=k3.lt;have gF:=bI g3 o3 ag;have GF:=ak GD gF;have k2:=k2.ai gF;have k4:=k4.ai gF;have L:ZL h hF.size a2 a3 a4:=⟨ag,ag,ag,ag,ag⟩
  have S0:ZS h hF.size a2 a3 a4 _ hF Sl.nil []:=⟨GF,bX _,k2,k4,k3,nG.nil⟩;have El:=λq:f.k≠20=>Pa (hl.resolve_left q);have uI:∀{Q:Prop},f.cs.length>=1->(∀c0,f.cs[0]? =some c0->c0∈f.cs->Q)->Q:=λq r=>r _ (bJ ag) (kH ag);have j2:∀b,b=decide (f.k=19\/f.k=20)->f.k≠14->Na K Kp (aJ a2) (aJ a4) (aJ a3) f.k b hF:=by
   rintro b rfl ie;refine aBV (cE (λc=>?_) λc=>?_)
   ·refine uI (by have:=h1 ag;omega) λc0 eH gS=>aj k4 rfl ((hs.gr GF).ix rfl eH λp hp=>?_)
    obtain⟨u,cu,hu⟩:=hp.row;refine gH cu (IH c0 gS (ff.aM gS) hu λt h4 g4 vt=>?_);have e:=akr c (hl.symm) eH (h1 ag);rw[<-e]at vt ⊢;exact L.HA hk (ak GF g4) (k2.ai g4) rfl vt
   have ez:=El ag;rw[aC ie]at ez;refine aG (λfS=>?_) λfS=>aG (λkD=>?_) λkD=>aG (λmX=>?_) λmX=>?_
   all_goals simp only[sm,reduceCtorEq]at*
   ·rw[ay,ay,aK fS]at ez;refine aj k3 rfl (uI (by have:=BP fS;omega) λc0 eH gS=>aj k4 rfl ((hs.gr GF).ix rfl eH λp hp=>?_))
    rw[JF eH]at ez;obtain⟨u,cu,hu⟩:=hp.row;refine gH cu (IH c0 gS (ff.aM gS) hu λt h4 g4 vt=>bQ k3 g4 (L.more S0 aA g4 vt λhy t' S=>L.fin hk S.g S.k2 rfl S.k3 ez S.o.vs))
   ·rw[aK kD]at ez;have hw:=Ea kD;refine uI (by have:=h1 ag;omega) λc0 eH gS=>aAp (λy h'=>∃(i:Nat)(t:Sl),y=i/\(i:Int)<=f.w/\ZS h hF.size a2 a3 a4 #[ah f.k,ah f.w,ah f.id,ah f.ix,Sl.v s] h' t (List.replicate i c0.zv)) (λy _=>(f.w-y).toNat) ⟨0,Sl.nil,rfl,ag,S0⟩ ?_
    rw[JF eH]at ez;rintro y hx ⟨i,t,rfl,hi,S⟩ N hN;refine aj S.k4 rfl (cE (λcc=>?_) λcc=>?_)
    ·refine aj S.k3 rfl (aj S.k4 rfl ((hs.gr S.g).ix rfl eH λp hp=>?_));obtain⟨u,cp,hu⟩:=hp.row;refine gH cp (IH c0 gS (ff.aM gS) hu λt' h7 g7 vt=>bQ S.k3 g7 (L.more S cy g7 vt λhy t' S=>aX ag ag (hN _ _ ⟨i+1,t',aA,ag,?_⟩ ag)))
     rw[EE];exact S
    ·have:i=f.w.toNat:=ag;subst this;exact L.fin hk S.g S.k2 rfl S.k3 ez S.o.vs
   ·rw[aC kD,aK mX]at ez;apply aAo (λy h'=>∃(i:Nat)(t:Sl),y=i/\i<=f.cs.length/\ZS h hF.size a2 a3 a4 #[ah f.k,ah f.w,ah f.id,ah f.ix,Sl.v s] h' t ((f.cs.map aq.zv).take i)) (λy _=>f.cs.length-y.toNat) ⟨0,Sl.nil,rfl,eu _,S0⟩;rintro y hx ⟨i,t,rfl,hi,S⟩ N hN;refine aj S.k4 rfl (aG (λcc=>?_) λcc=>?_)
    ·have cc:=aS cc;have eC:i<f.cs.length:=ag;have eH:=bJ eC;have gS:=kH eC;have lH:(f.cs.map aq.zv).take (i+1)=(f.cs.map aq.zv).take i++[(f.cs[i]' eC).zv]:=by rw[kS (by simpa using eC)];simp
     generalize f.cs[i]' eC=c0 at eH gS lH;refine aj S.k3 rfl (aj S.k4 rfl ((hs.gr S.g).ix rfl eH λp hp=>?_));obtain⟨u,cp,hu⟩:=hp.row;refine gH cp (IH c0 gS (ff.aM gS) hu λt' h7 g7 vt=>bQ S.k3 g7 (L.more S cy g7 vt λhy t' S=>aX ag ag (hN _ _ ⟨i+1,t',aA,ag,?_⟩ ag)))
     rw[lH];exact S
    ·have cc:=aS cc;have:i=f.cs.length:=ag;subst this;rw[qy aA]at S;exact L.fin hk S.g S.k2 rfl S.k3 ez S.o.vs
   ·rw[aC kD,aC mX,aC fS,ay]at ez;exact L.fin hk GF k2 rfl k3 ez (pL _)
  refine aj k4 rfl (aG (λie=>?_) λie=>aG (λod=>j2 _ ?_ ?_) λod=>j2 _ ?_ ?_)
  all_goals simp only[sm,reduceCtorEq]at*
  ·have ez:=El ag;rw[aK ie]at ez;refine aj k4 rfl (Fb ag ag ag λt h7 g7 ow _=>?_);have v:Sv h7 t (bv (List.replicate f.w.toNat 0)):=by simpa[bv]using ow.sv
   refine⟨List.replicate f.w.toNat 0,by have:=v.Bj v.na;rw[vi]at this;exact this,?_⟩
   show St h7 ⟨a3,2,none⟩ (.string (bs (List.replicate f.w.toNat 0))) _
   exact dI (k3.ai g7) aA rfl λh8 o8 k8=>L.fin hk (bI (ak GF g7) o8 ag) (o8.aZ (k2.ai g7) ag) rfl (by simpa[Sl.nil]using k8) ez (pL _)
  ·simp[od]
  ·exact ie
  ·rw[ki];simp[od]
  ·exact ie
 refine aG (λc=>aj k4 rfl (aG (λc2=>?_) λc2=>j1 (.inl ?_))) λc=>j1 (.inr (ln.trans c))
 ·refine mC k2 rfl λh8 o8 k8=>fk k8 ?_;have:=hk Sl.nil h8 (bI GD o8 ag);rw[JE (ln.trans c)]at this;exact this (pL _)
 ·have c2:=aS c2;exact c2
theorem aaz:∀f:aq,Wc f
 |.mk a b k w i x cs=>aoR (f:=.mk a b k w i x cs) λc(_:c∈cs)=>aaz c
theorem aoS{K:Bool->Int->ByteArray->Sl->Int->HP}{E:PK}(i:bB f)(p:f.fN)(J:f.wz<=4194304)(n:cH h s f.cs)(C:∀t o,az h o->aO (Nw h) o t f.zv.items->K f.zv.au f.zv.num (bs f.zv.text) t 0 o):X1 f.name f.au f.k f.w f.id f.ix s h K E:=by
 refine aFv (aF λa N e1 j m _=>aF λb hB O d u _=>dO (m.ai d) (apg (n.gr (ak j d)) p λq M g B=>bu (by rw[B.2 i];rfl) (dO ((m.ai d).ai g) (Y3 f i (n.gr (ak (ak j d) g)) λv l=>bu cy (dO (((m.ai d).ai g).ai l) (aaz f i (n.gr (ak (ak (ak j d) g) l)) λt L x y=>
  mC (((u.ai g).ai l).ai x) rfl λD r A=>fk A (C t D ?_ ?_)))))))
 ·have z:=j.1;exact bI (ak (ak (ak (ak j d) g) l) x) r ag
 ·have H:=g.1;have G:=l.1;exact aO.fr r.fr (λc(q:v.size<=c)_(e:c=b)=>ag) (λc(q:v.size<=c)=>by show h.size<=c;omega) _ y
def We(x:aB):Prop:=∀{y:aB}{D E:aQ}{h:Hp}{s t:Sl}{K:fB}{Kp:PK},aO D h s x.items->aO E h t y.items->x.bx<=2^50->(∀b h',az h h'->(b=true↔x=y)->K b h')->
 Jk x.au x.num (bs x.text) s y.au y.num (bs y.text) t h K Kp
theorem apf{x:aB}(IH:∀z∈x.items,We z):We x:=by
 intro y D E h s t K V O M hw P;have b':=hO x;have c':=GR x;have Z:=O.n;have hm:=M.n;refine aFf (aF λU h1 e1 g1 d _=>aF λT I e2 S k _=>?_);have d:=d.ai S;have G:=ak g1 S;have B:∀{C:Hp},az h C->x≠y->K false C:=λg ne=>P false _ g ⟨λe=>(by cases e),λe=>absurd e ne⟩
 have L:x≠y->M1 K V (aJ U) (aJ T) true I:=λne=>aij (bS rfl (B G ne));have W:x≠y->M9 K V _ _ true I:=λne=>aik (bS rfl (L ne));refine aj d rfl (aj k rfl (aG (λc=>?_) λc=>?_))
 ·exact W λe=>by subst e;simp at c
 have c1:x.au=y.au:=by simpa using c
 simp only[bz,cF];refine aj d rfl (aj k rfl (aik (aG (λc=>?_) λc=>?_)))
 ·exact L λe=>by subst e;simp at c
 have c2:x.num=y.num:=by simpa using c
 simp only[bz,cF];refine aj d rfl (aj k rfl ?_);rw[Cm];refine aij (aG (λc=>B G λe=>by subst e;simp at c) λc=>?_)
 have c3:x.text=y.text:=by simpa using c
 simp only[bz,cF];refine aj d rfl (aj k rfl (aG (λJ=>B G λe=>?_) λc=>?_))
 ·simp_all
 have c:=aS c;refine aBT (aAl (λz C=>∃i:Nat,z=i/\i<=x.items.length/\az I C/\x.items.take i=y.items.take i) (λz _=>x.items.length-z.toNat) ⟨0,rfl,eu _,cQ _,rfl⟩ ?_);rintro z h3 ⟨i,rfl,hi,l,A⟩ N hN;have H:=ak G l;refine aj (d.ai l) rfl (aG (λm=>?_) λm=>?_)
 ·have m:=aS m;have v:i<x.items.length:=ag;have a:=bJ v;have j:y.items[i]? =some y.items[i]:=bJ ag;have r:=kS v;have o:y.items.take _=y.items.take i++[y.items[i]]:=kS ag;generalize x.items[i]=u at a r;generalize y.items[i]=w at j o;have f:=bT a;have a':=oB f;simp only[bz,cF];refine aj (d.ai l) rfl ((dU O H).ix rfl a λp p' cp Y=>gY cp (aj (k.ai l) rfl ((dU M H).ix rfl j λq q' cq X=>gY cq (IH u f Y X ag λb h4 R Q=>aG (λF=>?_) λF=>?_))))
  ·refine B (ak H R) λe=>?_;have:u=w:=by rw[e,j]at a;cases a;rfl
   rw[Q.2 this]at F;cases F
  ·have:u=w:=Q.1 (by simpa using F)
   exact aX ag ag (hN _ _ ⟨i+1,aA,ag,ak l R,by rw[r,o,A,this]⟩ ag)
 ·have m:=aS m;have:i=x.items.length:=ag;grind[Zv,List.take_length]
theorem Qi:∀x:aB,We x
 |.mk a b c items=>apf (x:=.mk a b c items) λx(_:x∈items)=>Qi x
def lY(f:aq)(v:aB):List UInt8:=if f.k=2 then[UInt8.ofNat (v.num%2^64).toNat]else if f.k=14 then(if v.au then List.replicate f.w.toNat 0 else v.text)else jj (v.num%2^64).toNat (dN f.k).toNat
structure nN(f:aq)(vs:aR)(X:Bx):Prop where
 b:X.vl.length<=vs.length/\X.cd.length<=vs.length/\X.fx.length<=16*vs.length/\X.os.length<=vs.length+1/\X.tx.length<=65536/\X.ix.length<=vs.length/\X.en.length<=vs.length
 v:f.k≠18/\f.k≠20->X.vl=vs.map λv=>if v.au then 0 else 1
 o:f.k=12\/f.k=13\/f.k=15\/f.k=18->X.os=(aL f.k vs).ends
 t:f.k=12\/f.k=13->X.tx=(aL f.k vs).all
 c:f.k=18->X.cd=(aL f.k vs).all
 i:f.k=19->X.ix=(aL f.k vs).ends
 e:f.k=20->X.en=(aL f.k vs).ends
 x:fL f.k=true->X.fx=vs.flatMap (lY f)
def x8(f:aq)(vs:aR):Bn:=⟨vs.length,vs.countP (eG f.k),bL vs⟩
def JB(f:aq)(KM:List BF):BF:=λQ T h p vs=>∃g X,gp f KM Q T h p g (x8 f vs) X (aL f.k vs).aH (λj=>cont f j vs)/\nN f vs X
mutual
def aq.gU:aq->BF
 |.mk nm au k w id ix cs=>JB (.mk nm au k w id ix cs) (Ic cs)
def Ic:List aq->List BF
 |[]=>[]
 |f::fs=>f.gU::Ic fs
end
theorem afk:∀cs:List aq,Ic cs=cs.map aq.gU
 |[]=>by simp[Ic]
 |f::a=>by simp[Ic,afk a]
theorem aq.ayn(f:aq):f.gU=JB f (f.cs.map aq.gU):=by
 obtain⟨a,au,k,w,id,ix,cs⟩:=f;rw[<-afk];simp only[aq.gU];rfl
abbrev yh:=@aq.ayn
theorem JB.ok{u:List BF}(KF:∀M∈u,ov M):ov (JB f u) where
 fr:=λ⟨g,X,G,ok⟩t hT hQ=>⟨g,X,G.fr KF t hT hQ,ok⟩
 q:=λ⟨g,X,G,ok⟩b a=>⟨g,X,G.aol KF b a,ok⟩
 d:=λ⟨_,_,G,_⟩=>G.q
 r:=λ⟨g,X,G,_⟩=>by rw[ia G.k];rfl
theorem xZ:∀f:aq,ov f.gU
  | .mk e au k w id ix cs=>by
    rw[yh];have a:∀c∈cs,ov c.gU:=λc _=>xZ c;exact JB.ok λM d=>by obtain⟨c,b,rfl⟩:=kZ.1 d;exact a c b
theorem oe(cs:cN):∀M∈cs.map aq.gU,ov M:=λM a=>by grind[xZ]
abbrev pB(p:Nat):Option Addr:=some (aJ p)
def om(f:aq):Prop:=∀{Q T:aQ}{h:Hp}{p:Nat}{vs:aR}{x:aB}{s:Sl}{K:cK}{Kp:PK},f.can vs->f.fit x=true->x.bx<=4194304->f.gU Q T h p vs->aO Q h s x.items->
 (∀Q' T' h',Ext Q Q' T T' h h'->(gA f vs x=0->f.gU Q' T' h' p (vs++[x]))->K (gA f vs x) h')->uo (pB p) x.au x.num (bs x.text) s h K Kp
def pR(f:aq):Prop:=∀{Q T:aQ}{h:Hp}{p:Nat}{vs:aR}{K:cK}{Kp:PK},f.can vs->f.gU Q T h p vs->
 (∀Q' T' h',Ext Q Q' T T' h h'->(gI f vs=0->f.gU Q' T' h' p (vs++[f.cm]))->K (gI f vs) h')->um (pB p) h K Kp
def lp(kc:Nat->List aB)(j:Nat)(l:aR):Nat->List aB:=λi=>if i=j then l else kc i
section
variable {p:Nat} {Q0 T0 Q T E:aQ} {g:dM} {n:Bn} {X:Bx} {vl:aR} {w:Nat} {M:BF} {A:aQ}
theorem gp.ZI{x:Int}{K:Option Addr->Prop}(G:gp f (f.cs.map aq.gU) Q T h p g n X vl kc)(e:f.cs[j]? =some c)(l:x=j)(o:∀A w,g.KT[j]? =some A->g.kp[j]? =some w->c.gU Q A h w (kc j)->K (pB w)):Ld h ⟨p,18,none⟩ Sl.v λa=>Ix a.a a.n 1 x λd=>Ld h d Value.pointer K:=by
 obtain⟨M,A,w,i,k,b,m⟩:=G.m (j:=j) bZ
 rw[eY,e]at i;cases i;exact G.jY (G.SM b l (o A w k b m))
abbrev Ii:=@gp.ZI
theorem gw.iI{Y:aB}{K:cK}(s:gw f (f.cs.map aq.gU) p Q0 T0 h0 Q T h g n X vl kc E)(H:f.cs[j]? =some c)(u:g.KT[j]? =some A)(D:g.kp[j]? =some w)(J:om c)(o:c.can (kc j))(m:c.fit Y=true)(B:Y.bx<=4194304)(F:aO Q h t Y.items)
  (r:gA c (kc j) Y≠0->∀d l a,Ext Q0 d T0 l h0 a->K (gA c (kc j) Y) a)
  (C:gA c (kc j) Y=0->∀d l a I,(∀c,Q c->d c)->Tn (λc=>¬E c) h a->gw f (f.cs.map aq.gU) p Q0 T0 h0 d l a I n X vl (lp kc j (kc j++[Y])) E->K 0 a):uo (pB w) Y.au Y.num (bs Y.text) t h K Kp:=by
 have b:(f.cs.map aq.gU)[j]? =some c.gU:=by rw[eY,H];rfl
 have sub:∀c,A c->T c:=λc z=>(s.S.t.sub _ (bT (g.fF u)) c z).1;refine J o m B (s.S.aM j _ A w b u D) F λd l a x k=>?_
 by_cases e:gA c (kc j) Y=0
 ·obtain⟨v,i⟩:=s.aM (oe _) b u D x (k e);rw[e];exact C e _ _ _ _ x.q i v
 ·exact r e d (λc=>T c\/l c) a (s.x.trans ⟨x.tn.mono λc z _=>sub c z,x.q,x.q',λ_ z=>.inl z,λc z=>z.elim .inl λz=>(x.t' c z).imp (sub c) id⟩)
theorem gw.nQ{K:cK}(m:gw f (f.cs.map aq.gU) p Q0 T0 h0 Q T h g n X vl kc E)(y:f.cs[j]? =some c)(o:g.KT[j]? =some A)(s:g.kp[j]? =some w)(C:pR c)(k:c.can (kc j))
  (l:gI c (kc j)≠0->∀b d a,Ext Q0 b T0 d h0 a->K (gI c (kc j)) a)
  (r:gI c (kc j)=0->∀b d a B,(∀c,Q c->b c)->Tn (λc=>¬E c) h a->gw f (f.cs.map aq.gU) p Q0 T0 h0 b d a B n X vl (lp kc j (kc j++[c.cm])) E->K 0 a):um (pB w) h K Kp:=by
 have i:(f.cs.map aq.gU)[j]? =some c.gU:=by rw[eY,y];rfl
 have sub:∀c,A c->T c:=λc z=>(m.S.t.sub _ (bT (g.fF o)) c z).1;refine C k (m.S.aM j _ A w i o s) λb d a x v=>?_
 by_cases e:gI c (kc j)=0
 ·obtain⟨D,u⟩:=m.aM (oe _) i o s x (v e);rw[e];exact r e _ _ _ _ x.q u D
 ·exact l e b (λc=>T c\/d c) a (m.x.trans ⟨x.tn.mono λc z _=>sub c z,x.q,x.q',λ_ z=>.inl z,λc z=>z.elim .inl λz=>(x.t' c z).imp (sub c) id⟩)
end
section
variable {K:cK} {A:aQ}
theorem P9{k:Int}(hk:K (dN k) h):Jm k h K Kp:=by
 have fin:∀n:Int,n=dN k->K n h:=λn e=>e▸hk;apply aFF
 repeat' first|(with_reducible first|refine aCx ?_|refine ug ?_|refine uh ?_|refine cE (λc=>?_) λc=>?_)
 all_goals apply fin _
 all_goals(try simp only[sm,reduceCtorEq]at*)
 all_goals unfold dN
 all_goals simp_all
def xY(n:Int)(i:Nat):UInt8:=UInt8.ofNat (n/2^(8*i)%256).toNat
theorem aff{n:Int}(a:i<8):UInt8.ofNat ((n%2^64).toNat/2^(8*i))=xY n i:=by
 unfold xY;apply U2.1;rw[tN,tN];have e:i=0\/i=1\/i=2\/i=3\/i=4\/i=5\/i=6\/i=7:=ag;rcases e with rfl|rfl|rfl|rfl|rfl|rfl|rfl|rfl <;> simp only[Nat.reduceMul] <;> omega
theorem asl{n:Int}{w:Nat}(b:w<=8):jj (n%2^64).toNat w=(List.range w).map (xY n):=by
 grind[jj,List.map_congr_left,aff]
theorem PI(x:Int):IntKind.u8.wrap x=(((x%256).toNat:Nat):Int):=by
 simp only[IntKind.wrap,IntKind.signed,IntKind.bits];simp;omega
theorem abM{l:dy}{n w:Int}{K:Sl->HP}(o:Os A h s (bv l) Y8)(hA:∀c,A c->c<h.size)(hl:l.length<=2^40)(hw:0<=w/\w<=8)
  (hk:∀s' h',Tn A h h'->Os (Tr A h h') h' s' (bv (l++jj (n%2^64).toNat w.toNat)) Y8->K s' h'):Fq s n w h K Kp:=by
 refine aFB (aAF (λt d i h'=>∃j:Nat,i=j/\(j:Int)<=w/\d=n/2^(8*j)/\Tn A h h'/\Os (Tr A h h') h' t (bv (l++(List.range j).map (xY n))) Y8) (λ_ _ i _=>(w-i).toNat) ⟨0,rfl,ag,aA,iV _ _,by simpa using o.mono λc z=>.inl z⟩ ?_)
 rintro t d i h1 ⟨j,rfl,hj,rfl,t1,o1⟩ N hN;have s1:=t1.1;refine cE (λc=>?_) λc=>?_
 ·have on:=o1.n;rw[fP,iA,cr,Il]at on;refine CO (aF λb h2 e2 g2 k2 _=>(o1.gr g2).ap rfl (by rfl) (iJ k2 rfl) ag ag λs' h3 t3 o3 _=>?_)
  have s3:=t3.1;have T3:=(t1.trans (bg g2)).trans' t3 λc z eC=>z.elim id λz=>ag
  refine jw bw (yO (aX ag ag (hN _ _ _ _ ⟨j+1,ag,ag,?_,T3,?_⟩ ag)))
  ·show Int.fdiv _ _=_
   rw[show(2:Int)^(min _ _)=256 from rfl,EI _ ag,Int.ediv_ediv_of_nonneg (Iw (EH ag)),show(2:Int)^(8*(j+1))=2^(8*j)*256 by grind[Int.pow_add]]
  ·have e:bv (l++(List.range j).map (xY n))++[.int .u8 (IntKind.u8.wrap (n/2^(8*j)))]=bv (l++(List.range (j+1)).map (xY n)):=by
    rw[uX,kq,<-rz,uT (l++(List.range j).map (xY n))]
    congr 1
    show[Value.int .u8 _]=[Value.int .u8 _]
    rw[PI];unfold xY;rw[tN]
    congr 3
    omega
   rw[e]at o3;refine o3.imp id λ⟨b,t,o⟩=>⟨b,?_,o⟩;rcases t with(t|t)|t
   ·exact .inl t
   ·exact .inr ⟨t.1,ag⟩
   ·exact .inr ⟨ag,o.lt⟩
 ·have:j=w.toNat:=ag;subst this;rw[<-asl ag]at o1;exact hk t h1 t1 o1
end
abbrev ud(f:aq):List BF:=f.cs.map aq.gU
structure gh(f:aq)(p:Nat)(Q0 T0:aQ)(h0:Hp)(vs:aR)(x:aB)(s:Sl)(n:Bn)(T:aQ)(h:Hp)(g:dM)(X:Bx)(E:aQ)(a b:Nat):Prop where
 st:gw f (ud f) p Q0 T0 h0 Q0 T h g n X (aL f.k vs).aH (λj=>cont f j vs) E
 a:E a/\aN h a (x.row s).toArray dh
 b:E b/\∃sf,aN h b #[ah f.k,ah f.w,ah f.id,ah f.ix,Sl.v sf] kJ
 v:aO Q0 h0 s x.items
def wU(f:aq):Prop:=∀{Q T:aQ}{h:Hp}{p:Nat}{vs:aR}{x:aB}{s:Sl},f.can vs->f.fit x=true->x.bx<=4194304->f.gU Q T h p vs->aO Q h s x.items->∃e,gA f vs x=pE vs x.bx e/\
 ∀{K:cK}{Kp:PK},(∀Q' T' h',Ext Q Q' T T' h h'->((if 4096<=vs.length then 3 else e)=0->f.gU Q' T' h' p (vs++[x]))->K (if 4096<=vs.length then 3 else e) h')->OR (pB p) x.au x.num (bs x.text) s h K Kp
section
variable {Q T Q' T' E:aQ} {p:Nat} {x:aB} {K:cK}
theorem amG(L:wU f):om f:=by
 intro Q T h p vs x s K Kp y w u B v j;refine aFI (aF λa A e1 l t _=>fk t ?_);have D:=(xZ f).fr B (bg l) (λ_ _=>id) λ_ _=>id;obtain⟨e,r,le⟩:=L y w u D (dU v l);rw[r]at j;have q:Ext Q Q T T h A:=⟨bg l,λ_ z=>z,λ_ z=>.inl z,λ_ z=>z,λ_ z=>.inl z⟩;refine le λQ' T' n C m=>?_;have X:=q.trans C
 by_cases c:4096<=vs.length
 ·simp only[aK c];have:=j Q' T' n X (by unfold pE;omega)
  simp_all[pE,aK,bu]
 ·simp only[aC c]at m ⊢;have:=j Q' T' n X;unfold pE at this;rw[aC c]at this;refine cE (λd=>?_) λd=>?_
  ·have b2:=m d;rw[aC (by simp[d])]at this
   have o:=b2;rw[yh]at o;obtain⟨g,Y,G,_⟩:=o;refine aj (x:=(bL (vs++[x]):Int)) G.k rfl (cE (λi=>?_) λi=>?_)
   ·rw[lS]at i;grind
   ·rw[lS]at i;grind
  ·grind
theorem sy{u:aQ}{H:Hp}{g:dM}{n:Bn}{X:Bx}{d a:aR}{m:Nat->List aB}(st:gw f (ud f) p D u H Q T h g n X d m E)(r:n=x8 f a)(ok:nN f a X)(hl:d=(aL f.k a).aH)(c:∀j,j<f.cs.length->m j=cont f j a):f.gU Q T h p a:=by
 subst r hl;rw[yh];have G:=st.S;refine⟨g,X,⟨G.t,G.q,G.k,G.fs,G.ls,G.sl,G.aH,G.pt,G.lk,λj M A w b l i=>?_⟩,ok⟩;have e:j<f.cs.length:=by have:=(de.1 b).1;simpa using this
 rw[<-c j e];exact G.aM j M A w b l i
theorem zL(hw:x.bx<=4194304)(Y:f.can vs)(B:f.gU Q T h p vs)(d:aO Q h s x.items)(Z:4096<=vs.length->∀Q' T' h',Ext Q Q' T T' h h'->K 3 h')
  (n:vs.length<4096->f.k=20->∀{h' g X E a b},nN f vs X->gh f p Q T h vs x s ⟨vs.length+1,vs.countP (eG f.k),bL vs+x.bx⟩ T h' g X E a b->XX (pB p) x.au x.num (bs x.text) s h' K Kp)
  (gR:vs.length<4096->f.k≠20->x.au=true->∀{h' g X E a b},nN f vs X->gh f p Q T h vs x s ⟨vs.length+1,vs.countP (eG f.k)+1,bL vs+x.bx⟩ T h' g X E a b->OO (pB p) h' K Kp)
  (r:vs.length<4096->f.k≠20->x.au=false->∀{h' g X E a b},nN f vs X->gh f p Q T h vs x s ⟨vs.length+1,vs.countP (eG f.k),bL vs+x.bx⟩ T h' g X E a b->Nx K Kp (pB p) (aJ a) (aJ b) h'):OR (pB p) x.au x.num (bs x.text) s h K Kp:=by
 have KF:=oe f.cs;have b':=((gj f vs).1 Y).wt;rw[yh]at B;obtain⟨g,X,G,ok⟩:=B;have I:∀c,Q c->¬T c:=λc z=>(G.q c z).1;refine aFz (aF λa h1 e1 U W z1=>?_);refine bO ?_;have A:=(gw.of (E:=λ_=>False) G λ_ z=>z.elim).ai KF U;have c':vs.countP (eG f.k)<=vs.length:=bZ;refine aj (x:=(vs.length:Int)) A.S.k rfl (aG (λc=>?_) λc=>?_)
 ·have c:=aS c;exact Z ag _ _ _ A.x
 have c:=aS c;have lt:vs.length<4096:=ag;refine aj (x:=(vs.length:Int)) A.S.k rfl (aX ag ag (A.num (m:=vs.length+1) KF ag (.inl ⟨rfl,rfl⟩) λh2 M y=>?_));have O:=pK M W (.inr ⟨ag,ag⟩)
 refine aj (x:=(bL vs:Int)) y.S.k rfl (fk O (Qa x (aO.fr y.x.tn (λc z _=>I c z) (λ_ z=>z) _ d) ag ag λd' o=>?_));have cap:Cd x.bx 4194304=x.bx:=by unfold Cd;omega
 rw[cap];refine bQ y.S.k o (aX ag ag ((y.ai KF o).num (m:=bL vs+x.bx) KF ag (.inr (.inr ⟨rfl,rfl⟩)) λR L u=>?_));have j:=pK L (O.ai o) (.inl (.inr ⟨ag,ag⟩))
 have cells:Cs R ⟨p,2,none⟩ [ah f.k,ah f.w,ah f.id,ah f.ix,Sl.v g.sf]:=uQ u.S.k λi v d=>by
  rcases i with _|_|_|_|_|i
  ·exact d
  ·exact d
  ·exact d
  ·exact d
  ·exact d
  ·simp at d
 refine nF cells (aF λb h5 e5 g5 V z5=>pM V rfl λP N C=>?_);have D:=bI g5 N ag;have a':=N.1;have H:=u.ai KF D;have j:=j.ai D;have l:gh f p Q T h vs x s ⟨vs.length+1,vs.countP _,bL vs+x.bx⟩ T P g X _ a b:=⟨H,⟨.inl (.inl (.inr ⟨ag,ag⟩)),j⟩,⟨.inr ⟨ag,ag⟩,_,C⟩,d⟩
 refine aj C rfl (aG (λe=>fk j ?_) λe=>aj j rfl (aG (λF=>?_) λF=>?_))
 ·have e:=aS e;exact n lt e ok l
 ·have e:=aS e;exact aj (x:=(vs.countP (eG f.k):Int)) H.S.k rfl (aX ag ag (H.num (i:=8) (m:=vs.countP (eG f.k)+1) KF ag (.inr (.inl ⟨rfl,rfl⟩)) λh7 J S7=>gR lt e F ok ⟨S7,⟨l.a.1,pK J j l.a.1⟩,⟨l.b.1,_,pK J C l.b.1⟩,d⟩))
 ·have e:=aS e;exact r lt e ag ok l
end
section
variable {Q T T0 E:aQ} {p a b:Nat} {x:aB} {n:Bn} {g:dM} {X X':Bx} {K:HP}
theorem gh.hQ(L:gh f p Q T0 h0 vs x s n T h g X E a b):∀c,Q c->¬T c:=λc z=>(L.st.S.q c z).1
theorem gh.vv(L:gh f p Q T0 h0 vs x s n T h g X E a b):aO Q h s x.items:=aO.fr L.st.x.tn (λc z _ y=>L.hQ c z (L.st.x.t c y)) (λ_ z=>z) _ L.v
theorem gh.next{A:aQ}{e:dM}{d:Bn}(L:gh f p Q T0 h0 vs x s n T h g X E a b)(KF:∀c,E c->A c)(t:Tn (λc=>¬E c) h h')(st:gw f (ud f) p Q T0 h0 Q D h' e d X' (aL f.k vs).aH (λj=>cont f j vs) A):gh f p Q T0 h0 vs x s d D h' e X' A a b:=by
 obtain⟨l,m⟩:=L.b.2;exact⟨st,⟨KF a L.a.1,pK t L.a.2 L.a.1⟩,⟨KF b L.b.1,l,pK t m L.b.1⟩,L.v⟩
theorem gh.ai{H:Hp}(L:gh f p Q T0 h0 vs x s n T h g X E a b)(gr:az h H):gh f p Q T0 h0 vs x s n T H g X (λc=>E c\/(h.size<=c/\c<H.size)) a b:=
 L.next (λc z=>.inl z) (bg gr) (L.st.ai (oe _) gr)
theorem gh.sl(L:gh f p Q T0 h0 vs x s n T h g X E a b)(hi:i<7):∃t A y,g.SS[i]? =some t/\g.ST[i]? =some A/\X.fm[i]? =some y/\Os A h t y.1 y.2/\(∀c,A c->T c):=by
 have G:=L.st.S;have ls:=G.ls;have h1:g.SS[i]? =some (g.SS[i]' ag):=aA;have h2:g.ST[i]? =some (g.ST[i]' ag):=aA;have h3:X.fm[i]? =some (X.fm[i]' hi):=bJ _;exact⟨_,_,_,h1,h2,h3,G.sl i _ _ _ h1 h2 h3,λc z=>(G.t.sub _ (bT (g.iw h2)) c z).1⟩
theorem gh.Mq{m bytes:Nat}{y:List Value×TypeId}{news:bq}{c:List Value->Prop}{u:Sl}{A:aQ}(L:gh f p Q T0 h0 vs x s n T h g X E a b)(r:g.SS[i]? =some u)(F:g.ST[i]? =some A)(o:Os A h u y.1 y.2)(D:X'.fm=X.fm.set i (y.1++news,y.2))
  (l:z.size=1) (w:∀v∈news,one v=true) (hl:news.length=m) (q:c news) (C:bytes<=8) (M:y.1.length+m<=300000) (B:∀H d G I,gh f p Q T0 h0 vs x s n H d G X' I a b->K d):Ap h y.2 z 1 bytes u m c λt e=>St e ⟨p,10+i,none⟩ (Sl.v t) K:=by
 have k:=o.n;refine o.Cp l w hl q (by rw[k];have:=Vf (y.1.length+m+(y.1.length+m)/4+192) C;omega) ag λJ e t os=>L.st.slot (oe _) r F t os.tr D λd j st=>B _ d _ _ (L.next (λ_ z=>z) j st)
theorem gh.yg{bytes:Nat}{y:List Value×TypeId}{v:Value}{u:Sl}{A:aQ}(L:gh f p Q T0 h0 vs x s n T h g X E a b)(m:g.SS[i]? =some u)(C:g.ST[i]? =some A)(o:Os A h u y.1 y.2)(B:X'.fm=X.fm.set i (y.1++[v],y.2))
  (l:z.size=1) (q:one v=true) (w:bytes<=8) (J:y.1.length<=200000) (r:∀H e G I,gh f p Q T0 h0 vs x s n H e G X' I a b->K e):aI h #[v] y.2 λc d=>Ap d y.2 z 1 bytes u 1 (rd d (some c) (1*1)) λt D=>St D ⟨p,10+i,none⟩ (Sl.v t) K:=
 aF λc F M j k _=>(L.ai j).Mq m C (o.gr j) B l (by simpa using q) rfl (iJ k rfl) w ag r
theorem gh.uU{bytes:Nat}{y:List Value×TypeId}{v:Value}{u:Sl}{A:aQ}(L:gh f p Q T0 h0 vs x s n T h g X E a b)(r:g.SS[i]? =some u)(G:g.ST[i]? =some A)(o:Os A h u y.1 y.2)(D:X'.fm=X.fm.set i (y.1++[v],y.2))
  (q:z.size=1) (w:one v=true) (C:bytes<=8) (N:y.1.length<=200000) (B:∀J m I M,gh f p Q T0 h0 vs x s n J m I X' M a b->K m):aI h #[v] y.2 λc d=>aT h d ⟨p,10+i,none⟩ 1 (Ap d y.2 z 1 bytes u 1 (rd d (some c) (1*1)) λt H=>St H ⟨p,10+i,none⟩ (Sl.v t) K):=
 aF λc l F e j _=>bQ L.st.S.k e ((L.ai e).Mq r G (o.gr e) D q (by simpa using w) rfl (iJ j rfl) C ag B)
theorem gh.apF{C:PK}{m w:Int}{u:Sl}{A:aQ}(L:gh f p Q T0 h0 vs x s n T h g X E a b)(q:g.SS[2]? =some u)(e:g.ST[2]? =some A)(o:Os A h u (bv X.fx) Y8)(hl:X.fx.length<=200000)(l:0<=w/\w<=8)
  (r:∀B d y D,gh f p Q T0 h0 vs x s n B d y {X with fx:=X.fx++jj (m%2^64).toNat w.toNat} D a b->K d):Fq u m w h (λt j=>St j ⟨p,12,none⟩ (Sl.v t) K) C:=by
 have sub:∀c,A c->c<h.size:=λc z=>L.st.S.t.lt c (L.st.S.t.sub _ (bT (g.iw e)) c z).1;refine abM o sub ag l λF j t os=>L.st.slot (oe _) q e t (x':=(bv (X.fx++jj (m%2^64).toNat w.toNat),Y8)) os rfl λd k st=>r _ d _ _ (L.next (λ_ z=>z) k st)
theorem gh.valid{v:UInt8}(L:gh f p Q T0 h0 vs x s n T h g X E a b)(hl:X.vl.length<=5000)(l:∀u k r w,gh f p Q T0 h0 vs x s n u k r {X with vl:=X.vl++[v]} w a b->K k):Ld h ⟨p,10,none⟩ Sl.v λj=>aI h #[.int .u8 (v.toNat:Int)] Y8 λc d=>Ap d Y8 #[.int .u8 0] 1 1 j 1 (rd d (some c) (1*1)) λt e=>St e ⟨p,10,none⟩ (Sl.v t) K:=by
 obtain⟨j,A,y,e,q,m,o,_⟩:=L.sl (i:=0) ag;cases m;refine L.st.S.dH e (L.yg e q o ?_ rfl rfl ag (by simp[fP];omega) l)
 show({X with vl:=X.vl++[v]}:Bx).fm=_
 unfold Bx.fm;simp[uT];rfl
end
section
variable {Q T T0 E:aQ} {p a b:Nat} {x:aB} {n:Bn} {g:dM} {X X':Bx} {K:cK}
theorem DP(d:f.k≠18)(oa:f.k≠20)(c:f.k=1->x.au=true):eG f.k x=x.au:=by
 unfold eG
 grind
theorem pJ{b:Bool}(c:eG f.k x=b):x8 f (vs++[x])=⟨vs.length+1,vs.countP (eG f.k)+(if b then 1 else 0),bL vs+x.bx⟩:=by
 grind[x8,List.length_append,lS]
theorem DO(L:gh f p Q T0 h0 vs x s n T h g X E a b)(hl:X.vl.length<=5000)
  (G:∀{z m r B c},gh f p Q T0 h0 vs x s n z m r {X with vl:=X.vl++[0]} B a c->IZ K Kp (pB p) (aJ c) f.k (decide (f.k=12\/f.k=13\/f.k=15)) m):OO (pB p) h K Kp:=by
 have cells:Cs h ⟨p,2,none⟩ [ah f.k,ah f.w,ah f.id,ah f.ix,Sl.v g.sf]:=uQ L.st.S.k λi v d=>by
  rcases i with _|_|_|_|_|i
  ·exact d
  ·exact d
  ·exact d
  ·exact d
  ·exact d
  ·simp at d
 apply aFp;refine bO ?_;refine nF cells (aF λc P e1 I F J=>pM F rfl λq o D=>?_);have H:=bI I o ag;have N:=o.1;have l:=L.ai H;have l:gh f p Q T0 h0 vs x s n T q g X _ a c:=⟨l.st,l.a,⟨.inr ⟨ag,ag⟩,_,D⟩,l.v⟩
 refine l.valid (v:=0) hl λz m r B A=>?_;obtain⟨M,C⟩:=A.b.2;have j:=G A;refine aj C rfl (aG (λy=>?_) λy=>aG (λu=>?_) λu=>?_)
 all_goals simp only[sm,reduceCtorEq]at*
 ·rw[MF (by omega:f.k=12\/f.k=13\/f.k=15)]at j
  rw[show(f.k==12)=true by simp[y]];exact j
 ·rw[MF (by omega:f.k=12\/f.k=13\/f.k=15)]at j
  rw[show(f.k==13)=true by simp[u]];exact j
 ·have e:(f.k==15)=decide (f.k=12\/f.k=13\/f.k=15):=by rw[ki];simp;omega
  rw[e];exact j
theorem Bg(L:gh f p Q T0 h0 vs x s n T h g X E a b)(hl:X.vl.length<=5000)
  (u:∀{m c d q},gh f p Q T0 h0 vs x s n m c d {X with vl:=X.vl++[1]} q a b->Nu K Kp (pB p) (aJ a) (aJ b) f.k (decide (f.k=12\/f.k=13)) c):Nx K Kp (pB p) (aJ a) (aJ b) h:=by
 apply aCp;refine bO ?_;refine L.valid (v:=1) hl λm c d q o=>?_;obtain⟨t,r⟩:=o.b.2;have j:=u o;refine aj r rfl (aG (λl=>?_) λl=>?_)
 all_goals simp only[sm,reduceCtorEq]at*
 ·rw[MF (by omega:f.k=12\/f.k=13)]at j
  rw[show(f.k==12)=true by simp[l]];exact j
 ·have e:(f.k==13)=decide (f.k=12\/f.k=13):=by rw[ki];simp;omega
  rw[e];exact j
theorem wh{c:aR}(d:f.k=12\/f.k=13):(aL f.k c).ends=kr (λv=>v.text.length) c/\(aL f.k c).all=c.flatMap aB.text:=by simp[aL,d]
theorem ad0(c:f.k=12\/f.k=13):(aL f.k (vs++[x])).ends=(aL f.k vs).ends++[(vs.flatMap aB.text).length+x.text.length]:=by
 simp_all[wh,J1]
theorem afi(ok:nN f vs X)(c:f.k≠18/\f.k≠20){b:UInt8}(d:b=if x.au then 0 else 1):X.vl++[b]=(vs++[x]).map λv=>if v.au then 0 else 1:=by
 rw[kq,<-ok.v c,d];rfl
theorem wu{b:UInt8}{F t:dy}{o:cU}(ok:nN f vs X)(A:f.k<=17)(u:b=if x.au then 0 else 1)(e1:X'.vl=X.vl++[b])(l:X'.fx=X.fx++F)(j:X'.os=X.os++o)(d:X'.tx=X.tx++t)(c:X'.cd=X.cd/\X'.ix=X.ix/\X'.en=X.en)
  (v:fL f.k=true->F=lY f x) (z:F.length<=16) (y:o.length<=1) (lt:(X.tx++t).length<=65536) (r:f.k=12\/f.k=13\/f.k=15->(aL f.k (vs++[x])).ends=(aL f.k vs).ends++o) (m:f.k=12\/f.k=13->(aL f.k (vs++[x])).all=(aL f.k vs).all++t):nN f (vs++[x]) X':=by
 obtain⟨c,w,e⟩:=c;obtain⟨I,b2,H,G,D,C,B⟩:=ok.b;refine⟨?_,λq=>?_,λq=>?_,λq=>?_,λq=>ag,λq=>ag,λq=>ag,λq=>?_⟩
 ·grind
 ·rw[e1];exact afi ok q u
 ·rw[j,r ag,ok.o q]
 ·rw[d,m q,ok.t q]
 ·rw[l,ok.x q,v q,List.flatMap_append];simp
theorem gh.fin(L:gh f p Q T0 h0 vs x s n T h g X E a b)(e:n=x8 f (vs++[x]))(ok:nN f (vs++[x]) X)(m:f.k≠19/\f.k≠20)(l:f.cs.length=0):f.gU Q T h p (vs++[x]):=by
 have d:∀c,(aL f.k c).aH=[]:=λc=>(mP c).2.2.2 ag;exact sy L.st e ok (by rw[d,d]) λj o=>ag
theorem ass(d:f.k=12\/f.k=13)(R:bB f):wU f:=by
 intro Q T h p vs x s Y N hw B H;have a':=((gj f vs).1 Y).tx d;have G:=R.right.1.2.2.2.2.2.2.2.2.2.2 ag;have D:∀P,x.au=P->eG f.k x=P:=λP e=>by rw[DP ag ag ag,e]
 have C:fL f.k=false:=by rcases d with e|e <;> rw[e] <;> rfl
 have len:(aL f.k vs).ends.length=vs.length+1:=by rw[(wh d).1,Dl]
 have wx:=hO x;refine⟨_,amt d N,λ{K Kp}m=>zL hw Y B H (λc Q' T' O ex=>by have:=m Q' T' O ex;grind) (λ_ c=>ag) (λlt _ w{O g X E a b}ok L=>?_) (λlt _ w{O g X E a b}ok L=>?_)⟩
 ·have r:x=v0:=by rw[eM]at N;exact(kB N w).1
  rw[ay,aC (by rw[r];show¬65536<_+0;omega)]at m
  have hb:=ok.b;refine DO L ag λ{T1 h1 g1 E1 c}j=>Fh (bS cy ?_);refine bO ?_;obtain⟨I,A,y,l,M,J,o,_⟩:=j.sl (i:=3) ag;cases J;have os:=ok.o ag;have u:=o.n;have V:(ints X.os).length=vs.length+1:=by rw[ints,cr,os,len]
  rw[V]at u;refine j.st.S.dH l (j.st.S.dH l (j.st.S.dH l (aX ag ag (o.sv.ix ag ag (v:=ah (((vs.flatMap aB.text).length:Nat):Int)) ?_ λa ha=>yQ ha ?_))))
  ·show _[_]? =_
   rw[show((I.n:Int)-1).toNat=vs.length by omega,os,(wh d).1,ints,eY,PS (bX _),m5]
   simp
  ·refine j.uU (X':={X with vl:=X.vl++[0],os:=X.os++[(vs.flatMap aB.text).length]}) l M o ?_ rfl rfl ag (by rw[V];omega) λT2 h2 g2 E2 q=>m _ _ _ q.st.x λ_=>q.fin (pJ (D _ w)).symm (wu (F:=[]) (t:=[]) ok ag (by rw[w];rfl) rfl aA rfl aA ⟨rfl,rfl,rfl⟩ (by simp[C]) aA aA cy (λ_=>?_) λ_=>?_) ag G
   ·show Bx.fm _=_
    simp[Bx.fm,ints]
   ·rw[ad0 d,r];rfl
   ·rw[(wh d).2,(wh d).2,r];simp[v0,aB.text]
 ·rw[ay]at m;have hb:=ok.b;have tx:X.tx=vs.flatMap aB.text:=by rw[ok.t d,(wh d).2]
  refine Bg L ag λ{T1 h1 g1 E1}j=>C2 (bS cy ?_);refine bO ?_;obtain⟨I,A,y,l,M,J,o,_⟩:=j.sl (i:=4) ag;cases J;have u:=o.n;have u:I.n=X.tx.length:=by rw[u];exact fP _
  have W:=j.a.2;refine j.st.S.dH l (aj W rfl (aX ag (by rw[jl];omega) (aG (λc=>?_) λc=>?_)))
  ·have c:=aS c;rw[jl,u,tx]at c;rw[dV]at m;exact m _ _ _ j.st.x λz=>by cases z
  ·have c:=aS c;rw[jl,u,tx]at c;rw[ay]at m;refine j.st.S.dH l (aj W rfl (j.Mq (X':={X with vl:=X.vl++[1],tx:=X.tx++x.text}) (news:=bv x.text) l M o ?_ rfl ?_ (by rw[fP,jl]) rfl ag bZ λT2 h2 g2 E2 q=>?_))
   ·show Bx.fm _=_
    simp[Bx.fm,uT]
   ·intro v H;simp only[bv,kZ]at H;obtain⟨y,_,rfl⟩:=H;rfl
   ·obtain⟨t3,A3,y,U,r2,r3,o3,_⟩:=q.sl (i:=3) ag;cases r3;obtain⟨t4,A4,y,w1,w2,w3,o4,_⟩:=q.sl (i:=4) ag;cases w3;have os:X.os=(aL f.k vs).ends:=ok.o ag;have n4:t4.n=(vs.flatMap aB.text).length+x.text.length:=by rw[o4.n];show(bv (X.tx++x.text)).length=_;rw[fP,iA,tx]
    refine q.st.S.dH (i:=3) U (q.st.S.dH (i:=4) w1 ?_);rw[n4];refine q.uU (X':={X with vl:=X.vl++[1],tx:=X.tx++x.text,os:=X.os++[(vs.flatMap aB.text).length+x.text.length]}) U r2 o3 ?_ rfl rfl ag (by show(ints X.os).length<=_;rw[ints,cr];omega) λT3 h3 g3 E3 Z=>m _ _ _ Z.st.x λ_=>Z.fin (by rw[pJ (b:=false) (D _ w)];rfl) (wu (b:=1) (F:=[]) (t:=x.text) (o:=[(vs.flatMap aB.text).length+x.text.length]) ok ag (by rw[w];rfl) rfl aA rfl rfl ⟨rfl,rfl,rfl⟩ (by simp[C]) aA aA (by rw[iA,tx];omega) (λ_=>ad0 d) λ_=>?_) ag G
    ·show Bx.fm _=_
     simp[Bx.fm,ints]
    ·rw[(wh d).2,(wh d).2];simp
end
section
variable {Q T T0 E:aQ} {p a b:Nat} {x:aB} {n:Bn} {g:dM} {X X':Bx} {K:cK}
theorem Pu(k:Int):0<=dN k/\dN k<=8:=by
 unfold dN
 omega
theorem ard(L:gh f p Q T0 h0 vs x s n T h g X E a b)(H:0<=f.w/\f.w<=16)(hl:X.fx.length<=100000)(v:∀l e k m,gh f p Q T0 h0 vs x s n l e k {X with fx:=X.fx++List.replicate f.w.toNat 0} m a b->K 0 e):WB K Kp (pB p) (aJ b) 0 h:=by
 refine aAz (λi e=>∃(j:Nat)(l:aQ)(k:dM)(m:aQ),i=j/\(j:Int)<=f.w/\gh f p Q T0 h0 vs x s n l e k {X with fx:=X.fx++List.replicate j 0} m a b) (λi _=>(f.w-i).toNat) ⟨0,T,g,E,rfl,ag,dG⟩ ?_
 rintro i M ⟨j,P,O,R,rfl,I,d⟩ N hN;obtain⟨G,u⟩:=d.b.2;refine aj u rfl (cE (λc=>?_) λc=>?_)
 ·obtain⟨F,A,y,q,t,r,o,_⟩:=d.sl (i:=2) ag;cases r;refine bO ?_;refine d.st.S.dH q (d.yg q t o ?_ rfl rfl ag ?_ λB J z D C=>aX ag ag (hN _ _ ⟨j+1,B,z,D,ag,ag,C⟩ ag))
  ·show Bx.fm _=_
   simp[Bx.fm,uT,EE];rfl
  grind[fP]
 ·grind
theorem ave(c:bB f)(m:f.k<=14)(l:f.k≠12/\f.k≠13)(j:f.fit x=true):(lY f x).length<=16:=by
 unfold lY;split
 ·simp
 ·split
  ·rename_i e
   have w:=c.right.1.2.2.1 e;split
   ·simp;omega
   ·rename_i d
    have:=((Ei ag j dG).2.1 ag).2.2 e
    omega
  ·have:=Pu f.k;simp[jj];omega
theorem asx(hk:f.k<=14)(c':f.k≠12/\f.k≠13)(V:bB f):wU f:=by
 intro Q T h p vs x s hc r hw B hv;have sh:=V.right.1;have Y:=sh.2.2.2.2.2.2.2.2.2.2 ag;have n1:f.k=1->x.au=true:=λe=>by
  cases m:x.au with
  |true=>rfl
  |false=>simp_all[eM,fG]
 have W:∀bb,x.au=bb->eG f.k x=bb:=λbb e=>by rw[DP ag ag n1,e]
 have te:gA f vs x=pE vs x.bx 0:=by
  by_cases e:f.k=1
  ·exact amy e r
  ·exact amx (by simp[fL];omega) r ag
 have lF:=ave V hk c' r;refine⟨0,te,λ{K Kp}hK=>zL hw hc B hv (λc Q' P u ex=>by have:=hK Q' P u ex;simp_all) (λ_ c=>ag) (λlt _ m{u g X E a b}ok L=>?_) (λlt _ m{u g X E a b}ok L=>?_)⟩ <;> rw[ay]at hK <;> have hb:=ok.b
 ·have U:x=v0:=by rw[eM]at r;exact(kB r m).1
  have fin:∀{P u g' E' a' b'},gh f p Q T h vs x s ⟨vs.length+1,vs.countP _+1,bL vs+x.bx⟩ P u g' {X with vl:=X.vl++[0],fx:=X.fx++lY f x} E' a' b'->K 0 u:=λj=>
   hK _ _ _ j.st.x λ_=>j.fin (pJ (W _ m)).symm (wu (t:=[]) (o:=[]) ok ag (by rw[m];rfl) rfl rfl aA aA ⟨rfl,rfl,rfl⟩ (λ_=>rfl) lF aA cy (λ_=>ag) λ_=>ag) ag Y
  refine DO L ag λ{T1 h1 g1 E1 c}d=>Fh (bu cy ?_);refine bO ?_;obtain⟨t0,A,y,q,I,q3,o,_⟩:=d.sl (i:=2) ag;cases q3;obtain⟨sf,kb⟩:=d.b.2;refine aG (λl=>?_) λl=>aG (λH=>?_) λH=>aG (λG=>?_) λG=>aG (λD=>?_) λD=>aG (λC=>?_) λC=>?_
  all_goals have l:=aS l
  all_goals try have H:=aS H
  all_goals try have G:=aS G
  all_goals try have D:=aS D
  all_goals try have C:=aS C
  all_goals try omega
  ·have w:=sh.2.2.1 l;have e:lY f x=List.replicate f.w.toNat 0:=by unfold lY;rw[ay,aK l,m];rfl
   exact ard d ag (by show X.fx.length<=_;omega) λO J M R j=>fin (by rw[e];exact j)
  ·have e:lY f x=[0]:=by unfold lY;rw[aK C,U];rfl
   refine d.st.S.dH q (d.yg q I o ?_ rfl rfl ag (by grind[fP]) λO J M R j=>fin (by rw[e];exact j))
   ·show Bx.fm _=_
    simp[Bx.fm,uT];rfl
  ·have e:lY f x=jj ((0:Int)%2^64).toNat (dN f.k).toNat:=by unfold lY;rw[aC C,aC l,U];rfl
   refine d.st.S.dH q (aj kb rfl (P9 (bQ d.st.S.k (cQ _) (d.apF q I o (by show X.fx.length<=_;omega) (Pu _) λO J M R j=>fin (by rw[e];exact j)))))
 ·have d':f.k≠1:=λe=>by rw[n1 e]at m;cases m
  obtain⟨f1,f2,f3⟩:=Ei ag r m;have fin:∀{P u g' E' a' b'},gh f p Q T h vs x s ⟨vs.length+1,vs.countP (eG f.k),bL vs+x.bx⟩ P u g' {X with vl:=X.vl++[1],fx:=X.fx++lY f x} E' a' b'->K 0 u:=λj=>
   hK _ _ _ j.st.x λ_=>j.fin (by simp_all[pJ]) (wu (t:=[]) (o:=[]) ok ag (by rw[m];rfl) rfl rfl aA aA ⟨rfl,rfl,rfl⟩ (λ_=>rfl) lF aA cy (λ_=>ag) λ_=>ag) ag Y
  refine Bg L ag λ{T1 h1 g1 E1}d=>C2 (bu cy ?_);refine bO ?_;obtain⟨t0,A,y,q,I,q3,o,_⟩:=d.sl (i:=2) ag;cases q3;have Z:=d.a.2;obtain⟨sf,kb⟩:=d.b.2;refine aG (λl=>?_) λl=>aG (λH=>?_) λH=>Fj (bu cy (aG (λG=>?_) λG=>aG (λD=>?_) λD=>aG (λC=>?_) λC=>aG (λN=>?_) λN=>?_))
  all_goals have l:=aS l
  all_goals try have H:=aS H
  all_goals try have G:=aS G
  all_goals try have D:=aS D
  all_goals try have C:=aS C
  all_goals try have N:=aS N
  all_goals try omega
  ·have e:lY f x=x.text:=by unfold lY;rw[ay,aK l,m];rfl
   refine d.st.S.dH q (aj Z rfl (d.Mq (X':={X with vl:=X.vl++[1],fx:=X.fx++x.text}) (news:=bv x.text) q I o ?_ rfl ?_ (by rw[fP,jl]) rfl ag (by grind[fP,jl]) λO J M R j=>fin (by rw[e];exact j)))
   ·show Bx.fm _=_
    simp[Bx.fm,uT]
   ·intro v hv;simp only[bv,kZ]at hv;obtain⟨y,_,rfl⟩:=hv;rfl
  ·refine bO ?_;have e:lY f x=[UInt8.ofNat (x.num%2^64).toNat]:=by unfold lY;rw[aK N]
   refine d.st.S.dH (i:=2) q (aj Z rfl (CO (d.uU (v:=.int .u8 (IntKind.u8.wrap x.num)) (X':={X with vl:=X.vl++[1],fx:=X.fx++[UInt8.ofNat (x.num%2^64).toNat]}) q I o ?_ rfl rfl ag (by show(bv _).length<=_;rw[fP];show X.fx.length<=_;omega) λO J M R j=>fin (by rw[e];exact j))))
   ·show Bx.fm _=_
    have e2:bv (X.fx++[UInt8.ofNat (x.num%2^64).toNat])=bv X.fx++[.int .u8 (IntKind.u8.wrap x.num)]:=by
     rw[uT,PI]
     congr 1
     show[Value.int .u8 (((UInt8.ofNat (x.num%2^64).toNat).toNat:Nat):Int)]=_
     rw[tN]
     congr 3
     omega
    simp only[Bx.fm,e2];rfl
  ·refine bO ?_;have e:lY f x=jj (x.num%2^64).toNat (dN f.k).toNat:=by unfold lY;rw[aC N,aC l]
   refine d.st.S.dH (i:=2) q (aj Z rfl (aj kb rfl (P9 (bQ Z (cQ _) (bQ d.st.S.k (cQ _) (d.apF q I o (by show X.fx.length<=_;omega) (Pu _) λO J M R j=>fin (by rw[e];exact j)))))))
end
theorem lg{l:aR}:lp kc j l j=l:=by simp[lp]
theorem alT{l:aR}(h:i≠j):lp kc j l i=kc i:=by simp[lp,h]
theorem Pz{l m:aR}:lp (lp kc j l) j m=lp kc j m:=by
 funext i;unfold lp;split <;> rfl
theorem PB:lp kc j (kc j)=kc:=by
 funext i;unfold lp;grind
structure fR(f:aq)(p:Nat)(Q0 T0:aQ)(h0:Hp)(x:aB)(s:Sl)(n:Bn)(X:Bx)(vl:aR)(a b:Nat)(E:aQ)(kc:Nat->List aB)(Q T:aQ)(h:Hp)(g:dM):Prop where
 st:gw f (ud f) p Q0 T0 h0 Q T h g n X vl kc E
 a:E a/\aN h a (x.row s).toArray dh
 b:E b/\∃sf,aN h b #[ah f.k,ah f.w,ah f.id,ah f.ix,Sl.v sf] kJ
 v:aO Q0 h0 s x.items
 q:∀c,Q0 c->¬T0 c
section
variable {Q T Q0 T0 E:aQ} {p a b:Nat} {vl:aR} {x y:aB} {n:Bn} {g:dM} {X X':Bx} {K:cK}
theorem gh.kd(L:gh f p Q T0 h0 vs x s n T h g X E a b):fR f p Q T0 h0 x s n X (aL f.k vs).aH a b E (λj=>cont f j vs) Q T h g:=
 ⟨L.st,L.a,L.b,L.v,λc z y=>L.hQ c z (L.st.x.t c y)⟩
theorem fR.vv(D:fR f p Q0 T0 h0 x s n X vl a b E kc Q T h g):aO Q h s x.items:=aO.fr D.st.x.tn (λc z _ y=>D.q c z y) D.st.x.q _ D.v
theorem fR.take{k z:Int}(D:fR f p Q0 T0 h0 x s n X vl a b E kc Q T h g)(P:f.cs[i]? =some c)(U:k=i)(R:z=j)(Y:om c)(O:x.items[j]? =some y)(I:c.can (kc i))(H:c.fit y=true)(hw:x.bx<=4194304)
  (J:gA c (kc i) y≠0->∀F C r,Ext Q0 F T0 C h0 r->K (gA c (kc i) y) r)
  (N:gA c (kc i) y=0->∀F C r L,fR f p Q0 T0 h0 x s n X vl a b E (lp kc i (kc i++[y])) F C r L->K 0 r):Ld h ⟨p,18,none⟩ Sl.v λd=>Ix d.a d.n 1 k λd=>Ld h d .pointer λd=>Ld h ⟨a,3,none⟩ Sl.v λe=>Ix e.a e.n 4 z λe=>bP h e λe f g i=>uo d e f g i h K Kp:=by
 have l:y∈x.items:=bZ;have wy:=oB l;have wx:=hO x;refine Ii D.st.S P U λA w V o m=>aj D.a.2 rfl (D.vv.ix R O λq u W M=>gY W (D.st.iI P V o Y I H ag M J λe F C r L hq t Z=>N e F C r L ⟨Z,⟨D.a.1,pK t D.a.2 D.a.1⟩,⟨D.b.1,?_⟩,D.v,D.q⟩));obtain⟨B,G⟩:=D.b.2;exact⟨B,pK t G D.b.1⟩
theorem fR.zero{k:Int}(D:fR f p Q0 T0 h0 x s n X vl a b E kc Q T h g)(H:f.cs[i]? =some c)(J:k=i)(M:pR c)(u:c.can (kc i))
  (z:gI c (kc i)≠0->∀t r o,Ext Q0 t T0 r h0 o->K (gI c (kc i)) o)
  (C:gI c (kc i)=0->∀t r o B,fR f p Q0 T0 h0 x s n X vl a b E (lp kc i (kc i++[c.cm])) t r o B->K 0 o):Ld h ⟨p,18,none⟩ Sl.v λd=>Ix d.a d.n 1 k λd=>Ld h d .pointer λd=>um d h K Kp:=by
 refine Ii D.st.S H J λA w L l m=>D.st.nQ H L l M u z λe t r o B O F N=>C e t r o B ⟨N,⟨D.a.1,pK F D.a.2 D.a.1⟩,⟨D.b.1,?_⟩,D.v,D.q⟩;obtain⟨G,I⟩:=D.b.2;exact⟨G,pK F I D.b.1⟩
theorem fR.items(D:fR f p Q0 T0 h0 x s n X vl a b E kc Q T h g)(L:f.cs[0]? =some c)(O:om c)(P:jr c)(H:c.can (kc 0))(C:∀y∈x.items,c.fit y=true)(J:x.bx<=4194304)(hl:x.items.length<=4096)
  (A:jU c (λx r=>c.tk r x) (kc 0) x.items≠0->∀u q l,Ext Q0 u T0 q h0 l->K (jU c (λx r=>c.tk r x) (kc 0) x.items) l)
  (I:jU c (λx r=>c.tk r x) (kc 0) x.items=0->∀u q l B,fR f p Q0 T0 h0 x s n X vl a b E (lp kc 0 (kc 0++x.items)) u q l B->Nt K Kp (pB p) l):WD K Kp (pB p) (aJ a) 0 h:=by
 refine aAE (λy l=>∃(j:Nat)(u q:aQ)(B:dM),y=j/\j<=x.items.length/\fR f p Q0 T0 h0 x s n X vl a b E (lp kc 0 (kc 0++x.items.take j)) u q l B/\c.can (kc 0++x.items.take j)/\
   jU c (λx r=>c.tk r x) (kc 0) x.items=jU c (λx r=>c.tk r x) (kc 0++x.items.take j) (x.items.drop j)) (λy _=>x.items.length-y.toNat) ⟨0,Q,T,g,rfl,eu _,by simpa[PB]using D,by simpa using H,aA⟩ ?_
 rintro y U ⟨j,Y,W,V,rfl,S,t,F,e1⟩ N hN;have R:=t.vv.n;refine aj t.a.2 rfl (cE (λo=>?_) λo=>?_)
 ·have m:j<x.items.length:=ag;have w:=bJ m;have k:=kS m;have v:=CC m;have d:=kH m;generalize x.items[j]=z at w k v d;rw[v]at e1;simp only[jU]at e1;refine bO ?_;refine t.take L rfl rfl O w (by rw[lg];exact F) (C z d) J (λe u q l M=>bS (by simp only[sm,reduceCtorEq];exact e) ?_) λe u q l B G=>bu rfl (aX ag ag (hN _ _ ⟨j+1,u,q,B,ag,ag,?_,?_,?_⟩ ag))
  ·rw[lg]at e ⊢;rw[aC e]at e1;rw[e1]at A;exact A e _ _ _ M
  ·grind[lg,Pz,List.append_assoc]
  ·rw[lg]at e;have:=(P z (C z d) _ F e).1;simp_all
  simp_all[lg,aK]
 ·have:j=x.items.length:=ag;subst this;rw[EF]at e1;rw[m5]at t;exact I e1 _ _ _ _ t
theorem fR.Pe(D:fR f p Q0 T0 h0 x s n X vl a b E kc Q T h g)(G:f.cs[0]? =some c)(I:pR c)(J:dW c c.zk c.cm)(u:c.can (kc 0))(M:0<=f.w/\f.w<=64)
  (q:jU c (λ_=>c.zk) (kc 0) (List.replicate f.w.toNat c.cm)≠0->∀l k d,Ext Q0 l T0 k h0 d->K (jU c (λ_=>c.zk) (kc 0) (List.replicate f.w.toNat c.cm)) d)
  (v:jU c (λ_=>c.zk) (kc 0) (List.replicate f.w.toNat c.cm)=0->∀l k d r,fR f p Q0 T0 h0 x s n X vl a b E (lp kc 0 (kc 0++List.replicate f.w.toNat c.cm)) l k d r->K 0 d):WA K Kp (pB p) (aJ b) 0 h:=by
 refine aAy (λy d=>∃(j:Nat)(l k:aQ)(r:dM),y=j/\j<=f.w.toNat/\fR f p Q0 T0 h0 x s n X vl a b E (lp kc 0 (kc 0++List.replicate j c.cm)) l k d r/\c.can (kc 0++List.replicate j c.cm)/\
   jU c (λ_=>c.zk) (kc 0) (List.replicate f.w.toNat c.cm)=jU c (λ_=>c.zk) (kc 0++List.replicate j c.cm) (List.replicate (f.w.toNat-j) c.cm)) (λy _=>f.w.toNat-y.toNat) ⟨0,Q,T,g,rfl,eu _,by simpa[PB]using D,dG,aA⟩ ?_
 rintro y P ⟨j,U,S,R,rfl,O,t,A,e1⟩ N hN;obtain⟨L,C⟩:=t.b.2;refine aj C rfl (cE (λo=>?_) λo=>?_)
 ·obtain⟨m,F⟩:∃m,f.w.toNat-j=m+1:=⟨f.w.toNat-j-1,ag⟩
  have z:f.w.toNat-(j+1)=m:=ag;rw[F,Ir]at e1;simp only[jU]at e1;refine bO ?_;refine t.zero G rfl I (by rw[lg];exact A) (λe l k d H=>bS bZ ?_) λe l k d r B=>bu rfl (aX ag ag (hN _ _ ⟨j+1,l,k,r,ag,ag,?_,?_,?_⟩ ag))
  ·rw[lg]at e ⊢;rw[aC e]at e1;rw[e1]at q;exact q e _ _ _ H
  ·grind[lg,Pz,List.append_assoc,List.replicate_succ']
  ·rw[lg]at e;have:=(J _ A e).1;grind[List.replicate_succ',List.append_assoc]
  simp_all[lg,aK,EE]
 ·have:j=f.w.toNat:=ag;subst this;rw[yz]at e1;exact v e1 _ _ _ _ t
end
section
variable {Q T Q0 T0 E:aQ} {p a b:Nat} {vl:aR} {x y:aB} {n:Bn} {g:dM} {X X':Bx} {K:cK}
theorem fR.ai{H:Hp}(D:fR f p Q0 T0 h0 x s n X vl a b E kc Q T h g)(gr:az h H):fR f p Q0 T0 h0 x s n X vl a b (λc=>E c\/(h.size<=c/\c<H.size)) kc Q T H g:=by
 obtain⟨d,e⟩:=D.b.2;exact⟨D.st.ai (oe _) gr,⟨.inl D.a.1,D.a.2.ai gr⟩,⟨.inl D.b.1,d,e.ai gr⟩,D.v,D.q⟩
theorem fR.sl(D:fR f p Q0 T0 h0 x s n X vl a b E kc Q T h g)(hi:i<7):∃t A y,g.SS[i]? =some t/\g.ST[i]? =some A/\X.fm[i]? =some y/\Os A h t y.1 y.2:=by
 have G:=D.st.S;have ls:=G.ls;have h1:g.SS[i]? =some (g.SS[i]' ag):=aA;have h2:g.ST[i]? =some (g.ST[i]' ag):=aA;have h3:X.fm[i]? =some (X.fm[i]' hi):=bJ _;exact⟨_,_,_,h1,h2,h3,G.sl i _ _ _ h1 h2 h3⟩
theorem fR.uU{K:HP}{bytes:Nat}{y:List Value×TypeId}{v:Value}{u:Sl}{A:aQ}(D:fR f p Q0 T0 h0 x s n X vl a b E kc Q T h g)(J:g.SS[i]? =some u)(P:g.ST[i]? =some A)(o:Os A h u y.1 y.2)(O:X'.fm=X.fm.set i (y.1++[v],y.2))
  (I:z.size=1) (L:one v=true) (N:bytes<=8) (Y:y.1.length<=200000) (M:∀U m R V,fR f p Q0 T0 h0 x s n X' vl a b V kc Q U m R->K m):aI h #[v] y.2 λc d=>aT h d ⟨p,10+i,none⟩ 1 (Ap d y.2 z 1 bytes u 1 (rd d (some c) (1*1)) λt B=>St B ⟨p,10+i,none⟩ (Sl.v t) K):=by
 refine aF λc Z e2 l H _=>bQ D.st.S.k l ?_;have e:=D.ai l;have w:=o.gr l;have F:=w.n;refine w.Cp I (by simpa using L) rfl (iJ H rfl) (by rw[F];have:=Vf (y.1.length+1+(y.1.length+1)/4+192) N;omega) ag λW B t os=>e.st.slot (oe _) J P t os.tr O λm r st=>M _ m _ _ ⟨st,⟨e.a.1,pK r e.a.2 e.a.1⟩,⟨e.b.1,?_⟩,D.v,D.q⟩
 obtain⟨C,G⟩:=e.b.2;exact⟨C,pK r G e.b.1⟩
theorem fR.abG(D:fR f p Q0 T0 h0 x s n X vl a b E kc Q T h g)(u:f.cs[0]? =some c)(hl:X.os.length<=100000)
  (q:∀z e v C,fR f p Q0 T0 h0 x s n {X with os:=X.os++[(kc 0).length]} vl a b C kc Q z e v->K 0 e):Nt K Kp (pB p) h:=by
 apply aCo;refine bO ?_;obtain⟨t,A,y,d,l,k,o⟩:=D.sl (i:=3) ag;cases k;refine D.st.S.dH d (Ii D.st.S u rfl λB w G F m=>?_);refine bO ?_;refine yQ ((xZ c).r m) (D.uU d l o ?_ rfl rfl ag (by show(ints X.os).length<=_;rw[ints,cr];omega) q)
 show Bx.fm _=_
 simp[Bx.fm,ints]
theorem acf(l:f.k=15):(aL f.k (vs++[x])).ends=(aL f.k vs).ends++[(cont f 0 vs++x.items).length]:=by
 have e:∀d,(aL f.k d).ends=kr (λv=>v.items.length) d:=λd=>by simp[aL,l]
 rw[e,e,J1]
 congr 2
 show _=List.length (dK f.k f.w (dJ f.cs) 0 vs++x.items)
 rw[l,Ac,kq,Im];simp
theorem xA(d:f.cs=[c])(h:kc 0=cont f 0 vs):∀j,j<f.cs.length->kc j=cont f j vs:=λj e=>by
 grind
theorem qR(l:f.k≠19/\f.k≠20)(d:aR):(aL f.k d).aH=[]:=(mP d).2.2.2 ag
theorem asw(d:f.cs=[c])(l:f.k=15)(Z:bB f)(TK:om c):wU f:=by
 intro Q T h p vs x s P H hw B hv;have PC:=mj c (Z.aM (by rw[d];simp))
 have C:f.cs[0]? =some c:=by rw[d];rfl
 have N:=fC C P;have M:∀U,x.au=U->eG f.k x=U:=λU e=>by rw[DP ag ag ag,e]
 have J:fL f.k=false:=by rw[l];rfl
 have a':x.items.length<=4096:=by rw[eM]at H;exact Eh H
 have cs:cont f 0 (vs++[x])=cont f 0 vs++x.items:=by
  show dK f.k f.w _ 0 _=dK f.k f.w _ 0 _++_
  rw[l,Ac,Ac];simp
 have len:(aL f.k vs).ends.length=vs.length+1:=by simp[aL,l,Dl]
 refine⟨_,amz d l PC.1 P H,λ{K Kp}m=>zL hw P B hv (λc W V I R=>by have:=m W V I R;grind) (λ_ c=>ag) (λlt _ G{I g X E a b}ok L=>?_) (λlt _ G{I g X E a b}ok L=>?_)⟩ <;> rw[ay]at m <;> have hb:=ok.b
 ·have u:x=v0:=by rw[eM]at H;exact(kB H G).1
  have e0:jU c (λx r=>c.tk r x) (cont f 0 vs) x.items=0:=by rw[u];rfl
  rw[e0]at m;refine DO L ag λ{T1 h1 g1 E1 c'}q=>Fh (bS cy ?_);refine bO ?_;obtain⟨t0,A,y,O,q2,q3,o,_⟩:=q.sl (i:=3) ag;cases q3;have os:=ok.o ag;have on:=o.n;have lx:(ints X.os).length=vs.length+1:=by rw[ints,cr,os,len]
  rw[lx]at on;refine q.st.S.dH O (q.st.S.dH O (q.st.S.dH O (aX ag ag (o.sv.ix ag ag (v:=ah (((cont f 0 vs).length:Nat):Int)) ?_ λa ha=>yQ ha ?_))))
  ·show _[_]? =_
   have e:(aL f.k vs).ends=kr (λv=>v.items.length) vs:=by simp[aL,l]
   rw[show((t0.n:Int)-1).toNat=vs.length by omega,os,e,ints,eY,PS (bX _),m5]
   show _=some (ah (((dK f.k f.w (dJ f.cs) 0 vs).length:Nat):Int))
   rw[l,Ac];simp
  ·refine q.uU (X':={X with vl:=X.vl++[0],os:=X.os++[(cont f 0 vs).length]}) O q2 o ?_ rfl rfl ag (by rw[lx];omega) λT2 h2 g2 E2 L2=>m _ _ _ L2.st.x λ_=>sy L2.st (pJ (M _ G)).symm (wu (F:=[]) (t:=[]) ok ag (by rw[G];rfl) rfl aA rfl aA ⟨rfl,rfl,rfl⟩ (by simp[J]) aA aA cy (λ_=>?_) λ_=>ag) (by rw[qR ag,qR ag]) (xA d ?_)
   ·show Bx.fm _=_
    simp[Bx.fm,ints]
   ·rw[acf l,u];simp[v0,aB.items]
   ·rw[cs,u];simp[v0,aB.items]
 ·refine Bg L ag λ{T1 h1 g1 E1}q=>C2 (bu cy (bu cy (bS cy (Fj (bS cy (q.kd.items C TK PC.1 N (Ln d (.inl l) H) hw a' (λe W V I R=>m _ _ _ R λz=>absurd z e) λe W V I g' D=>D.abG C bZ λT2 h2 g2 E2 Y=>?_))))))
  simp only[lg]at Y;rw[e]at m;refine m _ _ _ Y.st.x λ_=>sy Y.st (by simp_all[pJ]) (wu (F:=[]) (t:=[]) ok ag (by rw[G];rfl) rfl aA rfl aA ⟨rfl,rfl,rfl⟩ (by simp[J]) aA aA cy (λ_=>acf l) λ_=>ag) (by rw[qR ag,qR ag]) (xA d ?_)
  rw[cs,lg]
theorem asu(d:f.cs=[c])(A:f.k=16)(J:bB f)(TK:om c)(ZK:pR c):wU f:=by
 intro Q T h p vs x s P N V B W;have O:=mj c (J.aM (by rw[d];simp))
 have m:f.cs[0]? =some c:=by rw[d];rfl
 have q:=fC m P;have M:∀R,x.au=R->eG f.k x=R:=λR e=>by rw[DP ag ag ag,e]
 have I:fL f.k=false:=by rw[A];rfl
 have U:x.items.length<=4096:=by rw[eM]at N;exact Eh N
 have cs:cont f 0 (vs++[x])=cont f 0 vs++if x.au then List.replicate f.w.toNat c.cm else x.items:=by
  show dK f.k f.w _ 0 _=dK f.k f.w _ 0 _++_
  rw[A,Ca,Ca,d];simp[dJ]
 refine⟨_,amv d A O.1 O.2.1 P N,λ{K Kp}l=>zL V P B W (λc H G r C=>by have:=l H G r C;grind) (λ_ c=>ag) (λlt _ u{r g X E a b}ok L=>?_) (λlt _ u{r g X E a b}ok L=>?_)⟩ <;> rw[ay]at l <;> have hb:=ok.b <;> simp only[u,gB,mG,lN]at l cs
 ·refine DO L ag λ{T1 Y Z E1 c'}S=>Fh (bu cy (bu cy (bS cy ?_)));have w:=J.right.1.2.2.2.1 A;refine S.kd.Pe m ZK O.2.1 q ag (λe H G r C=>l _ _ _ C λz=>absurd z e) λe H G r g' v=>?_;rw[e]at l;refine l _ _ _ v.st.x λ_=>sy v.st (pJ (M _ u)).symm (wu (F:=[]) (t:=[]) (o:=[]) ok ag (by rw[u];rfl) rfl aA aA aA ⟨rfl,rfl,rfl⟩ (by simp[I]) aA aA cy (λ_=>ag) λ_=>ag) (by rw[qR ag,qR ag]) (xA d ?_)
  rw[cs,lg]
 ·refine Bg L ag λ{T1 Y Z E1}S=>C2 (bu cy (bu cy (bu cy (Fj (bS cy (S.kd.items m TK O.1 q (Ln d (.inr A) N) V U (λe H G r C=>l _ _ _ C λz=>absurd z e) λe H G r g' D=>D.abG m bZ λT2 h2 g2 E2 v=>?_))))))
  simp only[lg]at v;rw[e]at l;refine l _ _ _ v.st.x λ_=>sy v.st (by simp_all[pJ]) (wu (F:=[]) (t:=[]) ok ag (by rw[u];rfl) rfl aA rfl aA ⟨rfl,rfl,rfl⟩ (by simp[I]) aA aA cy (λ_=>ag) λ_=>ag) (by rw[qR ag,qR ag]) (xA d ?_)
  rw[cs,lg]
end
theorem Lp{g:Nat->Int}(h0:jZ g j=0)(d:g j≠0):∀{m:Nat},j<m->jZ g m=g j
  |0,h=>ag
  | m+1,h=>by
    by_cases e:m=j
    ·subst e;simp[jZ,h0]
    ·have:=Lp h0 d (m:=m) ag;simp[jZ,this,d]
def qV(kc:Nat->List aB)(G:Nat->aB)(j:Nat):Nat->List aB:=λi=>if i<j then kc i++[G i]else kc i
theorem tq:qV kc G j j=kc j:=by simp[qV]
theorem SN:qV kc G 0=kc:=by funext i;simp[qV]
theorem SO:lp (qV kc G j) j (kc j++[G j])=qV kc G (j+1):=by
 grind[lp,qV]
section
variable {Q T Q0 T0 E:aQ} {p a b:Nat} {vl:aR} {x y:aB} {n:Bn} {g:dM} {X X':Bx} {K:cK}
theorem fR.fields{e:Nat->Int}(D:fR f p Q0 T0 h0 x s n X vl a b E kc Q T h g)(L:f.cs.length<=32)(J:∀c∈f.cs,om c)(u:∀(i:Nat)c,f.cs[i]? =some c->c.can (kc i))(C:x.items.length=f.cs.length)(A:∀(i:Nat)c,f.cs[i]? =some c->c.fit (x.items.getD i v0)=true)(H:x.bx<=4194304)
  (B:∀(i:Nat)c,f.cs[i]? =some c->e i=gA c (kc i) (x.items.getD i v0))
  (m:jZ e f.cs.length≠0->∀l k d,Ext Q0 l T0 k h0 d->K (jZ e f.cs.length) d)
  (z:jZ e f.cs.length=0->∀l k d q,fR f p Q0 T0 h0 x s n X vl a b E (qV kc (λi=>x.items.getD i v0) f.cs.length) l k d q->K 0 d):WC K Kp (pB p) (aJ a) 0 h:=by
 refine aAD (λy d=>∃(j:Nat)(l k:aQ)(q:dM),y=j/\j<=f.cs.length/\fR f p Q0 T0 h0 x s n X vl a b E (qV kc (λi=>x.items.getD i v0) j) l k d q/\jZ e j=0) (λy _=>f.cs.length-y.toNat) ⟨0,Q,T,g,rfl,eu _,by rw[SN];exact D,rfl⟩ ?_
 rintro y P ⟨j,U,S,R,rfl,O,v,e1⟩ N hN;have M:=v.vv.n;refine aj v.a.2 rfl (cE (λr=>?_) λr=>?_)
 ·have t:j<f.cs.length:=ag;have o:f.cs[j]? =some f.cs[j]:=aA;have F:x.items[j]? =some (x.items.getD j v0):=by rw[gV,bJ ag];rfl
  generalize f.cs[j]=c at o;refine bO ?_;refine v.take o rfl rfl (J c (bT o)) F (by rw[tq];exact u j c o) (A j c o) H (λne l k d I=>bS (by simp_all) ?_) λe0 l k d q w=>bu rfl (aX ag ag (hN _ _ ⟨j+1,l,k,q,ag,ag,?_,?_⟩ ag))
  ·rw[tq]at ne ⊢;rw[<-B j c o]at ne ⊢;rw[Lp e1 ne t]at m;exact m ne _ _ _ I
  ·grind[tq,SO]
  ·rw[tq,<-B j c o]at e0;simp[jZ,e1,e0]
 ·have:j=f.cs.length:=ag;subst this;exact z e1 _ _ _ _ v
theorem fR.TX{e:Nat->Int}(D:fR f p Q0 T0 h0 x s n X vl a b E kc Q T h g)(I:f.cs.length<=32)(H:∀c∈f.cs,pR c)(v:∀(i:Nat)c,f.cs[i]? =some c->c.can (kc i))
  (z:∀(i:Nat)c,f.cs[i]? =some c->e i=gI c (kc i))
  (m:jZ e f.cs.length≠0->∀l k d,Ext Q0 l T0 k h0 d->K (jZ e f.cs.length) d)
  (w:jZ e f.cs.length=0->∀l k d q,fR f p Q0 T0 h0 x s n X vl a b E (qV kc (λi=>(dJ f.cs).getD i v0) f.cs.length) l k d q->K 0 d):Wz K Kp (pB p) 0 h:=by
 refine aAx (λy d=>∃(j:Nat)(l k:aQ)(q:dM),y=j/\j<=f.cs.length/\fR f p Q0 T0 h0 x s n X vl a b E (qV kc (λi=>(dJ f.cs).getD i v0) j) l k d q/\jZ e j=0) (λy _=>f.cs.length-y.toNat) ⟨0,Q,T,g,rfl,eu _,by rw[SN];exact D,rfl⟩ ?_
 rintro y M ⟨j,P,O,C,rfl,L,t,e1⟩ N hN;have J:C.sp.n=f.cs.length:=by rw[t.st.S.pt.n,cr,t.st.S.lk.1,cr]
 refine bO ?_;refine t.st.S.jY (aG (λr=>?_) λr=>?_)
 ·have r:=aS r;have u:j<f.cs.length:=ag;have o:f.cs[j]? =some f.cs[j]:=aA;generalize f.cs[j]=c at o;have B:(dJ f.cs).getD j v0=c.cm:=mV o;refine t.zero o rfl (H c (bT o)) (by rw[tq];exact v j c o) (λne l k d F=>bS bZ ?_) λe0 l k d q A=>bu rfl (aX ag ag (hN _ _ ⟨j+1,l,k,q,ag,ag,?_,?_⟩ ag))
  ·rw[tq]at ne ⊢;rw[<-z j c o]at ne ⊢;rw[Lp e1 ne u]at m;exact m ne _ _ _ F
  ·grind[tq,SO]
  ·rw[tq,<-z j c o]at e0;simp[jZ,e1,e0]
 ·grind
theorem ast(v:f.k=17)(u:bB f)(TK:∀c∈f.cs,om c)(ZK:∀c∈f.cs,pR c):wU f:=by
 intro Q T h p vs x s N U S B V;have H:=u.right.1.2.2.2.2.2.2.2.2.1 v;have q:∀(i:Nat)c,f.cs[i]? =some c->c.can _:=λi c d=>fC d N;have J:∀O,x.au=O->eG f.k x=O:=λO e=>by rw[DP ag ag ag,e]
 have I:fL f.k=false:=by rw[v];rfl
 have cs:∀j,cont f j (vs++[x])=cont f j vs++[if x.au then(dJ f.cs).getD j v0 else x.items.getD j v0]:=by grind[Et]
 refine⟨_,amu v (λc d=>(mj c (u.aM d)).1) (λc d=>(mj c (u.aM d)).2.1) N U,λ{K Kp}m=>zL S N B V (λc D C r A=>by have:=m D C r A;grind) (λ_ c=>ag) (λlt _ l{r g X E a b}ok L=>?_) (λlt _ l{r g X E a b}ok L=>?_)⟩ <;> rw[ay]at m <;> have hb:=ok.b <;> simp only[l,gB]at cs
 ·refine DO L ag λ{T1 W Y E1 c'}P=>Fh (bu cy (bu cy (bu cy (bS cy (P.kd.TX H ZK q (λi c d=>by unfold GM;grind) (λe D C r A=>m _ _ _ A λz=>absurd z e) λe D C r Z G=>?_)))))
  rw[e]at m;refine m _ _ _ G.st.x λ_=>sy G.st (pJ (J _ l)).symm (wu (F:=[]) (t:=[]) (o:=[]) ok ag (by rw[l];rfl) rfl aA aA aA ⟨rfl,rfl,rfl⟩ (by simp[I]) aA aA cy (λ_=>ag) λ_=>ag) (by rw[qR ag,qR ag]) λj M=>?_
  rw[cs];simp[qV,M]
 ·obtain⟨_,hl,R⟩:=Eg v U l;refine Bg L ag λ{T1 W Y E1}P=>C2 (bu cy (bu cy (bu cy (Fj (bu cy (bS cy (P.kd.fields H TK q hl R S (λi c d=>by unfold GM;grind) (λe D C r A=>m _ _ _ A λz=>absurd z e) λe D C r Z G=>?_)))))))
  rw[e]at m;refine m _ _ _ G.st.x λ_=>sy G.st (by simp_all[pJ]) (wu (F:=[]) (t:=[]) (o:=[]) ok ag (by rw[l];rfl) rfl aA aA aA ⟨rfl,rfl,rfl⟩ (by simp[I]) aA aA cy (λ_=>ag) λ_=>ag) (by rw[qR ag,qR ag]) λj M=>?_
  rw[cs];simp[qV,M]
end
section
variable {Q T Q0 T0 E:aQ} {p a b:Nat} {vl:aR} {x y:aB} {n:Bn} {g:dM} {X X':Bx} {K:cK}
theorem aem(e:f.k=18):(aL f.k (vs++[x])).ends=(aL f.k vs).ends++[(cont f (fO x) vs).length]/\(aL f.k (vs++[x])).all=(aL f.k vs).all++[UInt8.ofNat (fO x)]:=by
 constructor
 ·show _=_++[(dK f.k f.w (dJ f.cs) (fO x) vs).length]
  rw[e,Es];simp only[aL];simp only[show¬((18:Int)=12\/(18:Int)=13) by omega,show¬((18:Int)=15) by omega,lN,gB]
  rw[iA,jC,uX,kq]
  congr 1
  ·grind[List.map_congr_left]
  simp
 ·rw[e];simp[aL]
theorem axz(l:f.k=18)(d:x.items=[y])(j:Nat):cont f j (vs++[x])=if fO x=j then cont f j vs++[y]else cont f j vs:=by
 grind[Es]
theorem asA(l:f.k=18)(G:bB f)(TK:∀c∈f.cs,om c):wU f:=by
 intro Q T h p vs x s W hf hw B hv;have d':f.lets=false:=by rw[ym];unfold ny;rw[ay];simp[l]
 obtain⟨hn,ht,i',c,y,d,t,O⟩:=Lo l d' hf;have R:=fC d W;have c':eG f.k x=false:=by unfold eG;rw[ay,dV]
 have b':fL f.k=false:=by rw[l];rfl
 have P:=(de.1 d).1;have C:x.num=(fO x:Int):=by unfold fO;omega
 have wy:=hO x;rw[t]at wy;simp only[bL]at wy;refine⟨_,amB G l d t ht ((mj c (G.aM (bT d))).1 y O) W,λ{K Kp}I=>zL hw W B hv (λc Q' Z U Y=>by have:=I Q' Z U Y;simp_all) (λ_ c=>ag) (λlt _ N=>by rw[hn]at N;cases N) (λlt _ _{U g X E a b}ok L=>?_)⟩
 rw[ay]at I;have hb:=ok.b;refine Bg L ag λ{T1 h1 g1 E1}V=>C2 (bu cy (bu cy (bu cy (Fj (bu cy (bu cy (bS cy ?_)))))));refine bO ?_;obtain⟨t0,A,z,q1,q2,q3,o,_⟩:=V.sl (i:=1) ag;cases q3;refine V.st.S.dH q1 (aj V.a.2 rfl (CO (V.uU (X':={X with vl:=X.vl++[1],cd:=X.cd++[UInt8.ofNat (fO x)]}) q1 q2 o ?_ rfl rfl ag (by grind[fP]) λT2 h2 g2 E2 F=>aCn ?_)))
 ·show Bx.fm _=_
  have e2:bv (X.cd++[UInt8.ofNat (fO x)])=bv X.cd++[.int .u8 (IntKind.u8.wrap x.num)]:=by
   rw[uT,PI]
   congr 1
   show[Value.int .u8 (((UInt8.ofNat (fO x)).toNat:Nat):Int)]=_
   rw[tN]
   congr 3
   omega
  simp only[Bx.fm,e2];rfl
 refine bO ?_;obtain⟨t1,A1,z,r1,r2,r3,o1,_⟩:=F.sl (i:=3) ag;cases r3;obtain⟨M,B1,w,H,hA,a',m⟩:=F.st.S.m (by rw[cr];exact P)
 rw[eY,d]at H;cases H;refine F.st.S.dH r1 (F.st.S.jY (aj F.a.2 rfl (F.st.S.SM a' C ?_)));refine bO ?_;refine yQ ((xZ c).r m) (F.uU (X':={X with vl:=X.vl++[1],cd:=X.cd++[UInt8.ofNat (fO x)],os:=X.os++[(cont f (fO x) vs).length]}) r1 r2 o1 ?_ rfl rfl ag (by show(ints X.os).length<=_;rw[ints,cr];omega) λT3 h3 g3 E3 D=>aCm ?_)
 ·show Bx.fm _=_
  simp[Bx.fm,ints]
 refine bO ?_;obtain⟨M,B3,w3,H,e',J,m3⟩:=D.st.S.m (by rw[cr];exact P)
 rw[eY,d]at H;cases H;refine D.st.S.jY (aj D.a.2 rfl (D.st.S.SM J C (aj D.a.2 rfl (D.vv.ix rfl (by rw[t];rfl) λq u cx hz=>gY cx (D.st.iI d e' J (TK c (bT d)) R O ag hz (λe Q' Z U Y=>I _ _ _ Y λz=>absurd z e) λe Q' Z U g' hq t' S'=>?_)))))
 rw[e]at I;obtain⟨b1,b2,b3,b4,b5,b6,b7⟩:=hb;refine I _ _ _ S'.x λ_=>sy S' (by rw[pJ c'];rfl) ⟨?_,λq=>ag,λ_=>?_,λq=>ag,λ_=>?_,λq=>ag,λq=>ag,λq=>by rw[b']at q;cases q⟩ (by rw[qR ag,qR ag]) λj hj=>?_
 ·simp only[iA,jC];omega
 ·show X.os++_=_
  rw[(aem l).1,ok.o ag]
 ·show X.cd++_=_
  rw[(aem l).2,ok.c l]
 ·rw[axz l t];split
  ·rename_i e;subst e;exact lg
  ·rename_i e;exact alT λz=>e z.symm
end
theorem aqb{l:aR}(h:l[j]? =some v)(k:∀i,i<j->l[i]? ≠some v):gu v l=some j:=by
  cases e:gu v l with
  |none=>grind[List.mem_of_getElem?,vQ]
  | some i=>
    obtain⟨a,b⟩:=DG e
    grind
section
variable {Q T Q0 T0 E:aQ} {p a b:Nat} {vl:aR} {x y:aB} {n:Bn} {g:dM} {X X':Bx} {K:cK}
theorem abL{x:Int}(d:K (oK x) h):ON x h K Kp:=by
 refine aFg (aG (λe=>?_) λe=>aG (λk=>?_) λk=>?_)
 all_goals have e:=aS e
 all_goals try have k:=aS k
 ·unfold oK at d;grind
 ·unfold oK at d;grind
 ·unfold oK at d;grind
theorem vj.AZ{A:aQ}(o:vj A Q h s vs):aO (λ_=>True) h s vs:=by
 obtain⟨l,e,r,_,vv⟩:=o;exact aO.snoc r e (λ_ _=>trivial) λj v t k d=>sD (vv j v t k d) λ_ _=>trivial
theorem fR.fresh{K:Addr->HP}(D:fR f p Q0 T0 h0 x s n X vl a b E kc Q T h g)(o:∀d l t,fR f p Q0 T0 h0 x s n X vl d b t kc Q T l g->K (aJ d) l):iP h x.au x.num (bs x.text) s K:=
 aF λd r e1 m k _=>by
  have e:=D.ai m;exact o d r _ ⟨e.st,⟨.inr ⟨ag,ag⟩,k⟩,e.b,e.v,e.q⟩
theorem fR.yg{K:HP}{bytes:Nat}{y:List Value×TypeId}{v:Value}{u:Sl}{A:aQ}(D:fR f p Q0 T0 h0 x s n X vl a b E kc Q T h g)(l:g.SS[i]? =some u)(C:g.ST[i]? =some A)(o:Os A h u y.1 y.2)(B:X'.fm=X.fm.set i (y.1++[v],y.2))
  (k:z.size=1) (m:one v=true) (w:bytes<=8) (q:y.1.length<=200000) (r:∀I e H J,fR f p Q0 T0 h0 x s n X' vl a b J kc Q I e H->K e):aI h #[v] y.2 λc d=>Ap d y.2 z 1 bytes u 1 (rd d (some c) (1*1)) λt G=>St G ⟨p,10+i,none⟩ (Sl.v t) K:=(D.uU l C o B k m w q r).2
theorem fR.Zp{K:HP}(D:fR f p Q0 T0 h0 x s n X vl a b E kc Q T h g)(hl:vl.length<=5000)(F:∀z w m u I,fR f p Q0 T0 h0 x s n X (vl++[x]) a b I kc z w m u->K m):Ld h ⟨p,17,none⟩ Sl.v λsv=>bP h (aJ a) λc d e f=>aI h #[.bool false,ah 0,.string (bs []),.slice none 0 0] dh λg i=>aT h i (aJ a) 4<|aT h i ⟨p,17,none⟩ 1<|Ap i dh fY 4 56 sv 1 (rd i (some g) (1*4)) λt g=>Ix t.a t.n 4 (sv.n:Int) λb=>
   (dL g b c d e f λb=>St b ⟨p,17,none⟩ (Sl.v t) K)/\(St g ⟨p,17,none⟩ (Sl.v t) λG=>dL G b c d e f K):=by
 refine D.st.S.mR (fk D.a.2 (aF λL J e1 o C _=>bQ D.a.2 o (bQ D.st.S.k o ?_)));have l:=D.ai o;refine l.st.alF (oe _) C l.vv hl λz w m u r H=>F _ _ m _ _ ⟨H,⟨l.a.1,pK r l.a.2 l.a.1⟩,⟨l.b.1,?_⟩,D.v,D.q⟩;obtain⟨A,B⟩:=l.b.2;exact⟨A,pK r B l.b.1⟩
theorem fR.self(D:fR f p Q0 T0 h0 x s n X vl a b E kc Q T h g)(C:f.cs[0]? =some c)(H:om c)(t:c.can (kc 0))(r:c.fit x=true)(F:x.bx<=4194304)
  (u:gA c (kc 0) x≠0->∀q o k,Ext Q0 q T0 o h0 k->K (gA c (kc 0) x) k)
  (B:gA c (kc 0) x=0->∀q o k z,gw f (ud f) p Q0 T0 h0 q o k z n X vl (lp kc 0 (kc 0++[x])) E->K 0 k):Ld h ⟨p,18,none⟩ Sl.v λd=>Ix d.a d.n 1 0 λd=>Ld h d .pointer λd=>bP h (aJ a) λe f g i=>uo d e f g i h K Kp:=by
 exact Ii D.st.S C rfl λA w G l m=>fk D.a.2 (D.st.iI C G l H t r F D.vv u λe q o k z L J I=>B e q o k z I)
theorem awi(q:f.k=19):(aL f.k (vs++[x])).ends=(aL f.k vs).ends++[if x.au then 0 else(gu x (dS (vs++[x]))).getD 0]:=by
  have d:∀e,(aL f.k e).ends=e.map λu=>if u.au then 0 else(gu u (dS e)).getD 0:=λe=>by rw[q];simp[aL]
  rw[d,d,kq,Io]
  congr 1
  refine Cy λu o=>?_;cases m:u.au with
  |true=>rfl
  | false=>
    simp only[mG,lN];cases l:gu u (dS vs)with
    |none=>simp_all[KC,vQ]
    | some i=>
      grind[xP,q9,QB]
theorem UG{b:UInt8}{m:Nat}(ok:nN f vs X)(d:f.k=19)(l:b=if x.au then 0 else 1)(e:m=if x.au then 0 else(gu x (dS (vs++[x]))).getD 0):nN f (vs++[x]) {X with vl:=X.vl++[b],ix:=X.ix++[m]}:=by
 obtain⟨w,b2,v,u,t,r,o⟩:=ok.b;refine⟨?_,λq=>afi ok q l,λq=>ag,λq=>ag,λq=>ag,λ_=>?_,λq=>ag,λq=>by rw[d]at q;cases q⟩
 ·grind
 ·show X.ix++_=_
  rw[awi d,ok.i d,e]
theorem asz(l:f.cs=[c])(I:f.k=19)(i':bB f)(TK:om c):wU f:=by
 intro Q T h p vs x s hc hf hw B hv;have PC:=mj c (i'.aM (by rw[l];simp))
 have e':f.cs[0]? =some c:=by rw[l];rfl
 have C:∀D,cont f 0 D=dS D:=by grind[B9]
 have R:∀D,(aL f.k D).aH=dS D:=λD=>by simp[aL,I]
 have H:c.can (dS vs):=by rw[<-C];exact fC e' hc
 have b':=(gj c _).1 H;have n4:=b'.n4;have wt:=b'.wt;have O:∀bb,x.au=bb->eG f.k x=bb:=λbb e=>by rw[DP ag ag ag,e]
 refine⟨_,amA l I PC.1 hc hf,λ{K Kp}m=>zL hw hc B hv (λc Q' T' J ex=>by have:=m Q' T' J ex;simp_all) (λ_ c=>ag) (λlt _ d{J g X E a b}ok L=>?_) (λlt _ d{J g X E a b}ok L=>?_)⟩ <;> rw[ay]at m <;> have hb:=ok.b
 ·rw[aK d]at m;have v:dS (vs++[x])=dS vs:=by rw[xP];unfold q9;rw[aK d]
  refine DO L ag λ{T1 h1 g1 E1 c'}L1=>Fh (bu cy (bu cy (bu cy (bu cy (bS cy ?_)))));refine bO ?_;have D1:=L1.kd;obtain⟨t0,A,y,F,V,U,o⟩:=D1.sl (i:=5) ag;cases U;refine D1.st.S.dH F (D1.yg (X':={X with vl:=X.vl++[0],ix:=X.ix++[0]}) F V o ?_ rfl rfl ag (by show(ints X.ix).length<=_;rw[ints,cr];omega) λT2 h2 g2 E2 G=>m _ _ _ G.st.x λ_=>sy G.st (pJ (O _ d)).symm (UG ok I (by rw[d];rfl) (by rw[d];rfl)) (by rw[R,R,v]) (xA l (by rw[C,C,v])))
  show Bx.fm _=_
  simp[Bx.fm,ints]
 ·rw[aC (by simp[d])]at m
  refine Bg L ag λ{T1 h1 g1 E1}L1=>C2 (bu cy (bu cy (bu cy (Fj (bu cy (bu cy (bu cy (bS cy (fk L1.a.2 (aFo (L1.kd.fresh λa2 h2 E2 G=>?_)))))))))));rw[R]at G;apply aAw (λy J=>∃(j:Nat)(E':aQ),y=j/\j<=(dS vs).length/\fR f p Q T h x s _ _ (dS vs) a2 b E' (λj=>cont f j vs) Q T1 J g1/\∀i,i<j->(dS vs)[i]? ≠some x) (λy _=>(dS vs).length-y.toNat) ⟨0,E2,rfl,eu _,G,λi hi=>ag⟩
  rintro y h3 ⟨j,E3,rfl,hj,r,M⟩ N hN;have AZ:=r.st.S.aH.AZ;have vn:=AZ.n;refine bO ?_;refine r.st.S.mR (aG (λY=>?_) λY=>?_)
  ·have Y:=aS Y;have d':j<(dS vs).length:=ag;have hx:=bJ d';have t:=kH d';generalize(dS vs)[j]=z at hx t;have wz:=oB t;refine r.st.S.mR (AZ.ix rfl hx λq u cx hz=>gY cx (fk r.a.2 (Qi z hz r.vv ag λbb h4 g4 f'=>?_)));have P:=r.ai g4;refine aG (λc1=>?_) λc1=>?_
   ·have e:z=x:=f'.1 c1;subst e;have hm:=t;rw[aK hm]at m;have W:=aqb hx M;have v:dS (vs++[z])=dS vs:=by rw[xP];unfold q9;rw[aC (by simp[d]),W]
    obtain⟨t0,A,y,F,V,U,o⟩:=P.sl (i:=5) ag;cases U;refine P.st.S.dH F (P.yg (X':={X with vl:=X.vl++[1],ix:=X.ix++[j]}) F V o ?_ rfl rfl ag (by show(ints X.ix).length<=_;rw[ints,cr];omega) λT2 h2 g2 E2 G=>m _ _ _ G.st.x λ_=>sy G.st (by rw[pJ (O _ d)];rfl) (UG ok I (by rw[d];rfl) (by rw[d,v,W];rfl)) (by rw[R,v]) (xA l (by rw[C,C,v])))
    show Bx.fm _=_
    simp[Bx.fm,ints]
   ·refine aX ag ag (hN _ _ ⟨j+1,_,ag,ag,P,λi hi=>?_⟩ ag)
    by_cases e:i=j
    ·subst e;rw[hx];intro q;cases q;rw[f'.2 rfl]at c1;cases c1
    ·exact M i ag
  ·have a':x∉dS vs:=by grind[List.mem_iff_getElem?,List.getElem?_eq_some_iff]
   rw[aC a']at m;have W:=vQ.2 a';have v:dS (vs++[x])=dS vs++[x]:=by rw[xP];unfold q9;rw[aC (by simp[d]),W]
   apply aB5;refine bO ?_;refine r.st.S.mR (aj r.st.S.k rfl (abL (bQ r.st.S.k (cQ _) (aG (λZ=>?_) λZ=>?_))))
   ·have Z:=aS Z;rw[dV]at m;exact m _ _ _ r.st.x λz=>by cases z
   ·have Z:=aS Z;rw[ay]at m;refine aB4 ?_;refine bO ?_;obtain⟨t0,A,y,F,V,U,o⟩:=r.sl (i:=5) ag;cases U;refine r.st.S.dH (i:=5) F (r.st.S.mR ?_);rw[vn.1];refine r.uU (i:=5) (X':={X with vl:=X.vl++[1],ix:=X.ix++[(dS vs).length]}) F V o ?_ rfl rfl ag (by show(ints X.ix).length<=_;rw[ints,cr];omega) λT4 h4 g4 E4 P=>aB3 ?_
    ·show Bx.fm _=_
     simp[Bx.fm,ints]
    refine bO ?_;refine P.Zp ag λQ5 T5 h5 g5 E5 D5=>aB2 ?_;refine bO ?_;refine D5.self e' TK (by rw[C];exact H) (Lm l (.inl I) hf d) hw (λe Q' T' J ex=>?_) λe Q' T' J g' S'=>?_
    ·rw[C]at e ⊢;exact m _ _ _ ex λz=>absurd z e
    ·rw[C]at e;rw[e]at m;refine m _ _ _ S'.x λ_=>sy S' (by rw[pJ (b:=false) (O _ d)];rfl) (UG ok I (by rw[d];rfl) (by rw[d,v,QA W];rfl)) (by rw[R,v]) (xA l (by rw[lg,C,C,v]))
end
section
variable {Q T Q0 T0 E:aQ} {p a b:Nat} {vl:aR} {x y:aB} {n:Bn} {g:dM} {X X':Bx} {K:cK}
theorem afj{l:cU}(ok:nN f vs X)(d:f.k=20)(hl:l=(cR (vs++[x])).2):nN f (vs++[x]) {X with en:=l}:=by
 obtain⟨v,b2,u,t,r,o,m⟩:=ok.b;have e:(aL f.k (vs++[x])).ends=(cR (vs++[x])).2:=by rw[d];simp[aL]
 refine⟨?_,λq=>absurd d q.2,λq=>ag,λq=>ag,λq=>ag,λq=>ag,λ_=>hl.trans e.symm,λq=>by rw[d]at q;cases q⟩
 have:=(Ga _ (vs++[x]) rfl).1;grind
theorem asv(r:f.cs=[c])(C:f.k=20)(a':bB f)(TK:om c):wU f:=by
  intro Q T h p vs x s hc hf hw B hv;have cv:=adI a' C r hf;have PC:=(mj c (a'.aM (by rw[r];simp))).1 x cv
  have d':f.cs[0]? =some c:=by rw[r];rfl
  have M:∀I,cont f 0 I=(cR I).1:=by grind[Er]
  have ve:∀I,(aL f.k I).aH=(cR I).1:=λI=>by simp[aL,C]
  have ee:(aL f.k vs).ends=(cR vs).2:=by rw[C];simp[aL]
  have N:c.can (cR vs).1:=by rw[<-M];exact fC d' hc
  have c':=(gj c _).1 N;have wt:=c'.wt;obtain⟨V,U⟩:=Bf _ vs rfl;have f':=(Ga _ vs rfl).1;have b':eG f.k x=false:=by unfold eG;simp[*]
  refine⟨_,amw r C PC hc,λ{K Kp}J=>zL hw hc B hv (λc Q' T' h' ex=>by have:=J Q' T' h' ex;grind) (λlt _{h' g X E a b}ok L=>?_) (λlt q=>absurd C q) λlt q=>absurd C q⟩
  rw[ay]at J;have hb:=ok.b;refine aFq (L.kd.fresh λa2 h2 E2 G=>?_);rw[ve]at G;have vn:=G.st.S.aH.AZ.n;have D:(cR vs).1.getLast? ≠some x->∀{h3:Hp}{E3:aQ}{m:Int},m=((cR vs).1.length:Int)->fR f p Q T h x s ⟨vs.length+1,vs.countP (eG f.k),bL vs+x.bx⟩ X (cR vs).1 a2 b E3 (λj=>cont f j vs) Q T h3 g->Nj K Kp (pB p) (aJ a2) m false h3:=by
    intro ne h3 E3 m hm D3;subst hm;rw[aC ne]at J;have P:cR (vs++[x])=((cR vs).1++[x],(cR vs).2++[(cR vs).2.getLastD 0+1]):=by rw[Be];unfold xg;rw[aC ne]
    refine ais (bu rfl (aB8 (bu cy ?_)));refine bO ?_;refine D3.Zp ag λQ4 T4 h4 g4 E4 F=>aB7 ?_;refine bO ?_;obtain⟨t0,A,y,Y,q2,q3,o⟩:=F.sl (i:=6) ag;cases q3;refine F.st.S.dH Y (aj F.st.S.k rfl (F.uU (X':={X with en:=X.en++[vs.length+1]}) Y q2 o ?_ rfl rfl ag (by show(ints X.en).length<=_;rw[ints,cr];omega) λT5 h5 g5 E5 D5=>aB6 ?_))
    · show Bx.fm _=_
      simp[Bx.fm,ints]
    refine bO ?_;refine D5.self d' TK (by rw[M];exact N) cv hw (λe Q' T' h' ex=>?_) λe Q' T' h' g' S'=>?_
    ·rw[M]at e ⊢;exact J _ _ _ ex λz=>absurd z e
    ·rw[M]at e;rw[e]at J;exact J _ _ _ S'.x λ_=>sy S' (by rw[pJ b'];rfl) (afj ok C (by rw[P,ok.e C,ee,V])) (by rw[ve,P]) (xA r (by rw[lg,M,M,P]))
  refine bO ?_;refine G.st.S.mR (aG (λc1=>?_) λc1=>?_)
  · have c1:=aS c1;obtain⟨d,z,hd⟩:∃d z,(cR vs).1=d++[z]:=⟨_,_,(At (λe=>bZ)).symm⟩
    have ln:(cR vs).1.length=d.length+1:=by rw[hd];simp
    have hx:(cR vs).1[d.length]? =some z:=by rw[hd];simp
    have hl:(cR vs).1.getLast? =some z:=by rw[hd];simp
    have wz:=oB (bT hx);refine G.st.S.mR (aX ag ag (G.st.S.aH.AZ.ix ag hx λq u cx hz=>gY cx (fk G.a.2 (Qi z hz G.vv ag λbb h4 g4 e'=>?_))));have F:=G.ai g4;cases W:bb with
    | false=>
      refine D (λe=>?_) ag F;rw[hl]at e;cases e;rw[e'.2 rfl]at W;cases W
    | true=>
      have e:z=x:=e'.1 W;subst e;rw[aK hl]at J;have P:cR (vs++[z])=((cR vs).1,(cR vs).2.dropLast++[(cR vs).2.getLastD 0+1]):=by rw[Be];unfold xg;rw[aK hl]
      obtain⟨R,O,H⟩:∃d z,(cR vs).2=d++[z]:=⟨_,_,(At (λe=>by rw[e,ry]at U;omega)).symm⟩
      have j':R.length=d.length:=by rw[H,ln]at U;simp at U;omega
      have i':O=vs.length:=by rw[H]at V;simpa using V
      have en:X.en=R++[O]:=by rw[ok.e C,ee,H]
      obtain⟨t0,A,y,Y,q2,q3,o⟩:=F.sl (i:=6) ag;cases q3;have Z:=o.n;have Z:t0.n=d.length+1:=by rw[Z];show(ints X.en).length=_;rw[ints,cr,en];simp;omega
      refine ais (bS rfl ?_);refine bO ?_;refine F.st.S.dH (i:=6) Y (aX ag ag (o.sv.ix ag ag (v:=ah (O:Int)) ?_ λa ha=>yQ ha (aX ag ag ?_)))
      · show(ints X.en)[_]? =_
        rw[show((g.sv.n:Int)-1).toNat=R.length by omega,en,ints,eY];simp
      · have o':=o;rcases o' with⟨e1,_⟩|⟨bb,tb,ow⟩
        ·rw[e1]at Z;simp[Sl.nil]at Z
        rw[ow.1];refine⟨ag,ag,?_⟩
        rw[bz,cF];refine o.J9 ag ⟨bb,ow.1,aA⟩ rfl λh' t os _=>?_
        have set:(ints X.en).set (t0.n-1) (ah ((O:Int)+1))=ints (R++[O+1]):=by
          rw[en,Z,show d.length+1-1=R.length by omega,ints,ints,kq,kq,yx _ _ aA]
          simp
        obtain⟨S',t'⟩:=F.st.cells (i:=6) (X':={X with en:=R++[O+1]}) (oe _) Y q2 t (x':=(ints (R++[O+1]),Y6)) (by rw[<-set];exact os) rfl
        exact J _ _ _ S'.x λ_=>sy S' (by rw[pJ (b:=false) b'];rfl) (afj ok C (by rw[P,H];simp)) (by rw[ve,P]) (xA r (by rw[M,M,P]))
  ·have c1:=aS c1;grind
end
structure tW(f:aq)(p:Nat)(Q0 T0:aQ)(h0:Hp)(n:Bn)(X:Bx)(vl:aR)(b:Nat)(E:aQ)(kc:Nat->List aB)(Q T:aQ)(h:Hp)(g:dM):Prop where
 st:gw f (ud f) p Q0 T0 h0 Q T h g n X vl kc E
 b:E b/\∃sf,aN h b #[ah f.k,ah f.w,ah f.id,ah f.ix,Sl.v sf] kJ
section
variable {Q T Q0 T0 E:aQ} {p a b:Nat} {vl:aR} {x y:aB} {n:Bn} {g:dM} {X X':Bx} {K:cK}
theorem gp.SF{K:ByteArray->Bool->Int->Int->Int->Int->Sl->Prop}{m:List BF}(G:gp f m Q T h p g n X vl kc)(e:K f.name f.au f.k f.w f.id f.ix g.sf):bR h (aJ p) K:=
 gH (uQ G.k (vs:=f.row g.sf) λi v d=>by
  rw[cF,pO];unfold dM.row;grind) e
theorem tW.zero{k:Int}(D:tW f p Q0 T0 h0 n X vl b E kc Q T h g)(C:f.cs[i]? =some c)(I:k=i)(L:pR c)(t:c.can (kc i))
  (u:gI c (kc i)≠0->∀r q o,Ext Q0 r T0 q h0 o->K (gI c (kc i)) o)
  (B:gI c (kc i)=0->∀r q o z,tW f p Q0 T0 h0 n X vl b E (lp kc i (kc i++[c.cm])) r q o z->K 0 o):Ld h ⟨p,18,none⟩ Sl.v λd=>Ix d.a d.n 1 k λd=>Ld h d .pointer λd=>um d h K Kp:=by
 refine Ii D.st.S C I λA w J l m=>D.st.nQ C J l L t u λe r q o z N F M=>B e r q o z ⟨M,⟨D.b.1,?_⟩⟩;obtain⟨G,H⟩:=D.b.2;exact⟨G,pK F H D.b.1⟩
theorem tW.Pe(D:tW f p Q0 T0 h0 n X vl b E kc Q T h g)(G:f.cs[0]? =some c)(H:pR c)(I:dW c c.zk c.cm)(q:c.can (kc 0))(L:0<=f.w/\f.w<=64)
  (v:∀e,e=jU c (λ_=>c.zk) (kc 0) (List.replicate f.w.toNat c.cm)->∀l k d,Ext Q0 l T0 k h0 d->K (if e≠0 then e else 3) d):Wy K Kp (pB p) (aJ b) 0 h:=by
 refine aAn (λy d=>∃(j:Nat)(l k:aQ)(r:dM),y=j/\j<=f.w.toNat/\tW f p Q0 T0 h0 n X vl b E (lp kc 0 (kc 0++List.replicate j c.cm)) l k d r/\c.can (kc 0++List.replicate j c.cm)/\
   jU c (λ_=>c.zk) (kc 0) (List.replicate f.w.toNat c.cm)=jU c (λ_=>c.zk) (kc 0++List.replicate j c.cm) (List.replicate (f.w.toNat-j) c.cm)) (λy _=>f.w.toNat-y.toNat) ⟨0,Q,T,g,rfl,eu _,by simpa[PB]using D,dG,aA⟩ ?_
 rintro y O ⟨j,S,R,P,rfl,M,t,z,e1⟩ N hN;obtain⟨J,B⟩:=t.b.2;refine aj B rfl (cE (λo=>?_) λo=>?_)
 ·obtain⟨m,C⟩:∃m,f.w.toNat-j=m+1:=⟨f.w.toNat-j-1,ag⟩
  have u:f.w.toNat-(j+1)=m:=ag;rw[C,Ir]at e1;simp only[jU]at e1;refine bO ?_;refine t.zero G rfl H (by rw[lg];exact z) (λe l k d F=>bS bZ ?_) λe l k d r A=>bu rfl (aX ag ag (hN _ _ ⟨j+1,l,k,r,ag,ag,?_,?_,?_⟩ ag))
  ·rw[lg]at e ⊢;rw[aC e]at e1;have:=v _ e1.symm _ _ _ F;grind
  ·grind[lg,Pz,List.append_assoc,List.replicate_succ']
  ·rw[lg]at e;have:=(I _ z e).1;grind[List.replicate_succ',List.append_assoc]
  simp_all[lg,aK,EE]
 ·have:j=f.w.toNat:=ag;subst this;rw[yz]at e1;have:=v 0 e1.symm _ _ _ t.st.x;exact this
theorem tW.TX{e:Nat->Int}(D:tW f p Q0 T0 h0 n X vl b E kc Q T h g)(I:f.cs.length<=32)(H:∀c∈f.cs,pR c)(u:∀(i:Nat)c,f.cs[i]? =some c->c.can (kc i))
  (z:∀(i:Nat)c,f.cs[i]? =some c->e i=gI c (kc i))
  (w:∀m,m=jZ e f.cs.length->∀q l k,Ext Q0 q T0 l h0 k->K (if m≠0 then m else 3) k):Wx K Kp (pB p) 0 h:=by
 refine aAm (λy k=>∃(j:Nat)(q l:aQ)(v:dM),y=j/\j<=f.cs.length/\tW f p Q0 T0 h0 n X vl b E (qV kc (λi=>(dJ f.cs).getD i v0) j) q l k v/\jZ e j=0) (λy _=>f.cs.length-y.toNat) ⟨0,Q,T,g,rfl,eu _,by rw[SN];exact D,rfl⟩ ?_
 rintro y M ⟨j,P,O,C,rfl,L,r,e1⟩ N hN;have J:C.sp.n=f.cs.length:=by rw[r.st.S.pt.n,cr,r.st.S.lk.1,cr]
 refine bO ?_;refine r.st.S.jY (aG (λo=>?_) λo=>?_)
 ·have o:=aS o;have t:j<f.cs.length:=ag;have d:f.cs[j]? =some f.cs[j]:=aA;generalize f.cs[j]=c at d;have B:(dJ f.cs).getD j v0=c.cm:=mV d;refine r.zero d rfl (H c (bT d)) (by rw[tq];exact u j c d) (λne q l k F=>bS bZ ?_) λe0 q l k v A=>bu rfl (aX ag ag (hN _ _ ⟨j+1,q,l,v,ag,ag,?_,?_⟩ ag))
  ·rw[tq]at ne ⊢;rw[<-z j c d]at ne ⊢;have:=w _ rfl _ _ _ F;rw[Lp e1 ne t,aK ne]at this;omega
  ·grind[tq,SO]
  ·rw[tq,<-z j c d]at e0;simp[jZ,e1,e0]
 ·have o:=aS o;have:j=f.cs.length:=ag;subst this;have:=w 0 e1.symm _ _ _ r.st.x;exact this
theorem tW.first{k:Int}(D:tW f p Q0 T0 h0 n X vl b E kc Q T h g)(C:f.cs[0]? =some c)(B:k=0)(F:pR c)(q:c.can (kc 0))(A:∀z u t,Ext Q0 z T0 u h0 t->K (if gI c (kc 0)≠0 then gI c (kc 0)else 3) t):Ld h ⟨p,18,none⟩ Sl.v λd=>Ix d.a d.n 1 k λd=>Ld h d .pointer λd=>um d h (λa b=>If (a !=0) (K a b) (K 3 b)) Kp:=by
 refine D.zero C B F q (λe z u t l=>bS dG ?_) λe z u t o m=>bu rfl ?_
 ·have:=A _ _ _ l;grind
 ·have:=A _ _ _ m.st.x;grind
end
theorem amF(a:bB f)(b:∀c∈f.cs,om c)(d:∀c∈f.cs,pR c):om f:=by
 have one:f.k=15\/f.k=16\/f.k=19\/f.k=20->∃c,f.cs=[c]/\om c/\pR c:=λq=>by
  obtain⟨c,e,_⟩:=a.one q;simp[*]
 suffices L:wU f from@amG f L
 by_cases n:f.k=12\/f.k=13
 ·exact ass n a
 by_cases m:f.k<=14
 ·exact asx m ag a
 by_cases l:f.k=15
 ·obtain⟨c,e,t,_⟩:=one ag;exact asw e l a t
 by_cases j:f.k=16
 ·obtain⟨c,e,t,z⟩:=one ag;exact asu e j a t z
 by_cases i:f.k=17
 ·exact ast i a b d
 by_cases h:f.k=18
 ·exact asA h a b
 by_cases g:f.k=19
 ·obtain⟨c,e,t,_⟩:=one ag;exact asz e g a t
 ·have:=a.right.1.2.1;obtain⟨c,e,t,_⟩:=one ag;exact asv e ag a t
theorem akD(l:bB f)(d':f.fN)(TF:om f)(ZK:∀c∈f.cs,pR c):pR f:=by
 intro Q T h p vs K Kp u B hk;have sh:=l.right.1;have KF:=oe f.cs;have BF:=B;have L:=xZ f;rw[yh]at B;obtain⟨g,X,G,ok⟩:=B;have H:Cs h ⟨p,2,none⟩ [ah f.k,ah f.w,ah f.id,ah f.ix,Sl.v g.sf]:=uQ G.k λi v M=>by
  rcases i with _|_|_|_|_|i
  ·exact M
  ·exact M
  ·exact M
  ·exact M
  ·exact M
  ·simp at M
 apply aFh;refine bO ?_;refine nF H (aF λb h1 e1 g1 k1 z1=>pM k1 rfl λh2 o2 k2=>?_);have g2:=bI g1 o2 ag;have G2:=G.fr KF (bg g2) (λ_ _=>id) λ_ _=>id;refine G2.SF (Y2 f l (bM.h _ G2.fs) λh3 g3=>?_);have G3:=G2.fr KF (bg g3) (λ_ _=>id) λ_ _=>id;have k3:=k2.ai g3;have J:=ak g2 g3;refine aG (λc1=>?_) λc1=>?_
 ·have c1:=aS c1;have hw:f.wz<=4194304:=ag;have s:=(Dp f).2 hw;obtain⟨n1,n2,n3,_⟩:=sS l s;refine G3.SF (aoS l d' hw (bM.h _ G3.fs) λt R g4 vt=>aF λe h5 e5 g5 k5 z5=>mC k5 rfl λI o6 k6=>fk k6 ?_);have g6:=bI g5 o6 ag;have b':=ak g4 g6;have c':=ak J b';have g':=J.1;have f':=b'.1;have a':=aO.lt _ (dU vt g6);have B6:f.gU (λc=>Q c\/(h.size<=c/\c<I.size)) T I p vs:=by
   refine L.q (L.fr BF (bg c') (λ_ _=>id) λ_ _=>id) (λc z=>.inl z) λc z=>?_;rcases z with z|z
   ·have:=L.d BF c z;exact⟨this.1,ag⟩
   ·exact⟨λy=>by have:=G.t.lt c y;omega,z.2⟩
  have x0:Ext Q _ T T h I:=⟨bg c',λc z=>.inl z,λc z=>z,λc z=>z,λc z=>.inl z⟩;rw[<-n1]at a' ⊢;have A:gI f vs=gA f vs f.cm:=by
   unfold gI gA;rw[vA (.inl s)]
  refine TF u n2 ag B6 (sD a' λc z=>.inr ⟨ag,z.2⟩) λQ' T' U ex hb=>?_
  rw[<-A]at hb ⊢;exact hk _ _ _ (x0.trans ex) hb
 ·have c1:=aS c1;have s:f.small=false:=by
   have:¬f.small=true:=λe=>by have:=(Dp f).1 e;omega
   simpa using this
  have i':=an8 l s;have C:=(mj f l).2.2;have ne:gI f vs≠0:=λq=>by have:=C vs u q;grind
  have P:=(gw.of (E:=λ_=>False) G λ_ z=>z.elim).ai KF J;have N:∀{e:Int},gI f vs=vD vs e->vs.length<4096->∀Q' T' U,Ext Q Q' T T' h U->K (if e≠0 then e else 3) U:=λ{e}A lt Q' T' U ex=>by
   have:=hk Q' T' U ex λq=>absurd q ne;grind[vD]
  apply aBU;refine bO ?_;refine aj (x:=(vs.length:Int)) P.S.k rfl (aG (λZ=>?_) λZ=>?_)
  ·have Z:=aS Z;have z3:gI f vs=3:=by
    have F:∀{e:Int},gI f vs=vD vs e->gI f vs=3:=λq=>by rw[q];unfold vD;omega
    by_cases R:f.k=16
    ·obtain⟨c,e,o⟩:=l.one ag;simp_all[Ze,mj]
    by_cases h5:f.k=17
    ·exact F (Zd h5 s C (λc o=>(mj c (l.aM o)).2.1) u)
    by_cases I:f.k=18
    ·have n1:=(sh.2.2.2.2.2.2.2.2.2.1 I).1;have a:f.cs[0]? =some f.cs[0]:=aA;exact F (Zf I a s C (mj _ (l.aM (bT a))).2.1 u)
    ·obtain⟨c,e,o⟩:=l.one ag;exact F (Pc ag e s C u)
   have:=hk _ _ _ P.x λq=>absurd q ne;grind
  have Z:=aS Z;have lt:vs.length<4096:=ag;refine aj (x:=(vs.length:Int)) P.S.k rfl (aX ag ag (P.num (m:=vs.length+1) KF ag (.inl ⟨rfl,rfl⟩) λR t4 S4=>?_));have Eb:(λc=>False\/(h.size<=c/\c<h3.size)) b:=.inr ⟨ag,k3.lt⟩
  have k4:=pK t4 k3 Eb;have D:tW f p Q T h _ X _ b _ (λj=>cont f j vs) Q T R g:=⟨S4,Eb,_,k4⟩;have r:∀(i:Nat)c,f.cs[i]? =some c->c.can (cont f i vs):=λi c o=>fC o u;refine aj k4 rfl (aG (λe1=>?_) λe1=>aG (λW=>?_) λW=>aG (λO=>?_) λO=>aG (λV=>?_) λV=>?_)
  all_goals have e1:=aS e1
  all_goals try have W:=aS W
  all_goals try have O:=aS O
  all_goals try have V:=aS V
  ·obtain⟨c,e,o⟩:=l.one ag;have a:f.cs[0]? =some c:=by rw[e];rfl
   have w:=sh.2.2.2.1 e1;exact D.Pe a (ZK c (bT a)) (mj c o).2.1 (r 0 c a) ag λm hm=>by
    rw[hm];exact N (Ze e e1 s C (mj c o).2.1 u) lt
  ·exact D.TX (e:=λi=>gI (f.cs.getD i f0) (cont f i vs)) (sh.2.2.2.2.2.2.2.2.1 W) ZK r (λi c o=>bZ) λm hm=>by
    rw[hm];exact N (Zd W s C (λc o=>(mj c (l.aM o)).2.1) u) lt
  ·obtain⟨c,e,o⟩:=l.one ag;have a:f.cs[0]? =some c:=by rw[e];rfl
   have A:=Pc (f:=f) (vs:=vs) (.inl O) e s C u;have vn:=S4.S.aH.AZ.n;have ve:(aL f.k vs).aH=dS vs:=by simp[aL,O]
   rw[ve]at vn;refine S4.S.mR (aj k4 rfl (abL (bQ S4.S.k (cQ _) (cE (λY=>?_) λY=>?_))))
   ·rw[aK ⟨O,ag⟩]at A
    exact N A lt _ _ _ S4.x
   ·rw[aC λq=>by omega]at A
    exact D.first a rfl (ZK c (bT a)) (r 0 c a) (N A lt)
  ·have n1:=(sh.2.2.2.2.2.2.2.2.2.1 V).1;have a:f.cs[0]? =some f.cs[0]:=aA;generalize f.cs[0]=c at a;refine aim (bS cy ?_);refine bO ?_;exact D.first a rfl (ZK c (bT a)) (r 0 c a) (N (Zf V a s C (mj _ (l.aM (bT a))).2.1 u) lt)
  ·obtain⟨c,e,o⟩:=l.one ag;have a:f.cs[0]? =some c:=by rw[e];rfl
   have A:=Pc (f:=f) (vs:=vs) (.inr ag) e s C u;rw[aC λq=>by omega]at A
   refine aim (bS cy ?_);refine bO ?_;exact D.first a rfl (ZK c (bT a)) (r 0 c a) (N A lt)
theorem afq:∀f:aq,bB f->f.fN->om f/\pR f
  | .mk e au k w id ix cs,d,b=>by
    have h:∀c∈cs,c.fN:=by unfold aq.fN at b;exact hY.get b.2.2
    have g:∀c∈cs,om c/\pR c:=λc a=>afq c (d.aM a) (h c a);have t:=@amF _ d (λc a=>(g c a).1) λc a=>(g c a).2;exact⟨t,@akD _ d b t λc a=>(g c a).2⟩
section
variable {Q T:aQ} {p:Nat} {x:aB} {K:cK}
theorem ay8(e:bB f)(r:f.fN)(C:f.can vs)(B:f.gU Q T h p vs)(v:aO Q h s x.items)(y:x.lU)(i:¬(x.bx<=4194304/\f.fit x=true)->∀d,az h d->K 7 d)
  (A:x.bx<=4194304/\f.fit x=true->∀m l d,Ext Q m T l h d->(gA f vs x=0->f.gU m l d p (vs++[x]))->K (gA f vs x) d):X8 (pB p) x.au x.num (bs x.text) s h K Kp:=by
 have KF:=oe f.cs;have t:=xZ f;have E:=B;rw[yh]at B;obtain⟨g,X,G,ok⟩:=B;refine aFQ (aF λa H e1 k u _=>?_);simp only[nH];have w:=G.fr KF (bg k) (λ_ _=>id) λ_ _=>id;refine w.SF (fk u (apv e w.fs (dU v k) y λb F o j=>aG (λc=>?_) λc=>?_))
 ·refine i (λq=>?_) _ (ak k o);grind
 ·have q:=j.1 (by simpa using c)
  have n:=ak k o;refine fk (u.ai o) ((afq f e r).1 C q.2 q.1 (t.fr E (bg n) (λ_ _=>id) λ_ _=>id) (dU v n) λm l d D j=>A q m l d ?_ j);exact Ext.trans ⟨bg n,λ_ z=>z,λ_ z=>.inl z,λ_ z=>z,λ_ z=>.inl z⟩ D
end
section
variable {KM:List BF} {M:BF} {Q T A:aQ} {p w:Nat} {g:dM} {n:Bn} {X:Bx} {vl:aR} {K:HP}
theorem iX.more{b:Nat}{Ls:List (Nat->Prop)}(t:iX T h b Ls)(a:∀c,A c->¬T c/\c<h.size):iX (λc=>T c\/A c) h b (Ls++[A]):=by
 refine⟨.inl t.tb,λc z=>z.elim (t.lt c) λz=>(a c z).2,λB hB c z=>?_,?_⟩
 ·rcases nh.1 hB with q|q
  ·have:=t.sub B q c z;simp[*]
  ·simp at q;subst q;exact⟨.inr z,λe=>(a c z).1 (e▸t.tb)⟩
 ·rw[Mt];refine⟨t.ap,aA,λB hB C d c z y=>?_⟩
  simp at d;subst d;exact(a c y).1 (t.sub B hB c z).1
theorem gp.ay6(KF:∀M∈KM,ov M)(R:ov M)(G:gp f KM Q T h p g n X vl kc)(m:M Q A h w (kc KM.length))(P:∀c,A c->¬T c/\c<h.size)(hl:KM.length<=5000)
  (hk:∀T' h' g',Tn T h h'->(∀c,T' c->T c\/A c\/(h.size<=c/\c<h'.size))->gp f (KM++[M]) Q T' h' p g' n X vl kc->K h'):aI h #[oJ w] EX λc e=>aT h e ⟨p,18,none⟩ 1<|Ap e EX #[.pointer none] 1 8 g.sp 1 (rd e (some c) (1*1)) λt d=>St d ⟨p,18,none⟩ (Sl.v t) K:=by
 refine aF λc u e1 F k1 _=>bQ G.k F ?_;have r:=G.fr KF (bg F) (λ_ _=>id) λ_ _=>id;have m1:=R.fr m (bg F) (λ_ _=>id) λ_ _=>id;have on:=r.pt.n;rw[cr,G.lk.1]at on;refine r.pt.Cp rfl (λx Y=>by simp at Y;subst Y;rfl) rfl (iJ k1 rfl) ag ag λt s I O=>?_
 have J:=I.1;have O:=O.tr;have C:g.Ls[1]? =some g.PT:=rfl;have a:∀c,g.PT c->T c/\c≠p:=λc z=>G.t.sub _ (bT C) c z;have a':=r.t.lt p r.t.tb;have k2:=I.aZ r.k λz=>(a p z).2 rfl;have U:∀(g:dM),(g.row f n).length=10+(g.SS.length+2):=λg=>by unfold dM.row;simp[Gc];omega
 refine dI k2 (by rw[ED,U,G.ls.1];omega) rfl λE L W=>?_
 have s3:=L.1;have e:(g.row f n).toArray.setIfInBounds 18 (Sl.v t)=(({g with sp:=t,kp:=g.kp++[w],PT:=Tr g.PT u s,KT:=g.KT++[A]}:dM).row f n).toArray:=by
  rw[oP];unfold dM.row;rw[yx _ _ (by show 10<=18;omega),yx _ _ (by show _<=18-10;rw[cr,G.ls.1];omega),cr,G.ls.1];rfl
 rw[e]at W;have D:Tn (λc=>g.PT c\/c=p) u E:=(I.mono λc z _=>.inl z).trans (L.fr.mono λc z _=>.inr z);have kA:∀c,(g.PT c\/c=p)->T c:=λc z=>z.elim (λz=>(a c z).1) λz=>z▸G.t.tb;have hQ:∀c,Q c->¬(g.PT c\/c=p):=λc z y=>(G.q c z).1 (kA c y);have l:∀{B:aQ}(j:Nat),g.Ls[j]? =some B->j≠1->∀c,B c->¬(g.PT c\/c=p):=λ{B}j H ne c z y=>by
  rcases y with y|y
  ·exact G.t.ne H C ne c z y
  ·exact(G.t.sub _ (bT H) c z).2 y
 have V:∀c,A c->¬(g.PT c\/c=p):=λc z y=>(P c z).1 (kA c y);have tr:iX (λc=>(T c\/Tr g.PT u s c)\/A c) E p ({g with sp:=t,kp:=g.kp++[w],PT:=Tr g.PT u s,KT:=g.KT++[A]}:dM).Ls:=by
  have t1:=(r.t.put C J λc z=>z).grow (h':=E) ag;have:=t1.more λc z=>⟨λy=>?_,by have:=(P c z).2;omega⟩
  ·have e2:g.Ls.set 1 (Tr g.PT u s)++[A]=({g with sp:=t,kp:=g.kp++[w],PT:=Tr g.PT u s,KT:=g.KT++[A]}:dM).Ls:=by
    unfold dM.Ls;simp
   rwa [e2]at this
  ·have Z:=P c z;rcases y with y|y|y
   ·exact Z.1 y
   ·exact Z.1 (a c y).1
   ·omega
 refine hk _ E _ ((bg F).trans (D.mono λc z _=>kA c z)) (λc z=>?_) ⟨tr,λc z=>⟨λy=>?_,?_⟩,W,bM.fr D hQ (λ_ z=>z) _ r.fs,G.ls,λj J B x i b o=>(r.sl j J B x i b o).fr D λc z _=>l _ (g.iw b) ag c z,r.aH.fr D (l 0 rfl ag) hQ,?_,?_,λj N B v i b o=>?_⟩
 ·rcases z with(z|z|z)|z
  ·exact .inl z
  ·exact .inl (a c z).1
  ·exact .inr (.inr ⟨ag,ag⟩)
  ·exact .inr (.inl z)
 ·have q:=G.q c z;rcases y with(y|y|y)|y
  ·exact q.1 y
  ·exact q.1 (a c y).1
  ·omega
  ·exact R.d m c z |>.1 y
 ·have:=(G.q c z).2;omega
 ·have:(g.kp++[w]).map oJ=g.kp.map oJ++[oJ w]:=aA
  show Os (Tr g.PT u s) E t ((g.kp++[w]).map oJ) EX
  rw[this];exact O.fr L.fr λc z b' e=>by
   subst e;rcases z with z|z
   ·exact(a _ z).2 rfl
   ·omega
 ·simp[G.lk]
 ·by_cases c:j<KM.length
  ·rw[gN c]at i;rw[gN (by rw[G.lk.2];exact c)]at b
   rw[gN (by rw[G.lk.1];exact c)]at o
   exact(KF N (bT i)).fr (r.aM j N B v i b o) D (l _ (g.fF b) ag) hQ
  ·have H:j=KM.length:=by
    have:=(de.1 i).1;rw[iA,jC]at this;omega
   subst H;rw[fU (bX _),yz]at i;rw[fU (by rw[G.lk.2];omega),G.lk.2,yz]at b
   rw[fU (by rw[G.lk.1];omega),G.lk.1,yz]at o
   cases i;cases b;cases o;exact R.fr m1 D V hQ
end
def IU(f:aq):Prop:=∀{Q:aQ}{h:Hp}{s:Sl}{K:Option Addr->HP}{Kp:PK},bM Q h s f.cs->(∀c,Q c->c<h.size)->(∀T' p h',az h h'->(∀c,T' c->h.size<=c)->f.gU Q T' h' p []->K (pB p) h')->OX f.name f.au f.k f.w f.id f.ix s h K Kp
def UH:Bx:=⟨[],[],[],[],[],[],[]⟩
def Ib(sf:Sl):dM:=⟨sf,List.replicate 7 Sl.nil,Sl.nil,Sl.nil,[],List.replicate 7 No,No,No,[]⟩
theorem gp.new{b:Nat}(k:aN h b ((Ib t).row f ⟨0,0,0⟩).toArray EW)(o:bM D h t f.cs)(n:∀c,D c->c<b):gp f [] D (λc=>c=b) h b (Ib t) ⟨0,0,0⟩ UH [] λ_=>[]:=by
 have lt:=k.lt;have m:∀L∈(Ib t).Ls,L=No:=λL l=>by
  grind[dM.Ls,Ib]
 refine⟨⟨rfl,λc e=>ag,λL l c z=>bZ,?_⟩,λc z=>⟨λe=>bZ,bZ⟩,k,o,⟨rfl,rfl⟩,λi s A x d r p=>?_,⟨[],rfl,tL _ _ _ _,λc z=>(by obtain⟨a,e,_⟩:=z;cases e),λj z u d=>by simp at d⟩,Os.nil,⟨rfl,rfl⟩,λj M A w d=>by simp at d⟩
 ·grind[List.pairwise_iff_getElem,q,m,List.getElem_mem]
 ·have g:=(de.1 d).1;have g:i<7:=by simpa[Ib]using g
  have e:s=Sl.nil:=by
   have:=bT d;exact List.eq_of_mem_replicate this
  subst e;have:i=0\/i=1\/i=2\/i=3\/i=4\/i=5\/i=6:=ag;rcases this with rfl|rfl|rfl|rfl|rfl|rfl|rfl <;> (cases p;exact Os.nil)
theorem arl(a':bB f)(IH:∀c∈f.cs,IU c):IU f:=by
 intro Q h s K Kp Y hq hk;have W:=a'.right.1;have j':f.cs.length<=32:=by
  by_cases F:f.k=15\/f.k=16\/f.k=19\/f.k=20
  ·have:=W.2.2.2.2.2.2.2.1 F;omega
  by_cases B:f.k=17
  ·exact W.2.2.2.2.2.2.2.2.1 B
  by_cases h3:f.k=18
  ·exact(W.2.2.2.2.2.2.2.2.2.1 h3).2
  ·have:=W.2.2.2.2.2.2.2.2.2.2 ag;omega
 refine aFR (aF λa F e1 g1 k1 _=>?_);simp only[bz,cF];refine dO k1 (aF λb B e2 X k2 _=>?_);have G0:=gp.new k2 (Y.gr (ak g1 X)) λc z=>by have:=hq c z;omega
 refine nF (uQ (k1.ai X) λi v H=>by
  rcases i with _|_|_|_|_|i
  ·exact H
  ·exact H
  ·exact H
  ·exact H
  ·exact H
  ·simp at H) (aF λc h3 e3 g3 k3 _=>pM k3 rfl λh4 o4 k4=>?_)
 have g4:=bI g3 o4 ag;have G4:=G0.fr (λM hM=>by simp at hM) (bg g4) (λ_ _=>id) λ_ _=>id
 have U:∀j,∀M∈(f.cs.take j).map aq.gU,ov M:=by grind[xZ]
 refine aAM (λy g=>∃(j:Nat)(G:aQ)(L:dM),y=j/\j<=f.cs.length/\az h g/\h4.size<=g.size/\(∀d,G d->h.size<=d/\d≠c)/\aN g c #[ah f.k,ah f.w,ah f.id,ah f.ix,Sl.v s] kJ/\gp f ((f.cs.take j).map aq.gU) Q G g b L ⟨0,0,0⟩ UH [] λ_=>[])
  (λy _=>f.cs.length-y.toNat) ⟨0,_,_,rfl,eu _,ak (ak g1 X) g4,bX _,λd e=>by simp_all,k4,G4⟩ ?_
 rintro y h5 ⟨j,T5,I,rfl,hj,D,s5,hT,r,m⟩ N hN;have k':=Y.n;refine aj r rfl (cE (λO=>?_) λO=>?_)
 ·have R:j<f.cs.length:=ag;have Z:=bJ R;have P:=kS R;generalize f.cs[j]=d at Z P;have e':((f.cs.take j).map aq.gU).length=j:=by simp;omega
  refine m.jY (aj r rfl ((Y.gr D).ix rfl Z λq u cu hu=>gH cu (IH d (bT Z) hu (λc z=>by have:=hq c z;have:=D.1;omega) λT6 w h6 C T m6=>bQ m.k C ?_)))
  have s6:=C.1;have G6:=m.fr (U j) (bg C) (λ_ _=>id) λ_ _=>id;have r6:∀x,T6 x->x<h6.size:=λx z=>by
   have:=m6;rw[yh]at this;obtain⟨_,_,GG,_⟩:=this;exact GG.t.lt x z
  refine G6.ay6 (U j) (xZ d) m6 (λx z=>⟨λy=>by have:=m.t.lt x y;have:=T x z;omega,r6 x z⟩) ag λT7 h7 g7 V b' G7=>aX ag ag (hN _ _ ⟨j+1,T7,g7,by omega,by omega,?_,?_,?_,?_,?_⟩ ag)
  ·refine(Tn.TO ((bg (ak D C)).trans' V λx z _=>z) λx z y=>by have:=(hT x z).1;omega)
  ·have:=V.1;omega
  ·intro x z;rcases b' x z with z|z|z
   ·exact hT x z
   ·have:=T x z;have:=r.lt;have:=D.1;exact⟨by omega,by omega⟩
   ·have:=r.lt;have:=D.1;exact⟨by omega,by omega⟩
  ·exact V.aZ (r.ai C) λz=>(hT c z).2 rfl
  ·rw[P,kq];exact G7
 ·have:j=f.cs.length:=ag;subst this;rw[m5]at m;have fin:∀{G g L}{X':Bx},az h g->(∀d,G d->h.size<=d)->gp f (f.cs.map aq.gU) Q G g b L ⟨0,0,0⟩ X' [] (λ_=>[])->(X'.vl=[]/\X'.cd=[]/\X'.fx=[]/\X'.os=(if f.k=12\/f.k=13\/f.k=15 then[0]else[])/\X'.tx=[]/\X'.ix=[]/\X'.en=[])->K (pB b) g:=by
   intro G g L X' gr d' G' hX;apply hk G b g gr d';rw[yh];obtain⟨x1,x2,x3,x4,x5,x6,x7⟩:=hX;have ce:(λj=>cont f j [])=λ_=>[]:=by funext j;exact Ul _ _ _ _
   refine⟨L,X',?_,?_⟩
   ·have ve:(aL f.k []).aH=[]:=by rw[Qo];rfl
    rw[ve,ce];exact G'
   ·have ne:=Qo f.k;refine⟨?_,λ_=>x1,λq=>?_,λq=>?_,λq=>?_,λq=>?_,λq=>?_,λq=>by rw[x3];rfl⟩
    ·rw[x1,x2,x3,x4,x5,x6,x7];refine⟨?_,?_,?_,?_,?_,?_,?_⟩ <;> (try split) <;> simp
    ·rw[x4,ne]
    ·rw[x5,ne];rfl
    ·rw[x2,ne];rfl
    ·rw[x6,ne];show _=if _ then _ else _;rw[ay]
    ·rw[x7,ne];show _=if _ then _ else _;rw[ay]
  have KF:=oe f.cs;have gT:=λd z=>(hT d z).1;have two:∀bb:Bool,bb=decide (f.k=12\/f.k=13\/f.k=15)->NK K Kp (aJ b) bb h5:=by
   intro bb p;refine aCD (aG (λl=>?_) λl=>?_)
   ·have e:f.k=12\/f.k=13\/f.k=15:=by rw[l]at p;simpa using p.symm
    have ls:=m.ls;have F:I.SS[3]? =some (I.SS[3]' ag):=bJ _;have B:I.ST[3]? =some (I.ST[3]' ag):=bJ _;generalize I.SS[3]' ag=t0 at F;generalize I.ST[3]' ag=A at B;have o:=m.sl 3 t0 A (ints [],Y6) F B rfl;simp only[bz,cF];refine m.dH F (aF λc' h6 e6 C k6 _=>?_);have S6:=(gw.of (E:=λ_=>False) m λ_ z=>z.elim).ai KF C;have on:=o.n;refine(o.gr C).Cp rfl (λx hx=>by simp at hx;subst hx;rfl) rfl (iJ k6 rfl) (by rw[on];simp[ints]) (by rw[on];simp[ints]) λs' h7 t os=>S6.slot KF F B t (X':={UH with os:=[0]}) os.tr rfl λh8 t8 S8=>fin ?_ ?_ S8.S ⟨rfl,rfl,rfl,by rw[aK e],rfl,rfl,rfl⟩
    ·exact Tn.TO ((bg D).trans' S8.x.tn λx z _=>z) λx z y=>by have:=gT x z;omega
    ·intro d z;have:=S8.x.t' d z;have i':=D.1;rcases this with z|z
     ·exact gT d z
     ·omega
   ·have e:¬(f.k=12\/f.k=13\/f.k=15):=by rw[l]at p;simpa using p.symm
    exact fin D gT m ⟨rfl,rfl,rfl,by rw[aC e];rfl,rfl,rfl,rfl⟩
  refine aCE (aj r rfl (aG (λJ=>?_) λJ=>aj r rfl ?_))
  ·have J:=aS J;grind[aiK,bS]
  ·have J:=aS J;refine aiK (aG (λl=>?_) λl=>aj r rfl (two _ ?_))
   ·have l:=aS l;exact two true (by simp[l])
   ·have l:=aS l;rw[ki];simp;omega
theorem abR:∀f:aq,bB f->IU f/\True
  | .mk b au k w id ix cs,a=>by
    have e:∀c∈cs,IU c:=λc d=>(abR c (a.aM d)).1;exact⟨@arl _ a e,trivial⟩
theorem arn(f:aq)(a:bB f):IU f:=(abR f a).1
def nz(b:UInt8):Nat:=if b=0 then 0 else 1
theorem ayx{a b:dy}(hl:a.length=b.length)(h:∀i,gK a i=gK b i):a=b:=by
 apply Vr hl;intro i d c;apply U2.1;apply Nat.eq_of_testBit_eq;intro j
 by_cases e:j<8
 ·have:=h (8*i+j);rw[Mm,Mm,show _/8=i by omega,show _%8=j by omega]at this
  grind
 ·have p:2^8<=2^j:=EK ag ag;have:=a[i].toNat_lt;have:=b[i].toNat_lt;rw[Nat.testBit_lt_two_pow ag,Nat.testBit_lt_two_pow ag]
theorem aqq{α:Type}(l:List α)(q:α->Bool):qQ (l.map q)=ri (l.map λx=>if q x then 1 else 0):=by
 grind[ayx,QI,afu,List.length_map,abj,afv]
section
variable {K:Sl->HP}
theorem afx{l:dy}(v:Sv h s (bv l))(hl:l.length<=300000)(hk:∀t h',az h h'->eD (Nw h) h' t (bv (ri (l.map nz)))->K t h'):OS s h K Kp:=by
 have hn:=v.1;rw[fP]at hn;have e1:Int.tdiv ((s.n:Int)+7) 8=(((l.length+7)/8:Nat):Int):=by rw[hn];rfl
 refine aFH (aX ag ag (pg bw ?_));rw[e1];refine aX ag ag (Fb ag ag ag λt h1 g1 ot _=>aAH (λx h'=>∃i:Nat,x=i/\i<=l.length/\az h h'/\gZ h' t h.size (bv (mB (l.map nz) i)) Y8) (λx _=>l.length-x.toNat) ⟨0,rfl,eu _,g1,?_⟩ ?_)
 ·rw[gf]at ot;unfold mB;rw[IB];simp only[List.zipIdx_nil,List.foldl_nil,cr,bv,U8];exact ot
 rintro x h2 ⟨i,rfl,hi,g2,o2⟩ N hN;have bl:=Mk (l.map nz) i (by rw[cr];exact hi)
 rw[cr]at bl;have tn:t.n=(l.length+7)/8:=by rw[o2.2.1,fP,bl]
 refine cE (λcc=>?_) λcc=>?_
 ·have dQ:i<l.length:=ag;have hx:=bJ dQ;generalize l[i]=y at hx;have hx2:(l.map nz)[i]? =some (nz y):=by rw[eY,hx];rfl
  have hd:i/8<(mB (l.map nz) i).length:=ag;refine(v.ai g2).ix ag ag (by rw[gf,bv,eY,hx];rfl) λa ca=>⟨_,ca,aG (λc2=>?_) λc2=>?_⟩
  ·have c2:=aS c2;have hy:¬y=0:=λe=>c2 (by rw[e];rfl)
   have e1:Int.tdiv (i:Int) 8=((i/8:Nat):Int):=rfl;have e2:Int.tmod (i:Int) 8=((i%8:Nat):Int):=rfl;have ei:(((i/8:Nat):Int)).toNat=i/8:=ag;apply pg bw;rw[e1];refine aX ag ag (o2.vX ag ag (o2.ld ag (by rw[ei];exact afl hd) (pg bw ?_)))
   rw[e2];refine yO (jw ag ?_);have em:min (Int.toNat ((i%8:Nat):Int)) (IntKind.bits .u8)=i%8:=by
    rw[gf];have:=yE i (show 8>0 by decide);show min _ 8=_;omega
   have es:(1:Int)*2^(i%8)=((2^(i%8):Nat):Int):=by push_cast;omega
   have hp:2^(i%8)<2^8:=Mx bw (yE _ bw);have Hu:=((mB (l.map nz) i).getD (i/8) 0).toNat_lt;rw[em,es];refine pY rfl hp (yO ?_);rw[UL _ _ Hu hp];refine o2.vX ag ag (o2.st ag rfl λh3 w3 o3=>aX ag ag (hN _ _ ⟨i+1,aA,ag,bI g2 w3 (bX _),?_⟩ ag))
   rw[Mj hx2,aK (by unfold nz;rw[aC hy])]
   rw[ei]at o3;have e:(((mB (l.map nz) i).getD (i/8) 0).toNat|||2^(i%8))=(UInt8.ofNat (((mB (l.map nz) i).getD (i/8) 0).toNat|||2^(i%8))).toNat:=by
    rw[tN,uY (Iv Hu hp)]
   rw[e,UI]at o3;exact o3
  ·have c2:=aS c2;refine aX ag ag (hN _ _ ⟨i+1,aA,ag,g2,?_⟩ ag)
   have hy:y=0:=U2.1 (by show y.toNat=0;omega)
   rw[Mj hx2,aC (by unfold nz;rw[aK hy];decide)]
   exact o2
 ·have:i=(l.map nz).length:=by rw[cr];omega
  subst this;rw[afr]at o2;exact hk t h2 g2 ⟨o2.sv,λ_ a ha=>by rw[o2.1]at ha;cases ha;exact bX _⟩
theorem Os.lq{A:aQ}{vs:bq}(o:Os A h s vs el):eD A h s vs:=⟨o.sv,λd a c=>by
 rcases o with⟨rfl,_⟩|⟨b,t,o⟩
 ·cases c
 ·rw[o.1]at c;cases c;exact t⟩
theorem Os.new{b:Nat}{A:aQ}(k:aN h b #[] el)(c:A b):Os A h ⟨some (aJ b),0,0⟩ [] el:=.inr ⟨b,c,rfl,rfl,_,k,bX _,rfl,λi a=>absurd a (Nat.not_lt_zero _)⟩
theorem asj{n w:Nat}(b:w<=8):jj ((n:Int)%2^64).toNat w=jj n w:=by
 unfold jj;refine Cy λi a=>?_;have a:=wF.1 a;rw[aff ag];grind[xY,UInt8.toNat_inj,UInt8.toNat_ofNat']
theorem GK{l:cU}{w:Int}(v:Sv h s (ints l))(hl:l.length<=70000)(C:0<=w/\w<=8)(E:∀t d,az h d->eD (Nw h) d t (bv (laidB l w.toNat))->K t d):sJ s w h K Kp:=by
 have D:=v.1;rw[ints,cr]at D;refine aFG (aF λb M e1 F B _=>aAG (λt x d=>∃i:Nat,x=i/\i<=l.length/\az h d/\Os (Nw h) d t (bv (laidB (l.take i) w.toNat)) Y8) (λ_ x _=>l.length-x.toNat) ⟨0,rfl,eu _,F,Os.new B ag⟩ ?_)
 rintro t x n ⟨i,rfl,J,k,m⟩ N hN;refine cE (λf=>?_) λf=>?_
 ·have p:l[i]? =some l[i]:=aA;have g:l.take (i+1)=l.take i++[l[i]]:=aA;generalize l[i]=y at p g;refine(v.ai k).ix ag ag (by rw[gf,ints,eY,p];rfl) λa G=>⟨_,G,?_⟩
  have q:(laidB (l.take i) w.toNat).length<=70000*8:=by rw[GJ,m8];exact tO ag ag
  refine abM (A:=λc=>h.size<=c/\c<n.size) (m.imp id λ⟨b,t,o⟩=>⟨b,⟨t,o.lt⟩,o⟩) (λc z=>z.2) ag C λI L r u=>aX ag ag (hN _ _ _ ⟨i+1,aA,ag,((bg k:Tn No h n).trans' r λc z H=>ag).ai,?_⟩ ag)
  rw[g];have e:laidB (l.take i++[y]) w.toNat=laidB (l.take i) w.toNat++jj ((y:Int)%2^64).toNat w.toNat:=by
   rw[asj ag];simp[laidB]
  rw[e];refine u.mono λc z=>?_;have:=k.1;omega
 ·have:i=l.length:=ag;subst this;rw[m5]at m;exact E t n k m.lq
theorem Uk{l:dy}{b:Nat}(g:az h0 h)(r:h0.size<=b)(k:aN h b #[] Y8)(v:Sv h s (bv l))(p:s.a≠none\/l=[])(hl:l.length<=300000)(m:∀t d,az h0 d->Tn (λc=>c=b) h d->eD (λc=>c=b\/h.size<=c) d t (bv l)->K t d):Ap h Y8 #[.int .u8 0] 1 1 ⟨some (aJ b),0,0⟩ s.n (rd h s.a (s.n*1)) K:=by
 have j:=v.1;rw[fP]at j;refine(Os.new (A:=λc=>c=b) k rfl).Cp rfl (λx i=>?_) (by rw[fP,j]) (v.Bj (p.imp id λe=>by rw[e];rfl)) bZ bZ λt d f o=>?_
 ·simp only[bv,kZ]at i;obtain⟨y,_,rfl⟩:=i;rfl
 ·exact m t d ((bg g:Tn No h0 h).trans' f λc z q=>ag).ai f (o.lq.mo λc z=>z)
end
abbrev KD:=Int->Int->Int->Sl->Sl->Sl->HP
abbrev E9(h0:Hp)(a2 a3:Nat):Nat->Prop:=λc=>h0.size<=c/\c≠a2/\c≠a3
structure D9(h0 h:Hp)(a2 a3:Nat)(n u:Nat)(B:Sl)(ds:kF):Prop where
 g:az h0 h
 k2:aN h a2 cX ck
 k3:aN h a3 #[ah (n:Int),ah 0,ah (u:Int),Sl.v Sl.nil,Sl.v Sl.nil,Sl.v Sl.nil] ck
 l:h0.size<=a2/\h0.size<=a3/\a2≠a3
 ds:dD (E9 h0 a2 a3) (E9 h0 a2 a3) h B ds
section
variable {a2 a3 n u m:Nat} {B:Sl} {ds:kF} {aY:iz} {a:Addr} {K:KD}
theorem D9.gr(s:D9 h0 h a2 a3 n u B ds)(g:az h h'):D9 h0 h' a2 a3 n u B ds:=⟨ak s.g g,s.k2.ai g,s.k3.ai g,s.l,s.ds.gr g⟩
theorem D9.e(s:D9 h0 h a2 a3 n u B ds){c:Nat}(z:h.size<=c):E9 h0 a2 a3 c:=by
 have:=s.g.1;have:=s.k2.lt;have:=s.k3.lt;omega
theorem D9.end{cs:kF}{k:kF}{b c x:Sl}(s:D9 h0 h a2 a3 n u B ds)(o:eJ a3 h h')(r:aN h' a3 #[ah (n:Int),ah 0,ah (u:Int),Sl.v b,Sl.v c,Sl.v x] ck)(H:fH (E9 h0 a2 a3) (E9 h0 a2 a3) h b aY)(G:dD (E9 h0 a2 a3) (E9 h0 a2 a3) h c cs)(F:dD (E9 h0 a2 a3) (E9 h0 a2 a3) h x k)
  (E:∀q h',az h0 h'->eR (Nw h0) (Nw h0) h' q (.mk n 0 u aY cs k)->K n 0 u q.1 q.2.1 q.2.2 h'):cg h' (aJ a3) λb c d e f g=>cL h' (aJ a2) b c d e f g λj=>cg j (aJ a2) λb c d e f g=>K b c d e f g j:=by
 have l:=s.l;refine fJ r (ig (o.aZ s.k2 l.2.2) rfl λj i w=>fJ w (E (b,c,x) j ?_ ?_))
 ·exact bI (bI s.g o l.2.1) i l.1
 ·have t:Tn (λc=>c=a3\/c=a2) h j:=(o.fr.mono λc z _=>.inl z).trans (i.fr.mono λc z _=>.inr z);have q:∀c,E9 h0 a2 a3 c->¬(c=a3\/c=a2):=ag
  exact⟨H.fr t (λc z _=>q c z) (λc z _=>q c z) (λc z=>z.1) λc z=>z.1,G.fr t (λc z _=>q c z) (λc z _=>q c z) (λc z=>z.1) λc z=>z.1,F.fr t (λc z _=>q c z) (λc z _=>q c z) (λc z=>z.1) λc z=>z.1⟩
theorem D9.b(s:D9 h0 h a2 a3 n u B ds)(I:fH (E9 h0 a2 a3) (E9 h0 a2 a3) h ⟨some a,m,m⟩ aY)(H:∀q h',az h0 h'->eR (Nw h0) (Nw h0) h' q (.mk n 0 u aY [] [])->K n 0 u q.1 q.2.1 q.2.2 h'):St h ⟨a3,3,none⟩ (.slice (some a) m m) λh'=>cg h' (aJ a3) λb c d e f g=>cL h' (aJ a2) b c d e f g λz=>cg z (aJ a2) λb c d e f g=>K b c d e f g z:=
 dI s.k3 aA rfl λh' o k=>s.end o (by simpa[Sl.v,Sl.nil]using k) I (jA _) (jA _) H
theorem D9.k(s:D9 h0 h a2 a3 n u B ds)(H:fH (E9 h0 a2 a3) (E9 h0 a2 a3) h ⟨some a,m,m⟩ aY)(C:∀q h',az h0 h'->eR (Nw h0) (Nw h0) h' q (.mk n 0 u aY ds [])->K n 0 u q.1 q.2.1 q.2.2 h'):St h ⟨a3,3,none⟩ (.slice (some a) m m) λh'=>St h' ⟨a3,4,none⟩ (Sl.v B) λh'=>cg h' (aJ a3) λb c d e f g=>cL h' (aJ a2) b c d e f g λz=>cg z (aJ a2) λb c d e f g=>K b c d e f g z:=
 dI s.k3 aA rfl λh1 i j=>dI j aA rfl λh' o k=>s.end (i.trans o) (by simpa[Sl.v,Sl.nil]using k) H s.ds (jA _) C
theorem D9.d(s:D9 h0 h a2 a3 n u B ds)(J:fH (E9 h0 a2 a3) (E9 h0 a2 a3) h ⟨some a,m,m⟩ aY)(H:∀q h',az h0 h'->eR (Nw h0) (Nw h0) h' q (.mk n 0 u aY [] ds)->K n 0 u q.1 q.2.1 q.2.2 h'):St h ⟨a3,3,none⟩ (.slice (some a) m m) λh'=>St h' ⟨a3,5,none⟩ (Sl.v B) λh'=>cg h' (aJ a3) λb c d e f g=>cL h' (aJ a2) b c d e f g λz=>cg z (aJ a2) λb c d e f g=>K b c d e f g z:=
 dI s.k3 aA rfl λh1 i j=>dI j aA rfl λh' o k=>s.end (i.trans o) (by simpa[Sl.v,Sl.nil]using k) J (jA _) s.ds H
theorem D9.r{cs:kF}(s:D9 h0 h a2 a3 n u B ds)(H:dD (E9 h0 a2 a3) (E9 h0 a2 a3) h t cs)(C:∀q h',az h0 h'->eR (Nw h0) (Nw h0) h' q (.mk n 0 u [] cs [])->K n 0 u q.1 q.2.1 q.2.2 h'):St h ⟨a3,4,none⟩ (Sl.v t) λh'=>cg h' (aJ a3) λb c d e f g=>cL h' (aJ a2) b c d e f g λz=>cg z (aJ a2) λb c d e f g=>K b c d e f g z:=
 dI s.k3 aA rfl λh' o k=>s.end o bZ Ij H (jA _) C
theorem D9.zz(s:D9 h0 h a2 a3 n u B ds)(k:∀q h',az h0 h'->eR (Nw h0) (Nw h0) h' q (.mk n 0 u [] [] [])->K n 0 u q.1 q.2.1 q.2.2 h'):cg h (aJ a3) λb c d e f g=>cL h (aJ a2) b c d e f g λj=>cg j (aJ a2) λb c d e f g=>K b c d e f g j:=
 s.end (eJ.refl _ _) s.k3 Ij (jA _) (jA _) k
end
def JA(f:aq):Prop:=∀{Q T:aQ}{h:Hp}{p:Nat}{vs:aR}{K:KD}{Kp:PK},f.can vs->f.gU Q T h p vs->
 (∀q h',az h h'->eR (Nw h) (Nw h) h' q (f.dn (f.st vs))->K (f.dn (f.st vs)).len (f.dn (f.st vs)).off (f.dn (f.st vs)).au q.1 q.2.1 q.2.2 h')->OW (pB p) h K Kp
section
variable {Q T:aQ} {h1:Hp} {p a2 a3 n u ao:Nat} {g:dM} {X:Bx} {B A:Sl} {K:KD}
theorem asK(hn:f.cs.length<=32)(IH:∀c∈f.cs,JA c)(hc:f.can vs)(G:gp f (ud f) Q T h0 p g (x8 f vs) X (aL f.k vs).aH (λj=>cont f j vs))(s:D9 h0 h a2 a3 n u Sl.nil [])
  (hk:∀B h',D9 h0 h' a2 a3 n u B (iy f vs)->az h h'->NJ K Kp (pB p) (aJ a2) (aJ ao) (aJ a3) A B h'):I4 K Kp (pB p) (aJ a2) (aJ ao) (aJ a3) A h:=by
 have dl:=DW f vs;have dg:=λ(j:Nat)c(hj:f.cs[j]? =some c)=>uH (vs:=vs) hj;have sp:g.sp.n=f.cs.length:=by rw[G.pt.n,cr,G.lk.1];simp
 generalize c':iy f vs=ds at hk dl dg;refine aCC (aF λab h1 e1 g1 k1 _=>?_);refine aAL (λF x t=>∃(i:Nat)(J:List (Sl×Sl×Sl)),x=i/\i<=ds.length/\J.length=i/\az h t/\eW h.size 6 t F (List.zipWith bG.row (ds.take i) J) ck/\
   ∀(j:Nat)(d:bG)(p:Sl×Sl×Sl),ds[j]? =some d->J[j]? =some p->eR (λb=>h.size<=b/\¬F.at b) (λb=>h.size<=b/\¬F.at b) t p d)
  (λ_ x _=>ds.length-x.toNat) ⟨0,[],rfl,ag,rfl,g1,?_,aA⟩ ?_
 ·exact⟨λ_ h=>by simp at h,rfl,.inr ⟨ab,ag,k1.lt,rfl,rfl,_,k1,bX _,rfl,λi hi=>absurd hi aA⟩⟩
 rintro F x t ⟨i,J,rfl,hi,D,N,I,hu⟩ N1 hN;have Y:=I.n;rw[m7,m8]at Y;have s2:=N.1;have G2:=G.fr (oe f.cs) (bg (ak s.g N)) (λ_ _=>id) λ_ _=>id;refine bO ?_;refine G2.jY (aG (λO=>?_) λO=>?_)
 ·have O:=aS O;have y:f.cs[i]? =some f.cs[i]:=aA;generalize f.cs[i]=c at y;have E:=dg i c y;refine G2.ZI y rfl λA' w hA hw m=>IH c (bT y) (fC y hc) m λq h3 g3 v3=>aF λb4 M e4 g4 k4 _=>?_;generalize c.dn _=d at E v3 k4;have P:=ak g3 g4;have s4:=P.1;refine(I.ai P).ap ag rfl (new:=[d.row q]) rfl (λr L=>by simp at L;subst L;rfl) (λr L=>by simp at L;subst L;exact ad5 d q) (by simpa[bG.row,zd]using iJ k4 rfl) ag ag λH h5 W a' o5=>aX ag ag (hN _ _ _ ⟨i+1,J++[q],aA,ag,by simp[D],?_,?_,?_⟩ ag)
  ·exact(((bg (ak N P):Tn No h M)).trans' W λb hd Z=>by have:=((I.ai P).at hd).1;omega).ai
  ·rw[PR E D];exact o5
  ·intro j e v V U;have C:∀b,H.at b->b<M.size->F.at b:=λb q o=>(a' b q).resolve_right ag;rcases zn D U with⟨Z,U⟩|⟨rfl,rfl⟩
   ·refine((hu j e v V U).lt.gr P).fr W (λb o _=>o.1.2) (λb o _=>o.1.2) (λb o=>⟨o.1.1,λq=>o.1.2 (C b q ag)⟩) (λb o=>⟨o.1.1,λq=>o.1.2 (C b q ag)⟩)
   ·rw[E]at V;cases V;have R:∀b,F.at b->h.size<=b/\b<t.size:=λb o=>I.at o;refine((v3.gr g4).lt).fr W (λb(o:t.size<=b/\_)_ q=>by have:=R b q;omega) (λb(o:t.size<=b/\_)_ q=>by have:=R b q;omega) (λb(o:t.size<=b/\b<M.size)=>⟨ag,λq=>?_⟩) (λb(o:t.size<=b/\b<M.size)=>⟨ag,λq=>?_⟩)
    ·have:=R b (C b q o.2);omega
    ·have:=R b (C b q o.2);omega
 ·have O:=aS O;have:i=ds.length:=ag;subst this;rw[m5]at I;have d9:=dD.snoc I D (λb(o:h.size<=b)=>o) λj d p h1 t=>(hu j d p h1 t).mo (λb o=>o.1) λb o=>o.1;have H:=s.gr N;exact hk _ _ ⟨H.g,H.k2,H.k3,H.l,dD.fr (iV _ _) (λ_ _ _=>id) (λ_ _ _=>id) (λc z=>s.e z) (λc z=>s.e z) _ d9⟩ N
end
theorem Os.ne{A:aQ}{l:dy}(o:Os A h s (bv l) el):s.a≠none\/l=[]:=by
 rcases o with⟨_,e⟩|⟨b,_,e,_⟩
 ·exact .inr (Vz.1 e)
 simp[*]
section
variable {Q T:aQ} {h1:Hp} {p a2 a3 n u ao:Nat} {g:dM} {X:Bx} {vl:aR} {nb:Bn} {B A:Sl} {K:KD} {ds:kF}
theorem gp.slot(G:gp f (ud f) Q T h p g nb X vl kc){i:Nat}(a:i<7):∃t,g.SS[i]? =some t:=⟨_,bJ (by have:=G.ls.1;omega)⟩
theorem gp.os{y:List Value×TypeId}(G:gp f (ud f) Q T h p g nb X vl kc)(a:g.SS[i]? =some t)(d:X.fm[i]? =some y):∃A,Os A h t y.1 y.2:=by
 have c:=(de.1 a).1;have b:=G.ls;exact⟨_,G.sl i t _ y a (bJ ag) d⟩
theorem avh(i:bB f)(j:f.can vs)(c:f.k=14):∀v∈vs,v.au=true/\v.text=[]\/v.au=false/\v.text.length=f.w.toNat/\v.text≠[]:=by
 intro v d;have l:=i.right.1.2.2.1 c;have a:=((gj f vs).1 j).fit v d;rw[eM]at a;unfold fG at a;grind
theorem avl(e:f.can vs)(d:f.k=2):∀v∈vs,(v.num%2^64).toNat=0\/(v.num%2^64).toNat=1:=by
 intro v c;have a:=((gj f vs).1 e).fit v c;rw[eM]at a;unfold fG at a;grind
theorem adA{α β:Type}(l:List α)(q:α->β):l.flatMap (λx=>[q x])=l.map q:=by induction l <;> simp_all
theorem auZ(c:f.can vs)(a:f.k=2)(ok:nN f vs X):X.fx.map nz=(aL f.k vs).dY:=by
 rw[ok.x (by rw[a];rfl)]
 have:(aL f.k vs).dY=vs.map λv=>(v.num%2^64).toNat:=by simp[aL,a,fL]
 rw[this];have e:vs.flatMap (lY f)=vs.map λv=>UInt8.ofNat (v.num%2^64).toNat:=by
  rw[<-adA];congr 1;funext v;unfold lY;simp[*]
 rw[e,My];refine Cy λv b=>?_
 show nz (UInt8.ofNat _)=_
 rcases avl c a v b with q|q <;> rw[q] <;> rfl
theorem auY(i:bB f)(j:f.can vs)(a:f.k=14)(ok:nN f vs X):X.fx=mu f.w.toNat (aL f.k vs).texts:=by
 rw[ok.x (by rw[a];rfl)]
 have:(aL f.k vs).texts=vs.map aB.text:=by simp[aL,a,fL]
 rw[this];unfold mu;rw[List.flatMap_map,U1,U1]
 congr 1
 refine Cy λv e=>?_;unfold lY;rw[ay,aK a];grind[avh]
theorem auX(b:3<=f.k/\f.k<=11)(ok:nN f vs X):X.fx=laidB (aL f.k vs).dY (wB f.k):=by
 have a:fL f.k=true:=by unfold fL;simp;omega
 rw[ok.x a];have:(aL f.k vs).dY=vs.map λv=>(v.num%2^64).toNat:=by simp[aL,a]
 rw[this];unfold laidB;rw[List.flatMap_map]
 congr 1
 funext v
 unfold lY;rw[ay,ay,(De b).1]
theorem awp(F:bB f)(hc:f.can vs)(G:gp f (ud f) Q T h0 p g (x8 f vs) X (aL f.k vs).aH (λj=>cont f j vs))(ok:nN f vs X)(s:D9 h0 h a2 a3 vs.length (aL f.k vs).cz B (iy f vs))(R:∃sf,aN h ao #[ah f.k,ah f.w,ah f.id,ah f.ix,Sl.v sf] kJ)
  (V:f.k≠18/\f.k≠20->eD (E9 h0 a2 a3) h A (bv (dF (aL f.k vs)))) (c':14<=f.k\/f.k<=11) (oa:f.k≠1/\f.k≠2/\f.k≠15/\f.k≠20)
  (C:∀q Y,az h0 Y->eR (Nw h0) (Nw h0) Y q (f.dn (f.st vs))->K (f.dn (f.st vs)).len (f.dn (f.st vs)).off (f.dn (f.st vs)).au q.1 q.2.1 q.2.2 Y):Fk K Kp (pB p) (aJ a2) (aJ ao) (aJ a3) A B f.k (decide (f.k=16\/f.k=17)) h:=by
 have n4:=((gj f vs).1 hc).n4;have b:=ok.b;have ks:=F.right.1.1;have b':=F.right.1.2.1;have KF:=oe f.cs;have x:∀{hx:Hp},az h hx->gp f _ Q T hx p g _ X (aL f.k vs).aH _:=λgx=>G.fr KF (bg (ak s.g gx)) (λ_ _=>id) λ_ _=>id;obtain⟨sf,R⟩:=R;refine aiJ (cE (λL=>?_) λL=>?_)
 ·have E:=BY (vs:=vs) L;rw[E]at C;exact EB (V ag) (s.e (bX _)) λb h1 l _ r=>(s.gr l).k r C
 refine aG (λJ=>?_) λJ=>aG (λH=>?_) λH=>aG (λO=>by have O:=aS O;omega) λO=>?_
 ·have J:=aS J;have E:=LI (vs:=vs) J;rw[E]at C;refine aF λa5 h1 e1 l U _=>?_;have s1:=l.1;refine bO ?_;obtain⟨t1,q1⟩:=G.slot (i:=1) ag;obtain⟨t3,q3⟩:=G.slot (i:=3) ag;obtain⟨_,o1⟩:=(x l).os q1 rfl;refine(x l).dH q1 ((x l).dH q3 (Uk l ag U o1.sv o1.ne ag λt W m Z P=>mK (x l).k (x m).k ?_));obtain⟨_,o3⟩:=(x m).os q3 rfl;have s2:=m.1;refine GK o3.sv ag ag λu N I v3=>oM (D:=E9 h0 a2 a3) ((P.gr I).mo λc z=>s.e ag) (v3.mo λc(z:W.size<=c)=>s.e ag) (((s.gr m).gr I).e (bX _)) λa h4 g4 r=>?_;rw[ok.c J,ok.o ag]at r;exact(((s.gr m).gr I).gr g4).k r C
 ·have H:=aS H;have E:=HL (vs:=vs) H;rw[E]at C;refine bO ?_;obtain⟨t5,q5⟩:=G.slot (i:=5) ag;obtain⟨_,o5⟩:=(x (cQ _)).os (y:=(ints X.ix,Y6)) q5 rfl;have e5:X.ix=(aL f.k vs).ends:=ok.i H;have a':=F.right.1.2.2.2.2.2.1 H;have ew:=De (k:=f.ix) ag;refine(x (cQ _)).dH (i:=5) q5 (aj R rfl (P9 (bQ (x (cQ _)).k (cQ _) (GK o5.sv ag ag λt h1 l v1=>oM (D:=E9 h0 a2 a3) ((V ag).gr l) (v1.mo λc z=>s.e z) ((s.gr l).e (bX _)) λa W m r=>?_))));rw[e5,ew.1]at r;exact((s.gr l).gr m).d r C
 ·simp only[sm,reduceCtorEq]at J H O;refine aF λa5 h1 e1 l U _=>?_;have s1:=l.1;refine bO ?_;obtain⟨Z,q2⟩:=G.slot (i:=2) ag;obtain⟨_,o2⟩:=(x l).os (y:=(bv X.fx,Y8)) q2 rfl;refine(x l).dH (i:=2) q2 (Uk l ag U o2.sv o2.ne ag λt W m Z P=>oM (D:=E9 h0 a2 a3) ((V ag).gr m) (P.mo λc z=>s.e ag) ((s.gr m).e (bX _)) λa N I r=>?_)
  by_cases M:f.k=14
  ·have E:=BZ (vs:=vs) M;rw[E]at C;rw[auY F hc M ok]at r;exact((s.gr m).gr I).b r C
  ·have N:3<=f.k/\f.k<=11:=ag;have E:=Ab (vs:=vs) N;rw[E]at C;rw[auX N ok]at r;exact((s.gr m).gr I).b r C
end
theorem zj{a:Addr}:eD D h ⟨some a,0,0⟩ (bv []):=⟨⟨rfl,bX _,λx hx=>by simp at hx⟩,λq=>absurd rfl q⟩
section
variable {Q T:aQ} {hx:Hp} {p a2 a3 n u m f9 ao:Nat} {g:dM} {X:Bx} {B A:Sl} {a:Addr} {d:bG} {out:dy} {K:KD}
theorem aoV(s:D9 h0 h a2 a3 n u B [d])(F:az h hx)(x:aN hx f9 cX ck)(w:h.size<=f9)(H:fH (Ex h f9) (Ex h f9) hx ⟨some a,2,2⟩ [[],out])
  (E:∀q k,az h0 k->eR (Nw h0) (Nw h0) k q (.mk n 0 u [] [.mk m 0 0 [[],out] [] [],d] [])->K n 0 u q.1 q.2.1 q.2.2 k):qF (aJ a2) (aJ a3) B K m hx (aJ f9) a:=by
 unfold qF;refine ig x rfl λD v C=>fJ C ?_;have j:=bI F v w;refine(s.ds.lt.gr j).ix rfl rfl λM q cs G=>cg.c cs (aF λb J L l y _=>?_);have o:=H.fr v.fr (λc z _ e=>z.2 e) (λc z _ e=>z.2 e) (λc z=>z) λc z=>z;refine((s.gr j).gr l).r (dD.two (p:=(⟨some a,2,2⟩,Sl.nil,Sl.nil)) y ((s.gr j).e ag) ⟨?_,jA _,jA _⟩ ?_) E
 ·exact(o.gr l).mo (λc z=>s.e z.1) λc z=>s.e z.1
 ·exact(G.gr l).mo (λc z=>z.1) λc z=>z.1
theorem awq(hc:f.can vs)(oa:f.k=20)(a':∃d,iy f vs=[d])(G:gp f (ud f) Q T h0 p g (x8 f vs) X (aL f.k vs).aH (λj=>cont f j vs))(ok:nN f vs X)(s:D9 h0 h a2 a3 vs.length 0 B (iy f vs))
  (hk:∀q H,az h0 H->eR (Nw h0) (Nw h0) H q (f.dn (f.st vs))->K (f.dn (f.st vs)).len (f.dn (f.st vs)).off (f.dn (f.st vs)).au q.1 q.2.1 q.2.2 H):Fk K Kp (pB p) (aJ a2) (aJ ao) (aJ a3) A B f.k false h:=by
 have n4:=((gj f vs).1 hc).n4;have b:=ok.b;have Y:∀{hx:Hp},az h hx->gp f _ Q T hx p g _ X (aL f.k vs).aH _:=λN=>G.fr (oe f.cs) (bg (ak s.g N)) (λ_ _=>id) λ_ _=>id;have ef:=LH (vs:=vs) oa;rw[ef]at hk;obtain⟨d,hd⟩:=a';rw[hd]at hk s;have e6:=ok.e oa;obtain⟨I,Z⟩:=G.slot (i:=6) ag;have o6:∀{hx:Hp},az h hx->∃A,Os A hx I _ Y6:=λN=>(Y N).os Z rfl;have n6:(I.n:Int)=((aL f.k vs).ends.length:Nat):=by obtain⟨_,o⟩:=o6 (cQ _);rw[o.n];show _=_;rw[ints,cr,e6]
 have x:=λ{hx:Hp}(N:az h hx)=>(Y N).k;have TL:∀{hx:Hp}{f9:Nat}{a:Addr},az h hx->aN hx f9 cX ck->h.size<=f9->fH _ _ hx ⟨some a,2,2⟩ [[],laidB (aL f.k vs).ends 4]->qF _ _ B K I.n hx _ a:=λN J O V=>by
  rw[n6];exact aoV s N J O V hk
 have L:∀{w:Hp}{X':Sl->HP},az h w->(∀t H,az w H->eD (Nw w) H t (bv (laidB (aL f.k vs).ends 4))->X' t H)->sJ I 4 w X' Kp:=λC hX=>by
  obtain⟨_,o⟩:=o6 C;exact GK o.sv ag ag λt H F v=>hX t H F bZ
 have W:∀{w:Hp}{f9:Nat}{t:Sl}{e:Addr},az h w->aN w f9 cX ck->h.size<=f9->eD _ w t (bv (laidB (aL f.k vs).ends 4))->aI w #[.slice (some e) 0 0,Sl.v t] fQ λc d=>aT w d ⟨p,16,none⟩ 1 (qF (aJ a2) (aJ a3) B K I.n d (aJ f9) c):=λ{w f9 t e}C J O v=>
  oM zj v ⟨by have:=C.1;omega,by have:=J.lt;omega⟩ λa H F V=>bQ (x C) F (TL (ak C F) (J.ai F) O V)
 have FP:∀{w:Hp}{f9:Nat}{e:Addr},az h w->aN w f9 cX ck->h.size<=f9->sJ I 4 w (λc d=>aT w d ⟨p,16,none⟩ 1 (aI d #[.slice (some e) 0 0,Sl.v c] fQ λc i=>aT d i ⟨p,16,none⟩ 1 (qF (aJ a2) (aJ a3) B K I.n i (aJ f9) c))) Kp:=λ{w f9 e}C J O=>
  L C λt H F v=>bQ (x C) F (W (ak C F) (J.ai F) O (v.mo λc(z:w.size<=c)=>by have:=J.lt;omega))
 have ZP:∀{w:Hp}{t:Sl}{e:Addr},az h w->eD (Nw h) w t (bv (laidB (aL f.k vs).ends 4))->aI w cX ck λa i=>aT w i ⟨p,16,none⟩ 1 (aT w i ⟨p,16,none⟩ 1 (aI i #[.slice (some e) 0 0,Sl.v t] fQ λc d=>aT i d ⟨p,16,none⟩ 1 (qF (aJ a2) (aJ a3) B K I.n d a c))):=λ{w t e}C v=>
  aF λb R e1 l k1 _=>bQ (x C) l (bQ (x C) l (W (ak C l) k1 (by have:=C.1;omega) (v.kP l ag λc z=>z)))
 have PZ:∀{w:Hp}{t:Sl}{e:Addr},az h w->eD (Nw h) w t (bv (laidB (aL f.k vs).ends 4))->aI w #[.slice (some e) 0 0,Sl.v t] fQ λc d=>aT w d ⟨p,16,none⟩ 1 (aI d cX ck λa i=>aT d i ⟨p,16,none⟩ 1 (aT d i ⟨p,16,none⟩ 1 (qF (aJ a2) (aJ a3) B K I.n i a c))):=λ{w t e}C v=>
  oM zj v (by have:=C.1;omega) λa H F V=>bQ (x C) F (aF λb R e1 l k1 _=>bQ (x (ak C F)) l (bQ (x (ak C F)) l (TL (ak (ak C F) l) k1 (by have:=C.1;have:=F.1;omega) (V.kP l ag λc z=>z))))
 refine aiJ (bu rfl (bu cy (bu cy (bS cy ?_))));refine bO ?_;refine(Y (cQ _)).dH Z ((Y (cQ _)).dH Z ⟨aF λe1 R _ l _ _=>bQ (x (cQ _)) l (bQ (x (cQ _)) l ⟨L l λt P r v=>bQ (x l) r ⟨PZ (ak l r) ?_,ZP (ak l r) ?_⟩,?_⟩),⟨L (cQ _) λt R l v=>bQ (x (cQ _)) l ⟨aF λe1 P _ r _ _=>bQ (x l) r (bQ (x l) r ⟨PZ (ak l r) (v.gr r),ZP (ak l r) (v.gr r)⟩),?_⟩,?_⟩⟩)
 ·exact v.mo λc(z:R.size<=c)=>ag
 ·exact v.mo λc(z:R.size<=c)=>ag
 ·exact aF λb P _ r M _=>bQ (x l) r (bQ (x l) r (FP (ak l r) M ag))
 ·exact aF λb P e2 r M _=>bQ (x l) r (bQ (x l) r (aF λe1 h3 _ E _ _=>bQ (x (ak l r)) E (bQ (x (ak l r)) E (W (ak (ak l r) E) (M.ai E) (by have:=l.1;omega) (v.kP (ak r E) ag λc z=>z)))))
 ·refine aF λb P e2 r M _=>bQ (x (cQ _)) r (bQ (x (cQ _)) r ⟨aF λe1 h3 _ E _ _=>bQ (x r) E (bQ (x r) E (FP (ak r E) (M.ai E) ag)),L r λt h3 E v=>bQ (x r) E (aF λe1 h4 _ U _ _=>bQ (x (ak r E)) U (bQ (x (ak r E)) U (W (ak (ak r E) U) ((M.ai E).ai U) ag ((v.gr U).mo λc(z:P.size<=c)=>ag))))⟩)
end
section
variable {Q T:aQ} {hx:Hp} {p a2 a3 n u m f9 ao:Nat} {g:dM} {X:Bx} {B A:Sl} {K:KD}
theorem awr(V:bB f)(W:f.can vs)(G:gp f (ud f) Q T h0 p g (x8 f vs) X (aL f.k vs).aH (λj=>cont f j vs))(ok:nN f vs X)(s:D9 h0 h a2 a3 vs.length (aL f.k vs).cz B (iy f vs))(ko:∃sf,aN h ao #[ah f.k,ah f.w,ah f.id,ah f.ix,Sl.v sf] kJ)
  (Y:f.k≠1/\f.k≠18/\f.k≠20->eD (E9 h0 a2 a3) h A (bv (dF (aL f.k vs))))
  (C:∀q h',az h0 h'->eR (Nw h0) (Nw h0) h' q (f.dn (f.st vs))->K (f.dn (f.st vs)).len (f.dn (f.st vs)).off (f.dn (f.st vs)).au q.1 q.2.1 q.2.2 h'):NJ K Kp (pB p) (aJ a2) (aJ ao) (aJ a3) A B h:=by
 have n4:=((gj f vs).1 W).n4;have b:=ok.b;have F:∀{hx:Hp},az h hx->gp f _ Q T hx p g _ X (aL f.k vs).aH _:=λgx=>G.fr (oe f.cs) (bg (ak s.g gx)) (λ_ _=>id) λ_ _=>id;obtain⟨sf,U⟩:=ko;refine aCB (aj U rfl (aG (λE=>?_) λE=>aG (λO=>?_) λO=>?_))
 ·have E:=aS E;have L:=HN (vs:=vs) E;rw[L]at C;exact s.zz C
 ·simp only[sm,reduceCtorEq]at E O;have L:=BX (vs:=vs) O;rw[L]at C;refine bO ?_;obtain⟨t2,q2⟩:=G.slot (i:=2) ag;obtain⟨_,o2⟩:=(F (cQ _)).os q2 rfl;refine(F (cQ _)).dH q2 (afx o2.sv ag λt Z d v1=>oM ((Y ag).gr d) (v1.mo λc z=>s.e z) ((s.gr d).e (bX _)) λa h2 x I=>?_);rw[auZ W O ok]at I;exact((s.gr d).gr x).b I C
 simp only[sm,reduceCtorEq]at E O;have r:∀P:Bool,P=decide (f.k=12\/f.k=13)->NI K Kp (pB p) (aJ a2) (aJ ao) (aJ a3) A B f.k P h:=by
  intro P H;refine aCA (aG (λc3=>?_) λc3=>aG (λM=>?_) λM=>?_)
  ·have e:f.k=12\/f.k=13:=by rw[c3]at H;simpa using H.symm
   have L:=wj (vs:=vs) e;rw[L]at C;refine aF λa5 Z e1 d k1 _=>?_;refine bO ?_;obtain⟨t3,R⟩:=G.slot (i:=3) ag;obtain⟨t4,q4⟩:=G.slot (i:=4) ag;obtain⟨_,o3⟩:=(F d).os R rfl;refine(F d).dH R ((F d).dH q4 (GK o3.sv ag ag λt h2 x v2=>bQ (F d).k x ?_));have s2:=x.1;obtain⟨_,o4⟩:=(F (ak d x)).os q4 rfl;refine Uk (ak d x) ag (k1.ai x) o4.sv o4.ne ag λw h3 g3 t3 v3=>?_;have a':=v2.fr (E':=E9 h0 a2 a3) t3 (λc(z:Z.size<=c)_ y=>ag) λc(z:Z.size<=c)=>s.e ag
   refine afp (D:=E9 h0 a2 a3) ((Y ag).gr g3) a' (v3.mo λc z=>s.e ag) ((s.gr g3).e (bX _)) λa h4 g4 I=>?_;rw[ok.o ag,ok.t e]at I;exact((s.gr g3).gr g4).b I C
  ·have M:=aS M;have L:=HM (vs:=vs) M;rw[L]at C;refine bO ?_;obtain⟨t3,R⟩:=G.slot (i:=3) ag;obtain⟨_,o3⟩:=(F (cQ _)).os (y:=(ints X.os,Y6)) R rfl;refine(F (cQ _)).dH (i:=3) R (GK o3.sv ag ag λt Z d v1=>oM (D:=E9 h0 a2 a3) ((Y ag).gr d) (v1.mo λc z=>s.e z) ((s.gr d).e (bX _)) λa h2 x I=>?_);rw[ok.o ag]at I;exact((s.gr d).gr x).k I C
  ·have M:=aS M;have c':¬(f.k=12\/f.k=13):=by rw[c3]at H;simpa using H.symm
   have J:∀P:Bool,P=decide (f.k=16\/f.k=17)->Fk K Kp (pB p) (aJ a2) (aJ ao) (aJ a3) A B f.k P h:=by
    rintro _ rfl
    by_cases N:f.k=20
    ·obtain⟨c,b',_⟩:=V.one ag;have hl:=DW f vs;rw[b']at hl;have u0:(aL f.k vs).cz=0:=Ve.2 λv _=>by simp_all[eG,aC,aK]
     rw[u0]at s;rw[decide_eq_false (by omega:¬(f.k=16\/f.k=17))]
     exact awq W N (match hq:iy f vs,hl with|[y],_=>⟨y,rfl⟩) G ok s C
    ·exact awp V W G ok s ⟨_,U⟩ (λq=>Y ⟨E,q⟩) ag ⟨E,O,M,N⟩ C
   refine cE (λl=>?_) λl=>?_
   ·exact J _ (by rw[ki];simp;omega)
   ·exact J _ (by rw[ki];simp;omega)
 refine cE (λl=>?_) λl=>?_
 ·exact r _ (by rw[ki];simp;omega)
 ·exact r _ (by rw[ki];simp;omega)
end
theorem awo(r:bB f)(IH:∀c∈f.cs,JA c):JA f:=by
 intro Q T h p vs K Kp N B hk;rw[yh]at B;obtain⟨g,X,G,ok⟩:=B;have E:=r.right.1;have n4:=((gj f vs).1 N).n4;have b:=ok.b;have U:f.cs.length<=32:=by
  by_cases O:f.k=15\/f.k=16\/f.k=19\/f.k=20
  ·have:=E.2.2.2.2.2.2.2.1 O;omega
  by_cases h2:f.k=17
  ·exact E.2.2.2.2.2.2.2.2.1 h2
  by_cases J:f.k=18
  ·exact(E.2.2.2.2.2.2.2.2.2.1 J).2
  ·have:=E.2.2.2.2.2.2.2.2.2.2 ag;omega
 have a:∀{hx:Hp},az h hx->gp f _ Q T hx p g _ X (aL f.k vs).aH _:=λP=>G.fr (oe f.cs) (bg P) (λ_ _=>id) λ_ _=>id;have cells:∀{hx:Hp},az h hx->Cs hx ⟨p,2,none⟩ [ah f.k,ah f.w,ah f.id,ah f.ix,Sl.v g.sf]:=λP=>uQ (a P).k λi v l=>by
  rcases i with _|_|_|_|_|i
  ·exact l
  ·exact l
  ·exact l
  ·exact l
  ·exact l
  ·simp at l
 refine aFP (aF λa2 O e1 R Y _=>?_);refine bO ?_;refine nF (cells R) (aF λao h2 e2 g2 F _=>pM F rfl λJ o3 F=>?_);have a':=F.lt;have D:=bI g2 o3 ag;have o:=ak R D;refine aj (a o).k rfl (aj (a o).k rfl (aF λa3 h4 e4 L H _=>bQ (a o).k L (bQ (a o).k L (ig H rfl λh5 o5 H=>aF λa5 Z e6 g6 k5 _=>?_))));have C:=bI L o5 ag;have d:=ak C g6;have M:=ak o d;have s:D9 h Z a2 a3 vs.length (aL f.k vs).cz Sl.nil []:=⟨M,(Y.ai D).ai d,H.ai g6,⟨ag,ag,ag⟩,jA _⟩
 have two:∀{I:Hp}{A:Sl},az Z I->(f.k≠1/\f.k≠18/\f.k≠20->eD _ I A _)->I4 K Kp _ _ _ _ A I:=λ{I A}gy hA=>
  asK U IH N G (s.gr gy) λB h' s' g'=>awr r N G ok s' ⟨_,((F.ai d).ai gy).ai g'⟩ (λq=>(hA q).gr g') hk
 refine aj (x:=((aL f.k vs).cz:Int)) (a M).k rfl (cE (λc=>?_) λc=>?_)
 ·obtain⟨t0,W⟩:=G.slot (i:=0) ag;obtain⟨_,o0⟩:=(a M).os W rfl;refine(a M).dH W (afx o0.sv ag λt h7 g7 V=>two g7 λq=>?_);have e:ri (X.vl.map nz)=dF (aL f.k vs):=by
   unfold dF;rw[ay]
   show _=qQ (vs.map λv=>!eG f.k v)
   rw[aqq,ok.v q.2,My]
   congr 1
   refine Cy λv _=>?_;rw[sX q.1 q.2.1 q.2.2]
   show nz (if v.au then 0 else 1)=_
   cases v.au <;> rfl
  rw[e]at V;exact V.mo λc z=>s.e z
 ·refine two (cQ _) λq=>?_;have e:dF (aL f.k vs)=[]:=by unfold dF;rw[dV]
  rw[e];exact zj
theorem aed:∀f:aq,bB f->JA f/\True
  | .mk b au k w id ix cs,a=>by
    have e:∀c∈cs,JA c:=λc d=>(aed c (a.aM d)).1;exact⟨@awo _ a e,trivial⟩
mutual
theorem cH.a{h:Hp}:∀{s:Sl}(fs:cN),cH h s fs->bM Tt h s fs
  |_,[],hh=>by grind[cH,bM]
  | _,f::fs,hh=>by
    unfold cH at hh;unfold bM
    obtain⟨a,b,p,e,x,y⟩:=hh
    exact⟨a,b,p,e,trivial,jR.a f x,iB.a fs y⟩
theorem iB.a{h:Hp}:∀{a:Addr}{i:Nat}(fs:cN),iB h a i fs->iC Tt h a i fs
 |_,_,[],_=>by unfold iC;trivial
 |_,_,f::fs,hh=>by unfold iB at hh;unfold iC;exact⟨jR.a f hh.1,iB.a fs hh.2⟩
theorem jR.a{h:Hp}:∀{a:Addr}(f:aq),jR h a f->jy Tt h a f
  | _,.mk n au k w id ix cs,hh=>by
    unfold jR at hh;unfold jy
    obtain⟨s,c,x⟩:=hh
    exact⟨s,c,cH.a cs x⟩
end
section
variable {l:aR} {K:Int->Int->Int->Sl->Sl->Sl->Int->Int->HP}
theorem azt(e:¬bB f)(d:f.fN)(p:cH h s f.cs)(q:∀g,az h g->K 0 0 0 bN bN bN 5 0 g):C7 f.name f.au f.k f.w f.id f.ix s t h K Kp:=by
 refine aj1 (aF λC z e1 c o _=>aF λB y A a n _=>dO (o.ai a) (Kg (p.gr (ak c a)) d λb x i r=>?_));have:b=false:=by
  cases b
  ·rfl
  ·exact absurd (r.1 rfl) e
 subst this;exact bS rfl (ig (n.ai i) rfl λu j m=>fJ m (q u (bI (ak (ak c a) i) j ag)))
theorem azu(m:bB f)(J:f.fN)(hr:nY l)(hl:l.length<=9223372036854775807)(hs:cH h s f.cs)(hv:aO D h t l)
  (Z:∀q g,az h g->Good f l l.length->eR (Nw h) (Nw h) g q (f.dn (f.st l))->K (f.dn (f.st l)).len (f.dn (f.st l)).off (f.dn (f.st l)).au q.1 q.2.1 q.2.2 0 0 g)
  (Y:∀(i:Nat)x g,az h g->Good f l i->l[i]? =some x->ij f (l.take i) x≠0->K 0 0 0 bN bN bN (ij f (l.take i) x) (i:Int) g):C7 f.name f.au f.k f.w f.id f.ix s t h K Kp:=by
 have PF:=(mj f m).1;have hn:=hv.n;refine aj1 (aF λa2 h1 e1 H k1 _=>aF λa4 h2 e2 F P _=>dO (k1.ai F) (Kg (hs.gr (ak H F)) J λb E A O=>?_));obtain rfl:b=true:=O.2 m;have G2:=ak H F;have G3:=ak G2 A;have s3:=A.1;refine bu rfl (dO (k1.ai (ak F A)) (arn f m (bM.lt _ (hs.gr G3).a) (λc z=>z.2) λV p h4 g4 a' B4=>?_));refine aAP (λx g=>∃(i:Nat)(Q T:aQ),x=i/\i<=l.length/\az E g/\f.gU Q T g p (l.take i)/\(∀c,T c->E.size<=c)/\(∀c,c<E.size->Q c)/\Good f l i) (λx _=>l.length-x.toNat)
  ⟨0,_,V,rfl,eu _,g4,B4,a',λc z=>⟨trivial,z⟩,λj x hj=>ag⟩ ?_
 rintro x g ⟨i,Q,T,rfl,hi,G,B,hT,hQ,M⟩ N hN;have W:=ak G3 G;have S:=M.can PF hi;have z3:=G.1;refine cE (λc=>?_) λc=>?_
 ·have C:l[i]? =some l[i]:=aA;have I:l.take (i+1)=l.take i++[l[i]]:=aA;generalize l[i]=x at C I;have bad:∀{v:Hp},az h2 v->ij f _ x≠0->cL v _ 0 0 0 bN bN bN λa=>cg a _ λd e f1 H i1 j=>K d e f1 H i1 j _ _ a:=λo r=>
   ig (P.ai o) rfl λh7 o7 k7=>fJ k7 (Y i x h7 (bI (ak G2 o) o7 ag) M C r)
  refine((aO.lt _ hv).gr W).ix rfl C λa u cx X=>gY cx (ay8 m J S B (X.mo λc z=>hQ c ag) (hr.get C) (λq v o=>?_) λq Q' V v U O=>?_)
  ·have e:ij f (l.take i) x=7:=by unfold ij;rw[aC q]
   have:=bad (ak (ak A G) o) ag
   rw[e]at this;exact bS rfl this
  ·have e:ij f (l.take i) x=gA f (l.take i) x:=by unfold ij;rw[aK q]
   have o:az E v:=((bg G:Tn No E g).trans' U.tn λc z c'=>by have:=hT c z;omega).ai
   rw[<-e]at O ⊢;refine cE (λr=>?_) λr=>?_
   ·exact bad (ak A o) r
   ·refine aX ag ag (hN _ _ ⟨i+1,Q',V,aA,ag,o,I▸O r,λc z=>?_,λc z=>U.q c (hQ c z),λj y hj R=>?_⟩ ag)
    ·rcases U.t' c z with z|z
     ·exact hT c z
     ·omega
    ·by_cases ej:j=i
     ·subst ej;rw[C]at R;cases R;exact r
     ·exact M j y ag R
 ·have:i=l.length:=ag;subst this;rw[m5]at B S;refine(aed f m).1 S B λq v o D5=>ig ((P.ai (ak A G)).ai o) rfl λh6 o6 k6=>fJ k6 (Z q h6 (bI (ak W o) o6 ag) M ?_);exact D5.fr o6.fr (λc(z:g.size<=c)_ e=>ag) (λc(z:g.size<=c)_ e=>ag) (λc(z:g.size<=c)=>ag) λc(z:g.size<=c)=>ag
end
def Jw(f:aq)(l:aR)(i:Nat):Prop:=Good f l i/\∃x,l[i]? =some x/\ij f (l.take i) x≠0
def e0:bG:=.mk 0 0 0 [] [] []
open Classical in
noncomputable def xk(f:aq)(l:aR):bG×Int×Int:=
 if bB f then(if q:∃i,Jw f l i then(e0,ij f (l.take q.choose) (l.getD q.choose v0),q.choose)else(f.dn (f.st l),0,0))else(e0,5,0)
section
variable {D' E':aQ} {l:aR} {d:bG}
theorem Jw.uniq(a:Jw f l i)(b:Jw f l j):i=j:=by
 have⟨n,x,k,e⟩:=a;have⟨m,y,g,c⟩:=b;rcases Nat.lt_trichotomy i j with q|q|q
 ·exact absurd (m i x q k) e
 ·exact q
 ·exact absurd (n j y q g) c
theorem aqC(h:¬bB f):xk f l=(e0,5,0):=by unfold xk;rw[aC h]
theorem QO(h:bB f)(g:Good f l l.length):xk f l=(f.dn (f.st l),0,0):=by
 unfold xk;rw[aK h,dif_neg];rintro⟨i,c,x,a,b⟩;exact b (g i x (de.1 a).1 a)
theorem abq(h:bB f){i:Nat}{x:aB}(g:Good f l i)(a:l[i]? =some x)(b:ij f (l.take i) x≠0):xk f l=(e0,ij f (l.take i) x,(i:Int)):=by
 have q:∃i,Jw f l i:=⟨i,g,x,a,b⟩;unfold xk;rw[aK h,dif_pos q,(q.choose_spec.uniq ⟨g,x,a,b⟩),gV,a];rfl
theorem avY:e0.mw:=⟨by simp,⟨by simp,trivial⟩,by simp,trivial⟩
theorem LD{g:Hp}:eR D E' g (Sl.nil,Sl.nil,Sl.nil) e0:=⟨Ij,jA _,jA _⟩
variable {K:Int->Int->Int->Sl->Sl->Sl->Int->Int->HP}
def akl(h:Hp)(K:Int->Int->Int->Sl->Sl->Sl->Int->Int->HP)(o:bG×Int×Int):Prop:=∀q h',az h h'->eR (Nw h) (Nw h) h' q o.1->K o.1.len o.1.off o.1.au q.1 q.2.1 q.2.2 o.2.1 o.2.2 h'
theorem Wk(e:f.fN)(r:nY l)(hl:l.length<=9223372036854775807)(m:cH h s f.cs)(o:aO D h t l)(b:akl h K (xk f l)):C7 f.name f.au f.k f.w f.id f.ix s t h K Kp:=by
 unfold akl at b
 by_cases a:bB f
 ·refine azu a e r hl m o (λq c g j d=>?_) λi x c g j n p=>?_
  ·rw[QO a j]at b;exact b q c g d
  ·rw[abq a j n p]at b;exact b _ c g LD
 ·rw[aqC a]at b;exact azt a e m λc g=>b _ c g LD
structure Kd(h0 h:Hp)(a:Nat)(d:bG):Prop where
 e:∃q:Sl×Sl×Sl,aN h a #[ah d.len,ah d.off,ah d.au,Sl.v q.1,Sl.v q.2.1,Sl.v q.2.2] ck/\eR (λc=>h0.size<=c/\c≠a) (λc=>h0.size<=c/\c≠a) h q d
theorem Kd.put{g:Hp}{q:Sl×Sl×Sl}{K:Addr->HP}(v:eR (Nw g) (Nw g) h q d)(u:∀a h',az h h'->Kd g h' a d->K (aJ a) h'):aI h cX ck λa k=>cL k a d.len d.off d.au q.1 q.2.1 q.2.2 λi=>K a i:=
 aF λa k e1 m p _=>ig p rfl λi j o=>u a i (bI m j ag) ⟨q,o,by
  have n:=(v.lt.gr m).fr (D':=λc=>g.size<=c/\c≠a) (E':=λc=>g.size<=c/\c≠a) j.fr (λc z _ e=>by omega) (λc z _ e=>by omega) (λc z=>⟨z.1,by omega⟩) λc z=>⟨z.1,by omega⟩
  exact n⟩
end
theorem abf{α β:Type}:∀(l:List α){P:Nat->α->β->Prop},(∀(j:Nat)v,l[j]? =some v->∃t,P j v t)->∃a:List β,a.length=l.length/\∀(j:Nat)v t,l[j]? =some v->a[j]? =some t->P j v t
  |[],_,_=>⟨[],rfl,λj v t h=>by simp at h⟩
  | x::l,P,h=>by
    have⟨d,i⟩:=h 0 x rfl;have⟨a,e,g⟩:=abf l λj v f=>h (j+1) v (by simpa using f)
    refine⟨d::a,by simp[e],λj v t c b=>?_⟩
    rcases j with _|j
    ·simp at c b;subst c b;exact i
    ·exact g j v t (by simpa using c) (by simpa using b)
section
variable {u:Sl} {x:aB}
theorem aO.rows(o:aO D h s vs):∃ss:List Sl,ss.length=vs.length/\rd h s.a (s.n*4) (List.zipWith aB.row vs ss).flatten/\∀(j:Nat)v t,vs[j]? =some v->ss[j]? =some t->aO D h t v.items:=by
 have k:=o.n.1
 by_cases e:vs=[]
 ·subst e;refine⟨[],rfl,?_,λj v t h=>by simp at h⟩
  rw[k];cases s.a with
  |none=>rfl
  |some a=>exact⟨rfl,λi v q=>by simp at q⟩
 ·have⟨a,m,_,l⟩:=o.all e;have⟨ss,el,g⟩:=abf vs λj v c=>(l j v c).row;refine⟨ss,el,?_,λj v t f d=>(g j v t f d).2⟩;rw[m];refine apD ag (λr b=>?_) (by rw[m7,el,k];simp) λj r b=>?_
  ·have⟨j,c⟩:=mD.1 b;rw[MA]at c;cases f:vs[j]? <;> cases d:ss[j]? <;> rw[f,d]at c <;> simp at c
   subst c;rfl
  ·rw[MA]at b;cases f:vs[j]? <;> cases d:ss[j]? <;> rw[f,d]at b <;> simp at b
   subst b;exact(g j _ _ f d).1
theorem alH{f:List Value->Prop}{K:Sl->HP}(y:aO D h s vs)(cap:s.c=s.n)(hl:vs.length<=2^40)(B:aO D h u x.items)(k:f (x.row u))(H:∀c,D c->c<h.size)
  (F:∀w m,az h m->aO (λc=>D c\/(h.size<=c/\c<m.size)) m w (vs++[x])->K w m):Ap h dh fY 4 56 s 1 f K:=by
 have A:=y.n.1;have⟨ss,el,p,C⟩:=y.rows;refine⟨x.row u,k,.inr ⟨ag,?_,ag,_,p,λd a e=>?_⟩⟩
 ·have:=oQ 56 (nextslicecap_le_wide (need:=s.n+1) (old:=s.c) ag);omega
 have g:az h (h.push (.cells (((List.zipWith aB.row vs ss).flatten++x.row u).toArray++Builtin.zeroCells fY (d-(s.n+1))) dh (0,0))):=qx h _;have o:(List.zipWith aB.row (vs++[x]) (ss++[u])).flatten=(List.zipWith aB.row vs ss).flatten++x.row u:=by
  rw[CB el.symm,List.flatten_append];simp
 have len:uc 4 (List.zipWith aB.row (vs++[x]) (ss++[u])):=λr E=>by
  have⟨j,l⟩:=mD.1 E;rw[MA]at l;cases a:(vs++[x])[j]? <;> cases e:(ss++[u])[j]? <;> rw[a,e]at l <;> simp at l
  subst l;rfl
 have lf:((List.zipWith aB.row vs ss).flatten++x.row u).length=(s.n+1)*4:=by
  rw[<-o,len.flat,m7];simp[el,A]
 refine F _ _ g (aO.QX ⟨len,?_,rfl,?_,_,by simp only[aN,ID];rfl,a,?_,λi G=>?_⟩ (by simp[el]) (.inr ⟨bX _,aA⟩) λj v t a e=>?_)
 ·simp[el,A]
 ·rw[o,lf]
 ·rw[Array.size_append,ED,lf];simp[Builtin.zeroCells];omega
 ·rw[o,MI (by rw[ED,lf];exact G),pO]
 ·by_cases l:j<vs.length
  ·rw[gN l]at a;rw[gN ag]at e;exact(dU (C j v t a e) g).mo λc z=>.inl z
  ·have q:j=vs.length:=by have:=(de.1 a).1;simp at this;omega
   subst q;rw[fU (bX _)]at a;rw[<-el,fU (bX _)]at e;simp at a e;subst a e;exact(dU B g).mo λc z=>.inl z
end
theorem aob{K:Sl->Prop}(b:aO D h s vs)(g:aO D h ⟨s.a,s.n,s.n⟩ vs->K ⟨s.a,s.n,s.n⟩):jo s 4 none (some (s.n:Int)) (some (s.n:Int)) K:=by
 have d:=b.n;have e:kV s.a 0 s.n 4=s.a:=by unfold kV;split;rfl;cases s.a <;> simp[add_zero']
 refine⟨AA _,by show _<=_;simp,AA _,by show(s.n:Int)<=s.c;omega,?_⟩
 show K ⟨kV s.a 0 (s.n:Int).toNat 4,_,_⟩
 rw[gf,e];exact g (aO.of d.1 (bX _) b.all)
theorem aqB{x:aB}(c:bB f)(g:Good f vs vs.length):(xk f (vs++[x])).2.1=ij f vs x:=by
 have tk:(vs++[x]).take vs.length=vs:=aA
 have d:(vs++[x])[vs.length]? =some x:=aA
 have gv:Good f (vs++[x]) vs.length:=λj y b a=>by
  rw[gN b]at a;rw[Is (Nat.le_of_lt b)];exact g j y b a
 by_cases e:ij f vs x=0
 ·rw[e,QO c];intro j y b a
  by_cases i:j<vs.length
  ·exact gv j y i a
  ·have:j=vs.length:=by simp at b;omega
   subst this;rw[d]at a;cases a;rw[tk];exact e
 ·rw[abq c gv d (by rw[tk];exact e),tk]
theorem auR{x:aB}(g:Good f vs vs.length)(e:ij f vs x=0):Good f (vs++[x]) (vs++[x]).length:=by
 intro j y c a
 by_cases b:j<vs.length
 ·rw[gN b]at a;rw[Is (Nat.le_of_lt b)];exact g j y b a
 ·have:j=vs.length:=by simp at c;omega
  subst this;simp at a;subst a
  simpa using e
structure yL(h:Hp)(D T:aQ)(f:aq)(p:Nat)(vs:aR)(en:Bool)(s:Sl):Prop where
 B:lR f f.kY T h p vs en
 g:Good f vs vs.length
 r:nY vs
 v:aO D h s vs
 d:∀c,D c->¬T c/\c<h.size
section
variable {T:aQ} {p bh be k:Nat} {en:Bool} {u sf:Sl} {x:aB} {K:fB} {hc ec:Array Value}
theorem yL.fr(G:bB f)(m:yL h D T f p vs en s)(t:Tn S h h')(hT:∀c,T c->¬S c)(H:∀c,D c->¬S c):yL h' D T f p vs en s:=
 ⟨m.B.fr (qT f G) t hT,m.g,m.r,aO.fr t (λc z _=>H c z) (λ_ z=>z) _ m.v,λc z=>⟨(m.d c z).1,by have:=(m.d c z).2;have:=t.1;omega⟩⟩
theorem yL.can(c:bB f)(m:yL h D T f p vs en s):f.can vs:=by
 have:=m.g.can (mj f c).1 (bX _);rwa [m5]at this
theorem anA{call M:Int}(j:bB f)(V:f.fN)(ht:mH h0)(hu:iW h0)(g0:az h0 h)(hT:∀c,T c->h0.size<=c)(S:yL h D T f p vs en s)(hf:bM D h sf f.cs)(hx:aO D h u x.items)(hr:x.lU)
    (kh:aN h bh hc yG) (X:hc[k]? =some (Sl.v s)) (ke:aN h be ec Y7) (Y:ec[k]? =some (.bool en)) (nb:¬T bh/\¬T be/\bh≠be/\h0.size<=bh/\h0.size<=be)  (nd:¬D bh/\¬D be)
    (hk:∀D' T' m' i' s' G,az h0 G->(∀c,D c->D' c)->(∀c,D' c->D c\/h.size<=c)->Tn (λc=>T c\/c=bh\/c=be) h G->(∀c,T' c->T c\/h.size<=c)->yL G D' T' f p m' i' s'->aN G bh (hc.setIfInBounds k (Sl.v s')) yG->aN G be (ec.setIfInBounds k (.bool i')) Y7->K true G):Ya (pB p) f.name f.au f.k f.w f.id f.ix sf call M x.au x.num (bs x.text) u (some ⟨bh,k,none⟩) (some ⟨be,k,none⟩) h K Kp:=by
  have C:=qT f j;have L:=S.can j;have n4:=((gj f vs).1 L).n4;have w':=kh.lt;have x':=ke.lt;have lT:=S.B.lt;have b':hc.setIfInBounds k (Sl.v s)=hc:=by
    apply wH;intro i;rw[sF];split
    ·rename_i q;subst q;rw[X,aK (jD.1 X).1]
    ·rfl
  have c':ec.setIfInBounds k (.bool en)=ec:=by
    apply wH;intro i;rw[sF];split
    ·rename_i q;subst q;rw[Y,aK (jD.1 Y).1]
    ·rfl
  -- k' v' new l'
  have same:∀{G:Hp},az h G->K true G:=λ{G}g=>hk D T vs en s G (ak g0 g) (λ_ z=>z) (λ_ z=>.inl z) ((bg (S:=No) g).mono λ_ z _=>z.elim) (λ_ z=>.inl z) (S.fr j (bg g) (λ_ _=>id) λ_ _=>id) (by rw[b'];exact kh.ai g) (by rw[c'];exact ke.ai g)
  refine aFX (aF λa1 h1 e1 g1 k1 _=>aF λa2 N e2 g2 k2 _=>aj k2 rfl ?_);have m:=ak g1 g2;have Z:=S.fr j (bg m) (λ_ _=>id) λ_ _=>id;have cs:∀{hy:Hp},aN hy a2 #[ah call,ah M,.bool x.au,ah x.num,.string _,Sl.v u] VU->Cs hy ⟨a2,2,none⟩ (x.row u):=λkk=>uQ kk λi v hv=>by
    rcases i with _|_|_|_|i
    ·exact hv
    ·exact hv
    ·exact hv
    ·exact hv
    ·simp[aB.row,uu]at hv
  refine bO ?_;refine aG (λc0=>?_) λc0=>aG (λc1=>?_) λc1=>aG (λc2=>?_) λc2=>same m
  · apply gY (cs k2);cases en with
    | true=>
      exact aHw Z.B λR g3=>aj ((ke.ai m).ai g3) Y (bS rfl (same (ak m g3)))
    | false=>
      refine akn C (mj f j).1 (adM f j) j V (ht.k.ai (ak g0 m)) (hu.ai (ak g0 m)) Z.B L hr (dU hx m) (λc z=>(S.d c z).1) λR o B3=>aj (o.aZ (ke.ai m) nb.2.1) Y (bu rfl ?_);have s3:=o.1;have F:=o.aZ (kh.ai m) nb.1;have W:az h0 R:=((bg (ak g0 m):Tn No h0 N).trans' o λc z r'=>by have:=hT c z;omega).ai
      have nT:∀{a:Nat},h.size<=a->¬T a:=λha z=>by have:=lT _ z;omega
      have v3:=aO.fr o (λc z _=>(S.d c z).1) (λ_ z=>z) _ Z.v;have x3:=aO.fr o (λc z _=>(S.d c z).1) (λ_ z=>z) _ (dU hx m);have f3:=bM.fr o (λc z=>(S.d c z).1) (λ_ z=>z) _ (lM hf m);refine aj F X (aj F X (aj F X (aob v3 λo'=>gY (cs (o.aZ k2 (nT ag))) (aF λa4 h4 e4 t k4 _=>bQ F t (bQ F t (bQ F t ?_))))));have s4:=t.1;refine alH (dU o' t) rfl ag (dU x3 t) (iJ k4 rfl) (λc z=>by have:=(S.d c z).2;omega) λs' Q g5 v5=>?_
      have s5:=g5.1;have G5:=ak t g5;refine aCF (dO ((o.aZ (k1.ai g2) (nT ag)).ai G5) (Wk V (Kf λy hy=>(nh.1 hy).elim (Bi S.r y) λz=>by simp at z;subst z;exact hr) cy (bM.h _ (lM f3 G5)) v5 λq h6 E v6=>Kd.put v6 λad h7 J kd=>?_))
      have P:=ak G5 (ak E J);have s7:=(ak E J).1;have oc:=aqB (x:=x) j S.g;have tT:∀c,Tr T N R c->T c\/h.size<=c:=λc z=>z.imp id λz=>ag
      have j':=o.aZ (ke.ai m) nb.2.1;have T7:=((bg m:Tn T h N).trans o).trans (bg P);refine bu (by rw[oc];simp) (cE (λO=>?_) λO=>?_)
      · rw[oc]at O;rw[aK O]at B3;simp only[nH];refine dI (F.ai P) (jD.1 X).1 rfl λh8 I k8=>hk (λc=>D c\/(h4.size<=c/\c<Q.size)) _ (vs++[x]) false s' h8 (bI (ak W P) I nb.2.2.2.1) (λ_ z=>.inl z) (λc z=>z.imp id λz=>ag) ((T7.mono λc z _=>.inl z).trans (I.fr.mono λc z _=>.inr (.inl z))) tT
          ⟨(B3.fr C (bg P) λ_ _=>id).fr C I.fr λc z e=>?_,auR S.g O,Kf λy hy=>(nh.1 hy).elim (Bi S.r y) λz=>by simp at z;subst z;exact hr,aO.fr I.fr (λc z _ e=>?_) (λ_ z=>z) _ (dU v5 (ak E J)),λc z=>⟨λy=>?_,?_⟩⟩ k8 (by rw[c'];exact I.aZ (j'.ai P) (Aq nb.2.2.1))
        ·subst e;rcases z with z|z;exact nb.1 z;omega
        ·subst e;rcases z with z|z;exact nd.1 z;omega
        · rcases z with z|z
          ·rcases y with y|y;exact(S.d c z).1 y;have:=(S.d c z).2;omega
          ·rcases y with y|y;have:=lT c y;omega;omega
        ·have:=I.1;rcases z with z|z;have:=(S.d c z).2;omega;omega
      · rw[oc]at O;rw[aC O]at B3;refine hk D _ vs false s h7 (ak W P) (λ_ z=>z) (λ_ z=>.inl z) (T7.mono λc z _=>.inl z) tT ⟨B3.fr C (bg P) λ_ _=>id,S.g,S.r,dU v3 P,λc z=>⟨λy=>?_,?_⟩⟩ (by rw[b'];exact F.ai P) (by rw[c'];exact j'.ai P)
        ·rcases y with y|y;exact(S.d c z).1 y;have:=(S.d c z).2;omega
        ·have:=(S.d c z).2;omega
  · refine aj (kh.ai m) X (azT C Z.B (IX ?_));have e:((vs.length:Int)==(s.n:Int))=true:=by rw[S.v.n.1];simp
    rw[e];exact same m
  · cases en with
    | true=>
      refine aHh Z.B λR g3=>aF λad h4 e4 t k4 _=>ig k4 rfl λQ A k5=>?_;have G5:=ak m (ak g3 (bI t A ag));exact aj (ke.ai G5) Y (bS rfl (bS rfl (fJ k5 (HF e0 (p:=(Sl.nil,Sl.nil,Sl.nil)) (q:=(Sl.nil,Sl.nil,Sl.nil)) avY (LD (D:=Tt) (E':=Tt)) (LD (D:=Tt) (E':=Tt)) λh6 E=>same (ak G5 E)))))
    | false=>
      refine aka C Z.B L λq R o B3 v3=>aF λad u' e4 g' q' _=>ig q' rfl λh4 o4 p'=>?_;have s3:=o.1;have t:az R h4:=bI g' o4 ag;have n':=(v3.lt.gr g').fr (D':=λc=>N.size<=c) (E':=λc=>N.size<=c) o4.fr (λc z _ e=>ag) (λc z _ e=>ag) (λc z=>z.1) λc z=>z.1
      have s4:=t.1;have hp:T p:=by obtain⟨_,_,_,_,B⟩:=S.B;exact B.tp
      have pe:be≠p:=λe=>nb.2.1 (e▸hp);have ph:bh≠p:=λe=>nb.1 (e▸hp);have t':=lT p hp;have e':=(o.aZ (ke.ai m) pe).ai t;have U:=(o.aZ (kh.ai m) ph).ai t;have a':=(o.aZ (k1.ai g2) (by omega:¬a1=p)).ai t
      have W:az h0 h4:=((bg (ak g0 m):Tn No h0 N).trans' o λc z r'=>by have:=hT c (z▸hp);omega).ai.trans t
      have oS:∀c,D c->¬c=p:=λc z e=>(S.d c z).1 (e▸hp);refine aj e' Y (bu rfl (dI e' (jD.1 Y).1 rfl λQ A k5=>dO (A.aZ a' ag) (aj (A.aZ U nb.2.2.1) X ?_)));have s5:=A.1;have oD:∀c,D c->¬c=be:=λc z e=>nd.2 (e▸z);have v5:aO D Q s vs:=aO.fr A.fr (λc z _=>oD c z) (λ_ z=>z) _ (dU (aO.fr o (λc z _=>oS c z) (λ_ z=>z) _ Z.v) t);have f5:bM D Q sf f.cs:=bM.fr A.fr oD (λ_ z=>z) _ (lM (bM.fr o oS (λ_ z=>z) _ (lM hf m)) t);have B5:=((B3.fr (S:=No) C (bg t) λ_ _=>id).fr C A.fr λc z e=>nb.2.1 (e▸z));have hd:N.size<=ad:=ag;have f':=A.aZ p' (by omega:ad≠be)
      have d':=n'.fr (D':=Tt) (E':=Tt) A.fr (λc(z:N.size<=c)_ e=>ag) (λc(z:N.size<=c)_ e=>ag) (λ_ _=>trivial) λ_ _=>trivial
      have fin:∀{G:Hp},az Q G->K true G:=λ{G}g=>by
        refine hk D T vs true s G (ak (bI W A nb.2.2.2.2) g) (λ_ z=>z) (λ_ z=>.inl z) ?_ (λ_ z=>.inl z) ⟨B5.fr (S:=No) C (bg g) λ_ _=>id,S.g,S.r,dU v5 g,λc z=>⟨(S.d c z).1,?_⟩⟩ (by rw[b'];exact(A.aZ U nb.2.2.1).ai g) (k5.ai g)
        ·exact((((bg m:Tn (λc=>T c\/c=bh\/c=be) h N).trans (o.mono λc z _=>.inl (z▸hp))).trans (bg t)).trans (A.fr.mono λc z _=>.inr (.inr z))).trans (bg g)
        ·have:=(S.d c z).2;have:=g.1;omega
      have oc:xk f vs=(f.dn (f.st vs),0,0):=QO j S.g;refine⟨Wk (l:=vs) V S.r ag (bM.h _ f5) v5 ?_,aF λax h6 e6 E k6 _=>bQ (A.aZ U nb.2.2.1) E (bQ (A.aZ a' ag) E (Wk (l:=vs) V S.r ag (bM.h _ (lM f5 E)) (dU v5 E) ?_))⟩
      ·rw[oc];intro w h6 E v6;have s6:=E.1;refine aF λax h7 e7 J k7 _=>bQ ((A.aZ U nb.2.2.1).ai E) J (bQ ((A.aZ a' ag).ai E) J (ig k7 rfl λh8 I k8=>bS rfl ?_));have H:az Q h8:=bI (ak E J) I ag;refine fJ (f'.ai H) (fJ k8 (HF _ (Uc f j _) (p:=q) (q:=w) (d'.gr H) ((v6.lt.gr J).fr (D':=Tt) (E':=Tt) I.fr (λc z _ e=>ag) (λc z _ e=>ag) (λ_ _=>trivial) λ_ _=>trivial) λh9 g9=>fin (ak H g9)))
      ·rw[oc];intro w h7 J v7;have s6:=E.1;have y':=k6.lt;refine ig (k6.ai J) rfl λh8 I k8=>bS rfl ?_;have H:az Q h8:=bI (ak E J) I ag;exact fJ (f'.ai H) (fJ k8 (HF _ (Uc f j _) (p:=q) (q:=w) (d'.gr H) (v7.fr (D':=Tt) (E':=Tt) I.fr (λc(z:h6.size<=c)_ e=>ag) (λc(z:h6.size<=c)_ e=>ag) (λ_ _=>trivial) λ_ _=>trivial) λh9 g9=>fin (ak H g9)))
end
structure oq where
 f:aq
 p:Nat
 T:Nat->Prop
 vs:List aB
 en:Bool
 s:Sl
structure Fz(h0 h:Hp)(D:aQ)(bh be:Nat)(L:List oq):Prop where
 g:az h0 h
 m:∀(i:Nat)m,L[i]? =some m->bB m.f/\m.f.fN/\yL h D m.T m.f m.p m.vs m.en m.s/\(∀c,m.T c->h0.size<=c)/\¬m.T bh/\¬m.T be
 ap:∀(i j:Nat)m m',L[i]? =some m->L[j]? =some m'->i≠j->∀c,m.T c->¬m'.T c
 hb:aN h bh (L.map λm=>Sl.v m.s).toArray yG
 eb:aN h be (L.map λm=>Value.bool m.en).toArray Y7
 n:¬D bh/\¬D be/\bh≠be/\h0.size<=bh/\h0.size<=be
structure vk where
 call:Int
 which:Int
 v:aB
def vk.row(t:vk)(u:Sl):List Value:=[ah t.call,ah t.which,.bool t.v.au,ah t.v.num,.string (bs t.v.text),Sl.v u]
def tY(D:aQ)(h:Hp)(s:Sl)(l:List vk):Prop:=s.n=l.length/\(∀t∈l,t.v.lU)/\(l≠[]->∃a,s.a=some a/\D a.block/\∀(j:Nat)t,l[j]? =some t->∃u,Cs h (a.add (j*6)) (t.row u)/\aO D h u t.v.items)
section
variable {D' T':aQ} {bh be k:Nat} {L:List oq} {A B C E F sf:Sl} {K:fB} {l:List vk}
theorem tY.fr(v:tY D h s l)(t:Tn S h h')(H:∀c,D c->¬S c)(G:∀c,D c->D' c):tY D' h' s l:=by
 have⟨n,m,i⟩:=v;refine⟨n,m,λne=>?_⟩;have⟨a,g,b,e⟩:=i ne;refine⟨a,g,G _ b,λj d f=>?_⟩;have⟨u,c,w⟩:=e j d f;exact⟨u,c.fr t (by rw[CG];exact H _ b),aO.fr t (λc z _=>H c z) G _ w⟩
theorem tY.ix(v:tY D h s l){x:Int}{i:Nat}(G:x=(i:Int)){t:vk}(z:l[i]? =some t){K:Addr->Prop}(H:∀a u,Cs h a (t.row u)->aO D h u t.v.items->K a):Ix s.a s.n 6 x K:=by
 have b:=(de.1 z).1;have⟨m,j,g⟩:=v;have⟨a,f,_,d⟩:=g (by intro e;rw[e]at b;simp at b)
 have⟨u,c,w⟩:=d i t z;subst G;rw[f];exact⟨ag,ag,by rw[gf];exact H _ _ c w⟩
theorem Fz.put{b:Nat}{T:aQ}{X:aR}{en G:Bool}{u:Sl}(F:Fz h0 h D bh be L)(I:L[k]? =some ⟨f,b,T,vs,en,s⟩)(g:az h0 h')(hD:∀c,D c->D' c)(w:∀c,D' c->D c\/h.size<=c)(t:Tn (λc=>T c\/c=bh\/c=be) h h')
  (hT:∀c,T' c->T c\/h.size<=c) (H:yL h' D' T' f b X G u) (k1:aN h' bh ((L.map λm=>Sl.v m.s).toArray.setIfInBounds k (Sl.v u)) yG) (Z:aN h' be ((L.map λm=>Value.bool m.en).toArray.setIfInBounds k (.bool G)) Y7):Fz h0 h' D' bh be (L.set k ⟨f,b,T',X,G,u⟩):=by
 have J:=(de.1 I).1;have⟨N,M,mS,mT,O,P⟩:=F.m k _ I;have a':=F.hb.lt;have b':=F.eb.lt;have n:=F.n;refine⟨g,λi m a=>?_,λi j m m2 a o ne c=>?_,?_,?_,⟨λz=>?_,λz=>?_,n.2.2⟩⟩
 ·by_cases e:i=k
  ·subst e;rw[yC J]at a;cases a;exact⟨N,M,H,λc z=>(hT c z).elim (mT c) λz=>ag,λz=>(hT _ z).elim O λz=>ag,λz=>(hT _ z).elim P λz=>ag⟩
  ·rw[yB ag]at a;have⟨U,W,x,V,R,Q⟩:=F.m i m a;have Y:∀c,D c->¬(T c\/c=bh\/c=be):=λc z y=>by
    rcases y with y|y|y
    ·exact(mS.d c z).1 y
    ·exact n.1 (y▸z)
    ·exact n.2.1 (y▸z)
   refine⟨U,W,⟨x.B.fr (qT _ U) t λc z y=>?_,x.g,x.r,aO.fr t (λc z _=>Y c z) hD _ x.v,λc z=>⟨λy=>?_,(H.d c z).2⟩⟩,V,R,Q⟩
   ·rcases y with y|y|y
    ·exact F.ap i k _ _ a I e c z y
    ·exact R (y▸z)
    ·exact Q (y▸z)
   ·rcases w c z with z|z
    ·exact(x.d c z).1 y
    ·have:=x.B.lt c y;omega
 ·have q:=F.ap
  by_cases e:i=k
  ·subst e;rw[yC J]at a;cases a;rw[yB ag]at o;intro z y;rcases hT c z with z|z
   ·exact q i j _ _ I o ne c z y
   ·have:=(F.m j _ o).2.2.1.B.lt c y;omega
  ·rw[yB ag]at a
   by_cases e2:j=k
   ·subst e2;rw[yC J]at o;cases o;intro z y;rcases hT c y with y|y
    ·exact q i j _ _ a I ne c z y
    ·have:=(F.m i _ a).2.2.1.B.lt c z;omega
   ·rw[yB ag]at o;exact q i j _ _ a o ne c
 ·rw[Ct];simpa using k1
 ·rw[Ct];simpa using Z
 ·rcases w _ z with z|z;exact n.1 z;omega
 ·rcases w _ z with z|z;exact n.2.1 z;omega
theorem aoI(ht:mH h0)(hu:iW h0)(F:Fz h0 h D bh be L)(Q:eD D h A (L.map λm=>oJ m.p))(hB:bM D h B (L.map oq.f))(G:tY D h E l)(ll:l.length<=9223372036854775807)(hL:L.length<=4096)(hk:∀h',az h0 h'->K true h'):WE K Kp A B ⟨some (aJ bh),L.length,L.length⟩ ⟨some (aJ be),L.length,L.length⟩ E (E.n:Int) 0 h:=by
 have en:=G.1;refine aAU (λx h'=>∃(i:Nat)(D':aQ)(R:List oq),x=i/\i<=l.length/\Fz h0 h' D' bh be R/\R.length=L.length/\R.map oq.p=L.map oq.p/\R.map oq.f=L.map oq.f/\eD D' h' A (L.map λm=>oJ m.p)/\bM D' h' B (L.map oq.f)/\tY D' h' E l) (λx _=>l.length-x.toNat)
  ⟨0,D,L,rfl,eu _,F,rfl,rfl,rfl,Q,hB,G⟩ ?_
 rintro x h1 ⟨i,I,q,rfl,hi,F1,n1,X,f1,Q,hB,G⟩ N hN;refine aG (λcc=>?_) λcc=>?_
 ·have cc:=aS cc;have d':i<l.length:=ag;have Z:=bJ d';generalize l[i]=st at Z;refine G.ix rfl Z λa u cu b'=>yR.c cu (aF λa2 h2 e2 g2 k2 _=>CR.b k2 rfl λH o3 P=>aj P rfl ?_);have r:=bI g2 o3 ag;have F3:Fz h0 H I bh be q:=⟨ak F1.g r,λi m hi=>by
   have⟨O,W,M,V,U⟩:=F1.m i m hi;exact⟨O,W,M.fr O (bg r) (λ_ _=>id) λ_ _=>id,V,U⟩,F1.ap,F1.hb.ai r,F1.eb.ai r,F1.n⟩
  have A3:=Q.gr r;have B3:=lM hB r;have E3:=G.fr (bg r) (λ_ _=>id) λ_ z=>z;have An:A.n=L.length:=by rw[Q.1.1,cr]
  have go:N (DS A B ⟨some ⟨bh,0,none⟩,L.length,L.length⟩ ⟨some ⟨be,0,none⟩,L.length,L.length⟩ E (E.n:Int) ((i:Int)+1)) H:=hN _ _ ⟨i+1,I,q,aA,ag,F3,n1,X,f1,A3,B3,E3⟩ ag
  refine aG (λc1=>aX ag ag go) λc1=>aj P rfl (aG (λc2=>aX ag ag go) λc2=>?_);simp only[sm,reduceCtorEq]at c1 c2;obtain⟨k,ek⟩:∃k:Nat,st.which=k:=⟨st.which.toNat,ag⟩
  have w:k<q.length:=ag;have o:=bJ w;generalize q[k]=m at o;have⟨f,p,T,vs,i',s⟩:=m;have⟨O,W,M,V,U,q6⟩:=F3.m k _ o;have e':(L.map oq.f)[k]? =some f:=by rw[<-f1,eY,o];rfl
  have c':(L.map λm=>oJ m.p)[k]? =some (oJ p):=by
   have:(L.map oq.p)[k]? =some p:=by rw[<-X,eY,o];rfl
   rw[eY]at this ⊢;cases hl:L[k]? with
   |none=>rw[hl]at this;cases this
   |some m=>rw[hl]at this;simp at this;simp[this]
  refine aCV (aj P rfl ?_);rw[ek];refine A3.1.ix ag ag (by rw[gf];exact c') λa5 c5=>⟨_,c5,B3.ix rfl e' λa6 u6 c6 d6=>gH c6 (yR.b P ⟨ag,by show(k:Int)<L.length;omega,⟨ag,by show(k:Int)<L.length;omega,?_⟩⟩)⟩
  rw[gf,vi,bz,bz,cF];have eh:((q.map λm=>Sl.v m.s).toArray)[k]? =some (Sl.v s):=by rw[pO,eY,o];rfl
  have ee:((q.map λm=>Value.bool m.en).toArray)[k]? =some (Value.bool i'):=by rw[pO,eY,o];rfl
  refine anA O W ht hu F3.g V M d6 (dU b' r) (G.2.1 st (bT Z)) F3.hb eh F3.eb ee ⟨U,q6,F3.n.2.2⟩ ⟨F3.n.1,F3.n.2.1⟩ λD' T' a' f' s' h' g' J w2 t w3 m' w4 w5=>bu rfl (aX ag ag ?_);have Y:∀c,I c->¬(T c\/c=bh\/c=be):=λc z y=>by
   rcases y with y|y|y
   ·exact(M.d c z).1 y
   ·exact F3.n.1 (y▸z)
   ·exact F3.n.2.1 (y▸z)
  refine hN _ _ ⟨i+1,D',q.set k ⟨f,p,T',a',f',s'⟩,aA,ag,F3.put o g' J w2 t w3 m' w4 w5,by rw[Ay];exact n1,?_,?_,A3.fr t (λc z _=>Y c z) J,bM.fr t Y J _ B3,E3.fr t Y J⟩ ag
  ·rw[Ct,<-X];apply qz;intro j;rw[vh];split
   ·rename_i e;subst e;rw[eY,o];simp[w]
   ·rfl
  ·rw[Ct,<-f1];apply qz;intro j;rw[vh];split
   ·rename_i e;subst e;rw[eY,o];simp[w]
   ·rfl
 ·exact hk h1 F1.g
end
theorem agD{z:Value}{bytes n:Nat}{x:Int}{K:Sl->HP}(a:x=(n:Int))(h1:bytes*n<=2^48)(c:n<2^63)
  (b:∀h',az h h'->aN h' h.size (List.replicate n z).toArray el->K ⟨some (aJ h.size),n,n⟩ h'):Go.Sh.dP h el #[z] 1 bytes x x K:=by
 subst a;refine⟨by omega,AA _,by exact_mod_cast h1,by omega,?_⟩
 rw[gf];apply b _ (qx h _);simp only[aN,ID,vi]
 congr 2
 apply wH;intro i;have e:=Zc z n;rw[vi]at e;rw[e];simp
theorem eW.frA{m:Nat}{rows:List (List Value)}(o:eW m i h s rows el)(f:Tn S h h')(a:∀c,s.at c->¬S c):eW m i h' s rows el:=by
 refine⟨o.len,o.n,?_⟩;rcases o.sh with e|⟨b,h1,d,w⟩
 ·exact .inl e
 ·exact .inr ⟨b,h1,by have:=f.1;omega,w.fr f (a b ⟨_,w.1,rfl⟩)⟩
structure AV(h1 h:Hp)(A B:Sl)(L:List oq)(us:List Sl):Prop where
 g:az h1 h
 a:eW h1.size 1 h A (L.map λm=>[oJ m.p]) IJ
 b:eW h1.size 7 h B (List.zipWith aq.row (L.map oq.f) us) gO
 n:us.length=L.length
 u:∀(i:Nat)f u,(L.map oq.f)[i]? =some f->us[i]? =some u->bM (λc=>c<h1.size) h u f.cs
 m:∀(i:Nat)m,L[i]? =some m->m.vs=[]/\m.en=false/\m.s=Sl.nil/\bB m.f/\m.f.fN/\lR m.f m.f.kY m.T h m.p [] false/\∀c,m.T c->h1.size<=c/\¬A.at c/\¬B.at c
 ap:∀(i j:Nat)m m',L[i]? =some m->L[j]? =some m'->i≠j->∀c,m.T c->¬m'.T c
 ab:∀c,A.at c->¬B.at c
section
variable {h1:Hp} {bh be k p:Nat} {L:List oq} {us:List Sl} {A B C E F sf u:Sl} {K:fB} {l:List vk} {fs:cN} {T:aQ}
theorem AV.gr(G:AV h1 h A B L us)(g:az h h'):AV h1 h' A B L us:=⟨ak G.g g,G.a.ai g,G.b.ai g,G.n,λi f u a b=>lM (G.u i f u a b) g,λi m v=>by
 have⟨r,q,o,c,j,e,d⟩:=G.m i m v;exact⟨r,q,o,c,j,e.fr (qT _ c) (bg g) λ_ _=>id,d⟩,G.ap,G.ab⟩
theorem AV.add{H J:Hp}{S R:Sl}(G:AV h1 h A B L us)(ok:bB f)(Z:f.fN)(Bl:lR f f.kY T h p [] false)(hT:∀c,T c->h1.size<=c/\¬A.at c/\¬B.at c)(M:∀(i:Nat)m,L[i]? =some m->∀c,T c->¬m.T c)(hu:bM (λc=>c<h1.size) h u f.cs)
  (V:Tn A.at h H) (a2:∀c,S.at c->A.at c\/h.size<=c) (o2:eW h1.size 1 H S (L.map (λm=>[oJ m.p])++[[oJ p]]) IJ)
  (O:Tn B.at H J) (b3:∀c,R.at c->B.at c\/H.size<=c) (o3:eW h1.size 7 J R (List.zipWith aq.row (L.map oq.f) us++[f.row u]) gO):AV h1 J S R (L++[⟨f,p,T,[],false,Sl.nil⟩]) (us++[u]):=by
 have s2:=V.1;have v:∀{c},c<h1.size->¬A.at c/\¬B.at c:=λX=>⟨λz=>by have:=G.a.at z;omega,λz=>by have:=G.b.at z;omega⟩
 have g3:=(((bg G.g:Tn No h1 h).trans' V λc z I=>absurd z (v I).1).trans' O λc z I=>absurd z (v I).2).ai;have Y:Tn (λc=>A.at c\/B.at c) h J:=(V.mono λc z _=>.inl z).trans (O.mono λc z _=>.inr z);have N:∀c,S.at c->¬B.at c:=λc z y=>by
  rcases a2 c z with z|z
  ·exact G.ab c z y
  ·have:=(G.b.at y).2;omega
 refine⟨g3,?_,?_,by simp[G.n],λi g w e r=>?_,λi m d=>?_,λi j m m' d o ne c z y=>?_,λc z y=>?_⟩
 ·rw[kq];exact eW.frA o2 O N
 ·rw[kq,CB (by simp[G.n])];simpa using o3
 ·have nd:∀c,c<h1.size->¬(A.at c\/B.at c):=λc X z=>z.elim (v X).1 (v X).2;rw[kq]at e
  by_cases o:i<L.length
  ·rw[gN (by simpa using o)]at e
   rw[gN (by have:=G.n;omega)]at r
   exact bM.fr Y nd (λ_ z=>z) _ (G.u i g w e r)
  ·have q:i=L.length:=by have:=(de.1 e).1;simp at this;omega
   subst q;rw[fU aA]at e;rw[fU (by have:=G.n;omega)]at r
   simp[G.n]at e r;subst e r;exact bM.fr Y nd (λ_ z=>z) _ hu
 ·have fin:∀{f p T},bB f->lR f f.kY T h p [] false->(∀c,T c->h1.size<=c/\¬A.at c/\¬B.at c)->lR f f.kY T J p [] false/\∀c,T c->h1.size<=c/\¬S.at c/\¬R.at c:=λW P x=>by
   have lt:=P.lt;refine⟨P.fr (qT _ W) Y λc z y=>y.elim (x c z).2.1 (x c z).2.2,λc z=>⟨(x c z).1,λy=>?_,λy=>?_⟩⟩
   ·rcases a2 c y with y|y;exact(x c z).2.1 y;have:=lt c z;omega
   ·rcases b3 c y with y|y;exact(x c z).2.2 y;have:=lt c z;omega
  by_cases o:i<L.length
  ·rw[gN o]at d;have⟨W,P,x,q4,q5,q6,q7⟩:=G.m i m d;have⟨U,Q⟩:=fin q4 q6 q7;exact⟨W,P,x,q4,q5,U,Q⟩
  ·have q:i=L.length:=by have:=(de.1 d).1;simp at this;omega
   subst q;rw[fU (bX _)]at d;simp at d;subst d;obtain⟨U,Q⟩:=fin ok Bl hT;exact⟨rfl,rfl,rfl,ok,Z,U,Q⟩
 ·have key:∀{i:Nat}{m},(L++[⟨f,p,T,[],false,Sl.nil⟩])[i]? =some m->(i<L.length/\L[i]? =some m)\/(i=L.length/\m=⟨f,p,T,[],false,Sl.nil⟩):=λ{i m}d=>by
   by_cases o:i<L.length
   ·rw[gN o]at d;exact .inl ⟨o,d⟩
   ·have q:i=L.length:=by have:=(de.1 d).1;simp at this;omega
    subst q;rw[fU (bX _)]at d;simp at d;exact .inr ⟨rfl,d.symm⟩
  rcases key d with⟨_,d⟩|⟨ei,rfl⟩ <;> rcases key o with⟨_,o⟩|⟨ej,rfl⟩
  ·exact G.ap i j m m' d o ne c z y
  ·exact M i m d c y z
  ·exact M j m' o c z y
  ·omega
 ·rcases b3 c y with y|y
  ·exact N c z y
  ·have:=(o2.at z).2;omega
end
section
variable {h1:Hp} {bh be k p:Nat} {L:List oq} {us:List Sl} {A B C E F sf u:Sl} {K:fB} {l:List vk} {fs:cN} {T:aQ}
theorem ar1(ht:mH h1)(hu:iW h1)(G:AV h1 h A B L us)(hL:L.length<=8)(hE:tY (λc=>c<h1.size) h E l)(ll:l.length<=9223372036854775807)(hk:∀h',az h1 h'->K true h'):I5 K Kp E A B h:=by
 have I:=G.a.n;have N:=G.b.n;have O:=G.n;rw[cr]at I;rw[m7,cr,O,Ax]at N;have s0:=G.g.1;refine aCW (agD (by rw[I]) ag ag λh2 V Q=>agD (by rw[I]) ag ag λh3 M P=>?_)
 have b':=Q.lt;have a':=P.lt;have W:=ak V M;have H:=G.gr W;have old:∀{c},c<h1.size->c<h.size/\∀m∈L,¬m.T c:=λ{c}hc=>⟨by omega,λm o z=>by
  have⟨i,d⟩:=mD.1 o;have:=((G.m i m d).2.2.2.2.2.2 c z).1;omega⟩
 have lt:∀{i:Nat}{m},L[i]? =some m->∀c,m.T c->c<h.size:=λd=>(G.m _ _ d).2.2.2.2.2.1.lt;have aD:∀c,A.at c->c<h.size/\∀m∈L,¬m.T c:=λc z=>⟨(G.a.at z).2,λm o y=>by
  have⟨i,d⟩:=mD.1 o;exact((G.m i m d).2.2.2.2.2.2 c y).2.1 z⟩
 have bD:∀c,B.at c->c<h.size/\∀m∈L,¬m.T c:=λc z=>⟨(G.b.at z).2,λm o y=>by
  have⟨i,d⟩:=mD.1 o;exact((G.m i m d).2.2.2.2.2.2 c y).2.2 z⟩
 refine aoI ht hu ⟨H.g,λi m d=>?_,G.ap,?_,?_,⟨λz=>by omega,λz=>by omega,by omega,by omega,by omega⟩⟩ ⟨⟨?_,G.a.cap,λx R=>?_⟩,λne a ha=>aD _ ⟨a,ha,rfl⟩⟩ ?_ (hE.fr (S:=No) (bg W) (λ_ _=>id) λc z=>old z) ll ag hk
 ·have⟨q,J,q3,q4,Z,Y,X⟩:=H.m i m d;refine⟨q4,Z,⟨by rw[q,J];exact Y,by rw[q];exact λj x hj=>absurd hj aA,by rw[q];trivial,by rw[q,q3];exact pL _,λc z=>⟨z.2 m (bT d),by omega⟩⟩,λc z=>(X c z).1,λz=>?_,λz=>?_⟩
  ·have:=lt d _ z;omega
  ·have:=lt d _ z;omega
 ·have e:L.map (λm=>Sl.v m.s)=List.replicate L.length (.slice none 0 0):=by
   rw[List.eq_replicate_iff];refine⟨by simp,λb w=>?_⟩
   obtain⟨m,o,rfl⟩:=kZ.1 w;have⟨i,d⟩:=mD.1 o;rw[(G.m i m d).2.2.1];rfl
  rw[e];exact Q.ai M
 ·have e:L.map (λm=>Value.bool m.en)=List.replicate L.length (.bool false):=by
   rw[List.eq_replicate_iff];refine⟨by simp,λb w=>?_⟩
   obtain⟨m,o,rfl⟩:=kZ.1 w;obtain⟨i,d⟩:=mD.1 o;rw[(G.m i m d).2.1]
  rw[e];exact P
 ·rw[cr];exact I
 ·rcases H.a.cases with⟨e,_⟩|⟨b,w,r⟩
  ·rw[e]at R;cases R
  ·refine⟨_,r.own.1,uQ r.own.2.2.choose_spec.1 λi v U=>?_⟩;have:=r.own.2.2.choose_spec.2.2.2 i (by have:=(de.1 U).1;simp at this;omega)
   rw[cF,this];have e:(L.map λm=>[oJ m.p]).flatten=L.map λm=>oJ m.p:=by rw[<-U1];exact adA L _
   rw[e];exact U
 ·rcases H.b.cases with⟨e,z⟩|⟨b,w,r⟩
  ·have:L=[]:=uZ (by rw[e]at N;exact N.symm)
   subst this;rw[e];unfold bM;exact⟨rfl,bX _⟩
  ·exact bM.of r (by rw[cr];exact O) (bD b ⟨_,r.own.1,rfl⟩) λj f u q J=>bM.fr (S:=No) (iV _ _) (λ_ _=>id) (λc z=>old z) _ (H.u j f u q J)
theorem asD(c':∀f∈fs,f.fN)(W:bM Tt h sf fs)(hE:tY Tt h E l)(ll:l.length<=9223372036854775807)(lf:fs.length<=9223372036854775807)(R:mH h)(hu:iW h)(hk:∀h',az h h'->K true h'):Ye sf E h K Kp:=by
 have sn:sf.n=fs.length:=(cH.n (bM.h _ W)).1;have first:∀{h':Hp},az h h'->NQ K Kp sf E h':=by
  intro h1 I;refine aCX (ayU (R.ai I) (hu.ai I) λU g2=>bu rfl (aF λa3 h3 e3 g3 k3 _=>aF λa4 h4 e4 g4 k4 _=>?_));have M:=ak I g2;have G4:=ak g3 g4;refine aAT (λA B x h'=>∃(j:Nat)(L:List oq)(us:List Sl),x=j/\j<=fs.length/\j<=8/\L.length<=j/\AV U h' A B L us) (λ_ _ x _=>fs.length-x.toNat) ⟨0,[],[],rfl,eu _,eu _,bX _,
   ⟨G4,eW.start (k3.ai g4) ag,eW.start k4 ag,rfl,λi f u q=>by simp at q,λi m q=>by simp at q,λi j m m' q=>by simp at q,λc z y=>?_⟩⟩ ?_
  ·obtain⟨a,ha,rfl⟩:=z;have⟨b,hb,e⟩:=y;cases ha;cases hb;have:a4=a3:=e;omega
  rintro A B x X ⟨j,L,us,rfl,hj,h8,hL,G⟩ N hN;have s5:=G.g.1;have G5:=ak M G.g;have E2:tY (λc=>c<U.size) U E l:=by
   have⟨q1,q2,q3⟩:=hE;refine⟨q1,q2,λne=>?_⟩;have⟨a,ha,_,W⟩:=q3 ne;have al:a.block<U.size:=by
    obtain⟨t,R⟩:∃t,l[0]? =some t:=⟨_,bJ (Mv.2 ne)⟩;have⟨u,c,_⟩:=W 0 t R;have:=Cs.lt c;rw[CG]at this;have:=M.1;omega
   refine⟨a,ha,al,λj t hj=>?_⟩;have⟨u,c,w⟩:=W j t hj;exact⟨u,c.fr (S:=No) (bg M) id,(dU (aO.lt _ w) M).mo λc z=>by have:=M.1;omega⟩
  have fin:∀{h'},az X h'->I5 K Kp E A B h':=λ{h'}g=>ar1 (R.ai M) (hu.ai M) (G.gr g) ag (E2.fr (S:=No) (bg (ak G.g g)) (λ_ _=>id) λ_ z=>z) ll λh6 g6=>hk h6 (ak M g6);refine aG (λcc=>?_) λcc=>fin (cQ _);have cc:=aS cc;have a':j<fs.length:=ag;have V:fs[j]? =some fs[j]:=bJ a';generalize fs[j]=f at V;have o:=c' f (bT V);have f2:bM (λc=>c<U.size) X sf fs:=bM.fr (S:=No) (bg G.g) (λ_ _=>id) (λc z=>z.2) _ (bM.lt _ (lM W M));refine f2.ix rfl V λa u cu J=>gH cu (aF λa6 h6 e6 g6 k6 _=>oO k6 rfl λh7 o7 k7=>?_);have s6:=g6.1;have y':=k6.lt;have Y:az X h7:=bI g6 o7 ag;have s7:=Y.1;have r':=o7.1;refine aG (λc8=>fin Y) λc8=>dO k7 ?_;have c8:=aS c8;have u7:=lM J Y;have next:∀{h'},az X h'->N (Gw E sf (sf.n:Int) A B ((j:Int)+1)) h':=λ{h'}g=>hN _ _ _ _ ⟨j+1,L,us,by simp,by omega,by omega,by omega,G.gr g⟩ ag
  by_cases d:bB f
  ·refine Wm (qT f d) (KG f d o) d o (R.k.ai (ak G5 Y)) (bM.h _ u7) λp h8 O B8=>dO (k7.ai O) (Kg (bM.h _ (lM u7 O)) o λb h9 g9 hb=>?_);obtain rfl:b=true:=hb.2 d;have s8:=O.1;have s9:=g9.1;refine bu rfl (bu rfl (bu rfl (aF λa10 k' x' Q j' _=>?_)));have q':=Q.1;have d':az X k':=ak (ak Y O) (ak g9 Q);have Z:=G.gr d';have An:=Z.a.n;have Bn:=Z.b.n;rw[cr]at An;rw[m7,cr,G.n,Ax]at Bn;refine Z.a.ap (by have:=Z.g.1;omega) rfl (new:=[[oJ p]]) rfl (λr H=>by simp at H;subst H;rfl) (λr H=>by simp at H;subst H;intro v hv;simp at hv;subst hv;rfl) (iJ j' rfl) ag ag λA' u' P n' g'=>?_
   have p':=P.1;have al:∀c,A.at c->c<X.size:=λc z=>(G.a.at z).2;have bl:∀c,B.at c->c<X.size:=λc z=>(G.b.at z).2;refine dO (P.aZ (((k7.ai O).ai g9).ai Q) λz=>by have:=al _ z;omega) (aF λa12 t' w' b' i' _=>?_)
   have o':=b'.1;have ob:=(eW.frA Z.b P λc z y=>G.ab c y z).ai b';refine ob.ap (by have:=Z.g.1;omega) rfl (new:=[f.row u]) rfl (λr H=>by simp at H;subst H;rfl) (λr H=>by simp at H;subst H;exact row_one f u) (by simpa[aq.row,nU]using iJ i' rfl) ag ag λB' s' e' l' f'=>aX ag ag (hN _ _ _ _ ⟨j+1,_,_,by simp,by omega,by omega,?_,Z.add (T:=λc=>h7.size<=c/\c<h8.size) d o (B8.fr (S:=No) (qT f d) (bg (ak g9 Q)) λ_ _=>id) (λc z=>⟨by omega,λy=>by have:=al c y;omega,λy=>by have:=bl c y;omega⟩) (λi m hi c z y=>by have:=(G.m i m hi).2.2.2.2.2.1.lt c y;omega) (lM J d') P n' g' ((bg b').trans e') (λc z=>(l' c z).imp id λz=>by omega) f'⟩ ag)
   simp;omega
  ·refine agC d o (R.k.ai (ak G5 Y)) (bM.h _ u7) λh8 O=>dO (k7.ai O) (Kg (bM.h _ (lM u7 O)) o λb h9 g9 hb=>?_);obtain rfl:b=false:=by
    cases b
    ·rfl
    ·exact absurd (hb.1 rfl) d
   exact bS rfl (bu rfl (bu rfl (aX ag ag (next (ak Y (ak O g9))))))
 refine aF3 (aAS (λx h'=>∃j:Nat,x=j/\j<=fs.length/\az h h') (λx _=>fs.length-x.toNat) ⟨0,rfl,eu _,cQ _⟩ ?_);rintro x h1 ⟨j,rfl,hj,I⟩ N hN;refine aG (λcc=>aG (λc8=>?_) λc8=>first I) λcc=>first I;simp only[sm,reduceCtorEq]at cc c8;have a':j<fs.length:=ag;have V:fs[j]? =some fs[j]:=bJ a';generalize fs[j]=f at V;have o:=c' f (bT V);refine aCU ((lM W I).ix rfl V λa u cu J=>gH cu ?_)
 by_cases d:bB f
 ·exact Wm (qT f d) (KG f d o) d o (R.k.ai I) (bM.h _ J) λp U g2 _=>bu rfl (aX ag ag (hN _ _ ⟨j+1,by simp,by omega,ak I g2⟩ ag))
 ·exact agC d o (R.k.ai I) (bM.h _ J) λU g2=>bu rfl (aX ag ag (hN _ _ ⟨j+1,by simp,by omega,ak I g2⟩ ag))
end
open Go Go.Sh Go.ChangeShapes Go.WideShapes
theorem ZA:aE.underlying 23=some (.slice 41):=by kernel_rfl
theorem al2:aE.underlying 41=some (.struct (xH 41)):=by kernel_rfl
theorem aw4:gl 41 0 3 0:=by unfold gl;kernel_rfl
theorem aw3:gl 41 1 3 1:=by unfold gl;kernel_rfl
theorem aw2:gl 41 2 39 2:=by unfold gl;kernel_rfl
theorem aee:aE.cellsOf 41=6:=by kernel_rfl
theorem hY.mem:∀{b:cN},hY b->∀f∈b,f.fN
  |[],_,_,h=>by simp at h
  | g::b,a,f,h=>by
    unfold hY at a;rcases mE.1 h with rfl|h
    ·exact a.1
    ·exact hY.mem a.2 f h
section
variable {H:Type} {enc:TypeId×Value->H} {W:World} {fuel:Nat} {cs:bq} {x:DataW H×List MemPlace}
theorem apC(h:Rd enc W fuel 41 cs x):∃(t:vk)(u:Sl),cs=t.row u/\aO Tt (aU W) u t.v.items/\t.v.lU:=by
 obtain⟨A,rfl,d,c⟩:=Kj al2 h;rw[aee]at d;obtain⟨v0,z,y,w,s,r,rfl⟩:=asg d;have⟨q,g⟩:=c 0 _ _ aw4;have⟨p,f⟩:=c 1 _ _ aw3;have⟨o,e⟩:=c 2 _ _ aw2;have⟨call,e0,_⟩:=DA g;have⟨a,e1,_⟩:=DA f;have⟨v,u,b,j,i⟩:=aaR (λm _=>apA m) e;simp[Uh,Uf,aB.row,uu]at e0 e1 b;have⟨b,n,l,k⟩:=b;subst e0 e1 b n l k;exact⟨⟨call,a,v⟩,u,rfl,j,i⟩
theorem apB(h:Rd enc W fuel 23 cs x):∃(s:Sl)(l:List vk),cs=[s.v]/\tY Tt (aU W) s l/\l.length<=jO:=by
 obtain⟨s,n,rfl,rfl,B,A,e⟩:=Qn ZA h;obtain⟨l,hl,b⟩:=KJ (Q:=λi(t:vk)=>(∃a,s.a=some a/\∃u,Cs (aU W) (a.add (i*6)) (t.row u)/\aO Tt (aU W) u t.v.items)/\t.v.lU) λi b=>by
  have⟨a,z,y,q,C,g,p⟩:=e i b;rw[aee]at g;obtain⟨t,u,rfl,w,r⟩:=apC p;exact⟨t,⟨a,q,u,g,w⟩,r⟩
 refine⟨s,l,rfl,⟨hl.symm,λt o=>?_,λne=>?_⟩,ag⟩
 ·have⟨j,d⟩:=mD.1 o;exact(b j t d).2
 ·obtain⟨v,m⟩:∃v,l[0]? =some v:=⟨_,bJ (Mv.2 ne)⟩;have⟨⟨a,f,_⟩,_⟩:=b 0 v m;refine⟨a,f,trivial,λj t d=>?_⟩;have⟨⟨D,c,k⟩,_⟩:=b j t d;rw[f]at c;cases c;exact k
theorem asC{W:World}{b:cN}{l:List vk}{K:fB}{k:PK}(h:cH (aU W) s b)(c:hY b)(hl:b.length<=jO)(j:tY Tt (aU W) t l)(e:l.length<=jO)(g:mH (aU W))(f:iW (aU W))(i:∀d,az (aU W) d->K true d):Ye s t (aU W) K k:=
 asD c.mem h.a j e hl g f i
end
end
end Go.Proofs.YtbahbhkogflhbaaGreatDoor
