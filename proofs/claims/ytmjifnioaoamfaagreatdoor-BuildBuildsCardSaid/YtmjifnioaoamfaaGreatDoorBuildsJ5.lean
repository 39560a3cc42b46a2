import Derived.Test.YtmjifnioaoamfaaGreatDoorBuildsJ4
set_option linter.all false
set_option maxRecDepth 100000
set_option maxHeartbeats 1000000
namespace Go.Proofs.YtmjifnioaoamfaaGreatDoor
open Go Go.Sh Go.WideShapes
section
variable {v:aD} {lo i j:Nat} {f c:ak} {h H h0:Hp} {Kp:PK} {s t:Sl} {el:TypeId} {D:aR} {z:Array Value} {kc:Nat->List aD} {G:Nat->aD}
section
variable {KM:List BF} {p:Nat} {Q0 T0 Q Q' T S E A A':aR} {h' h1:Hp} {g:dL} {n:Bn} {X X':Bx} {vl vl':aQ} {s':Sl} {w:Nat} {M:BF} {vs:aQ}
theorem ga.WQ{x:Int}{K:Option Addr->Prop}(G:ga f KM Q T h p g n X vl kc)(c:g.kp[j]? =some w)(e:x=j)(k:K (bD w)):Ix g.sp.a g.sp.n 1 x λd=>Ld h d Value.pointer K:=by
 subst e;have m:=(dy.1 c).1;have b:=G.pt.n;rw[cC]at b;refine G.pt.sv.ix ag ag (v:=AW w) bZ λa l=>?_
 exact⟨some (aF w),l,k⟩
theorem ga.m(G:ga f KM Q T h p g n X vl kc)(o:j<KM.length):∃M A w,KM[j]? =some M/\g.KT[j]? =some A/\g.kp[j]? =some w/\M Q A h w (kc j):=by
 have lk:=G.lk;exact⟨_,_,_,bL o,bL ag,bL ag,G.aN j _ _ _ (bL o) (bL ag) (bL ag)⟩
theorem gk.aN(KF:∀M∈KM,ob M)(C:gk f KM p Q0 T0 h0 Q T h g n X vl kc E)(H:KM[j]? =some M)(I:g.KT[j]? =some A)(K:g.kp[j]? =some w)(y:Ext Q Q' A A' h h')(m:M Q' A' h' w vs):
  gk f KM p Q0 T0 h0 Q' (λc=>T c\/A' c) h' {g with KT:=g.KT.set j A'} n X vl (λi=>if i=j then vs else kc i) E/\Tn (λc=>¬E c) h h':=by
 have G:=C.S;have r:=g.fk I;have F:=y.tn.1;have jL:=(dy.1 I).1;have a:∀c,A c->T c/\c≠p:=λc z=>G.t.sub _ (bS r) c z;have b:∀{B:aR}(k:Nat),g.Ls[k]? =some B->k≠2+g.ST.length+j->∀c,B c->¬A c:=λ{B}k L ne c z=>G.t.ne L r ne c z;have o:∀c,Q c->¬A c:=λc z x=>(G.q c z).1 (a c x).1;have J:=(KF M (bS H)).d m;have D:∀c,Q' c->¬(T c\/A' c)/\c<h'.size:=λc z=>by
  have:=J c z;refine⟨λx=>x.elim (λx=>?_) this.1,this.2⟩;rcases y.q' c z with z|z
  ·exact(G.q c z).1 x
  ·have:=G.t.lt c x;omega
 have tr:iO (λc=>T c\/A' c) h' p (({g with KT:=g.KT.set j A'}:dL).Ls):=by
  have:=G.t.put r F y.t';have O:g.Ls.set (2+g.ST.length+j) A'=({g with KT:=g.KT.set j A'}:dL).Ls:=by
   unfold dL.Ls;rw[show 2+g.ST.length+j=g.ST.length+j+1+1 by omega]
   simp only[jG];simp
  grind
 refine⟨⟨⟨tr,D,y.tn.bq G.k λz=>(a p z).2 rfl,ck.fr y.tn o y.q _ G.fs,G.ls,λi s B x h1(l:g.ST[i]? =some B)u=>(G.sl i s B x h1 l u).fr y.tn λc z _=>b _ (g.hO l) bZ c z,(G.aH.fr y.tn (b 0 rfl ag) o).q y.q,
  G.pt.fr y.tn λc z _=>b 1 rfl ag c z,by simp[G.lk],λk N B v h1 l u=>?_⟩,?_,λc z=>?_⟩,y.tn.mono λc z _ x=>(C.e c x).2 (a c z).1⟩
 ·simp only at l
  by_cases e:j=k
  ·subst e;rw[EL jL]at l;rw[H]at h1;rw[show({g with KT:=g.KT.set j A'}:dL).kp=g.kp from rfl,K]at u
   cases h1;cases l;cases u;simp only[fY];exact m
  ·rw[JI e]at l;simp only[aE (BT e)];have ok:=KF N (bS h1);refine ok.q (ok.fr (G.aN k N B v h1 l u) y.tn (b _ (g.fk l) ag) o) y.q λc z=>⟨λx=>(D c z).1 (.inl (G.t.sub _ (bS (g.fk l)) c x).1),(D c z).2⟩
 ·exact C.x.trans ⟨y.tn.mono λc z _=>(a c z).1,y.q,y.q',λ_ z=>.inl z,λc z=>z.elim .inl λz=>(y.t' c z).imp (λz=>(a c z).1) id⟩
 ·have:=C.e c z;refine⟨ag,λx=>?_⟩
  rcases x with x|x
  ·exact this.2 x
  ·rcases y.t' c x with x|x
   all_goals grind
theorem gk.cells{x':List Value×TypeId}(KF:∀M∈KM,ob M)(u:gk f KM p Q0 T0 h0 Q T h g n X vl kc E)(D:g.SS[i]? =some s)(C:g.ST[i]? =some A)(t:Tn A h h')(o:Os A h' s x'.1 x'.2)(J:X'.eY=X.eY.set i x'):
  gk f KM p Q0 T0 h0 Q T h' g n X' vl kc E/\Tn (λc=>¬E c) h h':=by
 have G:=u.S;have r:=g.hO C;have b:∀c,A c->T c/\c≠p:=λc z=>G.t.sub _ (bS r) c z;have m:∀c,Q c->¬A c:=λc z x=>(G.q c z).1 (b c x).1;have a:∀{B:aR}(k:Nat),g.Ls[k]? =some B->k≠2+i->∀c,B c->¬A c:=λ{B}k H ne c z=>G.t.ne H r ne c z;refine⟨⟨⟨G.t.grow t.1,λc z=>⟨(G.q c z).1,by have:=(G.q c z).2;have:=t.1;omega⟩,t.bq G.k λz=>(b p z).2 rfl,ck.fr t m (λ_ z=>z) _ G.fs,G.ls,λj y B x h1 l d=>?_,G.aH.fr t (a 0 rfl ag) m,G.pt.fr t λc z _=>a 1 rfl ag c z,G.lk,λj N B v h1 l d=>(KF N (bS h1)).fr (G.aN j N B v h1 l d) t (a _ (g.fk l) bZ) m⟩,?_,λc z=>?_⟩,t.mono λc z _ x=>(u.e c x).2 (b c z).1⟩
 ·rw[J]at d
  by_cases e:i=j
  ·grind
  ·rw[JI e]at d;exact(G.sl j y B x h1 l d).fr t λc z _=>a _ (g.hO l) ag c z
 ·exact u.x.trans ⟨t.mono λc z _=>(b c z).1,λ_ z=>z,λ_ z=>.inl z,λ_ z=>z,λ_ z=>.inl z⟩
 ·have:=u.e c z;exact⟨by have:=t.1;omega,this.2⟩
theorem gk.aiO(KF:∀M∈KM,ob M)(u:gk f KM p Q0 T0 h0 Q T h g n X vl kc E)(t:Tn (λc=>g.VT c\/c=p) h h')(o:uE (Tr g.VT h h') Q h' s' vl')(F:aO h' p (({g with sv:=s',VT:=Tr g.VT h h'}:dL).row f n).toArray ES):
  gk f KM p Q0 T0 h0 Q (λc=>T c\/Tr g.VT h h' c) h' {g with sv:=s',VT:=Tr g.VT h h'} n X vl' kc E/\Tn (λc=>¬E c) h h':=by
 have G:=u.S;have C:=t.1;have d:g.Ls[0]? =some g.VT:=rfl;have b:∀c,g.VT c->T c/\c≠p:=λc z=>G.t.sub _ (bS d) c z;have kr:∀c,(g.VT c\/c=p)->T c:=λc z=>z.elim (λz=>(b c z).1) λz=>z▸G.t.tb;have m:∀c,Q c->¬(g.VT c\/c=p):=λc z x=>(G.q c z).1 (kr c x);have a:∀{B:aR}(k:Nat),g.Ls[k]? =some B->k≠0->∀c,B c->¬(g.VT c\/c=p):=λ{B}k y ne c z x=>x.elim (λx=>G.t.ne y d ne c z x) λx=>(G.t.sub _ (bS y) c z).2 x;refine⟨⟨⟨G.t.put d C λ_ z=>z,λc z=>⟨λx=>?_,by have:=(G.q c z).2;omega⟩,F,ck.fr t m (λ_ z=>z) _ G.fs,G.ls,λj D B x h1 l r=>(G.sl j D B x h1 l r).fr t λc z _=>a _ (g.hO l) ag c z,o,G.pt.fr t λc z _=>a 1 rfl ag c z,G.lk,
  λj N B v h1 l r=>(KF N (bS h1)).fr (G.aN j N B v h1 l r) t (a _ (g.fk l) ag) m⟩,?_,λc z=>?_⟩,t.mono λc z _ x=>(u.e c x).2 (kr c z)⟩
 ·have:=G.q c z;grind
 ·exact u.x.trans ⟨t.mono λc z _=>kr c z,λ_ z=>z,λ_ z=>.inl z,λ_ z=>.inl z,λc z=>z.elim .inl λz=>z.imp (λz=>(b c z).1) id⟩
 ·have:=u.e c z;grind
theorem gk.aiM{u:Sl}{a:Nat}{ty:TypeId}{K:HP}(KF:∀M∈KM,ob M)(s0:gk f KM p Q0 T0 h0 Q T h g n X vl kc E)(k:aO h a #[.bool false,ah 0,.string (bs []),Sl.v Sl.nil] ty)(hv:aS Q h u v.items)(hn:vl.length<=5000)
  (hk:∀Q T h' g,Tn (λc=>¬E c) h h'->gk f KM p Q0 T0 h0 Q T h' g n X (vl++[v]) kc E->K h'):
  Ap h di gl 4 56 g.sv 1 (rd h (bD a) (1*4)) λt h1=>Ix t.a t.n 4 (g.sv.n:Int) λb=>
   (dK h1 b v.au v.num (bs v.text) u λP=>St P ⟨p,17,none⟩ (Sl.v t) K)/\(St h1 ⟨p,17,none⟩ (Sl.v t) λP=>dK P b v.au v.num (bs v.text) u K):=by
 have G:=s0.S;obtain⟨L,e,r,nQ,vv⟩:=G.aH;have on:=r.n;rw[qn]at on;have c':g.Ls[0]? =some g.VT:=rfl;have y:∀c,g.VT c->T c/\c≠p:=λc z=>G.t.sub _ (bS c') c z;have e':=G.t.lt p G.t.tb;refine r.ap (eH _) rfl (new:=[[.bool false,ah 0,.string (bs []),Sl.v Sl.nil]]) rfl (λr O=>by simp at O;subst O;rfl) (λr O w J=>by simp at O;subst O;simp at J;rcases J with rfl|rfl|rfl|rfl <;> rfl) (by simpa using jn k rfl) ag ag λt h1 f1 d' r1=>?_
 have W:=f1.mono λc z _=>nQ c z;have k1:=W.bq G.k λz=>(y p z).2 rfl;have rn:=r1.n;rw[ij,jy,qn]at rn;rcases r1.cases with⟨z,_⟩|⟨b,_,I⟩
 ·rw[z]at rn;simp[Sl.nil]at rn
 have tb:t.at b:=⟨_,I.a,rfl⟩;have bV:Tr g.VT h h1 b:=(d' b tb).imp (nQ b) λz=>⟨z,I.lt⟩;have bp:b≠p:=λz=>by
  subst z;rcases bV with z|z
  ·exact(y _ z).2 rfl
  ·omega
 have Y:(List.zipWith aD.row vl L).length=vl.length:=by rw[qn];omega
 refine I.ix (i:=vl.length) ag (by rw[ij,Y];simp) ?_
 have B:(List.zipWith aD.row vl L++[[.bool false,ah 0,.string (bs []),Sl.v Sl.nil]]).set vl.length (v.row u)=List.zipWith aD.row (vl++[v]) (L++[u]):=by
  rw[xY _ _ ag,Y,zR,ke,Hg e]
 have U:(g.row f n).length=19:=by unfold dL.row;simp[HS,G.ls.1]
 have C:(g.row f n).toArray.setIfInBounds 17 (Sl.v t)=(({g with sv:=t,VT:=Tr g.VT h h1}:dL).row f n).toArray:=by
  rw[jr];unfold dL.row;rw[xY _ _ (by show 10<=17;omega),xY _ _ (by show _<=17-10;rw[cC,G.ls.1];omega),cC,G.ls.1];rfl
 have fin:∀{m:Hp},Tn (λc=>c=b\/c=p) h1 m->m.size=h1.size->lX 4 m t b (List.zipWith aD.row (vl++[v]) (L++[u])) di->aO m p (({g with sv:=t,VT:=Tr g.VT h h1}:dL).row f n).toArray ES->K m:=by
  intro m f3 z3 d Z;have tt:Tn (λc=>g.VT c\/c=p) h m:=(W.mono λc z _=>.inl z).trans' f3 λc z b'=>by
   rcases z with rfl|z
   ·exact .inl (bV.elim id λz=>ag)
   ·exact .inr z
  have V:∀c,Q c->¬(g.VT c\/c=p):=λc z x=>(G.q c z).1 (x.elim (λx=>(y c x).1) λx=>x▸G.t.tb);have eV:Tr g.VT h m=Tr g.VT h h1:=by unfold Tr;rw[z3]
  have o:uE (Tr g.VT h m) Q m t (vl++[v]):=by
   refine⟨L++[u],by simp[e],⟨d.len,d.n,.inr ⟨b,eH _,d.lt,d.own⟩⟩,λc z=>?_,λj z w N J=>?_⟩
   ·obtain⟨a',ea,rfl⟩:=z;rw[I.a]at ea;cases ea;rw[eV];exact bV
   ·rcases yW e J with⟨b',J⟩|⟨rfl,rfl⟩
    ·rw[iX ag]at N;exact aS.fr tt (λc hc _=>V c hc) (λ_ q=>q) _ (vv j z w N J)
    ·rw[gv (cr _)]at N;simp at N;subst N;exact aS.fr tt (λc hc _=>V c hc) (λ_ q=>q) _ hv
  obtain⟨S',t'⟩:=s0.aiO KF tt o (by rw[eV];exact Z)
  exact hk _ _ _ _ t' S'
 have D:=AG v u;refine⟨xU (I.set (by rw[ij,Y];simp) rfl D λP H R=>dN (H.bq k1 (BT bp)) (by rw[Pf,U];omega) rfl λm F Z=>?_),
  dN k1 (by rw[Pf,U];omega) rfl λP H k2=>xU ((I.fr H.fr bp).set (by rw[ij,Y];simp) rfl D λm F d=>?_)⟩
 ·rw[B]at R;rw[C]at Z;exact fin ((H.fr.mono λc z _=>.inl z).trans (F.fr.mono λc z _=>.inr z)) (by have:=H.1;have:=F.1;omega) (R.fr F.fr bp) Z
 ·rw[B]at d;rw[C]at k2;exact fin ((H.fr.mono λc z _=>.inr z).trans (F.fr.mono λc z _=>.inl z)) (by have:=H.1;have:=F.1;omega) d (F.bq k2 (BT bp))
end
def ML(b:UInt8)(r:dw)(n:Nat):Prop:=n<=r.length+1/\rf b.toNat (r.getD 0 0)=true/\∀j,1<=j->j+1<n->tM (r.getD j 0)=true
theorem ai6{b:UInt8}{r:dw}{n:Nat}(k:128<=b.toNat)(f:uF b.toNat%8=n)(d:n=2\/n=3\/n=4):(ML b r n->jl b r=some (r.drop (n-1)))/\(¬ML b r n->jl b r=none):=by
 have e0:¬b.toNat<128:=ag;unfold jl ML;rw[aE e0,f];rcases d with rfl|rfl|rfl
 ·rw[aI rfl];rcases r with _|⟨c,r⟩
  all_goals grind
 ·rw[aE bh,aI rfl];rcases r with _|⟨c,_|⟨e,r⟩⟩
  ·simp
  ·simp
  ·simp only[EA,iq];refine⟨λq=>by rw[aI (by rw[q.2.1];exact q.2.2 1 ag ag)];rfl,λq=>aE λz=>q ⟨ag,?_,λj a c=>?_⟩⟩
   all_goals grind
 ·rw[aE bh,aE bh,aI rfl];rcases r with _|⟨c,_|⟨e,_|⟨g,r⟩⟩⟩
  ·simp
  ·simp
  ·simp
  ·simp only[EA,iq];refine⟨λq=>by rw[aI (by rw[q.2.1,EC,dr];exact⟨q.2.2 1 ag ag,q.2.2 2 ag ag⟩)];rfl,λq=>aE λz=>?_⟩
   grind
section
variable {V:eU} {K:cL} {b:UInt8} {r:dw}
def ahf(K:cL)(h:Hp)(b:UInt8)(r:dw):Prop:=(∀n:Nat,1<=n->n<=r.length+1->jl b r=some (r.drop (n-1))->K n h)/\(jl b r=none->K 0 h)
theorem aiX{n hi:Nat}(D:(tx V).drop i=b::r)(hl:V.size<=9223372036854775000)(O:128<=b.toNat)(M:uF b.toNat%8=n)(L:n=2\/n=3\/n=4)(J:Hr (uF b.toNat/16)=lo)(I:Hs (uF b.toNat/16)=hi)
  (s:ahf K h b r):wE K Kp V i lo hi n h:=by
 obtain⟨G,u2⟩:=ai6 O M L;have w:(tx V).length=V.size:=rfl;have F:i+(r.length+1)=V.size:=by
  have:=sY List.length D;rw[Jw,iq,w]at this;omega
 have l:∀{j:Nat},j<r.length->(tx V)[i+(j+1)]? =some (r.getD j 0):=λ{j}t=>by
  have e:((tx V).drop i)[j+1]? =r[j]? :=by rw[D];rfl
  grind[List.getElem?_eq_getElem]
 have A:(¬ML b r n->K 0 h)->(n<=r.length+1->rf b.toNat (r.getD 0 0)=true->J8 K Kp V i n 2 h)->wE K Kp V i lo hi n h:=by
  intro p v;refine wE.of (aY ag ag (cE (λc=>?_) λc=>?_))
  ·exact F1.of (bQ rfl (p λq=>by have:=q.1;omega))
  ·have y:0<r.length:=ag;have E:=l y;have e1:((i:Int)+1)=((i+(0+1):Nat):Int):=ag;have o:rf b.toNat (r.getD 0 0)=(decide (lo<=(r.getD 0 0).toNat)&&decide ((r.getD 0 0).toNat<=hi)):=by unfold rf;rw[J,I]
   refine aY ag ag (yG e1 E (F1.of (cE (λk=>?_) λk=>?_)))
   ·refine p λq=>?_;have:=q.2.1;rw[o,dr,dP]at this;omega
   ·refine aY ag ag (yG e1 E (cE (λf=>?_) λf=>?_))
    ·refine p λq=>?_;have:=q.2.1;rw[o,dr,dP,dP]at this;omega
    ·refine Sd.of (v ag ?_);simp_all
 refine A (λq=>s.2 (u2 q)) λC H=>J8.bC (λx u=>u=h/\∃d:Nat,x=d/\2<=d/\d<=n/\∀j,1<=j->j+1<d->tM (r.getD j 0)=true) (λx _=>n-x.toNat) ⟨rfl,2,rfl,ag,ag,λj a c=>ag⟩ ?_
 rintro x u ⟨rfl,d,rfl,Q,P,m⟩ N hN;refine cE (λc=>?_) λc=>?_
 ·have t:d-1<r.length:=ag;have g:=l t;have e1:((i:Int)+(d:Int))=((i+(d-1+1):Nat):Int):=ag;have B:tM (r.getD (d-1) 0)=(decide (128<=(r.getD (d-1) 0).toNat)&&decide ((r.getD (d-1) 0).toNat<=191)):=rfl;have bad:¬(128<=(r.getD (d-1) 0).toNat/\(r.getD (d-1) 0).toNat<=191)->K 0 u:=λz=>s.2 (u2 λq=>by
   have:=q.2.2 (d-1) ag ag;rw[B,dr,dP,dP]at this;exact z this)
  refine aY ag ag (yG e1 g (aK (λk=>?_) λk=>aY ag ag (yG e1 g (aK (λf=>?_) λf=>aY ag ag (hN _ _ ⟨rfl,d+1,ag,ag,ag,λj a z=>?_⟩ ag)))))
  ·have k:=aU k;exact bad ag
  ·have f:=aU f;exact bad ag
  ·by_cases e:j+1<d
   ·exact m j a e
   ·obtain rfl:j=d-1:=ag;simp only[sm,reduceCtorEq]at k f;rw[B,dr,dP,dP];omega
 ·obtain rfl:d=n:=ag;exact s.1 d ag C (G ⟨C,H,m⟩)
theorem aiW{x:Int}(hx:x=i)(hd:(tx V).drop i=b::r)(hl:V.size<=9223372036854775000)(hk:ahf K h b r):L7 V x h K Kp:=by
 subst hx;have pn:(tx V).length=V.size:=rfl;have hlen:i+(r.length+1)=V.size:=by
  have:=sY List.length hd;rw[Jw,iq,pn]at this;omega
 have g0:(tx V)[i]? =some b:=by
  have e:((tx V).drop i)[0]? =some b:=by rw[hd];rfl
  rwa [YP,BP]at e
 have anV:¬b.toNat<128->(∀n,n=2\/n=3\/n=4->uF b.toNat%8≠n)->K 0 h:=λz w=>hk.2 (by
  simp_all[jl,aE,ag])
 have one:∀{n:Nat}{x:Int},x=n->(128<=b.toNat)->uF b.toNat%8=n->n=2\/n=3\/n=4->uK K Kp V i b.toNat 128 191 x h:=by
  rintro n x rfl h1 h2 h3;have go:=λlo hi q1 q2=>aiX (Kp:=Kp) (lo:=lo) (hi:=hi) hd hl h1 h2 h3 q1 q2 hk;have yT:∀k,b.toNat=k->uF b.toNat=uF k:=λk e=>by rw[e]
  refine uK.of (aK (λc=>?_) λc=>aK (λc2=>?_) λc2=>aK (λc3=>?_) λc3=>aK (λc4=>?_) λc4=>?_)
  ·have c:=aU c;exact go 160 191 (by rw[yT 224 ag];rfl) (by rw[yT 224 ag];rfl)
  ·have c2:=aU c2;exact go 128 159 (by rw[yT 237 ag];rfl) (by rw[yT 237 ag];rfl)
  ·have c3:=aU c3;exact go 144 191 (by rw[yT 240 ag];rfl) (by rw[yT 240 ag];rfl)
  ·have c4:=aU c4;exact go 128 143 (by rw[yT 244 ag];rfl) (by rw[yT 244 ag];rfl)
  ·simp only[sm,reduceCtorEq]at c c2 c3 c4;have e:uF b.toNat/16=0:=by unfold uF at h2 ⊢;(repeat' split at h2) <;> (repeat' split) <;> omega
   exact go 128 191 (by rw[e];rfl) (by rw[e];rfl)
 refine L7.of (bu cy (yG rfl g0 (cE (λc=>?_) λc=>?_)))
 ·apply hk.1 1 ag ag;unfold jl;rw[dU];rfl
 ·have c2:194<=b.toNat/\b.toNat<=223->uF b.toNat%8=2:=λq=>by grind[uF]
  have c3:224<=b.toNat/\b.toNat<=239->uF b.toNat%8=3:=λq=>by grind[uF]
  have c4:240<=b.toNat/\b.toNat<=244->uF b.toNat%8=4:=λq=>by unfold uF;(repeat' split) <;> omega
  have cn:¬(194<=b.toNat/\b.toNat<=244)->∀n,n=2\/n=3\/n=4->uF b.toNat%8≠n:=λq n hn=>by unfold uF;(repeat' split) <;> omega
  have n0:¬(194<=b.toNat/\b.toNat<=244)->K 0 h:=λq=>anV ag (cn q)
  repeat' (with_reducible refine aK (λc=>?_) λc=>?_)
  all_goals simp only[sm,reduceCtorEq]at*
  all_goals first|(with_reducible apply n0;omega)|(with_reducible refine one rfl ?_ (c2 ?_) ?_ <;> omega)|(with_reducible refine one rfl ?_ (c3 ?_) ?_ <;> omega)|(with_reducible refine one rfl ?_ (c4 ?_) ?_ <;> omega)
theorem aoP(hl:V.size<=9223372036854775000){K:fD}(d:K (iC (tx V)) h):Mj V h K Kp:=by
 have j:(tx V).length=V.size:=rfl;refine Mj.of (Q9.bC (λx k=>k=h/\∃i:Nat,x=i/\i<=V.size/\iC ((tx V).drop i)=iC (tx V)) (λx _=>V.size-x.toNat) ⟨rfl,0,rfl,ag,aC⟩ ?_)
 rintro x k ⟨rfl,i,rfl,p,a⟩ N hN;refine cE (λc=>?_) λc=>?_
 ·obtain⟨b,r,f⟩:∃b r,(tx V).drop i=b::r:=by
   cases o:(tx V).drop i with
   |nil=>grind[List.drop_eq_nil_iff]
   |cons b r=>simp
  have l:i+(r.length+1)=V.size:=by
   have:=sY List.length f;rw[Jw,iq,j]at this;omega
  rw[f,MH]at a;refine aiW rfl f hl ⟨λn s q g=>?_,λg=>?_⟩
  ·refine bu cy (aY ag ag (hN _ _ ⟨rfl,i+n,ag,ag,?_⟩ ag))
   rw[g]at a;rw[<-a,<-BZ,f]
   congr 1
   obtain⟨m,rfl⟩:∃m,n=m+1:=⟨n-1,ag⟩
   simp
  grind[bQ]
 ·have:(tx V).drop i=[]:=List.drop_eq_nil_iff.2 ag;rw[this]at a;have e:iC ([]:dw)=true:=rfl;rw[e]at a;rw[<-a]at d;exact d
end
def BC(w:Nat)(A7:Int):Int:=if(w:Int)<=A7 then w else A7+1
def ZC(v:aD):Prop:=∀{D:aR}{h:Hp}{s:Sl}{A7:Int}{K:cL}{Kp:PK},aS D h s v.items->-100<=A7->A7<=2^50->(∀h',aB h h'->K (BC v.bw A7) h')->CY v.au v.num (bs v.text) s A7 h K Kp
theorem aiy(l:aQ)(i:Nat):bJ (l.take i)<=bJ l:=by
 grind[oV,List.take_append_drop]
theorem aak:∀l:List aD,l.length*16<=bJ l
 |[]=>by simp[bJ]
 |z::l=>by have:=gS z;have:=aak l;simp only[bJ,iq];omega
theorem alP(R:∀x∈v.items,ZC x):ZC v:=by
 intro D h s b K Kp H Y X I;have G:=gS v;have U:=H.n;have k:b<v.bw->∀f,aB h f->K (b+1) f:=λq f g=>by
  have:=I f g;simp_all[BC,aE,ag]
 refine CY.of (aJ λQ M e1 J t _=>aj t rfl (aY ag ag (cE (λc=>?_) λc=>?_)))
 ·rw[iU]at c;exact aY ag ag (k ag M J)
 rw[iU]at c;apply aj t rfl;rw[iU];apply aY ag ag;refine QF.bC (λy x f=>∃i:Nat,x=i/\i<=v.items.length/\aB h f/\aO f Q #[.bool v.au,ah v.num,.string (bs v.text),Sl.v s] di/\((y=((16+v.text.length+bJ (v.items.take i):Nat):Int)/\y<=b)\/(y=b+1/\b<v.bw))) (λ_ x _=>v.items.length-x.toNat)
  ⟨0,rfl,eH _,J,t,.inl ⟨by simp[bJ],ag⟩⟩ ?_
 rintro y x B ⟨i,rfl,V,j,p,w⟩ N hN;have e:y>b->K (b+1) B:=λq=>k (w.elim (λz=>ag) λz=>z.2) B j
 refine aj p rfl (aK (λE=>aK (λd=>?_) λd=>?_) λE=>aK (λd=>?_) λd=>?_)
 ·have d:=aU d;exact aY ag ag (e d)
 ·simp only[sm,reduceCtorEq]at E d;obtain⟨C,_⟩:=w.resolve_right λz=>ag
  have m:i<v.items.length:=ag;have A:=bL m;have l:=kP m;have F:=aak (v.items.take i);rw[mP]at F;generalize v.items[i]=z at A l;have o:=bS A;have S:=aiy v.items (i+1);have O:bJ (v.items.take (i+1))=bJ (v.items.take i)+z.bw:=by rw[l,oV];simp[bJ]
  refine aj p rfl ((eO H j).ix rfl A λa u P L=>ig P (aY ag ag (R z o L ag ag λW r=>?_)));unfold BC
  by_cases q:(z.bw:Int)<=b-y
  ·rw[aI q];exact aY ag ag (aY ag ag (hN _ _ _ ⟨i+1,ag,ag,aq j r,p.ai r,.inl ⟨by rw[O];push_cast;omega,ag⟩⟩ ag))
  ·rw[aE q];exact aY ag ag (aY ag ag (hN _ _ _ ⟨i+1,ag,ag,aq j r,p.ai r,.inr ⟨ag,ag⟩⟩ ag))
 ·have d:=aU d;exact aY ag ag (e d)
 ·simp only[sm,reduceCtorEq]at E d;obtain⟨C,_⟩:=w.resolve_right λz=>ag
  have:i=v.items.length:=ag;simp_all[mO,BC,aI,ag]
theorem Uo:∀v:aD,ZC v
 |.mk a b c items=>alP (v:=.mk a b c items) λx(_:x∈items)=>Uo x
section
variable {K:fD}
theorem ami{k:Int}(a:K (decide (2<=k/\k<=11)) h):Li k h K Kp:=by
 refine Li.of (cE (λc=>?_) λc=>?_)
 ·simp_all
 ·simp_all
theorem amb{k n:Int} (hn : -9223372036854775808<=n/\n<=9223372036854775807) (hr:2<=k/\k<=11) (hk:∀b,(b=true↔if k=2 then n=0\/n=1 else kV k n=true)->K b h):Lh k n h K Kp:=by
 have e:k=2\/k=3\/k=4\/k=5\/k=6\/k=7\/k=8\/k=9\/k=10\/k=11:=ag;rcases e with rfl | rfl | rfl | rfl | rfl | rfl | rfl | rfl | rfl | rfl
 all_goals apply Lh.of
 all_goals repeat' first | (with_reducible first | refine tC ?_ | refine tD ?_ | refine cE (λc => ?_) λc => ?_)
 all_goals apply hk _
 all_goals simp_all
 all_goals (try simp[kV,dJ])
 all_goals first | omega | exact absurd trivial ‹¬True›
end
def ZE(f:ak):Prop:=∀{D:aR}{h:Hp}{s:Sl}{K:fD}{Kp:PK},bE f->ck D h s f.cs->(∀h',aB h h'->K f.lets h')->GC f.name f.au f.k f.w f.id f.ix s h K Kp
theorem amk(x:∀c∈f.cs,ZE c):ZE f:=by
 intro D h s K Kp i p n;have q:=(bE.self i).1;unfold Shaped at q;refine GC.of (aJ λb t e1 l j _=>aj j rfl (aK (λc=>?_) λc=>RK.of (aj j rfl ?_)))
 ·have c:=aU c;have g:f.cs[0]? =some (f.cs[0]' ag):=bL _;have d:(f.cs[0]' ag)∈f.cs:=kE _;have el:f.lets=(f.cs[0]' ag).lets:=by
   rw[xS];unfold m8;rw[aI ⟨c,by rw[cC];omega⟩,gB,fy,g];rfl
  generalize f.cs[0]' ag=c0 at g d el;refine aj j rfl ((p.gr l).ix rfl g λa u w o=>gQ w (x c0 d (bE.aN i d) o λr v=>?_));rw[<-el];exact n r (aq l v)
 ·have c:=aU c;have el:f.lets=(f.au&&decide (f.k≠18)):=by rw[xS];unfold m8;rw[aE λz=>c z.1]
  have:=n t l;rw[el]at this;refine aK (λm=>aj j rfl ?_) λm=>?_
  ·rw[m,EC]at this;have e:(f.k !=18)=decide (f.k≠18):=by rw[j0];simp
   rw[e];exact this
  ·rw[m,EB]at this;exact this
theorem abB:∀f:ak,ZE f
 |.mk a b k w i x cs=>amk (f:=.mk a b k w i x cs) λc(_:c∈cs)=>abB c
theorem amm{c:Int}{K:fD}(hk:∀b,(b=true↔(yy c\/sw c))->K b h):LL c h K Kp:=by
 apply LL.of;unfold yy sw at hk
 repeat' first|(with_reducible first|refine Kt.of ?_|refine FT.of ?_|refine FR.of ?_|refine tC ?_|refine tD ?_|refine cE (λc=>?_) λc=>?_)
 all_goals apply hk _
 all_goals simp_all
 all_goals omega
theorem aml{s:eU}{K:fD}{t:PK}(I:s.size<=9223372036854775807)(w:∀b,(b=true↔E6 s)->K b h):LX s h K t:=by
 have p:¬E6 s->K false h:=λn=>w false ⟨aC,λx=>(n x).elim⟩
 have loop:1<=s.size->s.size<=48->(∀b:UInt8,s[0]? =some b->¬sw (b.toNat:Int))->CG K t s h:=by
  intro D C B;refine CG.of (QU.bC (λx F=>F=h/\∃i:Nat,x=i/\i<=s.size/\∀j b,j<i->s[j]? =some b->GZ j (b.toNat:Int)) (λx _=>s.size-x.toNat) ⟨rfl,0,rfl,ag,λj b E=>ag⟩ ?_)
  rintro x L ⟨rfl,i,rfl,J,g⟩ M hN;refine cE (λf=>?_) λf=>?_
  ·have u:i<s.size:=ag;have a:=Pr s i u;generalize s[i]=b at a;refine⟨b,ag,by rw[gj];exact a,amm λr v=>aK (λl=>?_) λl=>?_⟩
   ·have l:=aU l;subst l;refine p λq=>?_;have:=q.2.2 i b a;have z:¬(yy (b.toNat:Int)\/sw (b.toNat:Int)):=λz=>by simpa using v.2 z
    exact z (this.imp id And.left)
   ·have l:=aU l;subst l;refine aY ag ag (hN _ _ ⟨rfl,i+1,aC,ag,λj A E d=>?_⟩ ag)
    by_cases e:j=i
    ·subst e;rw[a]at d;cases d;rcases v.1 rfl with q|q
     ·exact .inl q
     ·refine .inr ⟨q,λe0=>?_⟩;subst e0;exact B b a q
    ·exact g j A ag d
  ·refine w true ⟨λ_=>⟨D,C,λj b a=>?_⟩,λ_=>rfl⟩;have:j<s.size:=by
    rcases Nat.lt_or_ge j s.size with h|h
    ·exact h
    ·simp_all
   exact g j b ag a
 refine LX.of (aK (λc=>?_) λc=>FW.of (aK (λf=>?_) λf=>?_))
 ·have c:=aU c;exact FW.of (bQ rfl (p λq=>by have:=q.1;omega))
 ·have f:=aU f;exact p λq=>by have:=q.2.1;omega
 ·simp only[sm,reduceCtorEq]at c f;have a:=Pr s 0 ag;generalize s[0]=b at a;have ix:∀{K:Int->Prop},K b.toNat->gY s 0 K:=λk=>⟨b,ag,a,k⟩
  have o:sw (b.toNat:Int)->K false h:=λz=>p λq=>by
   rcases q.2.2 0 b a with y|y
   ·grind[yy,sw]
   ·exact y.2 rfl
  have m:¬sw (b.toNat:Int)->CG K t s h:=λz=>loop ag ag λA d=>by rw[a]at d;cases d;exact z
  grind[sw,aK,sm]
theorem al8{k w id ix:Int}{K:fD}(hk:∀b h',aB h h'->(b=true↔Shaped k w id ix s.n)->K b h'):LW k w id ix s h K Kp:=by
 refine LW.of (aJ λb1 h1 e1 g1 k1 _=>?_);have hk:=λb=>hk b h1 g1;have last:∀{lo hi:Int}{wb ib xb:Bool},(∀b:Bool,(b=true↔(1<=k/\k<=20)/\wb=true/\ib=true/\xb=true/\lo<=s.n/\(s.n:Int)<=hi)->K b h1)->qV K Kp (aF b1) lo hi wb ib xb h1:=by
  intro lo hi wb ib xb q;refine qV.of (aj k1 rfl (aj k1 rfl ?_));cases wb <;> cases ib <;> cases xb <;> repeat' first|(with_reducible first|refine KC.of ?_|refine KB.of ?_|refine KA.of ?_|refine Kz.of ?_|refine Ky.of ?_|refine tC ?_|refine tD ?_|refine cE (λc=>?_) λc=>?_)|refine aj k1 rfl ?_
  all_goals apply q _
  all_goals simp_all
  all_goals try omega
 unfold Shaped at hk;refine aj k1 rfl (aj k1 rfl (aj k1 rfl (aj k1 rfl ?_)))
 repeat' first|(with_reducible first|refine Kx.of ?_|refine Kw.of ?_|refine tC ?_|refine tD ?_|refine cE (λc=>?_) λc=>?_)|refine aj k1 rfl ?_
 all_goals refine last λb hb=>hk b (hb.trans ?_)
 all_goals simp only[sm,reduceCtorEq]at*
 all_goals simp[and_false,false_and,yl,true_and,false_iff];omega
 all_goals omega
theorem amj{n:eU}{au:Bool}{k w id ix:Int}{cs:cN}{K:fD}{x:PK}(g:aB H h)(p:cG H s cs)(t:k=20->cs.length=1)(d:∀b m,aB h m->(b=true↔Ab k au cs)->K b m):LV n au k w id ix s h K x:=by
 refine LV.of (aJ λy r e1 o j _=>?_);have d:=λb=>d b r o;unfold Ab at d;simp only[bz,Nat.reduceAdd];refine aj j rfl (aK (λc=>?_) λc=>aK (λi=>?_) λi=>aK (λe=>?_) λe=>?_)
 ·have c:=aU c;subst c;refine aj j rfl (d _ ?_);simp
 ·have i:=aU i;subst i;refine aj j rfl (d _ ?_);simp
 ·have e:=aU e;subst e;have l:cs[0]? =some cs[0]:=by simp_all
  refine aj j rfl (aj j rfl ?_);generalize cs[0]=f at l;refine p.ix rfl l λa q=>?_;obtain⟨u,_,_,v,_⟩:=q.cells;refine⟨_,(aq g o).cell v,d _ ?_⟩;simp[l]
 ·simp only[sm,reduceCtorEq]at c i e;apply d _;simp[c,i,e]
def Pl.row(x:Pl)(sp sf sa:Sl):List Value:=[Sl.v sp,.string x.f.name,.bool x.f.au,ah x.f.k,ah x.f.w,ah x.f.id,ah x.f.ix,Sl.v sf,Sl.v sa,.bool x.ins]
def ZJ(h0:Hp)(x:Pl)(sp sf sa:Sl):Prop:=sp.n=x.deep/\sp.n<=sp.c/\cG h0 sf x.f.cs/\cG h0 sa x.ahead/\x.f.fQ/\x.ahead.length<=kR
structure mu(lo:Nat)(h0 h:Hp)(s:Sl)(xs:List Pl):Prop where
 r:∃rows,fO lo 10 h s rows JM/\rows.length=xs.length/\∀(i:Nat)x,xs[i]? =some x->∃sp sf sa,rows[i]? =some (x.row sp sf sa)/\ZJ h0 x sp sf sa
section
variable {h':Hp} {xs:List Pl}
theorem mu.n(o:mu lo h0 h s xs):s.n=xs.length:=by
 obtain⟨rows,r,l,_⟩:=o.r;rw[<-l];exact r.n
theorem mu.at(o:mu lo h0 h s xs){c:Nat}(z:s.at c):lo<=c/\c<h.size:=by
 obtain⟨rows,r,_⟩:=o.r;exact r.at z
theorem mu.fr{S:aR}(o:mu lo h0 h s xs)(f:Tn S h h')(z:∀c,s.at c->¬S c):mu lo h0 h' s xs:=by
 obtain⟨rows,r,l,q⟩:=o.r;refine⟨rows,⟨r.len,r.n,?_⟩,l,q⟩;rcases r.sh with e|⟨b,d,b2,a⟩
 ·exact .inl e
 ·exact .inr ⟨b,d,by have:=f.1;omega,a.fr f (z b ⟨_,a.1,rfl⟩)⟩
theorem mu.ai(o:mu lo h0 h s xs)(g:aB h h'):mu lo h0 h' s xs:=o.fr (bx g) λ_ _=>id
theorem mu.ix(o:mu lo h0 h s xs){x:Int}{i:Nat}(B:x=i){p:Pl}(z:xs[i]? =some p){K:Addr->Prop}(C:∀a sp c g,Cs h a (p.row sp c g)->ZJ h0 p sp c g->K a):Ix s.a s.n 10 x K:=by
 obtain⟨rows,r,l,q⟩:=o.r;have f:=(dy.1 z).1;obtain⟨sp,c,g,e,ok⟩:=q i p z;rcases r.cases with⟨_,e0⟩|⟨b,_,d⟩
 ·grind
 ·exact d.ix B ag (C _ sp c g (d.cs e) ok)
theorem mu.Ug(o:mu lo h0 h s xs){i:Nat}(w:i<=xs.length){K:Sl->Prop}(g:∀t,(∀c,t.at c->s.at c)->t.n=i->(∀(j:Nat)p,j<i->xs[j]? =some p->∀{K:Addr->Prop},(∀a sp d f,Cs h a (p.row sp d f)->ZJ h0 p sp d f->K a)->Ix t.a t.n 10 (j:Int) K)->K t):jA s 10 none (some (i:Int)) none K:=by
 have u:=o.n;obtain⟨rows,r,l,q⟩:=id o.r;have y:=r.cap;refine⟨aC,aC,by simp;omega,aC,?_⟩
 simp only[uB,oG,JE,gj,EN];have m:lY s.a 0 s.c 10=s.a:=by
  unfold lY;split
  ·rfl
  ·simp[add_zero']
 rw[m];refine g _ (λc h=>h) rfl λj p v b K k=>?_;have:=o.ix rfl b k;unfold Ix at this ⊢;grind
end
def Sp(h0:Hp)(lo:Nat)(cs:cN):Prop:=∀{h:Hp}{sl sp so:Sl}{x:Bool}{xs:List Pl}{vs:bg}{d:Nat}{K:Sl->HP}{Kp:PK},cG h0 sl cs->cs.length<=kR->iR cs->aB h0 h->h0.size<=lo->lo<=h.size->Sv h sp vs->(sp.a≠none\/vs=[])->(∀v∈vs,one v=true)->
 sp.n=d->d<=64->(∀c,sp.at c->c<h.size/\¬so.at c)->mu lo h0 h so xs->xs.length<=257->(∀s' h',Tn so.at h h'->(∀c,s'.at c->so.at c\/h.size<=c)->mu lo h0 h' s' ((xs++dX (d+1) [] x cs).take 257)->K s' h')->Ax sl sp x so h K Kp
theorem amV{a:cN}{d:Nat}{B:Bool}:dX d [] B (a++[f])=dX d [] B a++f.places d a B:=by
 rw[Nq,x8];simp only[dX,pM]
theorem ad9{cs:cN}(IH:∀f∈cs,Sp h0 lo f.cs):Sp h0 lo cs:=by
 intro h sl sp I x xs vs d K Kp hf hl n' g p' u' hp o' G hd q' m o hx hk;have sn:=hf.n;have s':kR=9223372036854775807:=rfl;have e':∀c,I.at c->h0.size<=c:=λc q=>by have:=(o.at q).1;omega
 refine Ax.of (QY.bC (λc i h'=>∃j:Nat,i=j/\j<=cs.length/\Tn I.at h h'/\(∀b,c.at b->I.at b\/h.size<=b)/\mu lo h0 h' c ((xs++dX (d+1) [] x (cs.take j)).take 257)) (λ_ i _=>cs.length-i.toNat) ⟨0,rfl,eH _,iW _ _,λb q=>.inl q,by
  simp only[JF,dX,pM];grind[List.take_of_length_le]⟩ ?_)
 rintro c i P ⟨j,rfl,hj,M,V,E⟩ N hN;have s1:=M.1;have g1:aB h0 P:=((bx g:Tn No h0 h).trans' M λc q l=>by have:=e' c q;omega).ai
 refine cE (λU=>?_) λU=>?_;rotate_left
 ·obtain rfl:j=cs.length:=ag;rw[mO]at E;exact hk c P M V E
 have l:j<cs.length:=ag;have hc:=bL l;have D:=kE l;have f':=kP l;generalize cs[j]=f at hc D f';have B:=iR.get n' f D;have next:dX (d+1) [] x (cs.take (j+1))=dX (d+1) [] x (cs.take j)++f.places (d+1) (cs.take j) x:=by rw[f',amV]
 refine hf.ix rfl hc λa ha=>?_;obtain⟨u,cu,hu⟩:=ha.row;refine gQ (cu.ai g1) (aJ λb2 h2 e2 g2 k2 _=>pG k2 rfl λh3 o3 k3=>?_);have T:=bK g2 o3 ag;have s3:=T.1;have cn:=E.n;refine aK (λZ=>?_) λZ=>?_
 ·have Z:=aU Z;have j':257<=(xs++dX (d+1) [] x (cs.take j)).length:=by rw[mP]at cn;omega
  apply hk c h3 (M.trans (bx T)) V;have e:(xs++dX (d+1) [] x cs).take 257=(xs++dX (d+1) [] x (cs.take j)).take 257:=by
   have e2:dX (d+1) [] x cs=dX (d+1) [] x (cs.take j)++dX (d+1) ([]++cs.take j) x (cs.drop j):=by rw[<-Nq,EI]
   rw[e2,<-oC,Pk j']
  rw[e];exact E.ai T
 have Z:=aU Z;have lR:(xs++dX (d+1) [] x (cs.take j)).length<=256:=by rw[mP]at cn;omega
 rw[pK ag]at E;have v':∀b,sp.at b->b<h.size/\¬c.at b:=λb q=>⟨(m b q).1,λz=>by
  rcases V b z with y|y
  ·exact(m b q).2 y
  ·have:=(m b q).1;omega⟩
 have m':=hp.fr M λa e z=>(m a.block ⟨a,e,rfl⟩).2 z;refine aY ag ag (E7 ag ag ag λt h4 g4 ow t'=>?_);have l':=m'.ai (aq T g4);have b':t.n=d+1:=by have:=ow.2.1;simp at this;omega
 obtain⟨R,w2,wc,w3,w4,w5,w6⟩:=ow;have pl:=hp.1
 -- r' a'
 have a':∀{X:HP},(∀F,aB h3 F->F.size=h4.size->Sv F t (vs++[ah (j:Int)])->X F)->AA h4 t.a (rd h4 sp.a (Nat.min sp.n t.n*1)) λh5=>Ix t.a t.n 1 (sp.n:Int) λp=>St h5 p (ah (j:Int)) X:=by
  intro X hX;have mn:Nat.min sp.n t.n*1=sp.n*1:=by rw[show Nat.min sp.n t.n=sp.n from BU ag]
  rw[mn];refine⟨vs,l'.AU o',?_⟩;rw[R];have i':=G;refine vZ vs w3 ag i' λh5 w' o5 k5 l5 q5=>⟨ag,ag,?_⟩
  rw[bz];simp only[bX,gj,zS];refine dN k5 ag rfl λF o6 k6=>?_;have Q:=bK (bK g4 o5 ag) o6 ag;refine hX F Q (by have:=o5.1;have:=o6.1;omega) ⟨by simp;omega,ag,λy J=>⟨_,R,λi v A=>?_⟩⟩
  rw[bz,gU k6,uC];simp only[bX]
  by_cases e:sp.n=i
  ·subst e;rw[aI rfl,dU];rw[gv ag]at A;rw[show sp.n-vs.length=0 by omega]at A
   exact A
  ·rw[aE e,q5 i];have:i<(vs++[ah (j:Int)]).length:=(dy.1 A).1;simp at this;rw[dU];rw[iX ag]at A
   simpa using A
 refine a' λF Q z6 k'=>dM (k3.ai Q) ?_;have ea:lY sl.a 0 sl.c 7=sl.a:=by
  unfold lY;split
  ·rfl
  ·cases sl.a with
   |none=>rfl
   |some a=>simp[add_zero']
 refine⟨aC,aC,by simp;omega,aC,?_⟩
 simp only[uB,oG,JE,gj,EN,ea];have hq:cG h0 ⟨sl.a,j,sl.c⟩ (cs.take j):=hf.take hj rfl rfl rfl;generalize(⟨sl.a,j,sl.c⟩:Sl)=q at hq;refine aJ λb7 h7 e7 g7 k7 _=>?_;have G7:=aq (aq T Q) g7;obtain⟨rows,r1,rl,rq⟩:=(E.ai G7).r;refine r1.ap ag rfl (new:=[Pl.row ⟨d+1,cs.take j,f,x⟩ t u q]) rfl (by intro r S;simp at S;subst S;rfl) (by intro r S v A;simp at S;subst S;simp[Pl.row]at A;rcases A with rfl|rfl|rfl|rfl|rfl|rfl|rfl|rfl|rfl|rfl <;> rfl)
  (by simp only[YZ,List.flatten_nil,pM];exact jn k7 rfl) ag ag λc' h8 f8 g' r8=>?_
 have s8:=f8.1;have o8:mu lo h0 h8 c' (xs++dX (d+1) [] x (cs.take j)++[⟨d+1,cs.take j,f,x⟩]):=by
  refine⟨_,r8,by simp only[ij,jy]at rl ⊢;omega,λi y J=>?_⟩
  by_cases e:i<(xs++dX (d+1) [] x (cs.take j)).length
  ·rw[iX e]at J;rw[iX ag];exact rq i y J
  ·have hi:=(dy.1 J).1;rw[ij,jy]at hi;rw[gv ag,show i-(xs++dX (d+1) [] x (cs.take j)).length=0 by omega]at J
   simp at J;subst J;refine⟨t,u,q,by rw[gv ag,show i-rows.length=0 by omega];rfl,b',ag,hu,hq,B,?_⟩
   show(cs.take j).length<=kR
   rw[mP];omega
 have C:∀b,c.at b->b<P.size:=λb z=>(E.at z).2;have t8:=(M.trans (bx G7)).trans' f8 λb z l=>(V b z).elim id λy=>ag
 have L:∀b,c'.at b->I.at b\/h.size<=b:=λb z=>(g' b z).elim (V b) λy=>.inr ag;have k8:=f8.bq (k3.ai (aq Q g7)) (by intro z;have:=C b2 z;omega)
 have step:∀{W:Sl}{O:Hp},Tn I.at h O->(∀b,W.at b->I.at b\/h.size<=b)->mu lo h0 O W ((xs++dX (d+1) [] x (cs.take (j+1))).take 257)->aP ((j:Int)+1) λi=>N (Ba sl sp x sl (sl.n:Int) W i) O:=λt9 a9 o9=>
  aY ag ag (hN _ _ _ ⟨j+1,ag,ag,t9,a9,o9⟩ ag)
 have d':f.places (d+1) (cs.take j) x=⟨d+1,cs.take j,f,x⟩::(if d+1<65 then dX (d+1+1) [] (x||f.k==19) f.cs else[]):=by
  obtain⟨nm,au,k,w,id,ix,ds⟩:=f;simp only[ak.places,ak.k,ak.cs]
 refine cE (λY=>?_) λY=>?_;rotate_left
 ·apply step t8 L;rw[next,d',aA,<-oC,pK (by simp at lR ⊢;omega)]
  exact o8
 have H:∀{y:Bool},y=(x||f.k==19)->Ax u t y c' h8 (λW O=>aP ((j:Int)+1) λi=>N (Ba sl sp x sl (sl.n:Int) W i) O) Kp:=by
  rintro y rfl;refine IH f D hu (by obtain⟨nm,au,k,w,id,ix,ds⟩:=f;unfold ak.fQ at B;exact B.2.1) (by obtain⟨nm,au,k,w,id,ix,ds⟩:=f;unfold ak.fQ at B;exact B.2.2)
   (((bx g:Tn No h0 h).trans' t8 λb z l=>by have:=e' b z;omega).ai) p' ag (((k'.ai g7).fr f8 λa e z=>by rw[R]at e;cases e;have:=C _ z;simp at this;omega)) (.inl (by rw[R];simp))
   (by intro v A;rcases ni.1 A with z|z;exact G v z;simp at z;subst z;rfl) b' ag (λb z=>?_) o8 (by simp at lR ⊢;omega) λs9 O t9 a9 o9=>?_
  ·obtain⟨a,e,rfl⟩:=z;rw[R]at e;cases e;refine⟨by simp only;omega,λz=>?_⟩
   rcases g' _ z with y|y
   ·have:=C _ y;simp at this;omega
   ·simp at y;omega
  ·refine step (t8.trans' t9 λb z l=>(L b z).elim id λy=>ag) (λb z=>(a9 b z).elim (L b) λy=>.inr (by have:=t8.1;omega)) ?_
   rw[next,d',dU];have e:xs++(dX (d+1) [] x (cs.take j)++(⟨d+1,cs.take j,f,x⟩::dX (d+1+1) [] (x||f.k==19) f.cs))=xs++dX (d+1) [] x (cs.take j)++[⟨d+1,cs.take j,f,x⟩]++dX (d+1+1) [] (x||f.k==19) f.cs:=aC
   rw[e];exact o9
 refine aj k8 rfl (aK (λcx=>?_) λcx=>aj k8 rfl ?_)
 ·exact H (by rw[cx];rfl)
 ·exact H (by rw[cx];rfl)
theorem aea:∀f:ak,Sp h0 lo f.cs
 |.mk _ _ _ _ _ _ cs=>ad9 (cs:=cs) λf _=>aea f
theorem arf(cs:cN):Sp h0 lo cs:=ad9 λf _=>aea f
theorem xB{b n:Nat}{cs:Array Value}{vs:bg}(k:aO h b cs el)(c:∀(i:Nat)v,vs[i]? =some v->cs[n+i]? =some v):Cs h ⟨b,n,none⟩ vs:=λi v q=>by
 rw[bz,gU k];simp[*]
theorem adB{w:Int}{l:List Pl}:∀{b:List Int},w∈kX b l↔w∈b\/∃y∈l,y.f.k=19/\y.f.id=w:=by
  induction l with
  |nil=>intro b;simp[kX]
  | cons x xs c=>
    intro b;simp only[kX,c,w7,lT,exists_eq_or_imp];grind
section
variable {xs:List Pl} {x:Pl}
theorem alO{a:Int}{K:cL}(o:mu lo h0 h s xs)(g:aB h0 h)(hx:a=i)(hp:xs[i]? =some x)(hl:xs.length<=257)(hk:∀c G,aB h G->(c=0↔Aa i (kX [] (xs.take i)) x)->K c G):L8 s a h K Kp:=by
 subst hx;have q':kR=9223372036854775807:=rfl;have s':=(dy.1 hp).1;have d:∀{c:Int}{G:Hp},aB h G->c≠0->¬Aa i (kX [] (xs.take i)) x->K c G:=λg' c0 n=>hk _ _ g' ⟨λe=>absurd e c0,λe=>absurd e n⟩;refine L8.of (o.ix rfl hp λa sp sf sa cs ok=>?_);obtain⟨p1,p2,p3,p4,p5,p6⟩:=ok;have r':x.f.name.size<=kR:=by obtain⟨_,_,f,_⟩:=x;obtain⟨nm,au,k,w,id,ix,ds⟩:=f;simp only[ak.fQ]at p5;exact p5.1
 refine Fa.c cs (aJ λb1 h1 e1 g1 k1 _=>yq.b k1 rfl λh2 o2 D=>gQ (xB D (vs:=[.string x.f.name,.bool x.f.au,ah x.f.k,ah x.f.w,ah x.f.id,ah x.f.ix,Sl.v sf]) λi v Y=>?_) ?_)
 ·rcases i with _|_|_|_|_|_|_|i <;> simp at Y⊢ <;> exact Y
 have g2:=bK g1 o2 ag;refine aJ λb3 h3 e3 g3 k3 _=>pG k3 rfl λh4 o4 m=>?_;have g4:=bK g3 o4 ag;have G4:=aq g2 g4;have D:=D.ai g4;refine aj D rfl (aK (λc=>?_) λc=>aK (λc2=>?_) λc2=>?_)
 ·have c:=aU c;exact d G4 bh λq=>by have:=q.1;omega
 ·have c2:=aU c2;exact d G4 bh λq=>by have:=q.2.1;omega
 simp only[sm,reduceCtorEq]at c c2;refine aj m rfl (aml ag λb J=>aK (λS=>?_) λS=>aj D rfl ?_)
 ·have S:=aU S;subst S;exact d G4 bh λq=>by have:=J.2 q.2.2.1;cases this
 have S:=aU S;subst S;have q3:=J.1 rfl;have an:=p4.n;apply QW.bC (λy G=>∃j:Nat,y=j/\j<=x.ahead.length/\aB h4 G/\∀g∈x.ahead.take j,g.name≠x.f.name) (λy _=>x.ahead.length-y.toNat) ⟨0,rfl,eH _,cW _,λg hg=>by simp at hg⟩
 rintro y h5 ⟨j,rfl,hj,g5,r⟩ N hN;have G5:=aq G4 g5;have D:=D.ai g5;have m:=m.ai g5;refine cE (λc5=>?_) λc5=>?_
 ·have B:j<x.ahead.length:=ag;have W:=bL B;have E:=kP B;have M:=kE B;generalize x.ahead[j]=f at W E M;refine p4.ix rfl W λa2 U=>?_;obtain⟨u,cu,hu⟩:=U.row;refine gQ (cu.ai (aq g G5)) (aJ λb6 h6 e6 P k6 _=>pG k6 rfl λX o7 k7=>?_);have L:=bK P o7 ag;refine aj k7 rfl (aj (m.ai L) rfl (aK (λA=>?_) λA=>?_))
  ·rw[BI]at A;exact d (aq G5 L) bh λq=>q.2.2.2.1 f M A
  ·rw[YV,ne_eq,BI]at A;refine aY ag ag (hN _ _ ⟨j+1,ag,ag,aq g5 L,λg' c'=>?_⟩ ag)
   rw[E]at c';rcases ni.1 c' with z|z
   ·exact r g' z
   ·simp at z;subst z;exact A
 obtain rfl:j=x.ahead.length:=ag;rw[mO]at r;refine Se.of (nh (xB m (vs:=[ah x.f.k,ah x.f.w,ah x.f.id,ah x.f.ix,Sl.v sf]) λi v Y=>?_) (al8 λb h6 P J=>aK (λA=>?_) λA=>?_))
 ·rcases i with _|_|_|_|_|i <;> simp at Y⊢ <;> exact Y
 ·have A:=aU A;subst A;exact d (aq G5 P) bh λq=>by have:=J.2 (by rw[p3.n.1];exact q.2.2.2.2.1);cases this
 have A:=aU A;subst A;have q5:Shaped x.f.k x.f.w x.f.id x.f.ix x.f.cs.length:=by have:=J.1 rfl;rwa [p3.n.1]at this
 have G6:=aq G5 P;have m:=m.ai P;have D:=D.ai P;have i':=q5;unfold Shaped at i';refine dM m (amj (aq g G6) p3 (λe=>ag) λb X L d'=>cE (λR=>?_) λR=>?_)
 ·subst R;exact d (aq G6 L) bh λq=>by have:=d'.2 q.2.2.2.2.2.1;cases this
 subst R;have q6:=d'.1 rfl;have T:=aq G6 L;have m:=m.ai L;have D:=D.ai L;have two:¬(x.ins=true/\(x.f.k=19\/x.f.k=20))->F3 K Kp s i (aF b3) X:=by
  intro q7;refine F3.of (aj m rfl (aK (λl=>aj m rfl ?_) λl=>?_));rotate_left
  ·have l:=aU l;exact hk 0 X T ⟨λ_=>⟨ag,ag,q3,r,q5,q6,q7,λe=>absurd e l⟩,λ_=>rfl⟩
  have l:=aU l;have I:x.f.cs[0]? =some x.f.cs[0]:=bL ag;generalize x.f.cs[0]=c0 at I;refine p3.ix rfl I λa2 U=>?_;obtain⟨u,_,_,cn,_⟩:=U.cells;refine⟨_,(aq g T).cell cn,aK (λQ=>?_) λQ=>?_⟩
  ·exact d T bh λq=>by
    obtain⟨c,e,z⟩:=(q.2.2.2.2.2.2.2 l).1;rw[I]at e;cases e;rw[Q]at z;cases z
  refine(o.ai T).Ug ag λt _ tn f'=>QX.bC (λy G=>∃j:Nat,y=j/\j<=i/\aB X G/\∀p∈xs.take j,¬(p.f.k=19/\p.f.id=x.f.id)) (λy _=>i-y.toNat) ⟨0,rfl,eH _,cW _,λp hp=>by simp at hp⟩ ?_
  rintro y h8 ⟨j,rfl,hj,Z,b'⟩ N hN;refine cE (λF=>?_) λF=>?_
  ·have B:j<xs.length:=ag;have W:=bL B;have E:=kP B;generalize xs[j]=p at W E;refine f' j p ag W λa3 l' m' n' k' o'=>Fa.c (k'.ai Z) (aJ λb9 h9 e9 g9 k9 _=>yq.b k9 rfl λe' j' a'=>?_);have V:=bK g9 j' ag;have step:¬(p.f.k=19/\p.f.id=x.f.id)->aP ((j:Int)+1) λc=>N (Ij (aF b3) t (t.n:Int) c) e':=λz=>
    aY ag ag (hN _ _ ⟨j+1,ag,ag,aq Z V,λp' H=>by
     rw[E]at H;rcases ni.1 H with y|y
     ·exact b' p' y
     ·simp at y;subst y;exact z⟩ ag)
   refine aj a' rfl (aK (λC=>aj a' rfl (aj (m.ai (aq Z V)) rfl (aK (λrN=>?_) λrN=>step ?_))) λC=>step ?_)
   ·simp only[sm,reduceCtorEq]at C rN;refine d (aq T (aq Z V)) bh λq=>(q.2.2.2.2.2.2.2 l).2 (adB.2 (.inr ⟨p,?_,C,rN⟩));exact bS (i:=j) (by rw[YL,dU];exact W)
   ·have rN:=aU rN;exact λz=>rN z.2
   ·have C:=aU C;exact λz=>C z.1
  ·obtain rfl:j=i:=ag;refine hk 0 h8 (aq T Z) ⟨λ_=>⟨ag,ag,q3,r,q5,q6,q7,λe=>⟨⟨c0,I,Q⟩,λz=>?_⟩⟩,λ_=>rfl⟩
   rcases adB.1 z with z|⟨p,H,z⟩
   ·simp at z
   ·exact b' p H z
 have O:∀{b:Bool},(b=true↔x.f.k=19\/x.f.k=20)->F2 K Kp s i (aF b1) (aF b3) b X:=by
  intro b J;refine F2.of (aK (λl=>aj D rfl (aK (λQ=>?_) λQ=>two λq=>by rw[Q]at q;cases q.1)) λl=>two λq=>by have:=J.2 q.2;rw[l]at this;cases this)
  exact d T bh λq=>q.2.2.2.2.2.2.1 ⟨Q,J.1 l⟩
 refine aj m rfl (aK (λl=>O ?_) λl=>aj m rfl (O ?_))
 ·have l:=aU l;simp[l]
 ·have l:=aU l;simp[l]
end
theorem awQ{xs:List Pl}:∀{n:Nat}{a:List Int},gC n a xs↔∀(i:Nat)x,xs[i]? =some x->Aa (n+i) (kX a (xs.take i)) x:=by
  induction xs with
  |nil=>intro n a;simp[gC]
  | cons y f c=>
    intro n a;simp only[gC,c];constructor
    · rintro⟨e,d⟩ i x b;rcases i with _|i
      ·simp at b;subst b;exact e
      · have:=d i x (by simpa using b)
        rw[show n+(i+1)=n+1+i by omega];exact this
    · intro q;refine⟨q 0 y rfl,λi x b=>?_⟩;have:=q (i+1) x dH
      rw[show n+1+i=n+(i+1) by omega];exact this
theorem awP{xs:List Pl}:gC 0 [] (xs.take 257)↔gC 0 [] xs:=by
 by_cases h:xs.length<=257
 ·rw[pK h]
 ·constructor
  ·intro q;have:=Z3 q ag;grind
  ·intro q;have:=Z3 q ag;omega
section
variable {K:Int->Sl->Int->HP}
theorem amy{sl:Sl}{l:cN}(T:cG h sl l)(O:iR l)(hl:l.length<=32)(S:∀e p n g,aB h g->p.n<=p.c->(e=0↔EY l [])->K e p n g):Mk sl Sl.nil h K Kp:=by
 have a':kR=9223372036854775807:=rfl;have sn:=T.n;refine Mk.of (aJ λa h1 e1 X t _=>aJ λb h2 e2 J A _=>?_);have t:=t.ai J;have Y:=aq X J;refine aj t rfl (bu cy (aj t rfl (bu (by rfl) (aj t rfl (Ra.bC (λy g=>y=0/\g=h2) (λ_ _=>0) ⟨rfl,rfl⟩ ?_)))))
 rintro y g ⟨rfl,rfl⟩ N hN;refine bu (by rfl) (Sj.of (aj t rfl ?_))
 have M:mu g.size h g Sl.nil []:=⟨[],sU _ _ _ _,rfl,λi x B=>by simp at B⟩
 refine arf l (d:=0) T ag O Y ag (cr _) (xW _) (.inr rfl) aC rfl ag (λc q=>absurd q (Sl.Yk c)) M aC λs' V Z _ w=>?_
 have W:=Z.Xy λd q=>absurd q (Sl.Yk d);rw[x8]at w;have A:=A.ai W;have L:=aq Y W;have o:((dX 1 [] false l).take 257).length<=257:=by rw[mP];omega
 have f:gC 0 [] ((dX 1 [] false l).take 257)↔EY l []:=by
  rw[awP,He];unfold EY;constructor
  ·simp[*]
  ·simp
 generalize(dX (0+1) [] false l).take 257=xs at w o f;have f:=f;have on:=w.n;rw[awQ]at f;simp only[bX]at f;apply Rc.bC (λy g=>∃j:Nat,y=j/\j<=xs.length/\aB V g/\∀(i:Nat)x,i<j->xs[i]? =some x->Aa i (kX [] (xs.take i)) x) (λy _=>xs.length-y.toNat) ⟨0,rfl,eH _,cW _,λi x hi=>ag⟩
 rintro y h4 ⟨j,rfl,hj,r,R⟩ N hN;have Q:=w.ai r;refine cE (λc=>?_) λc=>?_
 ·have u:xs[j]? =some xs[j]:=aC;generalize xs[j]=x at u;refine alO Q (aq L r) rfl u o λe h5 C U=>cE (λk=>?_) λk=>?_
  ·refine(Q.ai C).ix rfl u λa2 sp sf sa cs ok=>?_;have c0:=Cs.c0 cs;refine⟨sp,c0,mN ((A.ai r).ai C) rfl λI F G=>oB G (S _ _ _ I ?_ ok.2.1 ⟨λz=>absurd z k,λz=>absurd (U.2 (f.2 z j x u)) k⟩)⟩;exact bK (aq (aq L r) C) F ag
  ·refine aY ag ag (hN _ _ ⟨j+1,ag,ag,aq r C,λi y hi H=>?_⟩ ag)
   by_cases e:i=j
   ·subst e;rw[u]at H;cases H;exact U.1 k
   ·exact R i y ag H
 ·refine mN (A.ai r) rfl λI F G=>oB G (S _ _ _ I (bK (aq L r) F ag) (cr _) ⟨λ_=>f.1 λi x B=>?_,λ_=>rfl⟩);have:=(dy.1 B).1;exact R i x ag B
theorem abF(P:cG h s f.cs)(y:f.fQ)(z:∀e p n C,aB h C->(e=0↔bE f)->K e p n C):Ga f.name f.au f.k f.w f.id f.ix s h K Kp:=by
 refine Ga.of (aJ λa h1 e1 E N _=>aJ λb h2 e2 u g _=>dM (N.ai u) (aJ λc T e3 t M _=>?_));have G:=aq (aq E u) t;have g:=g.ai t;have Q:cG T ⟨some (aF c),1,1⟩ [f]:=by
  unfold cG;refine⟨rfl,cr _,_,rfl,?_,trivial⟩;obtain⟨nm,au,k,w,id,ix,ds⟩:=f;unfold jN;exact⟨s,xB M λi v O=>by rw[bX,r7];exact O,P.gr G⟩
 refine amy Q ⟨y,trivial⟩ aC λe p n S r pc A=>aJ λd h5 e5 D L _=>mN L rfl λB I l=>aj l rfl ?_;have q:=bK D I ag;have g:=g.ai r;have l2:=g.lt;have g:=g.ai q;have F:=aq (aq G r) q;refine aK (λc=>aj l rfl ?_) λc=>oB l (mN g rfl λo j m=>oB m (z _ _ _ o (bK F j ag) A));refine⟨aC,bZ,dH,aC,(dN l aC rfl λo j m=>?_)⟩
 have j:eJ d B o:=j;refine oB m (mN (j.bq g ag) rfl λR H J=>oB J (z _ _ _ R ?_ A));exact bK (bK F j ag) H ag
theorem abD{K:fD}(l:cG h s f.cs)(c:f.fQ)(m:∀b d,aB h d->(b=true↔bE f)->K b d):KW f.name f.au f.k f.w f.id f.ix s h K Kp:=by
 refine KW.of (aJ λa t e1 g j _=>dM j (abF (l.gr g) c λe p n q r o=>m _ q (aq g r) ?_));simp[*]
theorem ama{K:fD}(r:cG h s f.cs)(c:f.fQ)(t:∀b d,aB h d->(b=true↔bE f)->K b d):La f.name f.au f.k f.w f.id f.ix s h K Kp:=by
 refine La.of (aJ λa B e1 j q _=>dM q (abF (r.gr j) c λe p n A y u=>aJ λb z C g o _=>mN o rfl λv l m=>aj m rfl (t _ v ?_ ?_)))
 ·have:=g.1;exact aq (aq j y) (bK g l ag)
 simp[*]
end
def PO(f:ak):Prop:=∀{D E:aR}{h:Hp}{s t:Sl}{v:aD}{K:fD}{Kp:PK},bE f->ck D h s f.cs->aS E h t v.items->v.nH->v.bw<=2^50->(∀b h',aB h h'->(b=true↔f.fit v=true)->K b h')->
 wJ f.name f.au f.k f.w f.id f.ix s v.au v.num (bs v.text) t h K Kp
section
variable {E:aR} {K:fD}
theorem xj(h:f.fit v=true):v.items.length<=4096:=by rw[eG]at h;exact Ec h
theorem aoO(IH:∀c∈f.cs,PO c)(O:bE f)(f':f.k=1\/(15<=f.k/\f.k<=18))(gJ:v.au=false)(ht:v.text.length=0)(hs:ck D h s f.cs)(hv:aS E h t v.items)(hr:v.nH)(hw:v.bw<=2^50)(hk:∀b H,aB h H->(b=true↔f.fit v=true)->K b H):
  Lg f.k f.w f.id f.ix s v.au v.num (bs v.text) t h K Kp:=by
 obtain⟨h0,nM,i',W,_,_,_,T,b',g',_⟩:=O.right.1;have hn:=hv.n;have e':=hs.n;have d':=gS v;refine Lg.of (aJ λb1 hA e1 g1 o _=>aJ λb2 hB e2 g2 r _=>aj r rfl (aj (o.ai g2) rfl ?_));have L:=aq g1 g2;have o:=o.ai g2;have A:∀{H},aB hB H->f.fit v≠true->K false H:=λg q=>hk false _ (aq L g) ⟨λz=>by(cases z),λz=>absurd z q⟩
 have B:=cW hB;have X:¬v.items.length<=4096->f.fit v≠true:=λq z=>q (xj z);have loop:(f.k=15\/f.k=16\/f.k=17)->v.items.length<=4096->v.num=0->(f.k=16->v.items.length=f.w.toNat)->(f.k=17->v.items.length=f.cs.length)->Af K Kp (aF b1) (aF b2) (t.n:Int) hB:=by
  intro C cl cn cw cc;have U:=Ee C (λq=>T ag) cl gJ;refine Af.of (Qu.bC (λy H=>∃j:Nat,y=j/\j<=v.items.length/\aB hB H/\F9 f v.items j) (λy _=>v.items.length-y.toNat) ⟨0,rfl,eH _,B,λi y hi=>ag⟩ ?_)
  rintro y h4 ⟨j,rfl,hj,I,V⟩ N hN;have o:=o.ai I;have r:=r.ai I;refine cE (λc=>?_) λc=>?_
  ·have S:v.items[j]? =some (v.items[j]' ag):=aC;generalize v.items[j]' ag=x at S;have d:=bS S;have a':=oe d;have G:∀m:Nat,m=ua f j->Fq K Kp N (aF b1) (aF b2) (t.n:Int) (j:Int) (m:Int) h4:=by
    intro m Y;have ml:m<f.cs.length:=by
     unfold ua at Y;split at Y
     ·omega
     ·omega
    have Z:f.cs[m]? =some (f.cs[m]' ml):=aC;have l:f.cs[m]' ml∈f.cs:=aC;generalize f.cs[m]' ml=c0 at Z l;refine Fq.of (aj o rfl ((hs.gr (aq L I)).ix rfl Z λp u cp hu=>gQ cp (aj r rfl ((eO hv (aq L I)).ix rfl S λp2 u2 Q M=>ig Q (IH c0 l (O.aN l) hu M (HU hr.items x d) ag λb h5 g5 hb=>aK (λa=>A (aq I g5) λq=>?_) λa=>aY ag ag (hN _ _ ⟨j+1,ag,ag,aq I g5,λi y hi F=>?_⟩ ag))))))
    ·have a:=aU a;subst a;obtain⟨c',e1,e2⟩:=(U.1 q).2.2.2.2 j x ag S;rw[<-Y,Z]at e1;cases e1;have:=hb.2 e2;cases this
    ·have a:=aU a;subst a
     by_cases e:i=j
     ·subst e;rw[S]at F;cases F;exact⟨c0,by rw[<-Y];exact Z,hb.1 rfl⟩
     ·exact V i y ag F
   refine aj o rfl (aK (λa=>G j ?_) λa=>G 0 ?_)
   ·have a:=aU a;unfold ua;simp[*]
   ·have a:=aU a;unfold ua;simp[*]
  ·obtain rfl:j=v.items.length:=ag;exact hk true h4 (aq L I) ⟨λ_=>U.2 ⟨cn,ht,cw,cc,V⟩,λ_=>rfl⟩
 have num:(f.k=15\/f.k=16\/f.k=17)->(f.k=16->v.items.length=f.w.toNat)->(f.k=17->v.items.length=f.cs.length)->v.items.length<=4096->If (v.num !=0) (K false hB) (Af K Kp (aF b1) (aF b2) (t.n:Int) hB):=by
  intro C cw cc cl;refine aK (λc=>A B λq=>?_) λc=>loop C cl ?_ cw cc
  ·have c:=aU c;exact c ((Ee C (λq=>T ag) cl gJ).1 q).1
  ·have c:=aU c;exact c
 refine aK (λc=>aK (λa=>A B (X ?_)) λa=>aj r rfl (num (.inl ?_) (λz=>?_) (λz=>?_) ?_)) λc=>aK (λa=>aj o rfl (aK (λR=>A B λq=>?_) λR=>aj r rfl (num (.inr (.inl ?_)) (λz=>?_) (λz=>?_) ?_))) λa=>
  aK (λR=>aj o rfl (aK (λJ=>A B λq=>?_) λJ=>aj r rfl (num (.inr (.inr ?_)) (λz=>?_) (λz=>?_) ?_))) λR=>aK (λJ=>?_) λJ=>A B λq=>?_
 all_goals simp only[sm,reduceCtorEq]at*
 ·omega
 ·omega
 ·omega
 ·omega
 ·omega
 ·have:=((Ee (.inr (.inl a)) (λq=>T ag) (xj q) gJ).1 q).2.2.1 a;omega
 ·omega
 ·omega
 ·omega
 ·omega
 ·have:=((Ee (.inr (.inr R)) (λq=>T ag) (xj q) gJ).1 q).2.2.2.1 R;omega
 ·omega
 ·omega
 ·omega
 ·omega
 ·refine aK (λc5=>aj r rfl (aK (λc6=>aj r rfl (aj o rfl (aK (λc7=>aj o rfl (aj r rfl ?_)) λc7=>A B λq=>?_))) λc6=>A B λq=>?_)) λc5=>A B λq=>?_
  all_goals simp only[sm,reduceCtorEq]at*
  ·have l1:v.items.length=1:=ag;have U:=Ef J ag gJ;have P:f.cs[v.num.toNat]? =some (f.cs[v.num.toNat]' ag):=aC;have l:f.cs[v.num.toNat]' ag∈f.cs:=aC;have F:v.items[0]? =some (v.items[0]' ag):=aC;generalize f.cs[v.num.toNat]' ag=c0 at P l;generalize v.items[0]' ag=x at F;have d:=bS F;have a':=oe d;have e1:(f.cs.map ak.fit).getD v.num.toNat tU (v.items.getD 0 v0)=c0.fit x:=by rw[gB,fy,P,gB,F];rfl
   rw[e1]at U;refine(hs.gr L).ix ag P λp u cp hu=>gQ cp (aj r rfl ((eO hv L).ix rfl F λp2 u2 Q M=>ig Q (IH c0 l (O.aN l) hu M (HU hr.items x d) ag λb h5 g5 hb=>hk b h5 (aq L g5) (hb.trans ?_))));rw[U];exact⟨λq=>⟨ht,c6,ag,l1,q⟩,λq=>q.2.2.2.2⟩
  ·have:=(Ef J (xj q) gJ).1 q;omega
  ·have:=(Ef J (xj q) gJ).1 q;omega
  grind[Ef,xj]
 ·have o:f.k=1:=ag;simp_all[eG,fm,aE,ag]
theorem amq(IH:∀c∈f.cs,PO c):PO f:=by
 intro D E h s t v K Kp O hs hv hr hw hk;obtain⟨h0,nM,a',g',_,_,_,Z,f',e',_⟩:=O.right.1;have hn:=hv.n;have d':=gS v;refine wJ.of (aJ λb1 hA e1 g1 X _=>aJ λb2 hB e2 g2 o _=>nh (AT (X.ai g2)) (aJ λb3 hC e3 g3 G _=>pH G rfl λH o3 G=>?_));have g4:=bK g3 o3 ag;have V:=aq (aq g1 g2) g4;have X:=(X.ai g2).ai g4;have o:=o.ai g4;have fin:∀{b h'},aB H h'->(b=true↔f.fit v=true)->K b h':=λg q=>hk _ _ (aq V g) q;have N:=cW H;have B:f.fit v=fm f.k f.w f.lets (f.cs.map ak.fit) v:=by rw[eG]
 have S:((bs v.text).toList==(bs []).toList)=decide (v.text.length=0):=by
  rw[BJ,j0];simp[jw]
 have L:((t.n:Int)==0)=decide (v.items.length=0):=by rw[j0];simp[hn.1]
 have n0:((v.num:Int)==0)=decide (v.num=0):=by rw[j0];simp
 refine aj o rfl (aK (λc=>?_) λc=>RT.of (aj G rfl (ami (aK (λJ=>?_) λJ=>?_))))
 ·have C:f.fit v=true↔f.lets=true/\v.num=0/\v.text.length=0/\v.items.length=0:=by
   rw[B];unfold fm;rw[aI c];simp only[dr,dP];exact⟨λq=>⟨q.2.2,q.2.1.1.1,q.2.1.1.2,q.2.1.2⟩,λq=>⟨ag,⟨⟨q.2.1,q.2.2.1⟩,q.2.2.2⟩,q.1⟩⟩
  refine dM X (abB f O (hs.gr V) λY R=>?_);have o:=o.ai R;have j6:∀b,(b=true↔f.lets=true/\v.num=0)->FB K Kp (aF b2) b Y:=by
   intro b r;have j7:∀b,(b=true↔f.lets=true/\v.num=0/\v.text.length=0)->FA K Kp (aF b2) b Y:=by
    intro b r;refine FA.of (aK (λc=>aj o rfl (fin R ?_)) λc=>fin R ?_)
    ·rw[L,C,dP];have:=r.1 c;exact⟨λq=>⟨this.1,this.2.1,this.2.2,q⟩,λq=>q.2.2.2⟩
    ·rw[C];exact⟨λq=>(by cases q),λq=>by rw[r.2 ⟨q.1,q.2.1,q.2.2.1⟩]at c;cases c⟩
   refine FB.of (aK (λc=>aj o rfl (j7 _ ?_)) λc=>j7 _ ?_)
   ·rw[S,dP];have:=r.1 c;exact⟨λq=>⟨this.1,this.2,q⟩,λq=>q.2.2⟩
   ·exact⟨λq=>(by cases q),λq=>by rw[r.2 ⟨q.1,q.2.1⟩]at c;cases c⟩
  refine aK (λJ=>aj o rfl (j6 _ ?_)) λJ=>j6 _ ?_
  all_goals simp[*]
 ·have J:=aU J;have C:f.fit v=true↔(if f.k=2 then v.num=0\/v.num=1 else kV f.k v.num=true)/\v.text.length=0/\v.items.length=0:=by
   rw[B];unfold fm;rw[aE (by simp[c]),aA,aA,aA,aA,aA,aA]
   by_cases e:f.k=2
   ·rw[aI e,aI e];simp only[dr,dP];exact⟨λq=>⟨q.2.2.2,q.2.1,q.2.2.1⟩,λq=>⟨ag,q.2.1,q.2.2,q.1⟩⟩
   ·rw[aE e,aE e];simp only[dr,dP];exact⟨λq=>⟨q.2.2.2.2,q.2.1,q.2.2.1⟩,λq=>⟨ag,q.2.1,q.2.2,ag,q.1⟩⟩
  refine aj G rfl (aj o rfl (amb hr.num J λb r=>?_));have j3:∀b,(b=true↔(if f.k=2 then v.num=0\/v.num=1 else kV f.k v.num=true)/\v.text.length=0)->FF K Kp (aF b2) b H:=by
   intro b r;refine FF.of (aK (λc=>aj o rfl (fin N ?_)) λc=>fin N ?_)
   ·rw[L,C,dP];have:=r.1 c;exact⟨λq=>⟨this.1,this.2,q⟩,λq=>q.2.2⟩
   ·rw[C];exact⟨λq=>(by cases q),λq=>by rw[r.2 ⟨q.1,q.2.1⟩]at c;cases c⟩
  refine aK (λF=>aj o rfl (j3 _ ?_)) λF=>j3 _ ?_
  all_goals simp_all
 have J:=aU J;have P:f.k=12\/f.k=13\/f.k=14->(f.fit v=true↔v.num=0/\v.items.length=0/\(f.k=12->iC v.text=true)/\(f.k=14->v.text.length=f.w.toNat)):=λe=>by
  rw[B];unfold fm;rw[aE (by simp[c]),aA,aA,aA,aA,aA,aI e]
  simp only[dr,EK,dP];constructor
  ·rintro⟨q1,q2,q3,q4,q5⟩;exact⟨q2,q3,λz=>q4.resolve_left λy=>y z,λz=>q5.resolve_left λy=>y z⟩
  ·rintro⟨q2,q3,q4,q5⟩;refine⟨ag,q2,q3,?_,?_⟩
   ·by_cases z:f.k=12
    ·exact .inr (q4 z)
    ·exact .inl z
   ·by_cases z:f.k=14
    ·exact .inr (q5 z)
    ·exact .inl z
 refine aj G rfl (aK (λF=>aj o rfl (aoP (by rw[iU];omega) ?_)) λF=>aj G rfl (aK (λM=>aj o rfl (aK (λI=>aj o rfl (fin N ?_)) λI=>fin N ?_)) λM=>aj G rfl (aK (λI=>aj o rfl ?_) λI=>?_)))
 ·have F:=aU F;rw[MM];have C:=P ag;have j4:∀b,(b=true↔iC v.text=true/\v.num=0)->FE K Kp (aF b2) b H:=by
   intro b r;refine FE.of (aK (λc=>aj o rfl (fin N ?_)) λc=>fin N ?_)
   ·rw[L,C,dP];have:=r.1 c;exact⟨λq=>⟨this.2,q,λ_=>this.1,λz=>ag⟩,λq=>q.2.1⟩
   ·rw[C];exact⟨λq=>(by cases q),λq=>by rw[r.2 ⟨q.2.2.1 F,q.1⟩]at c;cases c⟩
  refine aK (λM=>aj o rfl (j4 _ ?_)) λM=>j4 _ ?_
  all_goals simp[*]
 ·simp_all
 ·simp_all
 ·simp only[sm,reduceCtorEq]at F M I;have C:=P ag;have j5:∀b,(b=true↔v.num=0/\v.items.length=0)->FD K Kp (aF b2) (aF b3) b H:=by
   intro b r;refine FD.of (aK (λc=>aj o rfl (aj G rfl (fin N ?_))) λc=>fin N ?_)
   ·rw[C,nU,iU];have:=r.1 c;exact⟨λq=>⟨this.1,this.2,λz=>ag,λz=>ag⟩,λq=>by have:=q.2.2.2 I;omega⟩
   ·rw[C];exact⟨λq=>(by cases q),λq=>by rw[r.2 ⟨q.1,q.2.1⟩]at c;cases c⟩
  refine aK (λA=>aj o rfl (j5 _ ?_)) λA=>j5 _ ?_
  ·have A:=aU A;rw[L,dP];exact⟨λq=>⟨A,q⟩,λq=>q.2⟩
  ·have A:=aU A;exact⟨λq=>(by cases q),λq=>absurd q.1 A⟩
 simp only[sm,reduceCtorEq]at F M I;have Q:f.k=19\/f.k=20->Ld H (Addr.add (aF b3) 4) Sl.v λa=>Ix a.a a.n 7 0 λa=>bP H a λa c d e f g i=>bN H (aF b2) λj k l m=>wJ a c d e f g i j k l m H (λa b=>K a b) Kp:=by
  intro e;have U:f.cs[0]? =some (f.cs[0]' ag):=aC
  have T:f.cs[0]' ag∈f.cs:=aC
  generalize f.cs[0]' ag=c0 at U T
  have C:=aet e U c;refine aj G rfl ((hs.gr V).ix rfl U λp u cp hu=>gQ cp (eW o (IH c0 T (O.aN T) hu (eO hv V) hr hw λb Y R r=>fin R (r.trans ?_))));rw[C,dr,dP];exact⟨λq=>⟨xj q,q⟩,λq=>q.2⟩
 have W:f.k≠19/\f.k≠20->FG K Kp (aF b2) (aF b3) H:=by
  intro e;refine FG.of (aj o rfl ?_);rw[S];refine aK (λA=>xV G (eW o (aoO IH O ag c ?_ (hs.gr V) (eO hv V) hr hw λb Y R r=>fin R r))) λA=>fin N ⟨λq=>(by cases q),λq=>?_⟩
  ·simpa using A
  ·have A:=aU A;refine absurd ?_ A
   by_cases b':f.k=18
   ·exact((Ef b' (xj q) c).1 q).1
   ·by_cases e1:f.k=1
    ·rw[B]at q;unfold fm at q;rw[aE (by simp[c]),aA,aA,aA,aA,aA,aA,e1]at q
     simp at q
    ·exact((Ee ag (λz=>Z ag) (xj q) c).1 q).2.1
 refine aj G rfl (aK (λA=>bQ A (Q ?_)) λA=>aj G rfl (aK (λc7=>Q ?_) λc7=>W ?_))
 all_goals simp only[sm,reduceCtorEq]at*
 all_goals omega
end
theorem abE:∀f:ak,PO f
 |.mk a b k w i x cs=>amq (f:=.mk a b k w i x cs) λc(_:c∈cs)=>abE c
theorem amo{E:aR}{K:fD}(e:bE f)(o:ck D h s f.cs)(i:aS E h t v.items)(p:v.nH)(j:∀b l,aB h l->(b=true↔v.bw<=4194304/\f.fit v=true)->K b l):
  Lo f.name f.au f.k f.w f.id f.ix s v.au v.num (bs v.text) t h K Kp:=by
 refine Lo.of (aJ λC A e1 m n _=>aJ λb2 hB B d g _=>eW g (Uo v (eO i (aq m d)) ag ag λx c=>?_));have a:=aq (aq m d) c;unfold BC
 by_cases q:(v.bw:Int)<=4194304
 ·rw[aI q];refine bQ dH (dM ((n.ai d).ai c) (eW (g.ai c) (abE f e (o.gr a) (eO i a) p ag λb u y r=>j b u (aq a y) (r.trans ⟨λz=>⟨ag,z⟩,λz=>z.2⟩))))
 ·rw[aE q];exact bu aC (j false x a ⟨λz=>(by cases z),λz=>ag⟩)
theorem TC(hl:f.lets=false):f.wz=min 4194305 (if f.k=14 then 16+f.w.toNat else if f.k=16 then 16+f.w.toNat*(f.cs.map ak.wz).getD 0 0 else if f.k=17 then 16+(f.cs.map ak.wz).sum else if f.k=18 then 16+(f.cs.map ak.wz).getD 0 0 else if f.k=19\/f.k=20 then(f.cs.map ak.wz).getD 0 0 else 16):=by
 rw[zM,hl];rfl
theorem AD(a:f.cs[0]? =some c):(f.cs.map ak.wz).getD 0 0=c.wz:=by simp_all
theorem ais(a:f.k=20)(b:f.cs[0]? =some c)(d:f.cs.length=1):f.wz=c.wz:=by
  have el:f.lets=c.lets:=by
    rw[xS];unfold m8;rw[aI ⟨a,by rw[cC];exact d⟩,gB,fy,b];rfl
  cases hl:f.lets with
  |true=>rw[Hh hl,Hh (el▸hl)]
  | false=>
    simp_all[TC,aE,ag,aI,AD,Jp,qz]
theorem aaT:∀(l:cV)(i:Nat),(l.take i).sum<=l.sum
 |[],i=>aC
 |x::l,0=>aC
 |x::l,i+1=>by have:=aaT l i;simp_all
def ER(fn:ak->Sl->Hp->(Int->HP)->PK->Prop)(f:ak):Prop:=∀{h:Hp}{s:Sl}{K:cL}{Kp:PK},bE f->cG h s f.cs->(∀h',aB h h'->K (f.wz:Int) h')->fn f s h K Kp
abbrev f320(f:ak)(s:Sl)(h:Hp)(K:cL)(Kp:PK):Prop:=uM f.name f.au f.k f.w f.id f.ix s h K Kp
abbrev f336(f:ak)(s:Sl)(h:Hp)(K:cL)(Kp:PK):Prop:=yI f.name f.au f.k f.w f.id f.ix s 4194304 h K Kp
section
theorem ahB(IH:∀c∈f.cs,ER f320 c):ER f320 f:=by
 intro h s K Kp fX hs hk;obtain⟨h0,nM,zp,D0,_,_,_,h1,Xx,Bm,_⟩:=fX.right.1;have ln:=sJ f fX;have hn:=hs.n;refine uM.of (aJ λb1 hA e1 g1 k1 _=>nh (AT k1) (aJ λb2 hB e2 g2 k2 _=>pH k2 rfl λhC o2 k2=>aj (k1.ai (bK g2 o2 ag)) rfl ?_));have g3:=bK g2 o2 ag;have G3:=aq g1 g3;have cap:∀{n:Nat}{h'},aB hC h'->f.wz=min 4194305 n->aW ((n:Int)>4194304) (K 4194305 h') (K (n:Int) h'):=λ{n h'}g e=>by
  have:=hk h' (aq G3 g);rw[e]at this;refine cE (λc=>?_) λc=>?_
  ·rw[BU ag]at this;exact this
  ·rw[Jp ag]at this;exact this
 refine aK (λc=>?_) λc=>?_
 ·have:=hk hC G3;grind[Hh]
 have hl:=ln.trans c;have ez:=TC hl;have tZ:∀{Q:Prop},f.cs.length>=1->(∀c0,f.cs[0]? =some c0->c0∈f.cs->Q)->Q:=λq r=>r _ (bL ag) (kE ag);refine aj k2 rfl (aK (λgW=>?_) λgW=>aK (λkA=>?_) λkA=>aK (λmL=>?_) λmL=>aK (λfM=>?_) λfM=>?_)
 all_goals simp only[sm,reduceCtorEq]at*
 ·have:=zp gW;rw[aI gW]at ez;refine aj k2 rfl (aY ag ag ?_);have:=cap (cW _) ez
  rwa [show(((16+f.w.toNat:Nat):Int))=16+f.w by omega]at this
 ·rw[aE gW,aI kA]at ez;refine tZ (by have:=h1 ag;omega) λc0 eB gK=>aj k2 rfl ((hs.gr G3).ix rfl eB λp hp=>?_)
  rw[AD eB]at ez;obtain⟨u,cu,hu⟩:=hp.row;have ct:=qz c0;refine gQ cu (IH c0 gK (fX.aN gK) hu λh4 g4=>Qw.bC (λc d h'=>∃i:Nat,d=i/\(i:Int)<=f.w/\c=((16+i*c0.wz:Nat):Int)/\c<=9000000/\aB hC h') (λ_ d _=>(f.w-d).toNat) ⟨0,rfl,ag,aC,ag,g4⟩ ?_)
  rintro c d h5 ⟨i,rfl,hi,rfl,hc,g5⟩ N hN;have up:f.w.toNat*c0.wz>=i*c0.wz:=pL _ ag;refine aj (k2.ai g5) rfl (aK (λc5=>aK (λc6=>aY ag ag (aY ag ag (hN _ _ _ ⟨i+1,ag,?_,?_,?_,g5⟩ ?_))) λc6=>?_) λc5=>?_)
  all_goals simp only[sm,reduceCtorEq]at*
  ·omega
  ·rw[qP];push_cast;omega
  ·omega
  ·omega
  ·have:=hk h5 (aq G3 g5);rw[ez,BU ag]at this;exact bQ cy this
  ·have:i=f.w.toNat:=ag;subst this;exact cap g5 ez
 ·rw[aE gW,aE kA,aI mL]at ez;have ayH:∀x∈f.cs.map ak.wz,x<=4194305:=by grind[qz]
  apply Qv.bC (λc d h'=>∃i:Nat,d=i/\i<=f.cs.length/\c=((16+((f.cs.map ak.wz).take i).sum:Nat):Int)/\c<=9000000/\aB hC h') (λ_ d _=>f.cs.length-d.toNat) ⟨0,rfl,eH _,aC,ag,cW _⟩
  rintro c d h5 ⟨i,rfl,hi,rfl,hc,g5⟩ N hN;have up:=aaT (f.cs.map ak.wz) i;refine aj (k2.ai g5) rfl (aK (λc5=>aK (λc6=>RL.of (aj (k2.ai g5) rfl ?_)) λc6=>?_) λc5=>?_)
  all_goals simp only[sm,reduceCtorEq]at*
  ·have fR:i<f.cs.length:=ag;have eB:=bL fR;have gK:=kE fR;have ov:(f.cs.map ak.wz).take (i+1)=(f.cs.map ak.wz).take i++[(f.cs[i]' fR).wz]:=by rw[kP (by simpa using fR)];simp
   generalize f.cs[i]' fR=c0 at eB gK ov;have ct:=qz c0;refine(hs.gr (aq G3 g5)).ix rfl eB λp hp=>?_;obtain⟨u,cu,hu⟩:=hp.row;refine gQ cu (IH c0 gK (fX.aN gK) hu λh6 g6=>aY ag ag (aY ag ag (hN _ _ _ ⟨i+1,ag,ag,?_,ag,aq g5 g6⟩ ag)))
   rw[ov];simp;omega
  ·have:=hk h5 (aq G3 g5);rw[ez,BU ag]at this;exact bQ cy this
  ·have:i=f.cs.length:=ag;subst this;have:=cap g5 ez
   rwa [show f.cs.map ak.wz=(f.cs.map ak.wz).take f.cs.length by rw[pK aC]]at this
 ·rw[aE gW,aE kA,aE mL,aI fM]at ez;refine tZ (by have:=Bm fM;omega) λc0 eB gK=>aj k2 rfl ((hs.gr G3).ix rfl eB λp hp=>?_)
  rw[AD eB]at ez;obtain⟨u,cu,hu⟩:=hp.row;have ct:=qz c0;refine gQ cu (IH c0 gK (fX.aN gK) hu λh4 g4=>aY ag ag ?_);have:=cap g4 ez;grind[Int.natCast_add]
 ·rw[aE gW,aE kA,aE mL,aE fM]at ez;have aaG:f.k=19\/f.k=20->Ld hC (Addr.add (aF b2) 4) Sl.v λa=>Ix a.a a.n 7 0 λa=>bP hC a λa b d e f g i=>uM a b d e f g i hC (λa b=>K a b) Kp:=by
   intro q;rw[aI q]at ez;refine tZ (by have:=h1 ag;omega) λc0 eB gK=>aj k2 rfl ((hs.gr G3).ix rfl eB λp hp=>?_)
   rw[AD eB,Jp (qz c0)]at ez;obtain⟨u,cu,hu⟩:=hp.row;refine gQ cu (IH c0 gK (fX.aN gK) hu λh4 g4=>?_);rw[<-ez];exact hk h4 (aq G3 g4)
  refine aK (λnN=>bQ nN (aaG ?_)) λnN=>aK (λzH=>aaG ?_) λzH=>?_
  all_goals simp only[sm,reduceCtorEq]at*
  ·exact .inl nN
  ·exact .inr zH
  ·rw[aA]at ez;exact cap (cW _) ez
theorem ahC(IH:∀c∈f.cs,ER f336 c):ER f336 f:=by
 intro h s K Kp fX hs hk;obtain⟨h0,nM,zp,D0,_,_,_,h1,Xx,Bm,_⟩:=fX.right.1;have ln:=sJ f fX;have hn:=hs.n;refine yI.of (aJ λb1 hA e1 g1 k1 _=>nh (AT k1) (aJ λb2 hB e2 g2 k2 _=>pH k2 rfl λhC o2 k2=>aj (k1.ai (bK g2 o2 ag)) rfl ?_));have g3:=bK g2 o2 ag;have G3:=aq g1 g3;have cap:∀{n:Nat}{h'},aB hC h'->f.wz=min 4194305 n->aW ((n:Int)>4194304) (aP ((4194304:Int)+1) λa=>K a h') (K (n:Int) h'):=λ{n h'}g e=>by
  have:=hk h' (aq G3 g);rw[e]at this;refine aK (λc=>aY ag ag ?_) λc=>?_
  ·have c:=aU c;rw[BU ag]at this;exact this
  ·have c:=aU c;rw[Jp ag]at this;exact this
 have tZ:∀{Q:Prop},f.cs.length>=1->(∀c0,f.cs[0]? =some c0->c0∈f.cs->Q)->Q:=λq r=>r _ (bL ag) (kE ag);have j1:(f.k=20\/f.lets=false)->Fl K Kp 4194304 (aF b2) 16 hC:=by
  intro hl;have Eg:=λq:f.k≠20=>TC (hl.resolve_left q);have j2:∀b,b=decide (f.k=19\/f.k=20)->f.k≠14->Fk K Kp 4194304 (aF b2) 16 f.k b hC:=by
   rintro b rfl gW;refine Fk.of (cE (λc=>?_) λc=>?_)
   ·refine tZ (by have:=h1 ag;omega) λc0 eB gK=>aj k2 rfl ((hs.gr G3).ix rfl eB λp hp=>?_)
    obtain⟨u,cu,hu⟩:=hp.row;refine gQ cu (IH c0 gK (fX.aN gK) hu λh4 g4=>?_);have:=hk h4 (aq G3 g4);have e:f.wz=c0.wz:=by
     by_cases q:f.k=20
     ·exact ais q eB (h1 ag)
     ·rw[Eg q,aA,aA,aA,aA,aI c,AD eB];exact Jp (qz c0)
    rw[<-e];exact this
   have ez:=Eg ag;rw[aE gW]at ez;refine aK (λfM=>?_) λfM=>aK (λkA=>?_) λkA=>aK (λmL=>?_) λmL=>?_
   all_goals simp only[sm,reduceCtorEq]at*
   ·rw[aA,aA,aI fM]at ez;refine tZ (by have:=Bm fM;omega) λc0 eB gK=>aj k2 rfl ((hs.gr G3).ix rfl eB λp hp=>?_)
    rw[AD eB]at ez;obtain⟨u,cu,hu⟩:=hp.row;have ct:=qz c0;refine gQ cu (IH c0 gK (fX.aN gK) hu λh4 g4=>aY ag ag ?_);have:=cap g4 ez;rw[Int.natCast_add]at this;exact this
   ·rw[aI kA]at ez;refine aj k2 rfl (tZ (by have:=h1 ag;omega) λc0 eB gK=>aj k2 rfl ((hs.gr G3).ix rfl eB λp hp=>?_))
    rw[AD eB]at ez;obtain⟨u,cu,hu⟩:=hp.row;have ct:=qz c0;have up:f.w.toNat*c0.wz<=64*4194305:=sX ag ct;have ew:f.w*(c0.wz:Int)=((f.w.toNat*c0.wz:Nat):Int):=by rw[YO,xZ ag]
    refine gQ cu (IH c0 gK (fX.aN gK) hu λh4 g4=>bR k2 g4 ?_);rw[ew];refine aY ag ag (aY ag ag ?_);have:=cap g4 ez;rw[Int.natCast_add]at this;exact this
   ·rw[aE kA,aI mL]at ez;apply Qm.bC (λc d h'=>∃i:Nat,d=i/\i<=f.cs.length/\c=((16+((f.cs.map ak.wz).take i).sum:Nat):Int)/\c<=16+4194305*(i:Int)/\aB hC h') (λ_ d _=>f.cs.length-d.toNat) ⟨0,rfl,eH _,aC,ag,cW _⟩
    rintro c d h5 ⟨i,rfl,hi,rfl,hc,g5⟩ N hN;refine aj (k2.ai g5) rfl (aK (λc5=>aj (k2.ai g5) rfl ?_) λc5=>?_)
    all_goals simp only[sm,reduceCtorEq]at*
    ·have fR:i<f.cs.length:=ag;have eB:=bL fR;have gK:=kE fR;have ov:(f.cs.map ak.wz).take (i+1)=(f.cs.map ak.wz).take i++[(f.cs[i]' fR).wz]:=by rw[kP (by simpa using fR)];simp
     generalize f.cs[i]' fR=c0 at eB gK ov;have ct:=qz c0;refine(hs.gr (aq G3 g5)).ix rfl eB λp hp=>?_;obtain⟨u,cu,hu⟩:=hp.row;refine gQ cu (IH c0 gK (fX.aN gK) hu λh6 g6=>aY ag ag (aY ag ag (hN _ _ _ ⟨i+1,ag,ag,?_,ag,aq g5 g6⟩ ag)))
     rw[ov];simp;omega
    ·have:i=f.cs.length:=ag;subst this;have:=cap g5 ez
     rwa [show f.cs.map ak.wz=(f.cs.map ak.wz).take f.cs.length by rw[pK aC]]at this
   ·rw[aE kA,aE mL,aE fM,aA]at ez;exact cap (cW _) ez
  refine Fl.of (aj k2 rfl (aK (λgW=>?_) λgW=>aK (λnN=>j2 _ ?_ ?_) λnN=>j2 _ ?_ ?_))
  all_goals simp only[sm,reduceCtorEq]at*
  ·have:=zp gW;have ez:=Eg ag;rw[aI gW]at ez;refine aj k2 rfl (aY ag ag ?_);have:=cap (cW _) ez
   rwa [show(((16+f.w.toNat:Nat):Int))=16+f.w by omega]at this
  ·simp[nN]
  ·exact gW
  ·rw[j0];simp[nN]
  ·exact gW
 refine aK (λc=>aj k2 rfl (aK (λc2=>?_) λc2=>j1 (.inl ?_))) λc=>j1 (.inr (ln.trans c))
 ·have:=hk hC G3;grind[Hh]
 ·have c2:=aU c2;exact c2
end
theorem Z4:∀f:ak,ER f320 f
 |.mk a b k w i x cs=>ahB (f:=.mk a b k w i x cs) λc(_:c∈cs)=>Z4 c
theorem Z5:∀f:ak,ER f336 f
 |.mk a b k w i x cs=>ahC (f:=.mk a b k w i x cs) λc(_:c∈cs)=>Z5 c
def ZB(f:ak):Prop:=∀{h:Hp}{s:Sl}{K:Bool->Int->ByteArray->Sl->HP}{Kp:PK},bE f->cG h s f.cs->(∀t h',aB h h'->aS (Nw h) h' t f.zv.items->K f.zv.au f.zv.num (bs f.zv.text) t h')->yH f.name f.au f.k f.w f.id f.ix s h K Kp
theorem ahE(b:f.k=19\/f.k=20)(hl:f.lets=false\/f.k=20)(a:f.cs[0]? =some c)(d:f.cs.length=1):f.zv=c.zv:=by
 have key:f.lets=false->f.zv=c.zv:=λe=>by
  rw[Tq e,aA,aA,aA,aA,aI b,My a]
 rcases hl with e|e
 ·exact key e
 ·have el:f.lets=c.lets:=by
   rw[xS];unfold m8;rw[aI ⟨e,by rw[cC];exact d⟩,gB,fy,a];rfl
  grind[Mx]
theorem alM(IH:∀c∈f.cs,ZB c):ZB f:=by
 intro h s K Kp fX hs hk;obtain⟨h0,nM,zp,D0,_,_,_,h1,Xx,Bm,_⟩:=fX.right.1;have ln:=sJ f fX;have hn:=hs.n;refine yH.of (aJ λb1 hA e1 g1 k1 _=>aJ λa2 hB e2 g2 k2 _=>nh (AT (k1.ai g2)) (aJ λa4 hC e4 g4 k4 _=>pH k4 rfl λhD o4 k4=>?_));have k4l:=k4.lt;have gD:=bK g4 o4 ag;have GD:=aq (aq g1 g2) gD;have k2:=k2.ai gD;apply aj ((k1.ai g2).ai gD) rfl;have j1:(f.k=20\/f.lets=false)->Fj K Kp (aF a2) (aF a4) hD:=by
  intro hl;refine Fj.of (aJ λa3 hE e3 g3 k3 _=>mj k3 rfl λhF o3 k3=>?_);have k3l:=k3.lt;have gF:=bK g3 o3 ag;have GF:=aq GD gF;have k2:=k2.ai gF;have k4:=k4.ai gF;have L:ZL h hF.size a2 a3 a4:=⟨ag,ag,ag,ag,ag⟩
  have S0:ZS h hF.size a2 a3 a4 _ hF Sl.nil []:=⟨GF,cr _,k2,k4,k3,nv.nil⟩;have Eg:=λq:f.k≠20=>Tq (hl.resolve_left q);have tZ:∀{Q:Prop},f.cs.length>=1->(∀c0,f.cs[0]? =some c0->c0∈f.cs->Q)->Q:=λq r=>r _ (bL ag) (kE ag);have j2:∀b,b=decide (f.k=19\/f.k=20)->f.k≠14->Fi K Kp (aF a2) (aF a4) (aF a3) f.k b hF:=by
   rintro b rfl gW;refine Fi.of (cE (λc=>?_) λc=>?_)
   ·refine tZ (by have:=h1 ag;omega) λc0 eB gK=>aj k4 rfl ((hs.gr GF).ix rfl eB λp hp=>?_)
    obtain⟨u,cu,hu⟩:=hp.row;refine gQ cu (IH c0 gK (fX.aN gK) hu λt h4 g4 vt=>?_);have e:=ahE c (hl.symm) eB (h1 ag);rw[<-e]at vt ⊢;exact L.IT hk (aq GF g4) (k2.ai g4) rfl vt
   have ez:=Eg ag;rw[aE gW]at ez;refine aK (λfM=>?_) λfM=>aK (λkA=>?_) λkA=>aK (λmL=>?_) λmL=>?_
   all_goals simp only[sm,reduceCtorEq]at*
   ·rw[aA,aA,aI fM]at ez;refine aj k3 rfl (tZ (by have:=Bm fM;omega) λc0 eB gK=>aj k4 rfl ((hs.gr GF).ix rfl eB λp hp=>?_))
    rw[My eB]at ez;obtain⟨u,cu,hu⟩:=hp.row;refine gQ cu (IH c0 gK (fX.aN gK) hu λt h4 g4 vt=>bR k3 g4 (L.more S0 aC g4 vt λhy t' S=>L.fin hk S.g S.k2 rfl S.k3 ez S.o.vs))
   ·rw[aI kA]at ez;have hw:=D0 kA;refine tZ (by have:=h1 ag;omega) λc0 eB gK=>Ql.bC (λy h'=>∃(i:Nat)(t:Sl),y=i/\(i:Int)<=f.w/\ZS h hF.size a2 a3 a4 #[ah f.k,ah f.w,ah f.id,ah f.ix,Sl.v s] h' t (List.replicate i c0.zv)) (λy _=>(f.w-y).toNat) ⟨0,Sl.nil,rfl,ag,S0⟩ ?_
    rw[My eB]at ez;rintro y hx ⟨i,t,rfl,hi,S⟩ N hN;refine aj S.k4 rfl (cE (λcc=>?_) λcc=>?_)
    ·refine aj S.k3 rfl (aj S.k4 rfl ((hs.gr S.g).ix rfl eB λp hp=>?_));obtain⟨u,cp,hu⟩:=hp.row;refine gQ cp (IH c0 gK (fX.aN gK) hu λt' h7 g7 vt=>bR S.k3 g7 (L.more S cy g7 vt λhy t' S=>aY ag ag (hN _ _ ⟨i+1,t',aC,ag,?_⟩ ag)))
     rw[Ey];exact S
    ·have:i=f.w.toNat:=ag;subst this;exact L.fin hk S.g S.k2 rfl S.k3 ez S.o.vs
   ·rw[aE kA,aI mL]at ez;apply Qk.bC (λy h'=>∃(i:Nat)(t:Sl),y=i/\i<=f.cs.length/\ZS h hF.size a2 a3 a4 #[ah f.k,ah f.w,ah f.id,ah f.ix,Sl.v s] h' t ((f.cs.map ak.zv).take i)) (λy _=>f.cs.length-y.toNat) ⟨0,Sl.nil,rfl,eH _,S0⟩;rintro y hx ⟨i,t,rfl,hi,S⟩ N hN;refine aj S.k4 rfl (aK (λcc=>?_) λcc=>?_)
    ·have cc:=aU cc;have fR:i<f.cs.length:=ag;have eB:=bL fR;have gK:=kE fR;have ov:(f.cs.map ak.zv).take (i+1)=(f.cs.map ak.zv).take i++[(f.cs[i]' fR).zv]:=by rw[kP (by simpa using fR)];simp
     generalize f.cs[i]' fR=c0 at eB gK ov;refine aj S.k3 rfl (aj S.k4 rfl ((hs.gr S.g).ix rfl eB λp hp=>?_));obtain⟨u,cp,hu⟩:=hp.row;refine gQ cp (IH c0 gK (fX.aN gK) hu λt' h7 g7 vt=>bR S.k3 g7 (L.more S cy g7 vt λhy t' S=>aY ag ag (hN _ _ ⟨i+1,t',aC,ag,?_⟩ ag)))
     rw[ov];exact S
    ·have cc:=aU cc;have:i=f.cs.length:=ag;subst this;rw[pK aC]at S;exact L.fin hk S.g S.k2 rfl S.k3 ez S.o.vs
   ·rw[aE kA,aE mL,aE fM,aA]at ez;exact L.fin hk GF k2 rfl k3 ez (oz _)
  refine aj k4 rfl (aK (λgW=>?_) λgW=>aK (λnN=>j2 _ ?_ ?_) λnN=>j2 _ ?_ ?_)
  all_goals simp only[sm,reduceCtorEq]at*
  ·have ez:=Eg ag;rw[aI gW]at ez;refine aj k4 rfl (E7 ag ag ag λt h7 g7 ow _=>?_);have v:Sv h7 t (bv (List.replicate f.w.toNat 0)):=by simpa[bv]using ow.sv
   refine⟨List.replicate f.w.toNat 0,by have:=v.AU v.na;rw[zS]at this;exact this,?_⟩
   show St h7 ⟨a3,2,none⟩ (.string (bs (List.replicate f.w.toNat 0))) _
   exact dN (k3.ai g7) aC rfl λh8 o8 k8=>L.fin hk (bK (aq GF g7) o8 ag) (o8.bq (k2.ai g7) ag) rfl (by simpa[Sl.nil]using k8) ez (oz _)
  ·simp[nN]
  ·exact gW
  ·rw[j0];simp[nN]
  ·exact gW
 refine aK (λc=>aj k4 rfl (aK (λc2=>?_) λc2=>j1 (.inl ?_))) λc=>j1 (.inr (ln.trans c))
 ·refine mj k2 rfl λh8 o8 k8=>eW k8 ?_;have:=hk Sl.nil h8 (bK GD o8 ag);rw[Mx (ln.trans c)]at this;exact this (oz _)
 ·have c2:=aU c2;exact c2
theorem abr:∀f:ak,ZB f
 |.mk a b k w i x cs=>alM (f:=.mk a b k w i x cs) λc(_:c∈cs)=>abr c
theorem alN{K:Bool->Int->ByteArray->Sl->Int->HP}{E:PK}(i:bE f)(p:f.fQ)(J:f.wz<=4194304)(n:cG h s f.cs)(C:∀t o,aB h o->aS (Nw h) o t f.zv.items->K f.zv.au f.zv.num (bs f.zv.text) t 0 o):
  Lj f.name f.au f.k f.w f.id f.ix s h K E:=by
 refine Lj.of (aJ λa N e1 j m _=>aJ λb hB O d u _=>dM (m.ai d) (ama (n.gr (aq j d)) p λq M g B=>bu (by rw[B.2 i];rfl) (dM ((m.ai d).ai g) (Z5 f i (n.gr (aq (aq j d) g)) λv l=>bu cy (dM (((m.ai d).ai g).ai l) (abr f i (n.gr (aq (aq (aq j d) g) l)) λt L x y=>
  mj (((u.ai g).ai l).ai x) rfl λD r A=>eW A (C t D ?_ ?_)))))))
 ·have z:=j.1;exact bK (aq (aq (aq (aq j d) g) l) x) r ag
 ·have H:=g.1;have G:=l.1;exact aS.fr r.fr (λc(q:v.size<=c)_(e:c=b)=>ag) (λc(q:v.size<=c)=>by show h.size<=c;omega) _ y
def ZD(x:aD):Prop:=∀{y:aD}{D E:aR}{h:Hp}{s t:Sl}{K:fD}{Kp:PK},aS D h s x.items->aS E h t y.items->x.bw<=2^50->(∀b h',aB h h'->(b=true↔x=y)->K b h')->
 CV x.au x.num (bs x.text) s y.au y.num (bs y.text) t h K Kp
theorem al9{x:aD}(IH:∀z∈x.items,ZD z):ZD x:=by
 intro y D E h s t K V O M hw P;have b':=gS x;have c':=Iv x;have Z:=O.n;have hm:=M.n;refine CV.of (aJ λU h1 e1 g1 d _=>aJ λT I e2 S k _=>?_);have d:=d.ai S;have G:=aq g1 S;have B:∀{C:Hp},aB h C->x≠y->K false C:=λg ne=>P false _ g ⟨λe=>(by cases e),λe=>absurd e ne⟩
 have L:x≠y->Ct K V (aF U) (aF T) true I:=λne=>Ct.of (bQ rfl (B G ne));have W:x≠y->Cv K V (aF U) (aF T) true I:=λne=>Cv.of (bQ rfl (L ne));refine aj d rfl (aj k rfl (aK (λc=>?_) λc=>?_))
 ·exact W λe=>by subst e;simp at c
 have c1:x.au=y.au:=by simpa using c
 simp only[bz,bX];refine aj d rfl (aj k rfl (Cv.of (aK (λc=>?_) λc=>?_)))
 ·exact L λe=>by subst e;simp at c
 have c2:x.num=y.num:=by simpa using c
 simp only[bz,bX];refine aj d rfl (aj k rfl ?_);rw[BJ];refine Ct.of (aK (λc=>B G λe=>by subst e;simp at c) λc=>?_)
 have c3:x.text=y.text:=by simpa using c
 simp only[bz,bX];refine aj d rfl (aj k rfl (aK (λJ=>B G λe=>?_) λc=>?_))
 ·simp_all
 have c:=aU c;refine RD.of (Qj.bC (λz C=>∃i:Nat,z=i/\i<=x.items.length/\aB I C/\x.items.take i=y.items.take i) (λz _=>x.items.length-z.toNat) ⟨0,rfl,eH _,cW _,rfl⟩ ?_);rintro z h3 ⟨i,rfl,hi,l,A⟩ N hN;have H:=aq G l;refine aj (d.ai l) rfl (aK (λm=>?_) λm=>?_)
 ·have m:=aU m;have v:i<x.items.length:=ag;have a:=bL v;have j:y.items[i]? =some y.items[i]:=bL ag;have r:=kP v;have o:y.items.take (i+1)=y.items.take i++[y.items[i]]:=kP ag;generalize x.items[i]=u at a r;generalize y.items[i]=w at j o;have f:=bS a;have a':=oe f;simp only[bz,bX];refine aj (d.ai l) rfl ((eO O H).ix rfl a λp p' cp Y=>ig cp (aj (k.ai l) rfl ((eO M H).ix rfl j λq q' cq X=>ig cq (IH u f Y X ag λb h4 R Q=>aK (λF=>?_) λF=>?_))))
  ·refine B (aq H R) λe=>?_;have:u=w:=by rw[e,j]at a;cases a;rfl
   rw[Q.2 this]at F;cases F
  ·have:u=w:=Q.1 (by simpa using F)
   exact aY ag ag (hN _ _ ⟨i+1,aC,ag,aq l R,by rw[r,o,A,this]⟩ ag)
 ·have m:=aU m;have:i=x.items.length:=ag;grind[aas,List.take_length]
theorem Ux:∀x:aD,ZD x
 |.mk a b c items=>al9 (x:=.mk a b c items) λx(_:x∈items)=>Ux x
def lP(f:ak)(v:aD):List UInt8:=if f.k=2 then[UInt8.ofNat (v.num%2^64).toNat]else if f.k=14 then(if v.au then List.replicate f.w.toNat 0 else v.text)else iT (v.num%2^64).toNat (dJ f.k).toNat
structure nB(f:ak)(vs:aQ)(X:Bx):Prop where
 b:X.vl.length<=vs.length/\X.cd.length<=vs.length/\X.fx.length<=16*vs.length/\X.os.length<=vs.length+1/\X.tx.length<=65536/\X.ix.length<=vs.length/\X.en.length<=vs.length
 v:f.k≠18/\f.k≠20->X.vl=vs.map λv=>if v.au then 0 else 1
 o:f.k=12\/f.k=13\/f.k=15\/f.k=18->X.os=(aM f.k vs).ends
 t:f.k=12\/f.k=13->X.tx=(aM f.k vs).all
 c:f.k=18->X.cd=(aM f.k vs).all
 i:f.k=19->X.ix=(aM f.k vs).ends
 e:f.k=20->X.en=(aM f.k vs).ends
 x:fE f.k=true->X.fx=vs.flatMap (lP f)
def rR(f:ak)(vs:aQ):Bn:=⟨vs.length,vs.countP (dY f.k),bJ vs⟩
def Mu(f:ak)(KM:List BF):BF:=λQ T h p vs=>∃g X,ga f KM Q T h p g (rR f vs) X (aM f.k vs).aH (λj=>cont f j vs)/\nB f vs X
mutual
def ak.gL:ak->BF
 |.mk nm au k w id ix cs=>Mu (.mk nm au k w id ix cs) (Jj cs)
def Jj:List ak->List BF
 |[]=>[]
 |f::fs=>f.gL::Jj fs
end
theorem af0:∀cs:List ak,Jj cs=cs.map ak.gL
 |[]=>by simp[Jj]
 |f::a=>by simp[Jj,af0 a]
theorem ak.auP(f:ak):f.gL=Mu f (f.cs.map ak.gL):=by
 obtain⟨a,au,k,w,id,ix,cs⟩:=f;rw[<-af0];simp only[ak.gL];rfl
abbrev xO:=@ak.auP
theorem Mu.ok{u:List BF}(KF:∀M∈u,ob M):ob (Mu f u) where
 fr:=λ⟨g,X,G,ok⟩t hT hQ=>⟨g,X,G.fr KF t hT hQ,ok⟩
 q:=λ⟨g,X,G,ok⟩b a=>⟨g,X,G.alf KF b a,ok⟩
 d:=λ⟨_,_,G,_⟩=>G.q
 r:=λ⟨g,X,G,_⟩=>by rw[gU G.k];rfl
theorem xJ:∀f:ak,ob f.gL
  | .mk e au k w id ix cs=>by
    rw[xO];have a:∀c∈cs,ob c.gL:=λc _=>xJ c;exact Mu.ok λM d=>by obtain⟨c,b,rfl⟩:=kZ.1 d;exact a c b
theorem nP(cs:cN):∀M∈cs.map ak.gL,ob M:=λM a=>by grind[xJ]
abbrev pB(p:Nat):Option Addr:=some (aF p)
def n5(f:ak):Prop:=∀{Q T:aR}{h:Hp}{p:Nat}{vs:aQ}{x:aD}{s:Sl}{K:cL}{Kp:PK},f.can vs->f.fit x=true->x.bw<=4194304->f.gL Q T h p vs->aS Q h s x.items->
 (∀Q' T' h',Ext Q Q' T T' h h'->(gp f vs x=0->f.gL Q' T' h' p (vs++[x]))->K (gp f vs x) h')->q8 (pB p) x.au x.num (bs x.text) s h K Kp
def pN(f:ak):Prop:=∀{Q T:aR}{h:Hp}{p:Nat}{vs:aQ}{K:cL}{Kp:PK},f.can vs->f.gL Q T h p vs->
 (∀Q' T' h',Ext Q Q' T T' h h'->(gE f vs=0->f.gL Q' T' h' p (vs++[f.cm]))->K (gE f vs) h')->qZ (pB p) h K Kp
def lg(kc:Nat->List aD)(j:Nat)(l:aQ):Nat->List aD:=λi=>if i=j then l else kc i
section
variable {p:Nat} {Q0 T0 Q T E:aR} {g:dL} {n:Bn} {X:Bx} {vl:aQ} {w:Nat} {M:BF} {A:aR}
theorem ga.aaF{x:Int}{K:Option Addr->Prop}(G:ga f (f.cs.map ak.gL) Q T h p g n X vl kc)(e:f.cs[j]? =some c)(l:x=j)(o:∀A w,g.KT[j]? =some A->g.kp[j]? =some w->c.gL Q A h w (kc j)->K (pB w)):
  Ld h ⟨p,18,none⟩ Sl.v λa=>Ix a.a a.n 1 x λd=>Ld h d Value.pointer K:=by
 obtain⟨M,A,w,i,k,b,m⟩:=G.m (j:=j) bZ
 rw[fy,e]at i;cases i;exact G.jV (G.WQ b l (o A w k b m))
abbrev Jm:=@ga.aaF
theorem gk.iD{Y:aD}{K:cL}(s:gk f (f.cs.map ak.gL) p Q0 T0 h0 Q T h g n X vl kc E)(H:f.cs[j]? =some c)(u:g.KT[j]? =some A)(D:g.kp[j]? =some w)(J:n5 c)(o:c.can (kc j))(m:c.fit Y=true)(B:Y.bw<=4194304)(F:aS Q h t Y.items)
  (r:gp c (kc j) Y≠0->∀d l a,Ext Q0 d T0 l h0 a->K (gp c (kc j) Y) a)
  (C:gp c (kc j) Y=0->∀d l a I,(∀c,Q c->d c)->Tn (λc=>¬E c) h a->gk f (f.cs.map ak.gL) p Q0 T0 h0 d l a I n X vl (lg kc j (kc j++[Y])) E->K 0 a):q8 (pB w) Y.au Y.num (bs Y.text) t h K Kp:=by
 have b:(f.cs.map ak.gL)[j]? =some c.gL:=by rw[fy,H];rfl
 have sub:∀c,A c->T c:=λc z=>(s.S.t.sub _ (bS (g.fk u)) c z).1;refine J o m B (s.S.aN j _ A w b u D) F λd l a x k=>?_
 by_cases e:gp c (kc j) Y=0
 ·obtain⟨v,i⟩:=s.aN (nP _) b u D x (k e);rw[e];exact C e _ _ _ _ x.q i v
 ·exact r e d (λc=>T c\/l c) a (s.x.trans ⟨x.tn.mono λc z _=>sub c z,x.q,x.q',λ_ z=>.inl z,λc z=>z.elim .inl λz=>(x.t' c z).imp (sub c) id⟩)
theorem gk.nE{K:cL}(m:gk f (f.cs.map ak.gL) p Q0 T0 h0 Q T h g n X vl kc E)(y:f.cs[j]? =some c)(o:g.KT[j]? =some A)(s:g.kp[j]? =some w)(C:pN c)(k:c.can (kc j))
  (l:gE c (kc j)≠0->∀b d a,Ext Q0 b T0 d h0 a->K (gE c (kc j)) a)
  (r:gE c (kc j)=0->∀b d a B,(∀c,Q c->b c)->Tn (λc=>¬E c) h a->gk f (f.cs.map ak.gL) p Q0 T0 h0 b d a B n X vl (lg kc j (kc j++[c.cm])) E->K 0 a):qZ (pB w) h K Kp:=by
 have i:(f.cs.map ak.gL)[j]? =some c.gL:=by rw[fy,y];rfl
 have sub:∀c,A c->T c:=λc z=>(m.S.t.sub _ (bS (g.fk o)) c z).1;refine C k (m.S.aN j _ A w i o s) λb d a x v=>?_
 by_cases e:gE c (kc j)=0
 ·obtain⟨D,u⟩:=m.aN (nP _) i o s x (v e);rw[e];exact r e _ _ _ _ x.q u D
 ·exact l e b (λc=>T c\/d c) a (m.x.trans ⟨x.tn.mono λc z _=>sub c z,x.q,x.q',λ_ z=>.inl z,λc z=>z.elim .inl λz=>(x.t' c z).imp (sub c) id⟩)
end
section
variable {K:cL} {A:aR}
theorem Un{k:Int}(hk:K (dJ k) h):CX k h K Kp:=by
 have fin:∀n:Int,n=dJ k->K n h:=λn e=>e▸hk;apply CX.of
 repeat' first|(with_reducible first|refine Ke.of ?_|refine tC ?_|refine tD ?_|refine cE (λc=>?_) λc=>?_)
 all_goals apply fin _
 all_goals(try simp only[sm,reduceCtorEq]at*)
 all_goals unfold dJ
 all_goals simp_all
def vG(n:Int)(i:Nat):UInt8:=UInt8.ofNat (n/2^(8*i)%256).toNat
theorem afV{n:Int}(a:i<8):UInt8.ofNat ((n%2^64).toNat/2^(8*i))=vG n i:=by
 unfold vG;apply Yx.1;rw[sW,sW];have e:i=0\/i=1\/i=2\/i=3\/i=4\/i=5\/i=6\/i=7:=ag;rcases e with rfl|rfl|rfl|rfl|rfl|rfl|rfl|rfl <;> simp only[Nat.mul_zero,Nat.reduceMul,Nat.reducePow,Int.reducePow] <;> omega
theorem aoW{n:Int}{w:Nat}(b:w<=8):iT (n%2^64).toNat w=(List.range w).map (vG n):=by
 grind[iT,List.map_congr_left,afV]
theorem TR(x:Int):IntKind.u8.wrap x=(((x%256).toNat:Nat):Int):=by
 simp only[IntKind.wrap,IntKind.signed,IntKind.bits];simp;omega
theorem acH{l:dw}{n w:Int}{K:Sl->HP}(o:Os A h s (bv l) Y8)(hA:∀c,A c->c<h.size)(hl:l.length<=2^40)(hw:0<=w/\w<=8)
  (hk:∀s' h',Tn A h h'->Os (Tr A h h') h' s' (bv (l++iT (n%2^64).toNat w.toNat)) Y8->K s' h'):At s n w h K Kp:=by
 refine At.of (Qx.bC (λt d i h'=>∃j:Nat,i=j/\(j:Int)<=w/\d=n/2^(8*j)/\Tn A h h'/\Os (Tr A h h') h' t (bv (l++(List.range j).map (vG n))) Y8) (λ_ _ i _=>(w-i).toNat) ⟨0,rfl,ag,aC,iW _ _,by simpa using o.mono λc z=>.inl z⟩ ?_)
 rintro t d i h1 ⟨j,rfl,hj,rfl,t1,o1⟩ N hN;have s1:=t1.1;refine cE (λc=>?_) λc=>?_
 ·have on:=o1.n;rw[fH,ij,cC,Jq]at on;refine Cb (aJ λb h2 e2 g2 k2 _=>(o1.gr g2).ap rfl (by rfl) (jn k2 rfl) ag ag λs' h3 t3 o3 _=>?_)
  have s3:=t3.1;have T3:=(t1.trans (bx g2)).trans' t3 λc z fR=>z.elim id λz=>ag
  refine js bh (yx (aY ag ag (hN _ _ _ _ ⟨j+1,ag,ag,?_,T3,?_⟩ ag)))
  ·show Int.fdiv (n/2^(8*j)) (2^(min (Int.toNat 8) (IntKind.bits .i64)))=_
   rw[show(2:Int)^(min (Int.toNat 8) (IntKind.bits .i64))=256 from rfl,EE _ ag,Int.ediv_ediv_of_nonneg (Jz (ED ag)),show(2:Int)^(8*(j+1))=2^(8*j)*256 by grind[Int.pow_add]]
  ·have e:bv (l++(List.range j).map (vG n))++[.int .u8 (IntKind.u8.wrap (n/2^(8*j)))]=bv (l++(List.range (j+1)).map (vG n)):=by
    rw[uu,kY,<-oC,um (l++(List.range j).map (vG n))]
    congr 1
    show[Value.int .u8 (IntKind.u8.wrap (n/2^(8*j)))]=[Value.int .u8 (((vG n j).toNat:Nat):Int)]
    rw[TR];unfold vG;rw[sW]
    congr 3
    omega
   rw[e]at o3;refine o3.imp id λ⟨b,t,o⟩=>⟨b,?_,o⟩;rcases t with(t|t)|t
   ·exact .inl t
   ·exact .inr ⟨t.1,ag⟩
   ·exact .inr ⟨ag,o.lt⟩
 ·have:j=w.toNat:=ag;subst this;rw[<-aoW ag]at o1;exact hk t h1 t1 o1
end
abbrev pQ(f:ak):List BF:=f.cs.map ak.gL
structure fW(f:ak)(p:Nat)(Q0 T0:aR)(h0:Hp)(vs:aQ)(x:aD)(s:Sl)(n:Bn)(T:aR)(h:Hp)(g:dL)(X:Bx)(E:aR)(a b:Nat):Prop where
 st:gk f (pQ f) p Q0 T0 h0 Q0 T h g n X (aM f.k vs).aH (λj=>cont f j vs) E
 a:E a/\aO h a (x.row s).toArray di
 b:E b/\∃sf,aO h b #[ah f.k,ah f.w,ah f.id,ah f.ix,Sl.v sf] kH
 v:aS Q0 h0 s x.items
def wq(f:ak):Prop:=∀{Q T:aR}{h:Hp}{p:Nat}{vs:aQ}{x:aD}{s:Sl},f.can vs->f.fit x=true->x.bw<=4194304->f.gL Q T h p vs->aS Q h s x.items->∃e,gp f vs x=oY vs x.bw e/\
 ∀{K:cL}{Kp:PK},(∀Q' T' h',Ext Q Q' T T' h h'->((if 4096<=vs.length then 3 else e)=0->f.gL Q' T' h' p (vs++[x]))->K (if 4096<=vs.length then 3 else e) h')->GH (pB p) x.au x.num (bs x.text) s h K Kp
section
variable {Q T Q' T' E:aR} {h':Hp} {p:Nat} {vs:aQ} {x:aD} {K:cL}
theorem ajG(L:wq f):n5 f:=by
 intro Q T h p vs x s K Kp y w u B v j;refine q8.of (aJ λa A e1 l t _=>eW t ?_);have D:=(xJ f).fr B (bx l) (λ_ _=>id) λ_ _=>id;obtain⟨e,r,le⟩:=L y w u D (eO v l);rw[r]at j;have q:Ext Q Q T T h A:=⟨bx l,λ_ z=>z,λ_ z=>.inl z,λ_ z=>z,λ_ z=>.inl z⟩;refine le λQ' T' n C m=>?_;have X:=q.trans C
 by_cases c:4096<=vs.length
 ·simp only[aI c];have:=j Q' T' n X (by unfold oY;omega)
  simp_all[oY,aI,bu]
 ·simp only[aE c]at m ⊢;have:=j Q' T' n X;unfold oY at this;rw[aE c]at this;refine cE (λd=>?_) λd=>?_
  ·have b2:=m d;rw[aE (by simp[d])]at this
   have o:=b2;rw[xO]at o;obtain⟨g,Y,G,_⟩:=o;refine aj (x:=(bJ (vs++[x]):Int)) G.k rfl (cE (λi=>?_) λi=>?_)
   ·rw[lJ]at i;grind
   ·rw[lJ]at i;grind
  ·grind
theorem rO{u:aR}{g:dL}{n:Bn}{X:Bx}{d a:aQ}{m:Nat->List aD}(st:gk f (pQ f) p D u H Q T h g n X d m E)(r:n=rR f a)(ok:nB f a X)(hl:d=(aM f.k a).aH)(c:∀j,j<f.cs.length->m j=cont f j a):f.gL Q T h p a:=by
 subst r hl;rw[xO];have G:=st.S;refine⟨g,X,⟨G.t,G.q,G.k,G.fs,G.ls,G.sl,G.aH,G.pt,G.lk,λj M A w b l i=>?_⟩,ok⟩;have e:j<f.cs.length:=by have:=(dy.1 b).1;simpa using this
 rw[<-c j e];exact G.aN j M A w b l i
theorem zi(hw:x.bw<=4194304)(Y:f.can vs)(B:f.gL Q T h p vs)(d:aS Q h s x.items)(Z:4096<=vs.length->∀Q' T' h',Ext Q Q' T T' h h'->K 3 h')
  (n:vs.length<4096->f.k=20->∀{h' g X E a b},nB f vs X->fW f p Q T h vs x s ⟨vs.length+1,vs.countP (dY f.k),bJ vs+x.bw⟩ T h' g X E a b->Lf (pB p) x.au x.num (bs x.text) s h' K Kp)
  (gJ:vs.length<4096->f.k≠20->x.au=true->∀{h' g X E a b},nB f vs X->fW f p Q T h vs x s ⟨vs.length+1,vs.countP (dY f.k)+1,bJ vs+x.bw⟩ T h' g X E a b->GB (pB p) h' K Kp)
  (r:vs.length<4096->f.k≠20->x.au=false->∀{h' g X E a b},nB f vs X->fW f p Q T h vs x s ⟨vs.length+1,vs.countP (dY f.k),bJ vs+x.bw⟩ T h' g X E a b->Fz K Kp (pB p) (aF a) (aF b) h'):
  GH (pB p) x.au x.num (bs x.text) s h K Kp:=by
 have KF:=nP f.cs;have b':=((gh f vs).1 Y).wt;rw[xO]at B;obtain⟨g,X,G,ok⟩:=B;have I:∀c,Q c->¬T c:=λc z=>(G.q c z).1;refine GH.of (aJ λa h1 e1 U W z1=>?_);refine bO ?_;have A:=(gk.of (E:=λ_=>False) G λ_ z=>z.elim).ai KF U;have c':vs.countP (dY f.k)<=vs.length:=bZ;refine aj (x:=(vs.length:Int)) A.S.k rfl (aK (λc=>?_) λc=>?_)
 ·have c:=aU c;exact Z ag _ _ _ A.x
 have c:=aU c;have lt:vs.length<4096:=ag;refine aj (x:=(vs.length:Int)) A.S.k rfl (aY ag ag (A.num (m:=vs.length+1) KF ag (.inl ⟨rfl,rfl⟩) λh2 M y=>?_));have O:=pF M W (.inr ⟨ag,ag⟩)
 refine aj (x:=(bJ vs:Int)) y.S.k rfl (eW O (Uo x (aS.fr y.x.tn (λc z _=>I c z) (λ_ z=>z) _ d) ag ag λd' o=>?_));have cap:BC x.bw 4194304=x.bw:=by unfold BC;omega
 rw[cap];refine bR y.S.k o (aY ag ag ((y.ai KF o).num (m:=bJ vs+x.bw) KF ag (.inr (.inr ⟨rfl,rfl⟩)) λR L u=>?_));have j:=pF L (O.ai o) (.inl (.inr ⟨ag,ag⟩))
 have cells:Cs R ⟨p,2,none⟩ [ah f.k,ah f.w,ah f.id,ah f.ix,Sl.v g.sf]:=xB u.S.k λi v d=>by
  rcases i with _|_|_|_|_|i
  ·exact d
  ·exact d
  ·exact d
  ·exact d
  ·exact d
  ·simp at d
 refine nh cells (aJ λb h5 e5 g5 V z5=>pH V rfl λP N C=>?_);have D:=bK g5 N ag;have a':=N.1;have H:=u.ai KF D;have j:=j.ai D;have l:fW f p Q T h vs x s ⟨vs.length+1,vs.countP (dY f.k),bJ vs+x.bw⟩ T P g X _ a b:=⟨H,⟨.inl (.inl (.inr ⟨ag,ag⟩)),j⟩,⟨.inr ⟨ag,ag⟩,_,C⟩,d⟩
 refine aj C rfl (aK (λe=>eW j ?_) λe=>aj j rfl (aK (λF=>?_) λF=>?_))
 ·have e:=aU e;exact n lt e ok l
 ·have e:=aU e;exact aj (x:=(vs.countP (dY f.k):Int)) H.S.k rfl (aY ag ag (H.num (i:=8) (m:=vs.countP (dY f.k)+1) KF ag (.inr (.inl ⟨rfl,rfl⟩)) λh7 J S7=>gJ lt e F ok ⟨S7,⟨l.a.1,pF J j l.a.1⟩,⟨l.b.1,_,pF J C l.b.1⟩,d⟩))
 ·have e:=aU e;exact r lt e ag ok l
end
section
variable {Q T T0 E:aR} {p a b:Nat} {vs:aQ} {x:aD} {n:Bn} {g:dL} {X X':Bx} {K:HP}
theorem fW.hQ(L:fW f p Q T0 h0 vs x s n T h g X E a b):∀c,Q c->¬T c:=λc z=>(L.st.S.q c z).1
theorem fW.vv(L:fW f p Q T0 h0 vs x s n T h g X E a b):aS Q h s x.items:=aS.fr L.st.x.tn (λc z _ y=>L.hQ c z (L.st.x.t c y)) (λ_ z=>z) _ L.v
theorem fW.next{A:aR}{h':Hp}{e:dL}{d:Bn}(L:fW f p Q T0 h0 vs x s n T h g X E a b)(KF:∀c,E c->A c)(t:Tn (λc=>¬E c) h h')(st:gk f (pQ f) p Q T0 h0 Q D h' e d X' (aM f.k vs).aH (λj=>cont f j vs) A):fW f p Q T0 h0 vs x s d D h' e X' A a b:=by
 obtain⟨l,m⟩:=L.b.2;exact⟨st,⟨KF a L.a.1,pF t L.a.2 L.a.1⟩,⟨KF b L.b.1,l,pF t m L.b.1⟩,L.v⟩
theorem fW.ai(L:fW f p Q T0 h0 vs x s n T h g X E a b)(gr:aB h H):fW f p Q T0 h0 vs x s n T H g X (λc=>E c\/(h.size<=c/\c<H.size)) a b:=
 L.next (λc z=>.inl z) (bx gr) (L.st.ai (nP _) gr)
theorem fW.sl(L:fW f p Q T0 h0 vs x s n T h g X E a b)(hi:i<7):∃t A y,g.SS[i]? =some t/\g.ST[i]? =some A/\X.eY[i]? =some y/\Os A h t y.1 y.2/\(∀c,A c->T c):=by
 have G:=L.st.S;have ls:=G.ls;have h1:g.SS[i]? =some (g.SS[i]' ag):=aC;have h2:g.ST[i]? =some (g.ST[i]' ag):=aC;have h3:X.eY[i]? =some (X.eY[i]' hi):=bL _;exact⟨_,_,_,h1,h2,h3,G.sl i _ _ _ h1 h2 h3,λc z=>(G.t.sub _ (bS (g.hO h2)) c z).1⟩
theorem fW.Pd{m bytes:Nat}{y:List Value×TypeId}{news:bg}{c:List Value->Prop}{u:Sl}{A:aR}(L:fW f p Q T0 h0 vs x s n T h g X E a b)(r:g.SS[i]? =some u)(F:g.ST[i]? =some A)(o:Os A h u y.1 y.2)(D:X'.eY=X.eY.set i (y.1++news,y.2))
  (l:z.size=1) (w:∀v∈news,one v=true) (hl:news.length=m) (q:c news) (C:bytes<=8) (M:y.1.length+m<=300000) (B:∀H d G I,fW f p Q T0 h0 vs x s n H d G X' I a b->K d):
  Ap h y.2 z 1 bytes u m c λt e=>St e ⟨p,10+i,none⟩ (Sl.v t) K:=by
 have k:=o.n;refine o.BM l w hl q (by rw[k];have:=YI (y.1.length+m+(y.1.length+m)/4+192) C;omega) ag λJ e t os=>L.st.slot (nP _) r F t os.tr D λd j st=>B _ d _ _ (L.next (λ_ z=>z) j st)
theorem fW.xN{bytes:Nat}{y:List Value×TypeId}{v:Value}{u:Sl}{A:aR}(L:fW f p Q T0 h0 vs x s n T h g X E a b)(m:g.SS[i]? =some u)(C:g.ST[i]? =some A)(o:Os A h u y.1 y.2)(B:X'.eY=X.eY.set i (y.1++[v],y.2))
  (l:z.size=1) (q:one v=true) (w:bytes<=8) (J:y.1.length<=200000) (r:∀H e G I,fW f p Q T0 h0 vs x s n H e G X' I a b->K e):
  aL h #[v] y.2 λc d=>Ap d y.2 z 1 bytes u 1 (rd d (some c) (1*1)) λt D=>St D ⟨p,10+i,none⟩ (Sl.v t) K:=
 aJ λc F M j k _=>(L.ai j).Pd m C (o.gr j) B l (by simpa using q) rfl (jn k rfl) w ag r
theorem fW.uo{bytes:Nat}{y:List Value×TypeId}{v:Value}{u:Sl}{A:aR}(L:fW f p Q T0 h0 vs x s n T h g X E a b)(r:g.SS[i]? =some u)(G:g.ST[i]? =some A)(o:Os A h u y.1 y.2)(D:X'.eY=X.eY.set i (y.1++[v],y.2))
  (q:z.size=1) (w:one v=true) (C:bytes<=8) (N:y.1.length<=200000) (B:∀J m I M,fW f p Q T0 h0 vs x s n J m I X' M a b->K m):
  aL h #[v] y.2 λc d=>aT h d ⟨p,10+i,none⟩ 1 (Ap d y.2 z 1 bytes u 1 (rd d (some c) (1*1)) λt H=>St H ⟨p,10+i,none⟩ (Sl.v t) K):=
 aJ λc l F e j _=>bR L.st.S.k e ((L.ai e).Pd r G (o.gr e) D q (by simpa using w) rfl (jn j rfl) C ag B)
theorem fW.apF{C:PK}{m w:Int}{u:Sl}{A:aR}(L:fW f p Q T0 h0 vs x s n T h g X E a b)(q:g.SS[2]? =some u)(e:g.ST[2]? =some A)(o:Os A h u (bv X.fx) Y8)(hl:X.fx.length<=200000)(l:0<=w/\w<=8)
  (r:∀B d y D,fW f p Q T0 h0 vs x s n B d y {X with fx:=X.fx++iT (m%2^64).toNat w.toNat} D a b->K d):At u m w h (λt j=>St j ⟨p,12,none⟩ (Sl.v t) K) C:=by
 have sub:∀c,A c->c<h.size:=λc z=>L.st.S.t.lt c (L.st.S.t.sub _ (bS (g.hO e)) c z).1;refine acH o sub ag l λF j t os=>L.st.slot (nP _) q e t (x':=(bv (X.fx++iT (m%2^64).toNat w.toNat),Y8)) os rfl λd k st=>r _ d _ _ (L.next (λ_ z=>z) k st)
theorem fW.valid{v:UInt8}(L:fW f p Q T0 h0 vs x s n T h g X E a b)(hl:X.vl.length<=5000)(l:∀u k r w,fW f p Q T0 h0 vs x s n u k r {X with vl:=X.vl++[v]} w a b->K k):
  Ld h ⟨p,10,none⟩ Sl.v λj=>aL h #[.int .u8 (v.toNat:Int)] Y8 λc d=>Ap d Y8 #[.int .u8 0] 1 1 j 1 (rd d (some c) (1*1)) λt e=>St e ⟨p,10,none⟩ (Sl.v t) K:=by
 obtain⟨j,A,y,e,q,m,o,_⟩:=L.sl (i:=0) ag;cases m;refine L.st.S.dI e (L.xN e q o ?_ rfl rfl ag (by simp[fH];omega) l)
 show({X with vl:=X.vl++[v]}:Bx).eY=_
 unfold Bx.eY;simp[um];rfl
end
section
variable {Q T T0 E:aR} {p a b:Nat} {vs:aQ} {x:aD} {n:Bn} {g:dL} {X X':Bx} {K:cL}
theorem DK(d:f.k≠18)(nM:f.k≠20)(c:f.k=1->x.au=true):dY f.k x=x.au:=by
 unfold dY
 grind
theorem pE{b:Bool}(c:dY f.k x=b):rR f (vs++[x])=⟨vs.length+1,vs.countP (dY f.k)+(if b then 1 else 0),bJ vs+x.bw⟩:=by
 grind[rR,List.length_append,lJ]
theorem DJ(L:fW f p Q T0 h0 vs x s n T h g X E a b)(hl:X.vl.length<=5000)
  (G:∀{z m r B c},fW f p Q T0 h0 vs x s n z m r {X with vl:=X.vl++[0]} B a c->tA K Kp (pB p) (aF c) f.k (decide (f.k=12\/f.k=13\/f.k=15)) m):GB (pB p) h K Kp:=by
 have cells:Cs h ⟨p,2,none⟩ [ah f.k,ah f.w,ah f.id,ah f.ix,Sl.v g.sf]:=xB L.st.S.k λi v d=>by
  rcases i with _|_|_|_|_|i
  ·exact d
  ·exact d
  ·exact d
  ·exact d
  ·exact d
  ·simp at d
 apply GB.of;refine bO ?_;refine nh cells (aJ λc P e1 I F J=>pH F rfl λq o D=>?_);have H:=bK I o ag;have N:=o.1;have l:=L.ai H;have l:fW f p Q T0 h0 vs x s n T q g X _ a c:=⟨l.st,l.a,⟨.inr ⟨ag,ag⟩,_,D⟩,l.v⟩
 refine l.valid (v:=0) hl λz m r B A=>?_;obtain⟨M,C⟩:=A.b.2;have j:=G A;refine aj C rfl (aK (λy=>?_) λy=>aK (λu=>?_) λu=>?_)
 all_goals simp only[sm,reduceCtorEq]at*
 ·rw[Pq (by omega:f.k=12\/f.k=13\/f.k=15)]at j
  rw[show(f.k==12)=true by simp[y]];exact j
 ·rw[Pq (by omega:f.k=12\/f.k=13\/f.k=15)]at j
  rw[show(f.k==13)=true by simp[u]];exact j
 ·have e:(f.k==15)=decide (f.k=12\/f.k=13\/f.k=15):=by rw[j0];simp;omega
  rw[e];exact j
theorem AS(L:fW f p Q T0 h0 vs x s n T h g X E a b)(hl:X.vl.length<=5000)
  (u:∀{m c d q},fW f p Q T0 h0 vs x s n m c d {X with vl:=X.vl++[1]} q a b->tB K Kp (pB p) (aF a) (aF b) f.k (decide (f.k=12\/f.k=13)) c):Fz K Kp (pB p) (aF a) (aF b) h:=by
 apply Fz.of;refine bO ?_;refine L.valid (v:=1) hl λm c d q o=>?_;obtain⟨t,r⟩:=o.b.2;have j:=u o;refine aj r rfl (aK (λl=>?_) λl=>?_)
 all_goals simp only[sm,reduceCtorEq]at*
 ·rw[Pq (by omega:f.k=12\/f.k=13)]at j
  rw[show(f.k==12)=true by simp[l]];exact j
 ·have e:(f.k==13)=decide (f.k=12\/f.k=13):=by rw[j0];simp;omega
  rw[e];exact j
theorem vC{c:aQ}(d:f.k=12\/f.k=13):(aM f.k c).ends=jR (λv=>v.text.length) c/\(aM f.k c).all=c.flatMap aD.text:=by simp[aM,d]
theorem aeD(c:f.k=12\/f.k=13):(aM f.k (vs++[x])).ends=(aM f.k vs).ends++[(vs.flatMap aD.text).length+x.text.length]:=by
 simp_all[vC,MT]
theorem afY(ok:nB f vs X)(c:f.k≠18/\f.k≠20){b:UInt8}(d:b=if x.au then 0 else 1):X.vl++[b]=(vs++[x]).map λv=>if v.au then 0 else 1:=by
 rw[kY,<-ok.v c,d];rfl
theorem vH{b:UInt8}{F t:dw}{o:cV}(ok:nB f vs X)(A:f.k<=17)(u:b=if x.au then 0 else 1)(e1:X'.vl=X.vl++[b])(l:X'.fx=X.fx++F)(j:X'.os=X.os++o)(d:X'.tx=X.tx++t)(c:X'.cd=X.cd/\X'.ix=X.ix/\X'.en=X.en)
  (v:fE f.k=true->F=lP f x) (z:F.length<=16) (y:o.length<=1) (lt:(X.tx++t).length<=65536) (r:f.k=12\/f.k=13\/f.k=15->(aM f.k (vs++[x])).ends=(aM f.k vs).ends++o) (m:f.k=12\/f.k=13->(aM f.k (vs++[x])).all=(aM f.k vs).all++t):nB f (vs++[x]) X':=by
 obtain⟨c,w,e⟩:=c;obtain⟨I,b2,H,G,D,C,B⟩:=ok.b;refine⟨?_,λq=>?_,λq=>?_,λq=>?_,λq=>ag,λq=>ag,λq=>ag,λq=>?_⟩
 ·grind
 ·rw[e1];exact afY ok q u
 ·rw[j,r ag,ok.o q]
 ·rw[d,m q,ok.t q]
 ·rw[l,ok.x q,v q,List.flatMap_append];simp
theorem fW.fin(L:fW f p Q T0 h0 vs x s n T h g X E a b)(e:n=rR f (vs++[x]))(ok:nB f (vs++[x]) X)(m:f.k≠19/\f.k≠20)(l:f.cs.length=0):f.gL Q T h p (vs++[x]):=by
 have d:∀c,(aM f.k c).aH=[]:=λc=>(mG c).2.2.2 ag;exact rO L.st e ok (by rw[d,d]) λj o=>ag
theorem ao3(d:f.k=12\/f.k=13)(R:bE f):wq f:=by
 intro Q T h p vs x s Y N hw B H;have a':=((gh f vs).1 Y).tx d;have G:=R.right.1.2.2.2.2.2.2.2.2.2.2 ag;have D:∀P,x.au=P->dY f.k x=P:=λP e=>by rw[DK ag ag ag,e]
 have C:fE f.k=false:=by rcases d with e|e <;> rw[e] <;> rfl
 have len:(aM f.k vs).ends.length=vs.length+1:=by rw[(vC d).1,Dh]
 have wx:=gS x;refine⟨_,ajv d N,λ{K Kp}m=>zi hw Y B H (λc Q' T' O ex=>by have:=m Q' T' O ex;grind) (λ_ c=>ag) (λlt _ w{O g X E a b}ok L=>?_) (λlt _ w{O g X E a b}ok L=>?_)⟩
 ·have r:x=v0:=by rw[eG]at N;exact(ku N w).1
  rw[aA,aE (by rw[r];show¬65536<_+0;omega)]at m
  have hb:=ok.b;refine DJ L ag λ{T1 h1 g1 E1 c}j=>tA.of (bQ cy ?_);refine bO ?_;obtain⟨I,A,y,l,M,J,o,_⟩:=j.sl (i:=3) ag;cases J;have os:=ok.o ag;have u:=o.n;have V:(ints X.os).length=vs.length+1:=by rw[ints,cC,os,len]
  rw[V]at u;refine j.st.S.dI l (j.st.S.dI l (j.st.S.dI l (aY ag ag (o.sv.ix ag ag (v:=ah (((vs.flatMap aD.text).length:Nat):Int)) ?_ λa ha=>yz ha ?_))))
  ·show(ints X.os)[_]? =_
   rw[show((I.n:Int)-1).toNat=vs.length by omega,os,(vC d).1,ints,fy,TZ (cr _),mO]
   simp
  ·refine j.uo (X':={X with vl:=X.vl++[0],os:=X.os++[(vs.flatMap aD.text).length]}) l M o ?_ rfl rfl ag (by rw[V];omega) λT2 h2 g2 E2 q=>m _ _ _ q.st.x λ_=>q.fin (pE (D _ w)).symm (vH (F:=[]) (t:=[]) ok ag (by rw[w];rfl) rfl aC rfl aC ⟨rfl,rfl,rfl⟩ (by simp[C]) aC aC cy (λ_=>?_) λ_=>?_) ag G
   ·show Bx.eY _=_
    simp[Bx.eY,ints]
   ·rw[aeD d,r];rfl
   ·rw[(vC d).2,(vC d).2,r];simp[v0,aD.text]
 ·rw[aA]at m;have hb:=ok.b;have tx:X.tx=vs.flatMap aD.text:=by rw[ok.t d,(vC d).2]
  refine AS L ag λ{T1 h1 g1 E1}j=>tB.of (bQ cy ?_);refine bO ?_;obtain⟨I,A,y,l,M,J,o,_⟩:=j.sl (i:=4) ag;cases J;have u:=o.n;have u:I.n=X.tx.length:=by rw[u];exact fH _
  have W:=j.a.2;refine j.st.S.dI l (aj W rfl (aY ag (by rw[iU];omega) (aK (λc=>?_) λc=>?_)))
  ·have c:=aU c;rw[iU,u,tx]at c;rw[dU]at m;exact m _ _ _ j.st.x λz=>by cases z
  ·have c:=aU c;rw[iU,u,tx]at c;rw[aA]at m;refine j.st.S.dI l (aj W rfl (j.Pd (X':={X with vl:=X.vl++[1],tx:=X.tx++x.text}) (news:=bv x.text) l M o ?_ rfl ?_ (by rw[fH,iU]) rfl ag bZ λT2 h2 g2 E2 q=>?_))
   ·show Bx.eY _=_
    simp[Bx.eY,um]
   ·intro v H;simp only[bv,kZ]at H;obtain⟨y,_,rfl⟩:=H;rfl
   ·obtain⟨t3,A3,y,U,r2,r3,o3,_⟩:=q.sl (i:=3) ag;cases r3;obtain⟨t4,A4,y,w1,w2,w3,o4,_⟩:=q.sl (i:=4) ag;cases w3;have os:X.os=(aM f.k vs).ends:=ok.o ag;have n4:t4.n=(vs.flatMap aD.text).length+x.text.length:=by rw[o4.n];show(bv (X.tx++x.text)).length=_;rw[fH,ij,tx]
    refine q.st.S.dI (i:=3) U (q.st.S.dI (i:=4) w1 ?_);rw[n4];refine q.uo (X':={X with vl:=X.vl++[1],tx:=X.tx++x.text,os:=X.os++[(vs.flatMap aD.text).length+x.text.length]}) U r2 o3 ?_ rfl rfl ag (by show(ints X.os).length<=_;rw[ints,cC];omega) λT3 h3 g3 E3 Z=>m _ _ _ Z.st.x λ_=>Z.fin (by rw[pE (b:=false) (D _ w)];rfl) (vH (b:=1) (F:=[]) (t:=x.text) (o:=[(vs.flatMap aD.text).length+x.text.length]) ok ag (by rw[w];rfl) rfl aC rfl rfl ⟨rfl,rfl,rfl⟩ (by simp[C]) aC aC (by rw[ij,tx];omega) (λ_=>aeD d) λ_=>?_) ag G
    ·show Bx.eY _=_
     simp[Bx.eY,ints]
    ·rw[(vC d).2,(vC d).2];simp
end
section
variable {Q T T0 E:aR} {p a b:Nat} {vs:aQ} {x:aD} {n:Bn} {g:dL} {X X':Bx} {K:cL}
theorem TG(k:Int):0<=dJ k/\dJ k<=8:=by
 unfold dJ
 omega
theorem anU(L:fW f p Q T0 h0 vs x s n T h g X E a b)(H:0<=f.w/\f.w<=16)(hl:X.fx.length<=100000)(v:∀l e k m,fW f p Q T0 h0 vs x s n l e k {X with fx:=X.fx++List.replicate f.w.toNat 0} m a b->K 0 e):J5 K Kp (pB p) (aF b) 0 h:=by
 refine J5.bC (λi e=>∃(j:Nat)(l:aR)(k:dL)(m:aR),i=j/\(j:Int)<=f.w/\fW f p Q T0 h0 vs x s n l e k {X with fx:=X.fx++List.replicate j 0} m a b) (λi _=>(f.w-i).toNat) ⟨0,T,g,E,rfl,ag,dH⟩ ?_
 rintro i M ⟨j,P,O,R,rfl,I,d⟩ N hN;obtain⟨G,u⟩:=d.b.2;refine aj u rfl (cE (λc=>?_) λc=>?_)
 ·obtain⟨F,A,y,q,t,r,o,_⟩:=d.sl (i:=2) ag;cases r;refine bO ?_;refine d.st.S.dI q (d.xN q t o ?_ rfl rfl ag ?_ λB J z D C=>aY ag ag (hN _ _ ⟨j+1,B,z,D,ag,ag,C⟩ ag))
  ·show Bx.eY _=_
   simp[Bx.eY,um,Ey];rfl
  grind[fH]
 ·grind
theorem arH(c:bE f)(m:f.k<=14)(l:f.k≠12/\f.k≠13)(j:f.fit x=true):(lP f x).length<=16:=by
 unfold lP;split
 ·simp
 ·split
  ·rename_i e
   have w:=c.right.1.2.2.1 e;split
   ·simp;omega
   ·rename_i d
    have:=((Ed ag j dH).2.1 ag).2.2 e
    omega
  ·have:=TG f.k;simp[iT];omega
theorem ao8(hk:f.k<=14)(c':f.k≠12/\f.k≠13)(V:bE f):wq f:=by
 intro Q T h p vs x s hc r hw B hv;have sh:=V.right.1;have Y:=sh.2.2.2.2.2.2.2.2.2.2 ag;have n1:f.k=1->x.au=true:=λe=>by
  cases m:x.au with
  |true=>rfl
  |false=>simp_all[eG,fm]
 have W:∀bb,x.au=bb->dY f.k x=bb:=λbb e=>by rw[DK ag ag n1,e]
 have te:gp f vs x=oY vs x.bw 0:=by
  by_cases e:f.k=1
  ·exact ajA e r
  ·exact ajz (by simp[fE];omega) r ag
 have lF:=arH V hk c' r;refine⟨0,te,λ{K Kp}hK=>zi hw hc B hv (λc Q' P u ex=>by have:=hK Q' P u ex;simp_all) (λ_ c=>ag) (λlt _ m{u g X E a b}ok L=>?_) (λlt _ m{u g X E a b}ok L=>?_)⟩ <;> rw[aA]at hK <;> have hb:=ok.b
 ·have U:x=v0:=by rw[eG]at r;exact(ku r m).1
  have fin:∀{P u g' E' a' b'},fW f p Q T h vs x s ⟨vs.length+1,vs.countP (dY f.k)+1,bJ vs+x.bw⟩ P u g' {X with vl:=X.vl++[0],fx:=X.fx++lP f x} E' a' b'->K 0 u:=λj=>
   hK _ _ _ j.st.x λ_=>j.fin (pE (W _ m)).symm (vH (t:=[]) (o:=[]) ok ag (by rw[m];rfl) rfl rfl aC aC ⟨rfl,rfl,rfl⟩ (λ_=>rfl) lF aC cy (λ_=>ag) λ_=>ag) ag Y
  refine DJ L ag λ{T1 h1 g1 E1 c}d=>tA.of (bu cy ?_);refine bO ?_;obtain⟨t0,A,y,q,I,q3,o,_⟩:=d.sl (i:=2) ag;cases q3;obtain⟨sf,kb⟩:=d.b.2;refine aK (λl=>?_) λl=>aK (λH=>?_) λH=>aK (λG=>?_) λG=>aK (λD=>?_) λD=>aK (λC=>?_) λC=>?_
  all_goals have l:=aU l
  all_goals try have H:=aU H
  all_goals try have G:=aU G
  all_goals try have D:=aU D
  all_goals try have C:=aU C
  all_goals try omega
  ·have w:=sh.2.2.1 l;have e:lP f x=List.replicate f.w.toNat 0:=by unfold lP;rw[aA,aI l,m];rfl
   exact anU d ag (by show X.fx.length<=_;omega) λO J M R j=>fin (by rw[e];exact j)
  ·have e:lP f x=[0]:=by unfold lP;rw[aI C,U];rfl
   refine d.st.S.dI q (d.xN q I o ?_ rfl rfl ag (by grind[fH]) λO J M R j=>fin (by rw[e];exact j))
   ·show Bx.eY _=_
    simp[Bx.eY,um];rfl
  ·have e:lP f x=iT ((0:Int)%2^64).toNat (dJ f.k).toNat:=by unfold lP;rw[aE C,aE l,U];rfl
   refine d.st.S.dI q (aj kb rfl (Un (bR d.st.S.k (cW _) (d.apF q I o (by show X.fx.length<=_;omega) (TG _) λO J M R j=>fin (by rw[e];exact j)))))
 ·have d':f.k≠1:=λe=>by rw[n1 e]at m;cases m
  obtain⟨f1,f2,f3⟩:=Ed ag r m;have fin:∀{P u g' E' a' b'},fW f p Q T h vs x s ⟨vs.length+1,vs.countP (dY f.k),bJ vs+x.bw⟩ P u g' {X with vl:=X.vl++[1],fx:=X.fx++lP f x} E' a' b'->K 0 u:=λj=>
   hK _ _ _ j.st.x λ_=>j.fin (by simp_all[pE]) (vH (t:=[]) (o:=[]) ok ag (by rw[m];rfl) rfl rfl aC aC ⟨rfl,rfl,rfl⟩ (λ_=>rfl) lF aC cy (λ_=>ag) λ_=>ag) ag Y
  refine AS L ag λ{T1 h1 g1 E1}d=>tB.of (bu cy ?_);refine bO ?_;obtain⟨t0,A,y,q,I,q3,o,_⟩:=d.sl (i:=2) ag;cases q3;have Z:=d.a.2;obtain⟨sf,kb⟩:=d.b.2;refine aK (λl=>?_) λl=>aK (λH=>?_) λH=>wD.of (bu cy (aK (λG=>?_) λG=>aK (λD=>?_) λD=>aK (λC=>?_) λC=>aK (λN=>?_) λN=>?_))
  all_goals have l:=aU l
  all_goals try have H:=aU H
  all_goals try have G:=aU G
  all_goals try have D:=aU D
  all_goals try have C:=aU C
  all_goals try have N:=aU N
  all_goals try omega
  ·have e:lP f x=x.text:=by unfold lP;rw[aA,aI l,m];rfl
   refine d.st.S.dI q (aj Z rfl (d.Pd (X':={X with vl:=X.vl++[1],fx:=X.fx++x.text}) (news:=bv x.text) q I o ?_ rfl ?_ (by rw[fH,iU]) rfl ag (by grind[fH,iU]) λO J M R j=>fin (by rw[e];exact j)))
   ·show Bx.eY _=_
    simp[Bx.eY,um]
   ·intro v hv;simp only[bv,kZ]at hv;obtain⟨y,_,rfl⟩:=hv;rfl
  ·refine bO ?_;have e:lP f x=[UInt8.ofNat (x.num%2^64).toNat]:=by unfold lP;rw[aI N]
   refine d.st.S.dI (i:=2) q (aj Z rfl (Cb (d.uo (v:=.int .u8 (IntKind.u8.wrap x.num)) (X':={X with vl:=X.vl++[1],fx:=X.fx++[UInt8.ofNat (x.num%2^64).toNat]}) q I o ?_ rfl rfl ag (by show(bv _).length<=_;rw[fH];show X.fx.length<=_;omega) λO J M R j=>fin (by rw[e];exact j))))
   ·show Bx.eY _=_
    have e2:bv (X.fx++[UInt8.ofNat (x.num%2^64).toNat])=bv X.fx++[.int .u8 (IntKind.u8.wrap x.num)]:=by
     rw[um,TR]
     congr 1
     show[Value.int .u8 (((UInt8.ofNat (x.num%2^64).toNat).toNat:Nat):Int)]=_
     rw[sW]
     congr 3
     omega
    simp only[Bx.eY,e2];rfl
  ·refine bO ?_;have e:lP f x=iT (x.num%2^64).toNat (dJ f.k).toNat:=by unfold lP;rw[aE N,aE l]
   refine d.st.S.dI (i:=2) q (aj Z rfl (aj kb rfl (Un (bR Z (cW _) (bR d.st.S.k (cW _) (d.apF q I o (by show X.fx.length<=_;omega) (TG _) λO J M R j=>fin (by rw[e];exact j)))))))
end
theorem lf{l:aQ}:lg kc j l j=l:=by simp[lg]
theorem aiZ{l:aQ}(h:i≠j):lg kc j l i=kc i:=by simp[lg,h]
theorem TM{l m:aQ}:lg (lg kc j l) j m=lg kc j m:=by
 funext i;unfold lg;split <;> rfl
theorem TN:lg kc j (kc j)=kc:=by
 funext i;unfold lg;grind
structure fJ(f:ak)(p:Nat)(Q0 T0:aR)(h0:Hp)(x:aD)(s:Sl)(n:Bn)(X:Bx)(vl:aQ)(a b:Nat)(E:aR)(kc:Nat->List aD)(Q T:aR)(h:Hp)(g:dL):Prop where
 st:gk f (pQ f) p Q0 T0 h0 Q T h g n X vl kc E
 a:E a/\aO h a (x.row s).toArray di
 b:E b/\∃sf,aO h b #[ah f.k,ah f.w,ah f.id,ah f.ix,Sl.v sf] kH
 v:aS Q0 h0 s x.items
 q:∀c,Q0 c->¬T0 c
section
variable {Q T Q0 T0 E:aR} {p a b:Nat} {vs vl:aQ} {x y:aD} {n:Bn} {g:dL} {X X':Bx} {K:cL}
theorem fW.kd(L:fW f p Q T0 h0 vs x s n T h g X E a b):fJ f p Q T0 h0 x s n X (aM f.k vs).aH a b E (λj=>cont f j vs) Q T h g:=
 ⟨L.st,L.a,L.b,L.v,λc z y=>L.hQ c z (L.st.x.t c y)⟩
theorem fJ.vv(D:fJ f p Q0 T0 h0 x s n X vl a b E kc Q T h g):aS Q h s x.items:=aS.fr D.st.x.tn (λc z _ y=>D.q c z y) D.st.x.q _ D.v
theorem fJ.take{k z:Int}(D:fJ f p Q0 T0 h0 x s n X vl a b E kc Q T h g)(P:f.cs[i]? =some c)(U:k=i)(R:z=j)(Y:n5 c)(O:x.items[j]? =some y)(I:c.can (kc i))(H:c.fit y=true)(hw:x.bw<=4194304)
  (J:gp c (kc i) y≠0->∀F C r,Ext Q0 F T0 C h0 r->K (gp c (kc i) y) r)
  (N:gp c (kc i) y=0->∀F C r L,fJ f p Q0 T0 h0 x s n X vl a b E (lg kc i (kc i++[y])) F C r L->K 0 r):
  Ld h ⟨p,18,none⟩ Sl.v λd=>Ix d.a d.n 1 k λd=>Ld h d .pointer λd=>Ld h ⟨a,3,none⟩ Sl.v λe=>Ix e.a e.n 4 z λe=>bN h e λe f g i=>q8 d e f g i h K Kp:=by
 have l:y∈x.items:=bZ;have wy:=oe l;have wx:=gS x;refine Jm D.st.S P U λA w V o m=>aj D.a.2 rfl (D.vv.ix R O λq u W M=>ig W (D.st.iD P V o Y I H ag M J λe F C r L hq t Z=>N e F C r L ⟨Z,⟨D.a.1,pF t D.a.2 D.a.1⟩,⟨D.b.1,?_⟩,D.v,D.q⟩));obtain⟨B,G⟩:=D.b.2;exact⟨B,pF t G D.b.1⟩
theorem fJ.zero{k:Int}(D:fJ f p Q0 T0 h0 x s n X vl a b E kc Q T h g)(H:f.cs[i]? =some c)(J:k=i)(M:pN c)(u:c.can (kc i))
  (z:gE c (kc i)≠0->∀t r o,Ext Q0 t T0 r h0 o->K (gE c (kc i)) o)
  (C:gE c (kc i)=0->∀t r o B,fJ f p Q0 T0 h0 x s n X vl a b E (lg kc i (kc i++[c.cm])) t r o B->K 0 o):
  Ld h ⟨p,18,none⟩ Sl.v λd=>Ix d.a d.n 1 k λd=>Ld h d .pointer λd=>qZ d h K Kp:=by
 refine Jm D.st.S H J λA w L l m=>D.st.nE H L l M u z λe t r o B O F N=>C e t r o B ⟨N,⟨D.a.1,pF F D.a.2 D.a.1⟩,⟨D.b.1,?_⟩,D.v,D.q⟩;obtain⟨G,I⟩:=D.b.2;exact⟨G,pF F I D.b.1⟩
theorem fJ.items(D:fJ f p Q0 T0 h0 x s n X vl a b E kc Q T h g)(L:f.cs[0]? =some c)(O:n5 c)(P:jj c)(H:c.can (kc 0))(C:∀y∈x.items,c.fit y=true)(J:x.bw<=4194304)(hl:x.items.length<=4096)
  (A:jS c (λx r=>c.tk r x) (kc 0) x.items≠0->∀u q l,Ext Q0 u T0 q h0 l->K (jS c (λx r=>c.tk r x) (kc 0) x.items) l)
  (I:jS c (λx r=>c.tk r x) (kc 0) x.items=0->∀u q l B,fJ f p Q0 T0 h0 x s n X vl a b E (lg kc 0 (kc 0++x.items)) u q l B->Fy K Kp (pB p) l):J7 K Kp (pB p) (aF a) 0 h:=by
 refine J7.bC (λy l=>∃(j:Nat)(u q:aR)(B:dL),y=j/\j<=x.items.length/\fJ f p Q0 T0 h0 x s n X vl a b E (lg kc 0 (kc 0++x.items.take j)) u q l B/\c.can (kc 0++x.items.take j)/\
   jS c (λx r=>c.tk r x) (kc 0) x.items=jS c (λx r=>c.tk r x) (kc 0++x.items.take j) (x.items.drop j)) (λy _=>x.items.length-y.toNat) ⟨0,Q,T,g,rfl,eH _,by simpa[TN]using D,by simpa using H,aC⟩ ?_
 rintro y U ⟨j,Y,W,V,rfl,S,t,F,e1⟩ N hN;have R:=t.vv.n;refine aj t.a.2 rfl (cE (λo=>?_) λo=>?_)
 ·have m:j<x.items.length:=ag;have w:=bL m;have k:=kP m;have v:=B2 m;have d:=kE m;generalize x.items[j]=z at w k v d;rw[v]at e1;simp only[jS]at e1;refine bO ?_;refine t.take L rfl rfl O w (by rw[lf];exact F) (C z d) J (λe u q l M=>bQ (by simp only[sm,reduceCtorEq];exact e) ?_) λe u q l B G=>bu rfl (aY ag ag (hN _ _ ⟨j+1,u,q,B,ag,ag,?_,?_,?_⟩ ag))
  ·rw[lf]at e ⊢;rw[aE e]at e1;rw[e1]at A;exact A e _ _ _ M
  ·grind[lf,TM,List.append_assoc]
  ·rw[lf]at e;have:=(P z (C z d) _ F e).1;simp_all
  simp_all[lf,aI,oC]
 ·have:j=x.items.length:=ag;subst this;rw[Ez]at e1;rw[mO]at t;exact I e1 _ _ _ _ t
theorem fJ.Tx(D:fJ f p Q0 T0 h0 x s n X vl a b E kc Q T h g)(G:f.cs[0]? =some c)(I:pN c)(J:dV c c.zk c.cm)(u:c.can (kc 0))(M:0<=f.w/\f.w<=64)
  (q:jS c (λ_=>c.zk) (kc 0) (List.replicate f.w.toNat c.cm)≠0->∀l k d,Ext Q0 l T0 k h0 d->K (jS c (λ_=>c.zk) (kc 0) (List.replicate f.w.toNat c.cm)) d)
  (v:jS c (λ_=>c.zk) (kc 0) (List.replicate f.w.toNat c.cm)=0->∀l k d r,fJ f p Q0 T0 h0 x s n X vl a b E (lg kc 0 (kc 0++List.replicate f.w.toNat c.cm)) l k d r->K 0 d):J4 K Kp (pB p) (aF b) 0 h:=by
 refine J4.bC (λy d=>∃(j:Nat)(l k:aR)(r:dL),y=j/\j<=f.w.toNat/\fJ f p Q0 T0 h0 x s n X vl a b E (lg kc 0 (kc 0++List.replicate j c.cm)) l k d r/\c.can (kc 0++List.replicate j c.cm)/\
   jS c (λ_=>c.zk) (kc 0) (List.replicate f.w.toNat c.cm)=jS c (λ_=>c.zk) (kc 0++List.replicate j c.cm) (List.replicate (f.w.toNat-j) c.cm)) (λy _=>f.w.toNat-y.toNat) ⟨0,Q,T,g,rfl,eH _,by simpa[TN]using D,dH,aC⟩ ?_
 rintro y P ⟨j,U,S,R,rfl,O,t,A,e1⟩ N hN;obtain⟨L,C⟩:=t.b.2;refine aj C rfl (cE (λo=>?_) λo=>?_)
 ·obtain⟨m,F⟩:∃m,f.w.toNat-j=m+1:=⟨f.w.toNat-j-1,ag⟩
  have z:f.w.toNat-(j+1)=m:=ag;rw[F,Ju]at e1;simp only[jS]at e1;refine bO ?_;refine t.zero G rfl I (by rw[lf];exact A) (λe l k d H=>bQ bZ ?_) λe l k d r B=>bu rfl (aY ag ag (hN _ _ ⟨j+1,l,k,r,ag,ag,?_,?_,?_⟩ ag))
  ·rw[lf]at e ⊢;rw[aE e]at e1;rw[e1]at q;exact q e _ _ _ H
  ·grind[lf,TM,List.append_assoc,List.replicate_succ']
  ·rw[lf]at e;have:=(J _ A e).1;grind[List.replicate_succ',List.append_assoc]
  simp_all[lf,aI,Ey,oC]
 ·have:j=f.w.toNat:=ag;subst this;rw[zR]at e1;exact v e1 _ _ _ _ t
end
section
variable {Q T Q0 T0 E:aR} {p a b:Nat} {vs vl:aQ} {x y:aD} {n:Bn} {g:dL} {X X':Bx} {K:cL}
theorem fJ.ai(D:fJ f p Q0 T0 h0 x s n X vl a b E kc Q T h g)(gr:aB h H):fJ f p Q0 T0 h0 x s n X vl a b (λc=>E c\/(h.size<=c/\c<H.size)) kc Q T H g:=by
 obtain⟨d,e⟩:=D.b.2;exact⟨D.st.ai (nP _) gr,⟨.inl D.a.1,D.a.2.ai gr⟩,⟨.inl D.b.1,d,e.ai gr⟩,D.v,D.q⟩
theorem fJ.sl(D:fJ f p Q0 T0 h0 x s n X vl a b E kc Q T h g)(hi:i<7):∃t A y,g.SS[i]? =some t/\g.ST[i]? =some A/\X.eY[i]? =some y/\Os A h t y.1 y.2:=by
 have G:=D.st.S;have ls:=G.ls;have h1:g.SS[i]? =some (g.SS[i]' ag):=aC;have h2:g.ST[i]? =some (g.ST[i]' ag):=aC;have h3:X.eY[i]? =some (X.eY[i]' hi):=bL _;exact⟨_,_,_,h1,h2,h3,G.sl i _ _ _ h1 h2 h3⟩
theorem fJ.uo{K:HP}{bytes:Nat}{y:List Value×TypeId}{v:Value}{u:Sl}{A:aR}(D:fJ f p Q0 T0 h0 x s n X vl a b E kc Q T h g)(J:g.SS[i]? =some u)(P:g.ST[i]? =some A)(o:Os A h u y.1 y.2)(O:X'.eY=X.eY.set i (y.1++[v],y.2))
  (I:z.size=1) (L:one v=true) (N:bytes<=8) (Y:y.1.length<=200000) (M:∀U m R V,fJ f p Q0 T0 h0 x s n X' vl a b V kc Q U m R->K m):
  aL h #[v] y.2 λc d=>aT h d ⟨p,10+i,none⟩ 1 (Ap d y.2 z 1 bytes u 1 (rd d (some c) (1*1)) λt B=>St B ⟨p,10+i,none⟩ (Sl.v t) K):=by
 refine aJ λc Z e2 l H _=>bR D.st.S.k l ?_;have e:=D.ai l;have w:=o.gr l;have F:=w.n;refine w.BM I (by simpa using L) rfl (jn H rfl) (by rw[F];have:=YI (y.1.length+1+(y.1.length+1)/4+192) N;omega) ag λW B t os=>e.st.slot (nP _) J P t os.tr O λm r st=>M _ m _ _ ⟨st,⟨e.a.1,pF r e.a.2 e.a.1⟩,⟨e.b.1,?_⟩,D.v,D.q⟩
 obtain⟨C,G⟩:=e.b.2;exact⟨C,pF r G e.b.1⟩
theorem fJ.acB(D:fJ f p Q0 T0 h0 x s n X vl a b E kc Q T h g)(u:f.cs[0]? =some c)(hl:X.os.length<=100000)
  (q:∀z e v C,fJ f p Q0 T0 h0 x s n {X with os:=X.os++[(kc 0).length]} vl a b C kc Q z e v->K 0 e):Fy K Kp (pB p) h:=by
 apply Fy.of;refine bO ?_;obtain⟨t,A,y,d,l,k,o⟩:=D.sl (i:=3) ag;cases k;refine D.st.S.dI d (Jm D.st.S u rfl λB w G F m=>?_);refine bO ?_;refine yz ((xJ c).r m) (D.uo d l o ?_ rfl rfl ag (by show(ints X.os).length<=_;rw[ints,cC];omega) q)
 show Bx.eY _=_
 simp[Bx.eY,ints]
theorem ac6(l:f.k=15):(aM f.k (vs++[x])).ends=(aM f.k vs).ends++[(cont f 0 vs++x.items).length]:=by
 have e:∀d,(aM f.k d).ends=jR (λv=>v.items.length) d:=λd=>by simp[aM,l]
 rw[e,e,MT]
 congr 2
 show _=List.length (dB f.k f.w (dh f.cs) 0 vs++x.items)
 rw[l,zC,kY,Jr];simp
theorem xg(d:f.cs=[c])(h:kc 0=cont f 0 vs):∀j,j<f.cs.length->kc j=cont f j vs:=λj e=>by
 grind
theorem qE(l:f.k≠19/\f.k≠20)(d:aQ):(aM f.k d).aH=[]:=(mG d).2.2.2 ag
theorem ao7(d:f.cs=[c])(l:f.k=15)(Z:bE f)(TK:n5 c):wq f:=by
 intro Q T h p vs x s P H hw B hv;have PC:=mE c (Z.aN (by rw[d];simp))
 have C:f.cs[0]? =some c:=by rw[d];rfl
 have N:=fh C P;have M:∀U,x.au=U->dY f.k x=U:=λU e=>by rw[DK ag ag ag,e]
 have J:fE f.k=false:=by rw[l];rfl
 have a':x.items.length<=4096:=by rw[eG]at H;exact Ec H
 have cs:cont f 0 (vs++[x])=cont f 0 vs++x.items:=by
  show dB f.k f.w (dh f.cs) 0 _=dB f.k f.w (dh f.cs) 0 _++_
  rw[l,zC,zC];simp
 have len:(aM f.k vs).ends.length=vs.length+1:=by simp[aM,l,Dh]
 refine⟨_,ajB d l PC.1 P H,λ{K Kp}m=>zi hw P B hv (λc W V I R=>by have:=m W V I R;grind) (λ_ c=>ag) (λlt _ G{I g X E a b}ok L=>?_) (λlt _ G{I g X E a b}ok L=>?_)⟩ <;> rw[aA]at m <;> have hb:=ok.b
 ·have u:x=v0:=by rw[eG]at H;exact(ku H G).1
  have e0:jS c (λx r=>c.tk r x) (cont f 0 vs) x.items=0:=by rw[u];rfl
  rw[e0]at m;refine DJ L ag λ{T1 h1 g1 E1 c'}q=>tA.of (bQ cy ?_);refine bO ?_;obtain⟨t0,A,y,O,q2,q3,o,_⟩:=q.sl (i:=3) ag;cases q3;have os:=ok.o ag;have on:=o.n;have lx:(ints X.os).length=vs.length+1:=by rw[ints,cC,os,len]
  rw[lx]at on;refine q.st.S.dI O (q.st.S.dI O (q.st.S.dI O (aY ag ag (o.sv.ix ag ag (v:=ah (((cont f 0 vs).length:Nat):Int)) ?_ λa ha=>yz ha ?_))))
  ·show(ints X.os)[_]? =_
   have e:(aM f.k vs).ends=jR (λv=>v.items.length) vs:=by simp[aM,l]
   rw[show((t0.n:Int)-1).toNat=vs.length by omega,os,e,ints,fy,TZ (cr _),mO]
   show _=some (ah (((dB f.k f.w (dh f.cs) 0 vs).length:Nat):Int))
   rw[l,zC];simp
  ·refine q.uo (X':={X with vl:=X.vl++[0],os:=X.os++[(cont f 0 vs).length]}) O q2 o ?_ rfl rfl ag (by rw[lx];omega) λT2 h2 g2 E2 L2=>m _ _ _ L2.st.x λ_=>rO L2.st (pE (M _ G)).symm (vH (F:=[]) (t:=[]) ok ag (by rw[G];rfl) rfl aC rfl aC ⟨rfl,rfl,rfl⟩ (by simp[J]) aC aC cy (λ_=>?_) λ_=>ag) (by rw[qE ag,qE ag]) (xg d ?_)
   ·show Bx.eY _=_
    simp[Bx.eY,ints]
   ·rw[ac6 l,u];simp[v0,aD.items]
   ·rw[cs,u];simp[v0,aD.items]
 ·refine AS L ag λ{T1 h1 g1 E1}q=>tB.of (bu cy (bu cy (bQ cy (wD.of (bQ cy (q.kd.items C TK PC.1 N (Oe d (.inl l) H) hw a' (λe W V I R=>m _ _ _ R λz=>absurd z e) λe W V I g' D=>D.acB C bZ λT2 h2 g2 E2 Y=>?_))))))
  simp only[lf]at Y;rw[e]at m;refine m _ _ _ Y.st.x λ_=>rO Y.st (by simp_all[pE]) (vH (F:=[]) (t:=[]) ok ag (by rw[G];rfl) rfl aC rfl aC ⟨rfl,rfl,rfl⟩ (by simp[J]) aC aC cy (λ_=>ac6 l) λ_=>ag) (by rw[qE ag,qE ag]) (xg d ?_)
  rw[cs,lf]
theorem ao5(d:f.cs=[c])(A:f.k=16)(J:bE f)(TK:n5 c)(ZK:pN c):wq f:=by
 intro Q T h p vs x s P N V B W;have O:=mE c (J.aN (by rw[d];simp))
 have m:f.cs[0]? =some c:=by rw[d];rfl
 have q:=fh m P;have M:∀R,x.au=R->dY f.k x=R:=λR e=>by rw[DK ag ag ag,e]
 have I:fE f.k=false:=by rw[A];rfl
 have U:x.items.length<=4096:=by rw[eG]at N;exact Ec N
 have cs:cont f 0 (vs++[x])=cont f 0 vs++if x.au then List.replicate f.w.toNat c.cm else x.items:=by
  show dB f.k f.w (dh f.cs) 0 _=dB f.k f.w (dh f.cs) 0 _++_
  rw[A,Bz,Bz,d];simp[dh]
 refine⟨_,ajx d A O.1 O.2.1 P N,λ{K Kp}l=>zi V P B W (λc H G r C=>by have:=l H G r C;grind) (λ_ c=>ag) (λlt _ u{r g X E a b}ok L=>?_) (λlt _ u{r g X E a b}ok L=>?_)⟩ <;> rw[aA]at l <;> have hb:=ok.b <;> simp only[u,fY,lH,kF]at l cs
 ·refine DJ L ag λ{T1 Y Z E1 c'}S=>tA.of (bu cy (bu cy (bQ cy ?_)));have w:=J.right.1.2.2.2.1 A;refine S.kd.Tx m ZK O.2.1 q ag (λe H G r C=>l _ _ _ C λz=>absurd z e) λe H G r g' v=>?_;rw[e]at l;refine l _ _ _ v.st.x λ_=>rO v.st (pE (M _ u)).symm (vH (F:=[]) (t:=[]) (o:=[]) ok ag (by rw[u];rfl) rfl aC aC aC ⟨rfl,rfl,rfl⟩ (by simp[I]) aC aC cy (λ_=>ag) λ_=>ag) (by rw[qE ag,qE ag]) (xg d ?_)
  rw[cs,lf]
 ·refine AS L ag λ{T1 Y Z E1}S=>tB.of (bu cy (bu cy (bu cy (wD.of (bQ cy (S.kd.items m TK O.1 q (Oe d (.inr A) N) V U (λe H G r C=>l _ _ _ C λz=>absurd z e) λe H G r g' D=>D.acB m bZ λT2 h2 g2 E2 v=>?_))))))
  simp only[lf]at v;rw[e]at l;refine l _ _ _ v.st.x λ_=>rO v.st (by simp_all[pE]) (vH (F:=[]) (t:=[]) ok ag (by rw[u];rfl) rfl aC rfl aC ⟨rfl,rfl,rfl⟩ (by simp[I]) aC aC cy (λ_=>ag) λ_=>ag) (by rw[qE ag,qE ag]) (xg d ?_)
  rw[cs,lf]
end
theorem Og{g:Nat->Int}(h0:jW g j=0)(d:g j≠0):∀{m:Nat},j<m->jW g m=g j
  |0,h=>ag
  | m+1,h=>by
    by_cases e:m=j
    ·subst e;simp[jW,h0]
    ·have:=Og h0 d (m:=m) ag;simp[jW,this,d]
def qG(kc:Nat->List aD)(G:Nat->aD)(j:Nat):Nat->List aD:=λi=>if i<j then kc i++[G i]else kc i
theorem sN:qG kc G j j=kc j:=by simp[qG]
theorem WR:qG kc G 0=kc:=by funext i;simp[qG]
theorem WS:lg (qG kc G j) j (kc j++[G j])=qG kc G (j+1):=by
 grind[lg,qG]
section
variable {Q T Q0 T0 E:aR} {p a b:Nat} {vs vl:aQ} {x y:aD} {n:Bn} {g:dL} {X X':Bx} {K:cL}
theorem fJ.fields{e:Nat->Int}(D:fJ f p Q0 T0 h0 x s n X vl a b E kc Q T h g)(L:f.cs.length<=32)(J:∀c∈f.cs,n5 c)(u:∀(i:Nat)c,f.cs[i]? =some c->c.can (kc i))(C:x.items.length=f.cs.length)(A:∀(i:Nat)c,f.cs[i]? =some c->c.fit (x.items.getD i v0)=true)(H:x.bw<=4194304)
  (B:∀(i:Nat)c,f.cs[i]? =some c->e i=gp c (kc i) (x.items.getD i v0))
  (m:jW e f.cs.length≠0->∀l k d,Ext Q0 l T0 k h0 d->K (jW e f.cs.length) d)
  (z:jW e f.cs.length=0->∀l k d q,fJ f p Q0 T0 h0 x s n X vl a b E (qG kc (λi=>x.items.getD i v0) f.cs.length) l k d q->K 0 d):J6 K Kp (pB p) (aF a) 0 h:=by
 refine J6.bC (λy d=>∃(j:Nat)(l k:aR)(q:dL),y=j/\j<=f.cs.length/\fJ f p Q0 T0 h0 x s n X vl a b E (qG kc (λi=>x.items.getD i v0) j) l k d q/\jW e j=0) (λy _=>f.cs.length-y.toNat) ⟨0,Q,T,g,rfl,eH _,by rw[WR];exact D,rfl⟩ ?_
 rintro y P ⟨j,U,S,R,rfl,O,v,e1⟩ N hN;have M:=v.vv.n;refine aj v.a.2 rfl (cE (λr=>?_) λr=>?_)
 ·have t:j<f.cs.length:=ag;have o:f.cs[j]? =some f.cs[j]:=aC;have F:x.items[j]? =some (x.items.getD j v0):=by rw[gB,bL ag];rfl
  generalize f.cs[j]=c at o;refine bO ?_;refine v.take o rfl rfl (J c (bS o)) F (by rw[sN];exact u j c o) (A j c o) H (λne l k d I=>bQ (by simp_all) ?_) λe0 l k d q w=>bu rfl (aY ag ag (hN _ _ ⟨j+1,l,k,q,ag,ag,?_,?_⟩ ag))
  ·rw[sN]at ne ⊢;rw[<-B j c o]at ne ⊢;rw[Og e1 ne t]at m;exact m ne _ _ _ I
  ·grind[sN,WS]
  ·rw[sN,<-B j c o]at e0;simp[jW,e1,e0]
 ·have:j=f.cs.length:=ag;subst this;exact z e1 _ _ _ _ v
theorem fJ.XH{e:Nat->Int}(D:fJ f p Q0 T0 h0 x s n X vl a b E kc Q T h g)(I:f.cs.length<=32)(H:∀c∈f.cs,pN c)(v:∀(i:Nat)c,f.cs[i]? =some c->c.can (kc i))
  (z:∀(i:Nat)c,f.cs[i]? =some c->e i=gE c (kc i))
  (m:jW e f.cs.length≠0->∀l k d,Ext Q0 l T0 k h0 d->K (jW e f.cs.length) d)
  (w:jW e f.cs.length=0->∀l k d q,fJ f p Q0 T0 h0 x s n X vl a b E (qG kc (λi=>(dh f.cs).getD i v0) f.cs.length) l k d q->K 0 d):J3 K Kp (pB p) 0 h:=by
 refine J3.bC (λy d=>∃(j:Nat)(l k:aR)(q:dL),y=j/\j<=f.cs.length/\fJ f p Q0 T0 h0 x s n X vl a b E (qG kc (λi=>(dh f.cs).getD i v0) j) l k d q/\jW e j=0) (λy _=>f.cs.length-y.toNat) ⟨0,Q,T,g,rfl,eH _,by rw[WR];exact D,rfl⟩ ?_
 rintro y M ⟨j,P,O,C,rfl,L,t,e1⟩ N hN;have J:C.sp.n=f.cs.length:=by rw[t.st.S.pt.n,cC,t.st.S.lk.1,cC]
 refine bO ?_;refine t.st.S.jV (aK (λr=>?_) λr=>?_)
 ·have r:=aU r;have u:j<f.cs.length:=ag;have o:f.cs[j]? =some f.cs[j]:=aC;generalize f.cs[j]=c at o;have B:(dh f.cs).getD j v0=c.cm:=lO o;refine t.zero o rfl (H c (bS o)) (by rw[sN];exact v j c o) (λne l k d F=>bQ bZ ?_) λe0 l k d q A=>bu rfl (aY ag ag (hN _ _ ⟨j+1,l,k,q,ag,ag,?_,?_⟩ ag))
  ·rw[sN]at ne ⊢;rw[<-z j c o]at ne ⊢;rw[Og e1 ne u]at m;exact m ne _ _ _ F
  ·grind[sN,WS]
  ·rw[sN,<-z j c o]at e0;simp[jW,e1,e0]
 ·grind
theorem ao4(v:f.k=17)(u:bE f)(TK:∀c∈f.cs,n5 c)(ZK:∀c∈f.cs,pN c):wq f:=by
 intro Q T h p vs x s N U S B V;have H:=u.right.1.2.2.2.2.2.2.2.2.1 v;have q:∀(i:Nat)c,f.cs[i]? =some c->c.can (cont f i vs):=λi c d=>fh d N;have J:∀O,x.au=O->dY f.k x=O:=λO e=>by rw[DK ag ag ag,e]
 have I:fE f.k=false:=by rw[v];rfl
 have cs:∀j,cont f j (vs++[x])=cont f j vs++[if x.au then(dh f.cs).getD j v0 else x.items.getD j v0]:=by grind[En]
 refine⟨_,ajw v (λc d=>(mE c (u.aN d)).1) (λc d=>(mE c (u.aN d)).2.1) N U,λ{K Kp}m=>zi S N B V (λc D C r A=>by have:=m D C r A;grind) (λ_ c=>ag) (λlt _ l{r g X E a b}ok L=>?_) (λlt _ l{r g X E a b}ok L=>?_)⟩ <;> rw[aA]at m <;> have hb:=ok.b <;> simp only[l,fY,lH,kF]at cs
 ·refine DJ L ag λ{T1 W Y E1 c'}P=>tA.of (bu cy (bu cy (bu cy (bQ cy (P.kd.XH H ZK q (λi c d=>by unfold It;grind) (λe D C r A=>m _ _ _ A λz=>absurd z e) λe D C r Z G=>?_)))))
  rw[e]at m;refine m _ _ _ G.st.x λ_=>rO G.st (pE (J _ l)).symm (vH (F:=[]) (t:=[]) (o:=[]) ok ag (by rw[l];rfl) rfl aC aC aC ⟨rfl,rfl,rfl⟩ (by simp[I]) aC aC cy (λ_=>ag) λ_=>ag) (by rw[qE ag,qE ag]) λj M=>?_
  rw[cs];simp[qG,M]
 ·obtain⟨_,hl,R⟩:=Ea v U l;refine AS L ag λ{T1 W Y E1}P=>tB.of (bu cy (bu cy (bu cy (wD.of (bu cy (bQ cy (P.kd.fields H TK q hl R S (λi c d=>by unfold It;grind) (λe D C r A=>m _ _ _ A λz=>absurd z e) λe D C r Z G=>?_)))))))
  rw[e]at m;refine m _ _ _ G.st.x λ_=>rO G.st (by simp_all[pE]) (vH (F:=[]) (t:=[]) (o:=[]) ok ag (by rw[l];rfl) rfl aC aC aC ⟨rfl,rfl,rfl⟩ (by simp[I]) aC aC cy (λ_=>ag) λ_=>ag) (by rw[qE ag,qE ag]) λj M=>?_
  rw[cs];simp[qG,M]
end
section
variable {Q T Q0 T0 E:aR} {p a b:Nat} {vs vl:aQ} {x y:aD} {n:Bn} {g:dL} {X X':Bx} {K:cL}
theorem ae2(e:f.k=18):(aM f.k (vs++[x])).ends=(aM f.k vs).ends++[(cont f (fG x) vs).length]/\(aM f.k (vs++[x])).all=(aM f.k vs).all++[UInt8.ofNat (fG x)]:=by
 constructor
 ·show _=_++[(dB f.k f.w (dh f.cs) (fG x) vs).length]
  rw[e,Em];simp only[aM];simp only[show¬((18:Int)=12\/(18:Int)=13) by omega,show¬((18:Int)=15) by omega,kF,fY]
  rw[ij,jy,uu,kY]
  congr 1
  ·grind[List.map_congr_left]
  simp
 ·rw[e];simp[aM]
theorem atX(l:f.k=18)(d:x.items=[y])(j:Nat):cont f j (vs++[x])=if fG x=j then cont f j vs++[y]else cont f j vs:=by
 grind[Em]
theorem apb(l:f.k=18)(G:bE f)(TK:∀c∈f.cs,n5 c):wq f:=by
 intro Q T h p vs x s W hf hw B hv;have d':f.lets=false:=by rw[xS];unfold m8;rw[aA];simp[l]
 obtain⟨hn,ht,i',c,y,d,t,O⟩:=Of l d' hf;have R:=fh d W;have c':dY f.k x=false:=by unfold dY;rw[aA,dU]
 have b':fE f.k=false:=by rw[l];rfl
 have P:=(dy.1 d).1;have C:x.num=(fG x:Int):=by unfold fG;omega
 have wy:=gS x;rw[t]at wy;simp only[bJ]at wy;refine⟨_,ajD G l d t ht ((mE c (G.aN (bS d))).1 y O) W,λ{K Kp}I=>zi hw W B hv (λc Q' Z U Y=>by have:=I Q' Z U Y;simp_all) (λ_ c=>ag) (λlt _ N=>by rw[hn]at N;cases N) (λlt _ _{U g X E a b}ok L=>?_)⟩
 rw[aA]at I;have hb:=ok.b;refine AS L ag λ{T1 h1 g1 E1}V=>tB.of (bu cy (bu cy (bu cy (wD.of (bu cy (bu cy (bQ cy ?_)))))));refine bO ?_;obtain⟨t0,A,z,q1,q2,q3,o,_⟩:=V.sl (i:=1) ag;cases q3;refine V.st.S.dI q1 (aj V.a.2 rfl (Cb (V.uo (X':={X with vl:=X.vl++[1],cd:=X.cd++[UInt8.ofNat (fG x)]}) q1 q2 o ?_ rfl rfl ag (by grind[fH]) λT2 h2 g2 E2 F=>RS.of ?_)))
 ·show Bx.eY _=_
  have e2:bv (X.cd++[UInt8.ofNat (fG x)])=bv X.cd++[.int .u8 (IntKind.u8.wrap x.num)]:=by
   rw[um,TR]
   congr 1
   show[Value.int .u8 (((UInt8.ofNat (fG x)).toNat:Nat):Int)]=_
   rw[sW]
   congr 3
   omega
  simp only[Bx.eY,e2];rfl
 refine bO ?_;obtain⟨t1,A1,z,r1,r2,r3,o1,_⟩:=F.sl (i:=3) ag;cases r3;obtain⟨M,B1,w,H,hA,a',m⟩:=F.st.S.m (by rw[cC];exact P)
 rw[fy,d]at H;cases H;refine F.st.S.dI r1 (F.st.S.jV (aj F.a.2 rfl (F.st.S.WQ a' C ?_)));refine bO ?_;refine yz ((xJ c).r m) (F.uo (X':={X with vl:=X.vl++[1],cd:=X.cd++[UInt8.ofNat (fG x)],os:=X.os++[(cont f (fG x) vs).length]}) r1 r2 o1 ?_ rfl rfl ag (by show(ints X.os).length<=_;rw[ints,cC];omega) λT3 h3 g3 E3 D=>RR.of ?_)
 ·show Bx.eY _=_
  simp[Bx.eY,ints]
 refine bO ?_;obtain⟨M,B3,w3,H,e',J,m3⟩:=D.st.S.m (by rw[cC];exact P)
 rw[fy,d]at H;cases H;refine D.st.S.jV (aj D.a.2 rfl (D.st.S.WQ J C (aj D.a.2 rfl (D.vv.ix rfl (by rw[t];rfl) λq u cx hz=>ig cx (D.st.iD d e' J (TK c (bS d)) R O ag hz (λe Q' Z U Y=>I _ _ _ Y λz=>absurd z e) λe Q' Z U g' hq t' S'=>?_)))))
 rw[e]at I;obtain⟨b1,b2,b3,b4,b5,b6,b7⟩:=hb;refine I _ _ _ S'.x λ_=>rO S' (by rw[pE c'];rfl) ⟨?_,λq=>ag,λ_=>?_,λq=>ag,λ_=>?_,λq=>ag,λq=>ag,λq=>by rw[b']at q;cases q⟩ (by rw[qE ag,qE ag]) λj hj=>?_
 ·simp only[ij,jy];omega
 ·show X.os++_=_
  rw[(ae2 l).1,ok.o ag]
 ·show X.cd++_=_
  rw[(ae2 l).2,ok.c l]
 ·rw[atX l t];split
  ·rename_i e;subst e;exact lf
  ·rename_i e;exact aiZ λz=>e z.symm
end
theorem amN{l:aQ}(h:l[j]? =some v)(k:∀i,i<j->l[i]? ≠some v):gf v l=some j:=by
  cases e:gf v l with
  |none=>grind[List.mem_of_getElem?,vh]
  | some i=>
    obtain⟨a,b⟩:=DB e
    grind
section
variable {Q T Q0 T0 E:aR} {p a b:Nat} {vs vl:aQ} {x y:aD} {n:Bn} {g:dL} {X X':Bx} {K:cL}
theorem acG{x:Int}(d:K (ou x) h):GA x h K Kp:=by
 refine GA.of (aK (λe=>?_) λe=>aK (λk=>?_) λk=>?_)
 all_goals have e:=aU e
 all_goals try have k:=aU k
 ·unfold ou at d;grind
 ·unfold ou at d;grind
 ·unfold ou at d;grind
theorem uE.AF{A:aR}(o:uE A Q h s vs):aS (λ_=>True) h s vs:=by
 obtain⟨l,e,r,_,vv⟩:=o;exact aS.snoc r e (λ_ _=>trivial) λj v t k d=>rY (vv j v t k d) λ_ _=>trivial
theorem fJ.fresh{K:Addr->HP}(D:fJ f p Q0 T0 h0 x s n X vl a b E kc Q T h g)(o:∀d l t,fJ f p Q0 T0 h0 x s n X vl d b t kc Q T l g->K (aF d) l):iK h x.au x.num (bs x.text) s K:=
 aJ λd r e1 m k _=>by
  have e:=D.ai m;exact o d r _ ⟨e.st,⟨.inr ⟨ag,ag⟩,k⟩,e.b,e.v,e.q⟩
theorem fJ.xN{K:HP}{bytes:Nat}{y:List Value×TypeId}{v:Value}{u:Sl}{A:aR}(D:fJ f p Q0 T0 h0 x s n X vl a b E kc Q T h g)(l:g.SS[i]? =some u)(C:g.ST[i]? =some A)(o:Os A h u y.1 y.2)(B:X'.eY=X.eY.set i (y.1++[v],y.2))
  (k:z.size=1) (m:one v=true) (w:bytes<=8) (q:y.1.length<=200000) (r:∀I e H J,fJ f p Q0 T0 h0 x s n X' vl a b J kc Q I e H->K e):
  aL h #[v] y.2 λc d=>Ap d y.2 z 1 bytes u 1 (rd d (some c) (1*1)) λt G=>St G ⟨p,10+i,none⟩ (Sl.v t) K:=(D.uo l C o B k m w q r).2
theorem fJ.aam{K:HP}(D:fJ f p Q0 T0 h0 x s n X vl a b E kc Q T h g)(hl:vl.length<=5000)(F:∀z w m u I,fJ f p Q0 T0 h0 x s n X (vl++[x]) a b I kc z w m u->K m):
  Ld h ⟨p,17,none⟩ Sl.v λsv=>bN h (aF a) λc d e f=>aL h #[.bool false,ah 0,.string (bs []),.slice none 0 0] di λg i=>aT h i (aF a) 4<|aT h i ⟨p,17,none⟩ 1<|Ap i di gl 4 56 sv 1 (rd i (some g) (1*4)) λt g=>Ix t.a t.n 4 (sv.n:Int) λb=>
   (dK g b c d e f λb=>St b ⟨p,17,none⟩ (Sl.v t) K)/\(St g ⟨p,17,none⟩ (Sl.v t) λG=>dK G b c d e f K):=by
 refine D.st.S.mH (eW D.a.2 (aJ λL J e1 o C _=>bR D.a.2 o (bR D.st.S.k o ?_)));have l:=D.ai o;refine l.st.aiM (nP _) C l.vv hl λz w m u r H=>F _ _ m _ _ ⟨H,⟨l.a.1,pF r l.a.2 l.a.1⟩,⟨l.b.1,?_⟩,D.v,D.q⟩;obtain⟨A,B⟩:=l.b.2;exact⟨A,pF r B l.b.1⟩
theorem fJ.self(D:fJ f p Q0 T0 h0 x s n X vl a b E kc Q T h g)(C:f.cs[0]? =some c)(H:n5 c)(t:c.can (kc 0))(r:c.fit x=true)(F:x.bw<=4194304)
  (u:gp c (kc 0) x≠0->∀q o k,Ext Q0 q T0 o h0 k->K (gp c (kc 0) x) k)
  (B:gp c (kc 0) x=0->∀q o k z,gk f (pQ f) p Q0 T0 h0 q o k z n X vl (lg kc 0 (kc 0++[x])) E->K 0 k):
  Ld h ⟨p,18,none⟩ Sl.v λd=>Ix d.a d.n 1 0 λd=>Ld h d .pointer λd=>bN h (aF a) λe f g i=>q8 d e f g i h K Kp:=by
 exact Jm D.st.S C rfl λA w G l m=>eW D.a.2 (D.st.iD C G l H t r F D.vv u λe q o k z L J I=>B e q o k z I)
theorem asI(q:f.k=19):(aM f.k (vs++[x])).ends=(aM f.k vs).ends++[if x.au then 0 else(gf x (dR (vs++[x]))).getD 0]:=by
  have d:∀e,(aM f.k e).ends=e.map λu=>if u.au then 0 else(gf u (dR e)).getD 0:=λe=>by rw[q];simp[aM]
  rw[d,d,kY,Js]
  congr 1
  refine BY λu o=>?_;cases m:u.au with
  |true=>rfl
  | false=>
    simp only[lH,kF];cases l:gf u (dR vs)with
    |none=>simp_all[NF,vh]
    | some i=>
      grind[xA,qK,UN]
theorem Ye{b:UInt8}{m:Nat}(ok:nB f vs X)(d:f.k=19)(l:b=if x.au then 0 else 1)(e:m=if x.au then 0 else(gf x (dR (vs++[x]))).getD 0):nB f (vs++[x]) {X with vl:=X.vl++[b],ix:=X.ix++[m]}:=by
 obtain⟨w,b2,v,u,t,r,o⟩:=ok.b;refine⟨?_,λq=>afY ok q l,λq=>ag,λq=>ag,λq=>ag,λ_=>?_,λq=>ag,λq=>by rw[d]at q;cases q⟩
 ·grind
 ·show X.ix++_=_
  rw[asI d,ok.i d,e]
theorem apa(l:f.cs=[c])(I:f.k=19)(i':bE f)(TK:n5 c):wq f:=by
 intro Q T h p vs x s hc hf hw B hv;have PC:=mE c (i'.aN (by rw[l];simp))
 have e':f.cs[0]? =some c:=by rw[l];rfl
 have C:∀D,cont f 0 D=dR D:=by grind[By]
 have R:∀D,(aM f.k D).aH=dR D:=λD=>by simp[aM,I]
 have H:c.can (dR vs):=by rw[<-C];exact fh e' hc
 have b':=(gh c _).1 H;have n4:=b'.n4;have wt:=b'.wt;have O:∀bb,x.au=bb->dY f.k x=bb:=λbb e=>by rw[DK ag ag ag,e]
 refine⟨_,ajC l I PC.1 hc hf,λ{K Kp}m=>zi hw hc B hv (λc Q' T' J ex=>by have:=m Q' T' J ex;simp_all) (λ_ c=>ag) (λlt _ d{J g X E a b}ok L=>?_) (λlt _ d{J g X E a b}ok L=>?_)⟩ <;> rw[aA]at m <;> have hb:=ok.b
 ·rw[aI d]at m;have v:dR (vs++[x])=dR vs:=by rw[xA];unfold qK;rw[aI d]
  refine DJ L ag λ{T1 h1 g1 E1 c'}L1=>tA.of (bu cy (bu cy (bu cy (bu cy (bQ cy ?_)))));refine bO ?_;have D1:=L1.kd;obtain⟨t0,A,y,F,V,U,o⟩:=D1.sl (i:=5) ag;cases U;refine D1.st.S.dI F (D1.xN (X':={X with vl:=X.vl++[0],ix:=X.ix++[0]}) F V o ?_ rfl rfl ag (by show(ints X.ix).length<=_;rw[ints,cC];omega) λT2 h2 g2 E2 G=>m _ _ _ G.st.x λ_=>rO G.st (pE (O _ d)).symm (Ye ok I (by rw[d];rfl) (by rw[d];rfl)) (by rw[R,R,v]) (xg l (by rw[C,C,v])))
  show Bx.eY _=_
  simp[Bx.eY,ints]
 ·rw[aE (by simp[d])]at m
  refine AS L ag λ{T1 h1 g1 E1}L1=>tB.of (bu cy (bu cy (bu cy (wD.of (bu cy (bu cy (bu cy (bQ cy (eW L1.a.2 (Tc.of (L1.kd.fresh λa2 h2 E2 G=>?_)))))))))));rw[R]at G;apply Qs.bC (λy J=>∃(j:Nat)(E':aR),y=j/\j<=(dR vs).length/\fJ f p Q T h x s _ _ (dR vs) a2 b E' (λj=>cont f j vs) Q T1 J g1/\∀i,i<j->(dR vs)[i]? ≠some x) (λy _=>(dR vs).length-y.toNat) ⟨0,E2,rfl,eH _,G,λi hi=>ag⟩
  rintro y h3 ⟨j,E3,rfl,hj,r,M⟩ N hN;have AF:=r.st.S.aH.AF;have vn:=AF.n;refine bO ?_;refine r.st.S.mH (aK (λY=>?_) λY=>?_)
  ·have Y:=aU Y;have d':j<(dR vs).length:=ag;have hx:=bL d';have t:=kE d';generalize(dR vs)[j]=z at hx t;have wz:=oe t;refine r.st.S.mH (AF.ix rfl hx λq u cx hz=>ig cx (eW r.a.2 (Ux z hz r.vv ag λbb h4 g4 f'=>?_)));have P:=r.ai g4;refine aK (λc1=>?_) λc1=>?_
   ·have e:z=x:=f'.1 c1;subst e;have hm:=t;rw[aI hm]at m;have W:=amN hx M;have v:dR (vs++[z])=dR vs:=by rw[xA];unfold qK;rw[aE (by simp[d]),W]
    obtain⟨t0,A,y,F,V,U,o⟩:=P.sl (i:=5) ag;cases U;refine P.st.S.dI F (P.xN (X':={X with vl:=X.vl++[1],ix:=X.ix++[j]}) F V o ?_ rfl rfl ag (by show(ints X.ix).length<=_;rw[ints,cC];omega) λT2 h2 g2 E2 G=>m _ _ _ G.st.x λ_=>rO G.st (by rw[pE (O _ d)];rfl) (Ye ok I (by rw[d];rfl) (by rw[d,v,W];rfl)) (by rw[R,v]) (xg l (by rw[C,C,v])))
    show Bx.eY _=_
    simp[Bx.eY,ints]
   ·refine aY ag ag (hN _ _ ⟨j+1,_,ag,ag,P,λi hi=>?_⟩ ag)
    by_cases e:i=j
    ·subst e;rw[hx];intro q;cases q;rw[f'.2 rfl]at c1;cases c1
    ·exact M i ag
  ·have a':x∉dR vs:=by grind[List.mem_iff_getElem?,List.getElem?_eq_some_iff]
   rw[aE a']at m;have W:=vh.2 a';have v:dR (vs++[x])=dR vs++[x]:=by rw[xA];unfold qK;rw[aE (by simp[d]),W]
   apply RH.of;refine bO ?_;refine r.st.S.mH (aj r.st.S.k rfl (acG (bR r.st.S.k (cW _) (aK (λZ=>?_) λZ=>?_))))
   ·have Z:=aU Z;rw[dU]at m;exact m _ _ _ r.st.x λz=>by cases z
   ·have Z:=aU Z;rw[aA]at m;refine RG.of ?_;refine bO ?_;obtain⟨t0,A,y,F,V,U,o⟩:=r.sl (i:=5) ag;cases U;refine r.st.S.dI (i:=5) F (r.st.S.mH ?_);rw[vn.1];refine r.uo (i:=5) (X':={X with vl:=X.vl++[1],ix:=X.ix++[(dR vs).length]}) F V o ?_ rfl rfl ag (by show(ints X.ix).length<=_;rw[ints,cC];omega) λT4 h4 g4 E4 P=>RF.of ?_
    ·show Bx.eY _=_
     simp[Bx.eY,ints]
    refine bO ?_;refine P.aam ag λQ5 T5 h5 g5 E5 D5=>Kb.of ?_;refine bO ?_;refine D5.self e' TK (by rw[C];exact H) (Od l (.inl I) hf d) hw (λe Q' T' J ex=>?_) λe Q' T' J g' S'=>?_
    ·rw[C]at e ⊢;exact m _ _ _ ex λz=>absurd z e
    ·rw[C]at e;rw[e]at m;refine m _ _ _ S'.x λ_=>rO S' (by rw[pE (b:=false) (O _ d)];rfl) (Ye ok I (by rw[d];rfl) (by rw[d,v,UM W];rfl)) (by rw[R,v]) (xg l (by rw[lf,C,C,v]))
end
section
variable {Q T Q0 T0 E:aR} {p a b:Nat} {vs vl:aQ} {x y:aD} {n:Bn} {g:dL} {X X':Bx} {K:cL}
theorem afZ{l:cV}(ok:nB f vs X)(d:f.k=20)(hl:l=(cR (vs++[x])).2):nB f (vs++[x]) {X with en:=l}:=by
 obtain⟨v,b2,u,t,r,o,m⟩:=ok.b;have e:(aM f.k (vs++[x])).ends=(cR (vs++[x])).2:=by rw[d];simp[aM]
 refine⟨?_,λq=>absurd d q.2,λq=>ag,λq=>ag,λq=>ag,λq=>ag,λ_=>hl.trans e.symm,λq=>by rw[d]at q;cases q⟩
 have:=(HR _ (vs++[x]) rfl).1;grind
theorem ao6(r:f.cs=[c])(C:f.k=20)(a':bE f)(TK:n5 c):wq f:=by
  intro Q T h p vs x s hc hf hw B hv;have cv:=aem a' C r hf;have PC:=(mE c (a'.aN (by rw[r];simp))).1 x cv
  have d':f.cs[0]? =some c:=by rw[r];rfl
  have M:∀I,cont f 0 I=(cR I).1:=by grind[El]
  have ve:∀I,(aM f.k I).aH=(cR I).1:=λI=>by simp[aM,C]
  have ee:(aM f.k vs).ends=(cR vs).2:=by rw[C];simp[aM]
  have N:c.can (cR vs).1:=by rw[<-M];exact fh d' hc
  have c':=(gh c _).1 N;have wt:=c'.wt;obtain⟨V,U⟩:=AR _ vs rfl;have f':=(HR _ vs rfl).1;have b':dY f.k x=false:=by unfold dY;simp[*]
  refine⟨_,ajy r C PC hc,λ{K Kp}J=>zi hw hc B hv (λc Q' T' h' ex=>by have:=J Q' T' h' ex;grind) (λlt _{h' g X E a b}ok L=>?_) (λlt q=>absurd C q) λlt q=>absurd C q⟩
  rw[aA]at J;have hb:=ok.b;refine Lf.of (L.kd.fresh λa2 h2 E2 G=>?_);rw[ve]at G;have vn:=G.st.S.aH.AF.n;have D:(cR vs).1.getLast? ≠some x->∀{h3:Hp}{E3:aR}{m:Int},m=((cR vs).1.length:Int)->fJ f p Q T h x s ⟨vs.length+1,vs.countP (dY f.k),bJ vs+x.bw⟩ X (cR vs).1 a2 b E3 (λj=>cont f j vs) Q T h3 g->Cy K Kp (pB p) (aF a2) m false h3:=by
    intro ne h3 E3 m hm D3;subst hm;rw[aE ne]at J;have P:cR (vs++[x])=((cR vs).1++[x],(cR vs).2++[(cR vs).2.getLastD 0+1]):=by rw[AQ];unfold wU;rw[aE ne]
    refine Cy.of (bu rfl (RJ.of (bu cy ?_)));refine bO ?_;refine D3.aam ag λQ4 T4 h4 g4 E4 F=>Kc.of ?_;refine bO ?_;obtain⟨t0,A,y,Y,q2,q3,o⟩:=F.sl (i:=6) ag;cases q3;refine F.st.S.dI Y (aj F.st.S.k rfl (F.uo (X':={X with en:=X.en++[vs.length+1]}) Y q2 o ?_ rfl rfl ag (by show(ints X.en).length<=_;rw[ints,cC];omega) λT5 h5 g5 E5 D5=>RI.of ?_))
    · show Bx.eY _=_
      simp[Bx.eY,ints]
    refine bO ?_;refine D5.self d' TK (by rw[M];exact N) cv hw (λe Q' T' h' ex=>?_) λe Q' T' h' g' S'=>?_
    ·rw[M]at e ⊢;exact J _ _ _ ex λz=>absurd z e
    ·rw[M]at e;rw[e]at J;exact J _ _ _ S'.x λ_=>rO S' (by rw[pE b'];rfl) (afZ ok C (by rw[P,ok.e C,ee,V])) (by rw[ve,P]) (xg r (by rw[lf,M,M,P]))
  refine bO ?_;refine G.st.S.mH (aK (λc1=>?_) λc1=>?_)
  · have c1:=aU c1;obtain⟨d,z,hd⟩:∃d z,(cR vs).1=d++[z]:=⟨_,_,(zO (λe=>bZ)).symm⟩
    have ln:(cR vs).1.length=d.length+1:=by rw[hd];simp
    have hx:(cR vs).1[d.length]? =some z:=by rw[hd];simp
    have hl:(cR vs).1.getLast? =some z:=by rw[hd];simp
    have wz:=oe (bS hx);refine G.st.S.mH (aY ag ag (G.st.S.aH.AF.ix ag hx λq u cx hz=>ig cx (eW G.a.2 (Ux z hz G.vv ag λbb h4 g4 e'=>?_))));have F:=G.ai g4;cases W:bb with
    | false=>
      refine D (λe=>?_) ag F;rw[hl]at e;cases e;rw[e'.2 rfl]at W;cases W
    | true=>
      have e:z=x:=e'.1 W;subst e;rw[aI hl]at J;have P:cR (vs++[z])=((cR vs).1,(cR vs).2.dropLast++[(cR vs).2.getLastD 0+1]):=by rw[AQ];unfold wU;rw[aI hl]
      obtain⟨R,O,H⟩:∃d z,(cR vs).2=d++[z]:=⟨_,_,(zO (λe=>by rw[e,pJ]at U;omega)).symm⟩
      have j':R.length=d.length:=by rw[H,ln]at U;simp at U;omega
      have i':O=vs.length:=by rw[H]at V;simpa using V
      have en:X.en=R++[O]:=by rw[ok.e C,ee,H]
      obtain⟨t0,A,y,Y,q2,q3,o⟩:=F.sl (i:=6) ag;cases q3;have Z:=o.n;have Z:t0.n=d.length+1:=by rw[Z];show(ints X.en).length=_;rw[ints,cC,en];simp;omega
      refine Cy.of (bQ rfl ?_);refine bO ?_;refine F.st.S.dI (i:=6) Y (aY ag ag (o.sv.ix ag ag (v:=ah (O:Int)) ?_ λa ha=>yz ha (aY ag ag ?_)))
      · show(ints X.en)[_]? =_
        rw[show((g.sv.n:Int)-1).toNat=R.length by omega,en,ints,fy];simp
      · have o':=o;rcases o' with⟨e1,_⟩|⟨bb,tb,ow⟩
        ·rw[e1]at Z;simp[Sl.nil]at Z
        rw[ow.1];refine⟨ag,ag,?_⟩
        rw[bz,bX];refine o.M0 ag ⟨bb,ow.1,aC⟩ rfl λh' t os _=>?_
        have set:(ints X.en).set (t0.n-1) (ah ((O:Int)+1))=ints (R++[O+1]):=by
          rw[en,Z,show d.length+1-1=R.length by omega,ints,ints,kY,kY,xY _ _ aC]
          simp
        obtain⟨S',t'⟩:=F.st.cells (i:=6) (X':={X with en:=R++[O+1]}) (nP _) Y q2 t (x':=(ints (R++[O+1]),Y6)) (by rw[<-set];exact os) rfl
        exact J _ _ _ S'.x λ_=>rO S' (by rw[pE (b:=false) b'];rfl) (afZ ok C (by rw[P,H];simp)) (by rw[ve,P]) (xg r (by rw[M,M,P]))
  ·have c1:=aU c1;grind
end
structure tg(f:ak)(p:Nat)(Q0 T0:aR)(h0:Hp)(n:Bn)(X:Bx)(vl:aQ)(b:Nat)(E:aR)(kc:Nat->List aD)(Q T:aR)(h:Hp)(g:dL):Prop where
 st:gk f (pQ f) p Q0 T0 h0 Q T h g n X vl kc E
 b:E b/\∃sf,aO h b #[ah f.k,ah f.w,ah f.id,ah f.ix,Sl.v sf] kH
section
variable {Q T Q0 T0 E:aR} {p a b:Nat} {vs vl:aQ} {x y:aD} {n:Bn} {g:dL} {X X':Bx} {K:cL}
theorem ga.WJ{K:ByteArray->Bool->Int->Int->Int->Int->Sl->Prop}{m:List BF}(G:ga f m Q T h p g n X vl kc)(e:K f.name f.au f.k f.w f.id f.ix g.sf):bP h (aF p) K:=
 gQ (xB G.k (vs:=f.row g.sf) λi v d=>by
  rw[bX,r7];unfold dL.row;grind) e
theorem tg.zero{k:Int}(D:tg f p Q0 T0 h0 n X vl b E kc Q T h g)(C:f.cs[i]? =some c)(I:k=i)(L:pN c)(t:c.can (kc i))
  (u:gE c (kc i)≠0->∀r q o,Ext Q0 r T0 q h0 o->K (gE c (kc i)) o)
  (B:gE c (kc i)=0->∀r q o z,tg f p Q0 T0 h0 n X vl b E (lg kc i (kc i++[c.cm])) r q o z->K 0 o):
  Ld h ⟨p,18,none⟩ Sl.v λd=>Ix d.a d.n 1 k λd=>Ld h d .pointer λd=>qZ d h K Kp:=by
 refine Jm D.st.S C I λA w J l m=>D.st.nE C J l L t u λe r q o z N F M=>B e r q o z ⟨M,⟨D.b.1,?_⟩⟩;obtain⟨G,H⟩:=D.b.2;exact⟨G,pF F H D.b.1⟩
theorem tg.Tx(D:tg f p Q0 T0 h0 n X vl b E kc Q T h g)(G:f.cs[0]? =some c)(H:pN c)(I:dV c c.zk c.cm)(q:c.can (kc 0))(L:0<=f.w/\f.w<=64)
  (v:∀e,e=jS c (λ_=>c.zk) (kc 0) (List.replicate f.w.toNat c.cm)->∀l k d,Ext Q0 l T0 k h0 d->K (if e≠0 then e else 3) d):J1 K Kp (pB p) (aF b) 0 h:=by
 refine J1.bC (λy d=>∃(j:Nat)(l k:aR)(r:dL),y=j/\j<=f.w.toNat/\tg f p Q0 T0 h0 n X vl b E (lg kc 0 (kc 0++List.replicate j c.cm)) l k d r/\c.can (kc 0++List.replicate j c.cm)/\
   jS c (λ_=>c.zk) (kc 0) (List.replicate f.w.toNat c.cm)=jS c (λ_=>c.zk) (kc 0++List.replicate j c.cm) (List.replicate (f.w.toNat-j) c.cm)) (λy _=>f.w.toNat-y.toNat) ⟨0,Q,T,g,rfl,eH _,by simpa[TN]using D,dH,aC⟩ ?_
 rintro y O ⟨j,S,R,P,rfl,M,t,z,e1⟩ N hN;obtain⟨J,B⟩:=t.b.2;refine aj B rfl (cE (λo=>?_) λo=>?_)
 ·obtain⟨m,C⟩:∃m,f.w.toNat-j=m+1:=⟨f.w.toNat-j-1,ag⟩
  have u:f.w.toNat-(j+1)=m:=ag;rw[C,Ju]at e1;simp only[jS]at e1;refine bO ?_;refine t.zero G rfl H (by rw[lf];exact z) (λe l k d F=>bQ bZ ?_) λe l k d r A=>bu rfl (aY ag ag (hN _ _ ⟨j+1,l,k,r,ag,ag,?_,?_,?_⟩ ag))
  ·rw[lf]at e ⊢;rw[aE e]at e1;have:=v _ e1.symm _ _ _ F;grind
  ·grind[lf,TM,List.append_assoc,List.replicate_succ']
  ·rw[lf]at e;have:=(I _ z e).1;grind[List.replicate_succ',List.append_assoc]
  simp_all[lf,aI,Ey,oC]
 ·have:j=f.w.toNat:=ag;subst this;rw[zR]at e1;have:=v 0 e1.symm _ _ _ t.st.x;exact this
theorem tg.XH{e:Nat->Int}(D:tg f p Q0 T0 h0 n X vl b E kc Q T h g)(I:f.cs.length<=32)(H:∀c∈f.cs,pN c)(u:∀(i:Nat)c,f.cs[i]? =some c->c.can (kc i))
  (z:∀(i:Nat)c,f.cs[i]? =some c->e i=gE c (kc i))
  (w:∀m,m=jW e f.cs.length->∀q l k,Ext Q0 q T0 l h0 k->K (if m≠0 then m else 3) k):J0 K Kp (pB p) 0 h:=by
 refine J0.bC (λy k=>∃(j:Nat)(q l:aR)(v:dL),y=j/\j<=f.cs.length/\tg f p Q0 T0 h0 n X vl b E (qG kc (λi=>(dh f.cs).getD i v0) j) q l k v/\jW e j=0) (λy _=>f.cs.length-y.toNat) ⟨0,Q,T,g,rfl,eH _,by rw[WR];exact D,rfl⟩ ?_
 rintro y M ⟨j,P,O,C,rfl,L,r,e1⟩ N hN;have J:C.sp.n=f.cs.length:=by rw[r.st.S.pt.n,cC,r.st.S.lk.1,cC]
 refine bO ?_;refine r.st.S.jV (aK (λo=>?_) λo=>?_)
 ·have o:=aU o;have t:j<f.cs.length:=ag;have d:f.cs[j]? =some f.cs[j]:=aC;generalize f.cs[j]=c at d;have B:(dh f.cs).getD j v0=c.cm:=lO d;refine r.zero d rfl (H c (bS d)) (by rw[sN];exact u j c d) (λne q l k F=>bQ bZ ?_) λe0 q l k v A=>bu rfl (aY ag ag (hN _ _ ⟨j+1,q,l,v,ag,ag,?_,?_⟩ ag))
  ·rw[sN]at ne ⊢;rw[<-z j c d]at ne ⊢;have:=w _ rfl _ _ _ F;rw[Og e1 ne t,aI ne]at this;omega
  ·grind[sN,WS]
  ·rw[sN,<-z j c d]at e0;simp[jW,e1,e0]
 ·have o:=aU o;have:j=f.cs.length:=ag;subst this;have:=w 0 e1.symm _ _ _ r.st.x;exact this
theorem tg.first{k:Int}(D:tg f p Q0 T0 h0 n X vl b E kc Q T h g)(C:f.cs[0]? =some c)(B:k=0)(F:pN c)(q:c.can (kc 0))(A:∀z u t,Ext Q0 z T0 u h0 t->K (if gE c (kc 0)≠0 then gE c (kc 0)else 3) t):
  Ld h ⟨p,18,none⟩ Sl.v λd=>Ix d.a d.n 1 k λd=>Ld h d .pointer λd=>qZ d h (λa b=>If (a !=0) (K a b) (K 3 b)) Kp:=by
 refine D.zero C B F q (λe z u t l=>bQ dH ?_) λe z u t o m=>bu rfl ?_
 ·have:=A _ _ _ l;grind
 ·have:=A _ _ _ m.st.x;grind
end
theorem ajF(a:bE f)(b:∀c∈f.cs,n5 c)(d:∀c∈f.cs,pN c):n5 f:=by
 have one:f.k=15\/f.k=16\/f.k=19\/f.k=20->∃c,f.cs=[c]/\n5 c/\pN c:=λq=>by
  obtain⟨c,e,_⟩:=a.one q;simp[*]
 suffices L:wq f from@ajG f L
 by_cases n:f.k=12\/f.k=13
 ·exact ao3 n a
 by_cases m:f.k<=14
 ·exact ao8 m ag a
 by_cases l:f.k=15
 ·obtain⟨c,e,t,_⟩:=one ag;exact ao7 e l a t
 by_cases j:f.k=16
 ·obtain⟨c,e,t,z⟩:=one ag;exact ao5 e j a t z
 by_cases i:f.k=17
 ·exact ao4 i a b d
 by_cases h:f.k=18
 ·exact apb h a b
 by_cases g:f.k=19
 ·obtain⟨c,e,t,_⟩:=one ag;exact apa e g a t
 ·have:=a.right.1.2.1;obtain⟨c,e,t,_⟩:=one ag;exact ao6 e ag a t
theorem ahR(l:bE f)(d':f.fQ)(TF:n5 f)(ZK:∀c∈f.cs,pN c):pN f:=by
 intro Q T h p vs K Kp u B hk;have sh:=l.right.1;have KF:=nP f.cs;have BF:=B;have L:=xJ f;rw[xO]at B;obtain⟨g,X,G,ok⟩:=B;have H:Cs h ⟨p,2,none⟩ [ah f.k,ah f.w,ah f.id,ah f.ix,Sl.v g.sf]:=xB G.k λi v M=>by
  rcases i with _|_|_|_|_|i
  ·exact M
  ·exact M
  ·exact M
  ·exact M
  ·exact M
  ·simp at M
 apply qZ.of;refine bO ?_;refine nh H (aJ λb h1 e1 g1 k1 z1=>pH k1 rfl λh2 o2 k2=>?_);have g2:=bK g1 o2 ag;have G2:=G.fr KF (bx g2) (λ_ _=>id) λ_ _=>id;refine G2.WJ (Z4 f l (ck.h _ G2.fs) λh3 g3=>?_);have G3:=G2.fr KF (bx g3) (λ_ _=>id) λ_ _=>id;have k3:=k2.ai g3;have J:=aq g2 g3;refine aK (λc1=>?_) λc1=>?_
 ·have c1:=aU c1;have hw:f.wz<=4194304:=ag;have s:=(Dk f).2 hw;obtain⟨n1,n2,n3,_⟩:=sD l s;refine G3.WJ (alN l d' hw (ck.h _ G3.fs) λt R g4 vt=>aJ λe h5 e5 g5 k5 z5=>mj k5 rfl λI o6 k6=>eW k6 ?_);have g6:=bK g5 o6 ag;have b':=aq g4 g6;have c':=aq J b';have g':=J.1;have f':=b'.1;have a':=aS.lt _ (eO vt g6);have B6:f.gL (λc=>Q c\/(h.size<=c/\c<I.size)) T I p vs:=by
   refine L.q (L.fr BF (bx c') (λ_ _=>id) λ_ _=>id) (λc z=>.inl z) λc z=>?_;rcases z with z|z
   ·have:=L.d BF c z;exact⟨this.1,ag⟩
   ·exact⟨λy=>by have:=G.t.lt c y;omega,z.2⟩
  have x0:Ext Q (λc=>Q c\/(h.size<=c/\c<I.size)) T T h I:=⟨bx c',λc z=>.inl z,λc z=>z,λc z=>z,λc z=>.inl z⟩;rw[<-n1]at a' ⊢;have A:gE f vs=gp f vs f.cm:=by
   unfold gE gp;rw[uP (.inl s)]
  refine TF u n2 ag B6 (rY a' λc z=>.inr ⟨ag,z.2⟩) λQ' T' U ex hb=>?_
  rw[<-A]at hb ⊢;exact hk _ _ _ (x0.trans ex) hb
 ·have c1:=aU c1;have s:f.small=false:=by
   have:¬f.small=true:=λe=>by have:=(Dk f).1 e;omega
   simpa using this
  have i':=ak3 l s;have C:=(mE f l).2.2;have ne:gE f vs≠0:=λq=>by have:=C vs u q;grind
  have P:=(gk.of (E:=λ_=>False) G λ_ z=>z.elim).ai KF J;have N:∀{e:Int},gE f vs=uS vs e->vs.length<4096->∀Q' T' U,Ext Q Q' T T' h U->K (if e≠0 then e else 3) U:=λ{e}A lt Q' T' U ex=>by
   have:=hk Q' T' U ex λq=>absurd q ne;grind[uS]
  apply RE.of;refine bO ?_;refine aj (x:=(vs.length:Int)) P.S.k rfl (aK (λZ=>?_) λZ=>?_)
  ·have Z:=aU Z;have z3:gE f vs=3:=by
    have F:∀{e:Int},gE f vs=uS vs e->gE f vs=3:=λq=>by rw[q];unfold uS;omega
    by_cases R:f.k=16
    ·obtain⟨c,e,o⟩:=l.one ag;simp_all[aab,mE]
    by_cases h5:f.k=17
    ·exact F (aaa h5 s C (λc o=>(mE c (l.aN o)).2.1) u)
    by_cases I:f.k=18
    ·have n1:=(sh.2.2.2.2.2.2.2.2.2.1 I).1;have a:f.cs[0]? =some f.cs[0]:=aC;exact F (aac I a s C (mE _ (l.aN (bS a))).2.1 u)
    ·obtain⟨c,e,o⟩:=l.one ag;exact F (Tu ag e s C u)
   have:=hk _ _ _ P.x λq=>absurd q ne;grind
  have Z:=aU Z;have lt:vs.length<4096:=ag;refine aj (x:=(vs.length:Int)) P.S.k rfl (aY ag ag (P.num (m:=vs.length+1) KF ag (.inl ⟨rfl,rfl⟩) λR t4 S4=>?_));have Eb:(λc=>False\/(h.size<=c/\c<h3.size)) b:=.inr ⟨ag,k3.lt⟩
  have k4:=pF t4 k3 Eb;have D:tg f p Q T h _ X _ b _ (λj=>cont f j vs) Q T R g:=⟨S4,Eb,_,k4⟩;have r:∀(i:Nat)c,f.cs[i]? =some c->c.can (cont f i vs):=λi c o=>fh o u;refine aj k4 rfl (aK (λe1=>?_) λe1=>aK (λW=>?_) λW=>aK (λO=>?_) λO=>aK (λV=>?_) λV=>?_)
  all_goals have e1:=aU e1
  all_goals try have W:=aU W
  all_goals try have O:=aU O
  all_goals try have V:=aU V
  ·obtain⟨c,e,o⟩:=l.one ag;have a:f.cs[0]? =some c:=by rw[e];rfl
   have w:=sh.2.2.2.1 e1;exact D.Tx a (ZK c (bS a)) (mE c o).2.1 (r 0 c a) ag λm hm=>by
    rw[hm];exact N (aab e e1 s C (mE c o).2.1 u) lt
  ·exact D.XH (e:=λi=>gE (f.cs.getD i f0) (cont f i vs)) (sh.2.2.2.2.2.2.2.2.1 W) ZK r (λi c o=>bZ) λm hm=>by
    rw[hm];exact N (aaa W s C (λc o=>(mE c (l.aN o)).2.1) u) lt
  ·obtain⟨c,e,o⟩:=l.one ag;have a:f.cs[0]? =some c:=by rw[e];rfl
   have A:=Tu (f:=f) (vs:=vs) (.inl O) e s C u;have vn:=S4.S.aH.AF.n;have ve:(aM f.k vs).aH=dR vs:=by simp[aM,O]
   rw[ve]at vn;refine S4.S.mH (aj k4 rfl (acG (bR S4.S.k (cW _) (cE (λY=>?_) λY=>?_))))
   ·rw[aI ⟨O,ag⟩]at A
    exact N A lt _ _ _ S4.x
   ·rw[aE λq=>by omega]at A
    exact D.first a rfl (ZK c (bS a)) (r 0 c a) (N A lt)
  ·have n1:=(sh.2.2.2.2.2.2.2.2.2.1 V).1;have a:f.cs[0]? =some f.cs[0]:=aC;generalize f.cs[0]=c at a;refine Fh.of (bQ cy ?_);refine bO ?_;exact D.first a rfl (ZK c (bS a)) (r 0 c a) (N (aac V a s C (mE _ (l.aN (bS a))).2.1 u) lt)
  ·obtain⟨c,e,o⟩:=l.one ag;have a:f.cs[0]? =some c:=by rw[e];rfl
   have A:=Tu (f:=f) (vs:=vs) (.inr ag) e s C u;rw[aE λq=>by omega]at A
   refine Fh.of (bQ cy ?_);refine bO ?_;exact D.first a rfl (ZK c (bS a)) (r 0 c a) (N A lt)
theorem af6:∀f:ak,bE f->f.fQ->n5 f/\pN f
  | .mk e au k w id ix cs,d,b=>by
    have h:∀c∈cs,c.fQ:=by unfold ak.fQ at b;exact iR.get b.2.2
    have g:∀c∈cs,n5 c/\pN c:=λc a=>af6 c (d.aN a) (h c a);have t:=@ajF (.mk e au k w id ix cs) d (λc a=>(g c a).1) λc a=>(g c a).2;exact⟨t,@ahR (.mk e au k w id ix cs) d b t λc a=>(g c a).2⟩
section
variable {Q T:aR} {p:Nat} {vs:aQ} {x:aD} {K:cL}
theorem avC(e:bE f)(r:f.fQ)(C:f.can vs)(B:f.gL Q T h p vs)(v:aS Q h s x.items)(y:x.nH)(i:¬(x.bw<=4194304/\f.fit x=true)->∀d,aB h d->K 7 d)
  (A:x.bw<=4194304/\f.fit x=true->∀m l d,Ext Q m T l h d->(gp f vs x=0->f.gL m l d p (vs++[x]))->K (gp f vs x) d):Lr (pB p) x.au x.num (bs x.text) s h K Kp:=by
 have KF:=nP f.cs;have t:=xJ f;have E:=B;rw[xO]at B;obtain⟨g,X,G,ok⟩:=B;refine Lr.of (aJ λa H e1 k u _=>?_);simp only[n9];have w:=G.fr KF (bx k) (λ_ _=>id) λ_ _=>id;refine w.WJ (eW u (amo e w.fs (eO v k) y λb F o j=>aK (λc=>?_) λc=>?_))
 ·refine i (λq=>?_) _ (aq k o);grind
 ·have q:=j.1 (by simpa using c)
  have n:=aq k o;refine eW (u.ai o) ((af6 f e r).1 C q.2 q.1 (t.fr E (bx n) (λ_ _=>id) λ_ _=>id) (eO v n) λm l d D j=>A q m l d ?_ j);exact Ext.trans ⟨bx n,λ_ z=>z,λ_ z=>.inl z,λ_ z=>z,λ_ z=>.inl z⟩ D
end
section
variable {KM:List BF} {M:BF} {Q T A:aR} {p w:Nat} {g:dL} {n:Bn} {X:Bx} {vl:aQ} {K:HP}
theorem iO.more{b:Nat}{Ls:List (Nat->Prop)}(t:iO T h b Ls)(a:∀c,A c->¬T c/\c<h.size):iO (λc=>T c\/A c) h b (Ls++[A]):=by
 refine⟨.inl t.tb,λc z=>z.elim (t.lt c) λz=>(a c z).2,λB hB c z=>?_,?_⟩
 ·rcases ni.1 hB with q|q
  ·have:=t.sub B q c z;simp[*]
  ·simp at q;subst q;exact⟨.inr z,λe=>(a c z).1 (e▸t.tb)⟩
 ·rw[Pg];refine⟨t.ap,aC,λB hB C d c z y=>?_⟩
  simp at d;subst d;exact(a c y).1 (t.sub B hB c z).1
theorem ga.avA(KF:∀M∈KM,ob M)(R:ob M)(G:ga f KM Q T h p g n X vl kc)(m:M Q A h w (kc KM.length))(P:∀c,A c->¬T c/\c<h.size)(hl:KM.length<=5000)
  (hk:∀T' h' g',Tn T h h'->(∀c,T' c->T c\/A c\/(h.size<=c/\c<h'.size))->ga f (KM++[M]) Q T' h' p g' n X vl kc->K h'):
  aL h #[AW w] ET λc e=>aT h e ⟨p,18,none⟩ 1<|Ap e ET #[.pointer none] 1 8 g.sp 1 (rd e (some c) (1*1)) λt d=>St d ⟨p,18,none⟩ (Sl.v t) K:=by
 refine aJ λc u e1 F k1 _=>bR G.k F ?_;have r:=G.fr KF (bx F) (λ_ _=>id) λ_ _=>id;have m1:=R.fr m (bx F) (λ_ _=>id) λ_ _=>id;have on:=r.pt.n;rw[cC,G.lk.1]at on;refine r.pt.BM rfl (λx Y=>by simp at Y;subst Y;rfl) rfl (jn k1 rfl) ag ag λt s I O=>?_
 have J:=I.1;have O:=O.tr;have C:g.Ls[1]? =some g.PT:=rfl;have a:∀c,g.PT c->T c/\c≠p:=λc z=>G.t.sub _ (bS C) c z;have a':=r.t.lt p r.t.tb;have k2:=I.bq r.k λz=>(a p z).2 rfl;have U:∀(g:dL),(g.row f n).length=10+(g.SS.length+2):=λg=>by unfold dL.row;simp[HS];omega
 refine dN k2 (by rw[Pf,U,G.ls.1];omega) rfl λE L W=>?_
 have s3:=L.1;have e:(g.row f n).toArray.setIfInBounds 18 (Sl.v t)=(({g with sp:=t,kp:=g.kp++[w],PT:=Tr g.PT u s,KT:=g.KT++[A]}:dL).row f n).toArray:=by
  rw[jr];unfold dL.row;rw[xY _ _ (by show 10<=18;omega),xY _ _ (by show _<=18-10;rw[cC,G.ls.1];omega),cC,G.ls.1];rfl
 rw[e]at W;have D:Tn (λc=>g.PT c\/c=p) u E:=(I.mono λc z _=>.inl z).trans (L.fr.mono λc z _=>.inr z);have kr:∀c,(g.PT c\/c=p)->T c:=λc z=>z.elim (λz=>(a c z).1) λz=>z▸G.t.tb;have hQ:∀c,Q c->¬(g.PT c\/c=p):=λc z y=>(G.q c z).1 (kr c y);have l:∀{B:aR}(j:Nat),g.Ls[j]? =some B->j≠1->∀c,B c->¬(g.PT c\/c=p):=λ{B}j H ne c z y=>by
  rcases y with y|y
  ·exact G.t.ne H C ne c z y
  ·exact(G.t.sub _ (bS H) c z).2 y
 have V:∀c,A c->¬(g.PT c\/c=p):=λc z y=>(P c z).1 (kr c y);have tr:iO (λc=>(T c\/Tr g.PT u s c)\/A c) E p ({g with sp:=t,kp:=g.kp++[w],PT:=Tr g.PT u s,KT:=g.KT++[A]}:dL).Ls:=by
  have t1:=(r.t.put C J λc z=>z).grow (h':=E) ag;have:=t1.more λc z=>⟨λy=>?_,by have:=(P c z).2;omega⟩
  ·have e2:g.Ls.set 1 (Tr g.PT u s)++[A]=({g with sp:=t,kp:=g.kp++[w],PT:=Tr g.PT u s,KT:=g.KT++[A]}:dL).Ls:=by
    unfold dL.Ls;simp
   rwa [e2]at this
  ·have Z:=P c z;rcases y with y|y|y
   ·exact Z.1 y
   ·exact Z.1 (a c y).1
   ·omega
 refine hk _ E _ ((bx F).trans (D.mono λc z _=>kr c z)) (λc z=>?_) ⟨tr,λc z=>⟨λy=>?_,?_⟩,W,ck.fr D hQ (λ_ z=>z) _ r.fs,G.ls,λj J B x i b o=>(r.sl j J B x i b o).fr D λc z _=>l _ (g.hO b) ag c z,r.aH.fr D (l 0 rfl ag) hQ,?_,?_,λj N B v i b o=>?_⟩
 ·rcases z with(z|z|z)|z
  ·exact .inl z
  ·exact .inl (a c z).1
  ·exact .inr (.inr ⟨ag,ag⟩)
  ·exact .inr (.inl z)
 ·have q:=G.q c z;rcases y with(y|y|y)|y
  ·exact q.1 y
  ·exact q.1 (a c y).1
  ·omega
  ·exact R.d m c z |>.1 y
 ·have:=(G.q c z).2;omega
 ·have:(g.kp++[w]).map AW=g.kp.map AW++[AW w]:=aC
  show Os (Tr g.PT u s) E t ((g.kp++[w]).map AW) ET
  rw[this];exact O.fr L.fr λc z b' e=>by
   subst e;rcases z with z|z
   ·exact(a _ z).2 rfl
   ·omega
 ·simp[G.lk]
 ·by_cases c:j<KM.length
  ·rw[iX c]at i;rw[iX (by rw[G.lk.2];exact c)]at b
   rw[iX (by rw[G.lk.1];exact c)]at o
   exact(KF N (bS i)).fr (r.aN j N B v i b o) D (l _ (g.fk b) ag) hQ
  ·have H:j=KM.length:=by
    have:=(dy.1 i).1;rw[ij,jy]at this;omega
   subst H;rw[gv (cr _),zR]at i;rw[gv (by rw[G.lk.2];omega),G.lk.2,zR]at b
   rw[gv (by rw[G.lk.1];omega),G.lk.1,zR]at o
   cases i;cases b;cases o;exact R.fr m1 D V hQ
end
def JV(f:ak):Prop:=∀{Q:aR}{h:Hp}{s:Sl}{K:Option Addr->HP}{Kp:PK},ck Q h s f.cs->(∀c,Q c->c<h.size)->(∀T' p h',aB h h'->(∀c,T' c->h.size<=c)->f.gL Q T' h' p []->K (pB p) h')->GM f.name f.au f.k f.w f.id f.ix s h K Kp
def Yf:Bx:=⟨[],[],[],[],[],[],[]⟩
def Ji(sf:Sl):dL:=⟨sf,List.replicate 7 Sl.nil,Sl.nil,Sl.nil,[],List.replicate 7 No,No,No,[]⟩
theorem ga.new{b:Nat}(k:aO h b ((Ji t).row f ⟨0,0,0⟩).toArray ES)(o:ck D h t f.cs)(n:∀c,D c->c<b):ga f [] D (λc=>c=b) h b (Ji t) ⟨0,0,0⟩ Yf [] λ_=>[]:=by
 have lt:=k.lt;have m:∀L∈(Ji t).Ls,L=No:=λL l=>by
  grind[dL.Ls,Ji]
 refine⟨⟨rfl,λc e=>ag,λL l c z=>bZ,?_⟩,λc z=>⟨λe=>bZ,bZ⟩,k,o,⟨rfl,rfl⟩,λi s A x d r p=>?_,⟨[],rfl,sU _ _ _ _,λc z=>(by obtain⟨a,e,_⟩:=z;cases e),λj z u d=>by simp at d⟩,Os.nil,⟨rfl,rfl⟩,λj M A w d=>by simp at d⟩
 ·grind[List.pairwise_iff_getElem,q,m,List.getElem_mem]
 ·have g:=(dy.1 d).1;have g:i<7:=by simpa[Ji]using g
  have e:s=Sl.nil:=by
   have:=bS d;exact List.eq_of_mem_replicate this
  subst e;have:i=0\/i=1\/i=2\/i=3\/i=4\/i=5\/i=6:=ag;rcases this with rfl|rfl|rfl|rfl|rfl|rfl|rfl <;> (cases p;exact Os.nil)
theorem an1(a':bE f)(IH:∀c∈f.cs,JV c):JV f:=by
 intro Q h s K Kp Y hq hk;have W:=a'.right.1;have j':f.cs.length<=32:=by
  by_cases F:f.k=15\/f.k=16\/f.k=19\/f.k=20
  ·have:=W.2.2.2.2.2.2.2.1 F;omega
  by_cases B:f.k=17
  ·exact W.2.2.2.2.2.2.2.2.1 B
  by_cases h3:f.k=18
  ·exact(W.2.2.2.2.2.2.2.2.2.1 h3).2
  ·have:=W.2.2.2.2.2.2.2.2.2.2 ag;omega
 refine GM.of (aJ λa F e1 g1 k1 _=>?_);simp only[bz,bX];refine dM k1 (aJ λb B e2 X k2 _=>?_);have G0:=ga.new k2 (Y.gr (aq g1 X)) λc z=>by have:=hq c z;omega
 refine nh (xB (k1.ai X) λi v H=>by
  rcases i with _|_|_|_|_|i
  ·exact H
  ·exact H
  ·exact H
  ·exact H
  ·exact H
  ·simp at H) (aJ λc h3 e3 g3 k3 _=>pH k3 rfl λh4 o4 k4=>?_)
 have g4:=bK g3 o4 ag;have G4:=G0.fr (λM hM=>by simp at hM) (bx g4) (λ_ _=>id) λ_ _=>id
 have U:∀j,∀M∈(f.cs.take j).map ak.gL,ob M:=by grind[xJ]
 refine QE.bC (λy g=>∃(j:Nat)(G:aR)(L:dL),y=j/\j<=f.cs.length/\aB h g/\h4.size<=g.size/\(∀d,G d->h.size<=d/\d≠c)/\aO g c #[ah f.k,ah f.w,ah f.id,ah f.ix,Sl.v s] kH/\ga f ((f.cs.take j).map ak.gL) Q G g b L ⟨0,0,0⟩ Yf [] λ_=>[])
  (λy _=>f.cs.length-y.toNat) ⟨0,_,_,rfl,eH _,aq (aq g1 X) g4,cr _,λd e=>by simp_all,k4,G4⟩ ?_
 rintro y h5 ⟨j,T5,I,rfl,hj,D,s5,hT,r,m⟩ N hN;have k':=Y.n;refine aj r rfl (cE (λO=>?_) λO=>?_)
 ·have R:j<f.cs.length:=ag;have Z:=bL R;have P:=kP R;generalize f.cs[j]=d at Z P;have e':((f.cs.take j).map ak.gL).length=j:=by simp;omega
  refine m.jV (aj r rfl ((Y.gr D).ix rfl Z λq u cu hu=>gQ cu (IH d (bS Z) hu (λc z=>by have:=hq c z;have:=D.1;omega) λT6 w h6 C T m6=>bR m.k C ?_)))
  have s6:=C.1;have G6:=m.fr (U j) (bx C) (λ_ _=>id) λ_ _=>id;have r6:∀x,T6 x->x<h6.size:=λx z=>by
   have:=m6;rw[xO]at this;obtain⟨_,_,GG,_⟩:=this;exact GG.t.lt x z
  refine G6.avA (U j) (xJ d) m6 (λx z=>⟨λy=>by have:=m.t.lt x y;have:=T x z;omega,r6 x z⟩) ag λT7 h7 g7 V b' G7=>aY ag ag (hN _ _ ⟨j+1,T7,g7,by omega,by omega,?_,?_,?_,?_,?_⟩ ag)
  ·refine(Tn.Xy ((bx (aq D C)).trans' V λx z _=>z) λx z y=>by have:=(hT x z).1;omega)
  ·have:=V.1;omega
  ·intro x z;rcases b' x z with z|z|z
   ·exact hT x z
   ·have:=T x z;have:=r.lt;have:=D.1;exact⟨by omega,by omega⟩
   ·have:=r.lt;have:=D.1;exact⟨by omega,by omega⟩
  ·exact V.bq (r.ai C) λz=>(hT c z).2 rfl
  ·rw[P,kY];exact G7
 ·have:j=f.cs.length:=ag;subst this;rw[mO]at m;have fin:∀{G g L}{X':Bx},aB h g->(∀d,G d->h.size<=d)->ga f (f.cs.map ak.gL) Q G g b L ⟨0,0,0⟩ X' [] (λ_=>[])->(X'.vl=[]/\X'.cd=[]/\X'.fx=[]/\X'.os=(if f.k=12\/f.k=13\/f.k=15 then[0]else[])/\X'.tx=[]/\X'.ix=[]/\X'.en=[])->K (pB b) g:=by
   intro G g L X' gr d' G' hX;apply hk G b g gr d';rw[xO];obtain⟨x1,x2,x3,x4,x5,x6,x7⟩:=hX;have ce:(λj=>cont f j [])=λ_=>[]:=by funext j;exact XU _ _ _ _
   refine⟨L,X',?_,?_⟩
   ·have ve:(aM f.k []).aH=[]:=by rw[UD];rfl
    rw[ve,ce];exact G'
   ·have ne:=UD f.k;refine⟨?_,λ_=>x1,λq=>?_,λq=>?_,λq=>?_,λq=>?_,λq=>?_,λq=>by rw[x3];rfl⟩
    ·rw[x1,x2,x3,x4,x5,x6,x7];refine⟨?_,?_,?_,?_,?_,?_,?_⟩ <;> (try split) <;> simp
    ·rw[x4,ne]
    ·rw[x5,ne];rfl
    ·rw[x2,ne];rfl
    ·rw[x6,ne];show _=if _ then _ else _;rw[aA]
    ·rw[x7,ne];show _=if _ then _ else _;rw[aA]
  have KF:=nP f.cs;have gT:=λd z=>(hT d z).1;have two:∀bb:Bool,bb=decide (f.k=12\/f.k=13\/f.k=15)->FL K Kp (aF b) bb h5:=by
   intro bb p;refine FL.of (aK (λl=>?_) λl=>?_)
   ·have e:f.k=12\/f.k=13\/f.k=15:=by rw[l]at p;simpa using p.symm
    have ls:=m.ls;have F:I.SS[3]? =some (I.SS[3]' ag):=bL _;have B:I.ST[3]? =some (I.ST[3]' ag):=bL _;generalize I.SS[3]' ag=t0 at F;generalize I.ST[3]' ag=A at B;have o:=m.sl 3 t0 A (ints [],Y6) F B rfl;simp only[bz,bX];refine m.dI F (aJ λc' h6 e6 C k6 _=>?_);have S6:=(gk.of (E:=λ_=>False) m λ_ z=>z.elim).ai KF C;have on:=o.n;refine(o.gr C).BM rfl (λx hx=>by simp at hx;subst hx;rfl) rfl (jn k6 rfl) (by rw[on];simp[ints]) (by rw[on];simp[ints]) λs' h7 t os=>S6.slot KF F B t (X':={Yf with os:=[0]}) os.tr rfl λh8 t8 S8=>fin ?_ ?_ S8.S ⟨rfl,rfl,rfl,by rw[aI e],rfl,rfl,rfl⟩
    ·exact Tn.Xy ((bx D).trans' S8.x.tn λx z _=>z) λx z y=>by have:=gT x z;omega
    ·intro d z;have:=S8.x.t' d z;have i':=D.1;rcases this with z|z
     ·exact gT d z
     ·omega
   ·have e:¬(f.k=12\/f.k=13\/f.k=15):=by rw[l]at p;simpa using p.symm
    exact fin D gT m ⟨rfl,rfl,rfl,by rw[aE e];rfl,rfl,rfl,rfl⟩
  refine RV.of (aj r rfl (aK (λJ=>?_) λJ=>aj r rfl ?_))
  ·have J:=aU J;grind[FK.of,bQ]
  ·have J:=aU J;refine FK.of (aK (λl=>?_) λl=>aj r rfl (two _ ?_))
   ·have l:=aU l;exact two true (by simp[l])
   ·have l:=aU l;rw[j0];simp;omega
theorem acM:∀f:ak,bE f->JV f/\True
  | .mk b au k w id ix cs,a=>by
    have e:∀c∈cs,JV c:=λc d=>(acM c (a.aN d)).1;exact⟨@an1 (.mk b au k w id ix cs) a e,trivial⟩
theorem an2(f:ak)(a:bE f):JV f:=(acM f a).1
def nz(b:UInt8):Nat:=if b=0 then 0 else 1
theorem auZ{a b:dw}(hl:a.length=b.length)(h:∀i,gG a i=gG b i):a=b:=by
 apply YW hl;intro i d c;apply Yx.1;apply Nat.eq_of_testBit_eq;intro j
 by_cases e:j<8
 ·have:=h (8*i+j);rw[O9,O9,show(8*i+j)/8=i by omega,show(8*i+j)%8=j by omega]at this
  grind
 ·have p:2^8<=2^j:=EG ag ag;have:=a[i].toNat_lt;have:=b[i].toNat_lt;rw[Nat.testBit_lt_two_pow ag,Nat.testBit_lt_two_pow ag]
theorem am2{α:Type}(l:List α)(q:α->Bool):qD (l.map q)=qM (l.map λx=>if q x then 1 else 0):=by
 grind[auZ,UU,af8,List.length_map,ab9,af9]
section
variable {K:Sl->HP}
theorem agb{l:dw}(v:Sv h s (bv l))(hl:l.length<=300000)(hk:∀t h',aB h h'->eL (Nw h) h' t (bv (qM (l.map nz)))->K t h'):GI s h K Kp:=by
 have hn:=v.1;rw[fH]at hn;have e1:Int.tdiv ((s.n:Int)+7) 8=(((l.length+7)/8:Nat):Int):=by rw[hn];rfl
 refine GI.of (aY ag ag (oT bh ?_));rw[e1];refine aY ag ag (E7 ag ag ag λt h1 g1 ot _=>Qz.bC (λx h'=>∃i:Nat,x=i/\i<=l.length/\aB h h'/\gR h' t h.size (bv (mh (l.map nz) i)) Y8) (λx _=>l.length-x.toNat) ⟨0,rfl,eH _,g1,?_⟩ ?_)
 ·rw[gj]at ot;unfold mh;rw[JF];simp only[List.zipIdx_nil,YK,cC,bv,YD];exact ot
 rintro x h2 ⟨i,rfl,hi,g2,o2⟩ N hN;have bl:=O7 (l.map nz) i (by rw[cC];exact hi)
 rw[cC]at bl;have tn:t.n=(l.length+7)/8:=by rw[o2.2.1,fH,bl]
 refine cE (λcc=>?_) λcc=>?_
 ·have pq:i<l.length:=ag;have hx:=bL pq;generalize l[i]=y at hx;have hx2:(l.map nz)[i]? =some (nz y):=by rw[fy,hx];rfl
  have hd:i/8<(mh (l.map nz) i).length:=ag;refine(v.ai g2).ix ag ag (by rw[gj,bv,fy,hx];rfl) λa ca=>⟨_,ca,aK (λc2=>?_) λc2=>?_⟩
  ·have c2:=aU c2;have hy:¬y=0:=λe=>c2 (by rw[e];rfl)
   have e1:Int.tdiv (i:Int) 8=((i/8:Nat):Int):=rfl;have e2:Int.tmod (i:Int) 8=((i%8:Nat):Int):=rfl;have ei:(((i/8:Nat):Int)).toNat=i/8:=ag;apply oT bh;rw[e1];refine aY ag ag (o2.vr ag ag (o2.ld ag (by rw[ei];exact af1 hd) (oT bh ?_)))
   rw[e2];refine yx (js ag ?_);have em:min (Int.toNat ((i%8:Nat):Int)) (IntKind.bits .u8)=i%8:=by
    rw[gj];have:=ym i (show 8>0 by decide);show min (i%8) 8=_;omega
   have es:(1:Int)*2^(i%8)=((2^(i%8):Nat):Int):=by push_cast;omega
   have hp:2^(i%8)<2^8:=Pm bh (ym _ bh);have IM:=((mh (l.map nz) i).getD (i/8) 0).toNat_lt;rw[em,es];refine pO rfl hp (yx ?_);rw[Yj _ _ IM hp];refine o2.vr ag ag (o2.st ag rfl λh3 w3 o3=>aY ag ag (hN _ _ ⟨i+1,aC,ag,bK g2 w3 (cr _),?_⟩ ag))
   rw[O6 hx2,aI (by unfold nz;rw[aE hy])]
   rw[ei]at o3;have e:(((mh (l.map nz) i).getD (i/8) 0).toNat|||2^(i%8))=(UInt8.ofNat (((mh (l.map nz) i).getD (i/8) 0).toNat|||2^(i%8))).toNat:=by
    rw[sW,uv (Jy IM hp)]
   rw[e,Yg]at o3;exact o3
  ·have c2:=aU c2;refine aY ag ag (hN _ _ ⟨i+1,aC,ag,g2,?_⟩ ag)
   have hy:y=0:=Yx.1 (by show y.toNat=0;omega)
   rw[O6 hx2,aE (by unfold nz;rw[aI hy];decide)]
   exact o2
 ·have:i=(l.map nz).length:=by rw[cC];omega
  subst this;rw[af7]at o2;exact hk t h2 g2 ⟨o2.sv,λ_ a ha=>by rw[o2.1]at ha;cases ha;exact cr _⟩
theorem Os.lq{A:aR}{vs:bg}(o:Os A h s vs el):eL A h s vs:=⟨o.sv,λd a c=>by
 rcases o with⟨rfl,_⟩|⟨b,t,o⟩
 ·cases c
 ·rw[o.1]at c;cases c;exact t⟩
theorem Os.new{b:Nat}{A:aR}(k:aO h b #[] el)(c:A b):Os A h ⟨some (aF b),0,0⟩ [] el:=.inr ⟨b,c,rfl,rfl,_,k,cr _,rfl,λi a=>absurd a (Nat.not_lt_zero _)⟩
theorem aoV{n w:Nat}(b:w<=8):iT ((n:Int)%2^64).toNat w=iT n w:=by
 unfold iT;refine BY λi a=>?_;have a:=uz.1 a;rw[afV ag];grind[vG,UInt8.toNat_inj,UInt8.toNat_ofNat']
theorem Is{l:cV}{w:Int}(v:Sv h s (ints l))(hl:l.length<=70000)(C:0<=w/\w<=8)(E:∀t d,aB h d->eL (Nw h) d t (bv (laidB l w.toNat))->K t d):qv s w h K Kp:=by
 have D:=v.1;rw[ints,cC]at D;refine qv.of (aJ λb M e1 F B _=>Qy.bC (λt x d=>∃i:Nat,x=i/\i<=l.length/\aB h d/\Os (Nw h) d t (bv (laidB (l.take i) w.toNat)) Y8) (λ_ x _=>l.length-x.toNat) ⟨0,rfl,eH _,F,Os.new B ag⟩ ?_)
 rintro t x n ⟨i,rfl,J,k,m⟩ N hN;refine cE (λf=>?_) λf=>?_
 ·have p:l[i]? =some l[i]:=aC;have g:l.take (i+1)=l.take i++[l[i]]:=aC;generalize l[i]=y at p g;refine(v.ai k).ix ag ag (by rw[gj,ints,fy,p];rfl) λa G=>⟨_,G,?_⟩
  have q:(laidB (l.take i) w.toNat).length<=70000*8:=by rw[Ir,mP];exact sX ag ag
  refine acH (A:=λc=>h.size<=c/\c<n.size) (m.imp id λ⟨b,t,o⟩=>⟨b,⟨t,o.lt⟩,o⟩) (λc z=>z.2) ag C λI L r u=>aY ag ag (hN _ _ _ ⟨i+1,aC,ag,((bx k:Tn No h n).trans' r λc z H=>ag).ai,?_⟩ ag)
  rw[g];have e:laidB (l.take i++[y]) w.toNat=laidB (l.take i) w.toNat++iT ((y:Int)%2^64).toNat w.toNat:=by
   rw[aoV ag];simp[laidB]
  rw[e];refine u.mono λc z=>?_;have:=k.1;omega
 ·have:i=l.length:=ag;subst this;rw[mO]at m;exact E t n k m.lq
theorem XT{l:dw}{b:Nat}(g:aB h0 h)(r:h0.size<=b)(k:aO h b #[] Y8)(v:Sv h s (bv l))(p:s.a≠none\/l=[])(hl:l.length<=300000)(m:∀t d,aB h0 d->Tn (λc=>c=b) h d->eL (λc=>c=b\/h.size<=c) d t (bv l)->K t d):
  Ap h Y8 #[.int .u8 0] 1 1 ⟨some (aF b),0,0⟩ s.n (rd h s.a (s.n*1)) K:=by
 have j:=v.1;rw[fH]at j;refine(Os.new (A:=λc=>c=b) k rfl).BM rfl (λx i=>?_) (by rw[fH,j]) (v.AU (p.imp id λe=>by rw[e];rfl)) bZ bZ λt d f o=>?_
 ·simp only[bv,kZ]at i;obtain⟨y,_,rfl⟩:=i;rfl
 ·exact m t d ((bx g:Tn No h0 h).trans' f λc z q=>ag).ai f (o.lq.mo λc z=>z)
end
abbrev KD:=Int->Int->Int->Sl->Sl->Sl->HP
abbrev E9(h0:Hp)(a2 a3:Nat):Nat->Prop:=λc=>h0.size<=c/\c≠a2/\c≠a3
structure D9(h0 h:Hp)(a2 a3:Nat)(n u:Nat)(B:Sl)(ds:kB):Prop where
 g:aB h0 h
 k2:aO h a2 cY cg
 k3:aO h a3 #[ah (n:Int),ah 0,ah (u:Int),Sl.v Sl.nil,Sl.v Sl.nil,Sl.v Sl.nil] cg
 l:h0.size<=a2/\h0.size<=a3/\a2≠a3
 ds:dD (E9 h0 a2 a3) (E9 h0 a2 a3) h B ds
section
variable {h':Hp} {a2 a3 n u m:Nat} {B:Sl} {ds:kB} {aZ:ie} {a:Addr} {K:KD}
theorem D9.gr(s:D9 h0 h a2 a3 n u B ds)(g:aB h h'):D9 h0 h' a2 a3 n u B ds:=⟨aq s.g g,s.k2.ai g,s.k3.ai g,s.l,s.ds.gr g⟩
theorem D9.e(s:D9 h0 h a2 a3 n u B ds){c:Nat}(z:h.size<=c):E9 h0 a2 a3 c:=by
 have:=s.g.1;have:=s.k2.lt;have:=s.k3.lt;omega
theorem D9.end{cs:kB}{k:kB}{b c x:Sl}(s:D9 h0 h a2 a3 n u B ds)(o:eJ a3 h h')(r:aO h' a3 #[ah (n:Int),ah 0,ah (u:Int),Sl.v b,Sl.v c,Sl.v x] cg)(H:fu (E9 h0 a2 a3) (E9 h0 a2 a3) h b aZ)(G:dD (E9 h0 a2 a3) (E9 h0 a2 a3) h c cs)(F:dD (E9 h0 a2 a3) (E9 h0 a2 a3) h x k)
  (E:∀q h',aB h0 h'->eD (Nw h0) (Nw h0) h' q (.mk n 0 u aZ cs k)->K n 0 u q.1 q.2.1 q.2.2 h'):bY h' (aF a3) λb c d e f g=>cJ h' (aF a2) b c d e f g λj=>bY j (aF a2) λb c d e f g=>K b c d e f g j:=by
 have l:=s.l;refine fB r (iH (o.bq s.k2 l.2.2) rfl λj i w=>fB w (E (b,c,x) j ?_ ?_))
 ·exact bK (bK s.g o l.2.1) i l.1
 ·have t:Tn (λc=>c=a3\/c=a2) h j:=(o.fr.mono λc z _=>.inl z).trans (i.fr.mono λc z _=>.inr z);have q:∀c,E9 h0 a2 a3 c->¬(c=a3\/c=a2):=ag
  exact⟨H.fr t (λc z _=>q c z) (λc z _=>q c z) (λc z=>z.1) λc z=>z.1,G.fr t (λc z _=>q c z) (λc z _=>q c z) (λc z=>z.1) λc z=>z.1,F.fr t (λc z _=>q c z) (λc z _=>q c z) (λc z=>z.1) λc z=>z.1⟩
theorem D9.b(s:D9 h0 h a2 a3 n u B ds)(I:fu (E9 h0 a2 a3) (E9 h0 a2 a3) h ⟨some a,m,m⟩ aZ)(H:∀q h',aB h0 h'->eD (Nw h0) (Nw h0) h' q (.mk n 0 u aZ [] [])->K n 0 u q.1 q.2.1 q.2.2 h'):
  St h ⟨a3,3,none⟩ (.slice (some a) m m) λh'=>bY h' (aF a3) λb c d e f g=>cJ h' (aF a2) b c d e f g λz=>bY z (aF a2) λb c d e f g=>K b c d e f g z:=
 dN s.k3 aC rfl λh' o k=>s.end o (by simpa[Sl.v,Sl.nil]using k) I (jv _) (jv _) H
theorem D9.k(s:D9 h0 h a2 a3 n u B ds)(H:fu (E9 h0 a2 a3) (E9 h0 a2 a3) h ⟨some a,m,m⟩ aZ)(C:∀q h',aB h0 h'->eD (Nw h0) (Nw h0) h' q (.mk n 0 u aZ ds [])->K n 0 u q.1 q.2.1 q.2.2 h'):
  St h ⟨a3,3,none⟩ (.slice (some a) m m) λh'=>St h' ⟨a3,4,none⟩ (Sl.v B) λh'=>bY h' (aF a3) λb c d e f g=>cJ h' (aF a2) b c d e f g λz=>bY z (aF a2) λb c d e f g=>K b c d e f g z:=
 dN s.k3 aC rfl λh1 i j=>dN j aC rfl λh' o k=>s.end (i.trans o) (by simpa[Sl.v,Sl.nil]using k) H s.ds (jv _) C
theorem D9.d(s:D9 h0 h a2 a3 n u B ds)(J:fu (E9 h0 a2 a3) (E9 h0 a2 a3) h ⟨some a,m,m⟩ aZ)(H:∀q h',aB h0 h'->eD (Nw h0) (Nw h0) h' q (.mk n 0 u aZ [] ds)->K n 0 u q.1 q.2.1 q.2.2 h'):
  St h ⟨a3,3,none⟩ (.slice (some a) m m) λh'=>St h' ⟨a3,5,none⟩ (Sl.v B) λh'=>bY h' (aF a3) λb c d e f g=>cJ h' (aF a2) b c d e f g λz=>bY z (aF a2) λb c d e f g=>K b c d e f g z:=
 dN s.k3 aC rfl λh1 i j=>dN j aC rfl λh' o k=>s.end (i.trans o) (by simpa[Sl.v,Sl.nil]using k) J (jv _) s.ds H
theorem D9.r{cs:kB}(s:D9 h0 h a2 a3 n u B ds)(H:dD (E9 h0 a2 a3) (E9 h0 a2 a3) h t cs)(C:∀q h',aB h0 h'->eD (Nw h0) (Nw h0) h' q (.mk n 0 u [] cs [])->K n 0 u q.1 q.2.1 q.2.2 h'):
  St h ⟨a3,4,none⟩ (Sl.v t) λh'=>bY h' (aF a3) λb c d e f g=>cJ h' (aF a2) b c d e f g λz=>bY z (aF a2) λb c d e f g=>K b c d e f g z:=
 dN s.k3 aC rfl λh' o k=>s.end o bZ Jn H (jv _) C
theorem D9.zz(s:D9 h0 h a2 a3 n u B ds)(k:∀q h',aB h0 h'->eD (Nw h0) (Nw h0) h' q (.mk n 0 u [] [] [])->K n 0 u q.1 q.2.1 q.2.2 h'):
  bY h (aF a3) λb c d e f g=>cJ h (aF a2) b c d e f g λj=>bY j (aF a2) λb c d e f g=>K b c d e f g j:=
 s.end (eJ.refl _ _) s.k3 Jn (jv _) (jv _) k
end
def Mt(f:ak):Prop:=∀{Q T:aR}{h:Hp}{p:Nat}{vs:aQ}{K:KD}{Kp:PK},f.can vs->f.gL Q T h p vs->
 (∀q h',aB h h'->eD (Nw h) (Nw h) h' q (f.dn (f.st vs))->K (f.dn (f.st vs)).len (f.dn (f.st vs)).off (f.dn (f.st vs)).au q.1 q.2.1 q.2.2 h')->GL (pB p) h K Kp
section
variable {Q T:aR} {h1:Hp} {p a2 a3 n u ao:Nat} {vs:aQ} {g:dL} {X:Bx} {B A:Sl} {K:KD}
theorem apn(hn:f.cs.length<=32)(IH:∀c∈f.cs,Mt c)(hc:f.can vs)(G:ga f (pQ f) Q T h0 p g (rR f vs) X (aM f.k vs).aH (λj=>cont f j vs))(s:D9 h0 h a2 a3 n u Sl.nil [])
  (hk:∀B h',D9 h0 h' a2 a3 n u B (hY f vs)->aB h h'->FJ K Kp (pB p) (aF a2) (aF ao) (aF a3) A B h'):CA K Kp (pB p) (aF a2) (aF ao) (aF a3) A h:=by
 have dl:=DQ f vs;have dg:=λ(j:Nat)c(hj:f.cs[j]? =some c)=>tY (vs:=vs) hj;have sp:g.sp.n=f.cs.length:=by rw[G.pt.n,cC,G.lk.1];simp
 generalize c':hY f vs=ds at hk dl dg;refine CA.of (aJ λab h1 e1 g1 k1 _=>?_);refine QD.bC (λF x t=>∃(i:Nat)(J:List (Sl×Sl×Sl)),x=i/\i<=ds.length/\J.length=i/\aB h t/\fO h.size 6 t F (List.zipWith bH.row (ds.take i) J) cg/\
   ∀(j:Nat)(d:bH)(p:Sl×Sl×Sl),ds[j]? =some d->J[j]? =some p->eD (λb=>h.size<=b/\¬F.at b) (λb=>h.size<=b/\¬F.at b) t p d)
  (λ_ x _=>ds.length-x.toNat) ⟨0,[],rfl,ag,rfl,g1,?_,aC⟩ ?_
 ·exact⟨λ_ h=>by simp at h,rfl,.inr ⟨ab,ag,k1.lt,rfl,rfl,_,k1,cr _,rfl,λi hi=>absurd hi aC⟩⟩
 rintro F x t ⟨i,J,rfl,hi,D,N,I,hu⟩ N1 hN;have Y:=I.n;rw[qn,mP]at Y;have s2:=N.1;have G2:=G.fr (nP f.cs) (bx (aq s.g N)) (λ_ _=>id) λ_ _=>id;refine bO ?_;refine G2.jV (aK (λO=>?_) λO=>?_)
 ·have O:=aU O;have y:f.cs[i]? =some f.cs[i]:=aC;generalize f.cs[i]=c at y;have E:=dg i c y;refine G2.aaF y rfl λA' w hA hw m=>IH c (bS y) (fh y hc) m λq h3 g3 v3=>aJ λb4 M e4 g4 k4 _=>?_;generalize c.dn (c.st (dB f.k f.w (dh f.cs) i vs))=d at E v3 k4;have P:=aq g3 g4;have s4:=P.1;refine(I.ai P).ap ag rfl (new:=[d.row q]) rfl (λr L=>by simp at L;subst L;rfl) (λr L=>by simp at L;subst L;exact aeJ d q) (by simpa[bH.row,yP]using jn k4 rfl) ag ag λH h5 W a' o5=>aY ag ag (hN _ _ _ ⟨i+1,J++[q],aC,ag,by simp[D],?_,?_,?_⟩ ag)
  ·exact(((bx (aq N P):Tn No h M)).trans' W λb hd Z=>by have:=((I.ai P).at hd).1;omega).ai
  ·rw[TY E D];exact o5
  ·intro j e v V U;have C:∀b,H.at b->b<M.size->F.at b:=λb q o=>(a' b q).resolve_right ag;rcases yW D U with⟨Z,U⟩|⟨rfl,rfl⟩
   ·refine((hu j e v V U).lt.gr P).fr W (λb o _=>o.1.2) (λb o _=>o.1.2) (λb o=>⟨o.1.1,λq=>o.1.2 (C b q ag)⟩) (λb o=>⟨o.1.1,λq=>o.1.2 (C b q ag)⟩)
   ·rw[E]at V;cases V;have R:∀b,F.at b->h.size<=b/\b<t.size:=λb o=>I.at o;refine((v3.gr g4).lt).fr W (λb(o:t.size<=b/\_)_ q=>by have:=R b q;omega) (λb(o:t.size<=b/\_)_ q=>by have:=R b q;omega) (λb(o:t.size<=b/\b<M.size)=>⟨ag,λq=>?_⟩) (λb(o:t.size<=b/\b<M.size)=>⟨ag,λq=>?_⟩)
    ·have:=R b (C b q o.2);omega
    ·have:=R b (C b q o.2);omega
 ·have O:=aU O;have:i=ds.length:=ag;subst this;rw[mO]at I;have d9:=dD.snoc I D (λb(o:h.size<=b)=>o) λj d p h1 t=>(hu j d p h1 t).mo (λb o=>o.1) λb o=>o.1;have H:=s.gr N;exact hk _ _ ⟨H.g,H.k2,H.k3,H.l,dD.fr (iW _ _) (λ_ _ _=>id) (λ_ _ _=>id) (λc z=>s.e z) (λc z=>s.e z) _ d9⟩ N
end
theorem Os.ne{A:aR}{l:dw}(o:Os A h s (bv l) el):s.a≠none\/l=[]:=by
 rcases o with⟨_,e⟩|⟨b,_,e,_⟩
 ·exact .inr (Y9.1 e)
 simp[*]
section
variable {Q T:aR} {h1:Hp} {p a2 a3 n u ao:Nat} {vs:aQ} {g:dL} {X:Bx} {vl:aQ} {nb:Bn} {B A:Sl} {K:KD} {ds:kB}
theorem ga.slot(G:ga f (pQ f) Q T h p g nb X vl kc){i:Nat}(a:i<7):∃t,g.SS[i]? =some t:=⟨_,bL (by have:=G.ls.1;omega)⟩
theorem ga.os{y:List Value×TypeId}(G:ga f (pQ f) Q T h p g nb X vl kc)(a:g.SS[i]? =some t)(d:X.eY[i]? =some y):∃A,Os A h t y.1 y.2:=by
 have c:=(dy.1 a).1;have b:=G.ls;exact⟨_,G.sl i t _ y a (bL ag) d⟩
theorem arK(i:bE f)(j:f.can vs)(c:f.k=14):∀v∈vs,v.au=true/\v.text=[]\/v.au=false/\v.text.length=f.w.toNat/\v.text≠[]:=by
 intro v d;have l:=i.right.1.2.2.1 c;have a:=((gh f vs).1 j).fit v d;rw[eG]at a;unfold fm at a;grind
theorem arO(e:f.can vs)(d:f.k=2):∀v∈vs,(v.num%2^64).toNat=0\/(v.num%2^64).toNat=1:=by
 intro v c;have a:=((gh f vs).1 e).fit v c;rw[eG]at a;unfold fm at a;grind
theorem arE{α β:Type}(l:List α)(q:α->β):l.flatMap (λx=>[q x])=l.map q:=by induction l <;> simp_all
theorem arq(c:f.can vs)(a:f.k=2)(ok:nB f vs X):X.fx.map nz=(aM f.k vs).dQ:=by
 rw[ok.x (by rw[a];rfl)]
 have:(aM f.k vs).dQ=vs.map λv=>(v.num%2^64).toNat:=by simp[aM,a,fE]
 rw[this];have e:vs.flatMap (lP f)=vs.map λv=>UInt8.ofNat (v.num%2^64).toNat:=by
  rw[<-arE];congr 1;funext v;unfold lP;simp[*]
 rw[e,Pn];refine BY λv b=>?_
 show nz (UInt8.ofNat _)=_
 rcases arO c a v b with q|q <;> rw[q] <;> rfl
theorem arp(i:bE f)(j:f.can vs)(a:f.k=14)(ok:nB f vs X):X.fx=mb f.w.toNat (aM f.k vs).texts:=by
 rw[ok.x (by rw[a];rfl)]
 have:(aM f.k vs).texts=vs.map aD.text:=by simp[aM,a,fE]
 rw[this];unfold mb;rw[List.flatMap_map,List.flatMap_def,List.flatMap_def]
 congr 1
 refine BY λv e=>?_;unfold lP;rw[aA,aI a];grind[arK]
theorem aro(b:3<=f.k/\f.k<=11)(ok:nB f vs X):X.fx=laidB (aM f.k vs).dQ (wB f.k):=by
 have a:fE f.k=true:=by unfold fE;simp;omega
 rw[ok.x a];have:(aM f.k vs).dQ=vs.map λv=>(v.num%2^64).toNat:=by simp[aM,a]
 rw[this];unfold laidB;rw[List.flatMap_map]
 congr 1
 funext v
 unfold lP;rw[aA,aA,(Da b).1]
theorem asP(F:bE f)(hc:f.can vs)(G:ga f (pQ f) Q T h0 p g (rR f vs) X (aM f.k vs).aH (λj=>cont f j vs))(ok:nB f vs X)(s:D9 h0 h a2 a3 vs.length (aM f.k vs).cz B (hY f vs))(R:∃sf,aO h ao #[ah f.k,ah f.w,ah f.id,ah f.ix,Sl.v sf] kH)
  (V:f.k≠18/\f.k≠20->eL (E9 h0 a2 a3) h A (bv (dF (aM f.k vs)))) (c':14<=f.k\/f.k<=11) (nM:f.k≠1/\f.k≠2/\f.k≠15/\f.k≠20)
  (C:∀q Y,aB h0 Y->eD (Nw h0) (Nw h0) Y q (f.dn (f.st vs))->K (f.dn (f.st vs)).len (f.dn (f.st vs)).off (f.dn (f.st vs)).au q.1 q.2.1 q.2.2 Y):yD K Kp (pB p) (aF a2) (aF ao) (aF a3) A B f.k (decide (f.k=16\/f.k=17)) h:=by
 have n4:=((gh f vs).1 hc).n4;have b:=ok.b;have ks:=F.right.1.1;have b':=F.right.1.2.1;have KF:=nP f.cs;have x:∀{hx:Hp},aB h hx->ga f (pQ f) Q T hx p g (rR f vs) X (aM f.k vs).aH (λj=>cont f j vs):=λgx=>G.fr KF (bx (aq s.g gx)) (λ_ _=>id) λ_ _=>id;obtain⟨sf,R⟩:=R;refine yD.of (cE (λL=>?_) λL=>?_)
 ·have E:=Bu (vs:=vs) L;rw[E]at C;exact Ev (V ag) (s.e (cr _)) λb h1 l _ r=>(s.gr l).k r C
 refine aK (λJ=>?_) λJ=>aK (λH=>?_) λH=>aK (λO=>by have O:=aU O;omega) λO=>?_
 ·have J:=aU J;have E:=Oz (vs:=vs) J;rw[E]at C;refine aJ λa5 h1 e1 l U _=>?_;have s1:=l.1;refine bO ?_;obtain⟨t1,q1⟩:=G.slot (i:=1) ag;obtain⟨t3,q3⟩:=G.slot (i:=3) ag;obtain⟨_,o1⟩:=(x l).os q1 rfl;refine(x l).dI q1 ((x l).dI q3 (XT l ag U o1.sv o1.ne ag λt W m Z P=>mw (x l).k (x m).k ?_));obtain⟨_,o3⟩:=(x m).os q3 rfl;have s2:=m.1;refine Is o3.sv ag ag λu N I v3=>oy (D:=E9 h0 a2 a3) ((P.gr I).mo λc z=>s.e ag) (v3.mo λc(z:W.size<=c)=>s.e ag) (((s.gr m).gr I).e (cr _)) λa h4 g4 r=>?_;rw[ok.c J,ok.o ag]at r;exact(((s.gr m).gr I).gr g4).k r C
 ·have H:=aU H;have E:=I0 (vs:=vs) H;rw[E]at C;refine bO ?_;obtain⟨t5,q5⟩:=G.slot (i:=5) ag;obtain⟨_,o5⟩:=(x (cW _)).os (y:=(ints X.ix,Y6)) q5 rfl;have e5:X.ix=(aM f.k vs).ends:=ok.i H;have a':=F.right.1.2.2.2.2.2.1 H;have ew:=Da (k:=f.ix) ag;refine(x (cW _)).dI (i:=5) q5 (aj R rfl (Un (bR (x (cW _)).k (cW _) (Is o5.sv ag ag λt h1 l v1=>oy (D:=E9 h0 a2 a3) ((V ag).gr l) (v1.mo λc z=>s.e z) ((s.gr l).e (cr _)) λa W m r=>?_))));rw[e5,ew.1]at r;exact((s.gr l).gr m).d r C
 ·simp only[sm,reduceCtorEq]at J H O;refine aJ λa5 h1 e1 l U _=>?_;have s1:=l.1;refine bO ?_;obtain⟨Z,q2⟩:=G.slot (i:=2) ag;obtain⟨_,o2⟩:=(x l).os (y:=(bv X.fx,Y8)) q2 rfl;refine(x l).dI (i:=2) q2 (XT l ag U o2.sv o2.ne ag λt W m Z P=>oy (D:=E9 h0 a2 a3) ((V ag).gr m) (P.mo λc z=>s.e ag) ((s.gr m).e (cr _)) λa N I r=>?_)
  by_cases M:f.k=14
  ·have E:=Bv (vs:=vs) M;rw[E]at C;rw[arp F hc M ok]at r;exact((s.gr m).gr I).b r C
  ·have N:3<=f.k/\f.k<=11:=ag;have E:=zB (vs:=vs) N;rw[E]at C;rw[aro N ok]at r;exact((s.gr m).gr I).b r C
end
theorem yV{a:Addr}:eL D h ⟨some a,0,0⟩ (bv []):=⟨⟨rfl,cr _,λx hx=>by simp at hx⟩,λq=>absurd rfl q⟩
section
variable {Q T:aR} {hx:Hp} {p a2 a3 n u m f9 ao:Nat} {vs:aQ} {g:dL} {X:Bx} {B A:Sl} {a:Addr} {d:bH} {out:dw} {K:KD}
theorem alQ(s:D9 h0 h a2 a3 n u B [d])(F:aB h hx)(x:aO hx f9 cY cg)(w:h.size<=f9)(H:fu (Ex h f9) (Ex h f9) hx ⟨some a,2,2⟩ [[],out])
  (E:∀q k,aB h0 k->eD (Nw h0) (Nw h0) k q (.mk n 0 u [] [.mk m 0 0 [[],out] [] [],d] [])->K n 0 u q.1 q.2.1 q.2.2 k):qq (aF a2) (aF a3) B K m hx (aF f9) a:=by
 unfold qq;refine iH x rfl λD v C=>fB C ?_;have j:=bK F v w;refine(s.ds.lt.gr j).ix rfl rfl λM q cs G=>bY.c cs (aJ λb J L l y _=>?_);have o:=H.fr v.fr (λc z _ e=>z.2 e) (λc z _ e=>z.2 e) (λc z=>z) λc z=>z;refine((s.gr j).gr l).r (dD.two (p:=(⟨some a,2,2⟩,Sl.nil,Sl.nil)) y ((s.gr j).e ag) ⟨?_,jv _,jv _⟩ ?_) E
 ·exact(o.gr l).mo (λc z=>s.e z.1) λc z=>s.e z.1
 ·exact(G.gr l).mo (λc z=>z.1) λc z=>z.1
theorem asQ(hc:f.can vs)(nM:f.k=20)(a':∃d,hY f vs=[d])(G:ga f (pQ f) Q T h0 p g (rR f vs) X (aM f.k vs).aH (λj=>cont f j vs))(ok:nB f vs X)(s:D9 h0 h a2 a3 vs.length 0 B (hY f vs))
  (hk:∀q H,aB h0 H->eD (Nw h0) (Nw h0) H q (f.dn (f.st vs))->K (f.dn (f.st vs)).len (f.dn (f.st vs)).off (f.dn (f.st vs)).au q.1 q.2.1 q.2.2 H):yD K Kp (pB p) (aF a2) (aF ao) (aF a3) A B f.k false h:=by
 have n4:=((gh f vs).1 hc).n4;have b:=ok.b;have Y:∀{hx:Hp},aB h hx->ga f (pQ f) Q T hx p g (rR f vs) X (aM f.k vs).aH (λj=>cont f j vs):=λN=>G.fr (nP f.cs) (bx (aq s.g N)) (λ_ _=>id) λ_ _=>id;have ef:=Oy (vs:=vs) nM;rw[ef]at hk;obtain⟨d,hd⟩:=a';rw[hd]at hk s;have e6:=ok.e nM;obtain⟨I,Z⟩:=G.slot (i:=6) ag;have o6:∀{hx:Hp},aB h hx->∃A,Os A hx I (ints X.en) Y6:=λN=>(Y N).os Z rfl;have n6:(I.n:Int)=((aM f.k vs).ends.length:Nat):=by obtain⟨_,o⟩:=o6 (cW _);rw[o.n];show((ints X.en).length:Int)=_;rw[ints,cC,e6]
 have x:=λ{hx:Hp}(N:aB h hx)=>(Y N).k;have TL:∀{hx:Hp}{f9:Nat}{a:Addr},aB h hx->aO hx f9 cY cg->h.size<=f9->fu (Ex h f9) (Ex h f9) hx ⟨some a,2,2⟩ [[],laidB (aM f.k vs).ends 4]->qq (aF a2) (aF a3) B K I.n hx (aF f9) a:=λN J O V=>by
  rw[n6];exact alQ s N J O V hk
 have L:∀{w:Hp}{X':Sl->HP},aB h w->(∀t H,aB w H->eL (Nw w) H t (bv (laidB (aM f.k vs).ends 4))->X' t H)->qv I 4 w X' Kp:=λC hX=>by
  obtain⟨_,o⟩:=o6 C;exact Is o.sv ag ag λt H F v=>hX t H F bZ
 have W:∀{w:Hp}{f9:Nat}{t:Sl}{e:Addr},aB h w->aO w f9 cY cg->h.size<=f9->eL (Ex h f9) w t (bv (laidB (aM f.k vs).ends 4))->aL w #[.slice (some e) 0 0,Sl.v t] fI λc d=>aT w d ⟨p,16,none⟩ 1 (qq (aF a2) (aF a3) B K I.n d (aF f9) c):=λ{w f9 t e}C J O v=>
  oy yV v ⟨by have:=C.1;omega,by have:=J.lt;omega⟩ λa H F V=>bR (x C) F (TL (aq C F) (J.ai F) O V)
 have FP:∀{w:Hp}{f9:Nat}{e:Addr},aB h w->aO w f9 cY cg->h.size<=f9->qv I 4 w (λc d=>aT w d ⟨p,16,none⟩ 1 (aL d #[.slice (some e) 0 0,Sl.v c] fI λc i=>aT d i ⟨p,16,none⟩ 1 (qq (aF a2) (aF a3) B K I.n i (aF f9) c))) Kp:=λ{w f9 e}C J O=>
  L C λt H F v=>bR (x C) F (W (aq C F) (J.ai F) O (v.mo λc(z:w.size<=c)=>by have:=J.lt;omega))
 have ZP:∀{w:Hp}{t:Sl}{e:Addr},aB h w->eL (Nw h) w t (bv (laidB (aM f.k vs).ends 4))->aL w cY cg λa i=>aT w i ⟨p,16,none⟩ 1 (aT w i ⟨p,16,none⟩ 1 (aL i #[.slice (some e) 0 0,Sl.v t] fI λc d=>aT i d ⟨p,16,none⟩ 1 (qq (aF a2) (aF a3) B K I.n d a c))):=λ{w t e}C v=>
  aJ λb R e1 l k1 _=>bR (x C) l (bR (x C) l (W (aq C l) k1 (by have:=C.1;omega) (v.kN l ag λc z=>z)))
 have PZ:∀{w:Hp}{t:Sl}{e:Addr},aB h w->eL (Nw h) w t (bv (laidB (aM f.k vs).ends 4))->aL w #[.slice (some e) 0 0,Sl.v t] fI λc d=>aT w d ⟨p,16,none⟩ 1 (aL d cY cg λa i=>aT d i ⟨p,16,none⟩ 1 (aT d i ⟨p,16,none⟩ 1 (qq (aF a2) (aF a3) B K I.n i a c))):=λ{w t e}C v=>
  oy yV v (by have:=C.1;omega) λa H F V=>bR (x C) F (aJ λb R e1 l k1 _=>bR (x (aq C F)) l (bR (x (aq C F)) l (TL (aq (aq C F) l) k1 (by have:=C.1;have:=F.1;omega) (V.kN l ag λc z=>z))))
 refine yD.of (bu rfl (bu cy (bu cy (bQ cy ?_))));refine bO ?_;refine(Y (cW _)).dI Z ((Y (cW _)).dI Z ⟨aJ λe1 R _ l _ _=>bR (x (cW _)) l (bR (x (cW _)) l ⟨L l λt P r v=>bR (x l) r ⟨PZ (aq l r) ?_,ZP (aq l r) ?_⟩,?_⟩),⟨L (cW _) λt R l v=>bR (x (cW _)) l ⟨aJ λe1 P _ r _ _=>bR (x l) r (bR (x l) r ⟨PZ (aq l r) (v.gr r),ZP (aq l r) (v.gr r)⟩),?_⟩,?_⟩⟩)
 ·exact v.mo λc(z:R.size<=c)=>ag
 ·exact v.mo λc(z:R.size<=c)=>ag
 ·exact aJ λb P _ r M _=>bR (x l) r (bR (x l) r (FP (aq l r) M ag))
 ·exact aJ λb P e2 r M _=>bR (x l) r (bR (x l) r (aJ λe1 h3 _ E _ _=>bR (x (aq l r)) E (bR (x (aq l r)) E (W (aq (aq l r) E) (M.ai E) (by have:=l.1;omega) (v.kN (aq r E) ag λc z=>z)))))
 ·refine aJ λb P e2 r M _=>bR (x (cW _)) r (bR (x (cW _)) r ⟨aJ λe1 h3 _ E _ _=>bR (x r) E (bR (x r) E (FP (aq r E) (M.ai E) ag)),L r λt h3 E v=>bR (x r) E (aJ λe1 h4 _ U _ _=>bR (x (aq r E)) U (bR (x (aq r E)) U (W (aq (aq r E) U) ((M.ai E).ai U) ag ((v.gr U).mo λc(z:P.size<=c)=>ag))))⟩)
end
section
variable {Q T:aR} {hx:Hp} {p a2 a3 n u m f9 ao:Nat} {vs:aQ} {g:dL} {X:Bx} {B A:Sl} {K:KD}
theorem asR(V:bE f)(W:f.can vs)(G:ga f (pQ f) Q T h0 p g (rR f vs) X (aM f.k vs).aH (λj=>cont f j vs))(ok:nB f vs X)(s:D9 h0 h a2 a3 vs.length (aM f.k vs).cz B (hY f vs))(ko:∃sf,aO h ao #[ah f.k,ah f.w,ah f.id,ah f.ix,Sl.v sf] kH)
  (Y:f.k≠1/\f.k≠18/\f.k≠20->eL (E9 h0 a2 a3) h A (bv (dF (aM f.k vs))))
  (C:∀q h',aB h0 h'->eD (Nw h0) (Nw h0) h' q (f.dn (f.st vs))->K (f.dn (f.st vs)).len (f.dn (f.st vs)).off (f.dn (f.st vs)).au q.1 q.2.1 q.2.2 h'):FJ K Kp (pB p) (aF a2) (aF ao) (aF a3) A B h:=by
 have n4:=((gh f vs).1 W).n4;have b:=ok.b;have F:∀{hx:Hp},aB h hx->ga f (pQ f) Q T hx p g (rR f vs) X (aM f.k vs).aH (λj=>cont f j vs):=λgx=>G.fr (nP f.cs) (bx (aq s.g gx)) (λ_ _=>id) λ_ _=>id;obtain⟨sf,U⟩:=ko;refine FJ.of (aj U rfl (aK (λE=>?_) λE=>aK (λO=>?_) λO=>?_))
 ·have E:=aU E;have L:=I2 (vs:=vs) E;rw[L]at C;exact s.zz C
 ·simp only[sm,reduceCtorEq]at E O;have L:=Bt (vs:=vs) O;rw[L]at C;refine bO ?_;obtain⟨t2,q2⟩:=G.slot (i:=2) ag;obtain⟨_,o2⟩:=(F (cW _)).os q2 rfl;refine(F (cW _)).dI q2 (agb o2.sv ag λt Z d v1=>oy ((Y ag).gr d) (v1.mo λc z=>s.e z) ((s.gr d).e (cr _)) λa h2 x I=>?_);rw[arq W O ok]at I;exact((s.gr d).gr x).b I C
 simp only[sm,reduceCtorEq]at E O;have r:∀P:Bool,P=decide (f.k=12\/f.k=13)->FI K Kp (pB p) (aF a2) (aF ao) (aF a3) A B f.k P h:=by
  intro P H;refine FI.of (aK (λc3=>?_) λc3=>aK (λM=>?_) λM=>?_)
  ·have e:f.k=12\/f.k=13:=by rw[c3]at H;simpa using H.symm
   have L:=vD (vs:=vs) e;rw[L]at C;refine aJ λa5 Z e1 d k1 _=>?_;refine bO ?_;obtain⟨t3,R⟩:=G.slot (i:=3) ag;obtain⟨t4,q4⟩:=G.slot (i:=4) ag;obtain⟨_,o3⟩:=(F d).os R rfl;refine(F d).dI R ((F d).dI q4 (Is o3.sv ag ag λt h2 x v2=>bR (F d).k x ?_));have s2:=x.1;obtain⟨_,o4⟩:=(F (aq d x)).os q4 rfl;refine XT (aq d x) ag (k1.ai x) o4.sv o4.ne ag λw h3 g3 t3 v3=>?_;have a':=v2.fr (E':=E9 h0 a2 a3) t3 (λc(z:Z.size<=c)_ y=>ag) λc(z:Z.size<=c)=>s.e ag
   refine af5 (D:=E9 h0 a2 a3) ((Y ag).gr g3) a' (v3.mo λc z=>s.e ag) ((s.gr g3).e (cr _)) λa h4 g4 I=>?_;rw[ok.o ag,ok.t e]at I;exact((s.gr g3).gr g4).b I C
  ·have M:=aU M;have L:=I1 (vs:=vs) M;rw[L]at C;refine bO ?_;obtain⟨t3,R⟩:=G.slot (i:=3) ag;obtain⟨_,o3⟩:=(F (cW _)).os (y:=(ints X.os,Y6)) R rfl;refine(F (cW _)).dI (i:=3) R (Is o3.sv ag ag λt Z d v1=>oy (D:=E9 h0 a2 a3) ((Y ag).gr d) (v1.mo λc z=>s.e z) ((s.gr d).e (cr _)) λa h2 x I=>?_);rw[ok.o ag]at I;exact((s.gr d).gr x).k I C
  ·have M:=aU M;have c':¬(f.k=12\/f.k=13):=by rw[c3]at H;simpa using H.symm
   have J:∀P:Bool,P=decide (f.k=16\/f.k=17)->yD K Kp (pB p) (aF a2) (aF ao) (aF a3) A B f.k P h:=by
    rintro _ rfl
    by_cases N:f.k=20
    ·obtain⟨c,b',_⟩:=V.one ag;have hl:=DQ f vs;rw[b']at hl;have u0:(aM f.k vs).cz=0:=YH.2 λv _=>by simp_all[dY,aE,aI]
     rw[u0]at s;rw[decide_eq_false (by omega:¬(f.k=16\/f.k=17))]
     exact asQ W N (match hq:hY f vs,hl with|[y],_=>⟨y,rfl⟩) G ok s C
    ·exact asP V W G ok s ⟨_,U⟩ (λq=>Y ⟨E,q⟩) ag ⟨E,O,M,N⟩ C
   refine cE (λl=>?_) λl=>?_
   ·exact J _ (by rw[j0];simp;omega)
   ·exact J _ (by rw[j0];simp;omega)
 refine cE (λl=>?_) λl=>?_
 ·exact r _ (by rw[j0];simp;omega)
 ·exact r _ (by rw[j0];simp;omega)
end
theorem asO(r:bE f)(IH:∀c∈f.cs,Mt c):Mt f:=by
 intro Q T h p vs K Kp N B hk;rw[xO]at B;obtain⟨g,X,G,ok⟩:=B;have E:=r.right.1;have n4:=((gh f vs).1 N).n4;have b:=ok.b;have U:f.cs.length<=32:=by
  by_cases O:f.k=15\/f.k=16\/f.k=19\/f.k=20
  ·have:=E.2.2.2.2.2.2.2.1 O;omega
  by_cases h2:f.k=17
  ·exact E.2.2.2.2.2.2.2.2.1 h2
  by_cases J:f.k=18
  ·exact(E.2.2.2.2.2.2.2.2.2.1 J).2
  ·have:=E.2.2.2.2.2.2.2.2.2.2 ag;omega
 have a:∀{hx:Hp},aB h hx->ga f (pQ f) Q T hx p g (rR f vs) X (aM f.k vs).aH (λj=>cont f j vs):=λP=>G.fr (nP f.cs) (bx P) (λ_ _=>id) λ_ _=>id;have cells:∀{hx:Hp},aB h hx->Cs hx ⟨p,2,none⟩ [ah f.k,ah f.w,ah f.id,ah f.ix,Sl.v g.sf]:=λP=>xB (a P).k λi v l=>by
  rcases i with _|_|_|_|_|i
  ·exact l
  ·exact l
  ·exact l
  ·exact l
  ·exact l
  ·simp at l
 refine GL.of (aJ λa2 O e1 R Y _=>?_);refine bO ?_;refine nh (cells R) (aJ λao h2 e2 g2 F _=>pH F rfl λJ o3 F=>?_);have a':=F.lt;have D:=bK g2 o3 ag;have o:=aq R D;refine aj (a o).k rfl (aj (a o).k rfl (aJ λa3 h4 e4 L H _=>bR (a o).k L (bR (a o).k L (iH H rfl λh5 o5 H=>aJ λa5 Z e6 g6 k5 _=>?_))));have C:=bK L o5 ag;have d:=aq C g6;have M:=aq o d;have s:D9 h Z a2 a3 vs.length (aM f.k vs).cz Sl.nil []:=⟨M,(Y.ai D).ai d,H.ai g6,⟨ag,ag,ag⟩,jv _⟩
 have two:∀{I:Hp}{A:Sl},aB Z I->(f.k≠1/\f.k≠18/\f.k≠20->eL (E9 h a2 a3) I A (bv (dF (aM f.k vs))))->CA K Kp (pB p) (aF a2) (aF ao) (aF a3) A I:=λ{I A}gy hA=>
  apn U IH N G (s.gr gy) λB h' s' g'=>asR r N G ok s' ⟨_,((F.ai d).ai gy).ai g'⟩ (λq=>(hA q).gr g') hk
 refine aj (x:=((aM f.k vs).cz:Int)) (a M).k rfl (cE (λc=>?_) λc=>?_)
 ·obtain⟨t0,W⟩:=G.slot (i:=0) ag;obtain⟨_,o0⟩:=(a M).os W rfl;refine(a M).dI W (agb o0.sv ag λt h7 g7 V=>two g7 λq=>?_);have e:qM (X.vl.map nz)=dF (aM f.k vs):=by
   unfold dF;rw[aA]
   show _=qD (vs.map λv=>!dY f.k v)
   rw[am2,ok.v q.2,Pn]
   congr 1
   refine BY λv _=>?_;rw[sH q.1 q.2.1 q.2.2]
   show nz (if v.au then 0 else 1)=_
   cases v.au <;> rfl
  rw[e]at V;exact V.mo λc z=>s.e z
 ·refine two (cW _) λq=>?_;have e:dF (aM f.k vs)=[]:=by unfold dF;rw[dU]
  rw[e];exact yV
theorem aeS:∀f:ak,bE f->Mt f/\True
  | .mk b au k w id ix cs,a=>by
    have e:∀c∈cs,Mt c:=λc d=>(aeS c (a.aN d)).1;exact⟨@asO (.mk b au k w id ix cs) a e,trivial⟩
mutual
theorem cG.a{h:Hp}:∀{s:Sl}(fs:cN),cG h s fs->ck Tt h s fs
  |_,[],hh=>by grind[cG,ck]
  | _,f::fs,hh=>by
    unfold cG at hh;unfold ck
    obtain⟨a,b,p,e,x,y⟩:=hh
    exact⟨a,b,p,e,trivial,jN.a f x,iw.a fs y⟩
theorem iw.a{h:Hp}:∀{a:Addr}{i:Nat}(fs:cN),iw h a i fs->iy Tt h a i fs
 |_,_,[],_=>by unfold iy;trivial
 |_,_,f::fs,hh=>by unfold iw at hh;unfold iy;exact⟨jN.a f hh.1,iw.a fs hh.2⟩
theorem jN.a{h:Hp}:∀{a:Addr}(f:ak),jN h a f->jt Tt h a f
  | _,.mk n au k w id ix cs,hh=>by
    unfold jN at hh;unfold jt
    obtain⟨s,c,x⟩:=hh
    exact⟨s,c,cG.a cs x⟩
end
section
variable {l:aQ} {K:Int->Int->Int->Sl->Sl->Sl->Int->Int->HP}
theorem avW(e:¬bE f)(d:f.fQ)(p:cG h s f.cs)(q:∀g,aB h g->K 0 0 0 bM bM bM 5 0 g):yJ f.name f.au f.k f.w f.id f.ix s t h K Kp:=by
 refine yJ.of (aJ λC z e1 c o _=>aJ λB y A a n _=>dM (o.ai a) (abD (p.gr (aq c a)) d λb x i r=>?_));have:b=false:=by
  cases b
  ·rfl
  ·exact absurd (r.1 rfl) e
 subst this;exact bQ rfl (iH (n.ai i) rfl λu j m=>fB m (q u (bK (aq (aq c a) i) j ag)))
theorem avX(m:bE f)(J:f.fQ)(hr:m5 l)(hl:l.length<=9223372036854775807)(hs:cG h s f.cs)(hv:aS D h t l)
  (Z:∀q g,aB h g->Good f l l.length->eD (Nw h) (Nw h) g q (f.dn (f.st l))->K (f.dn (f.st l)).len (f.dn (f.st l)).off (f.dn (f.st l)).au q.1 q.2.1 q.2.2 0 0 g)
  (Y:∀(i:Nat)x g,aB h g->Good f l i->l[i]? =some x->iu f (l.take i) x≠0->K 0 0 0 bM bM bM (iu f (l.take i) x) (i:Int) g):
  yJ f.name f.au f.k f.w f.id f.ix s t h K Kp:=by
 have PF:=(mE f m).1;have hn:=hv.n;refine yJ.of (aJ λa2 h1 e1 H k1 _=>aJ λa4 h2 e2 F P _=>dM (k1.ai F) (abD (hs.gr (aq H F)) J λb E A O=>?_));obtain rfl:b=true:=O.2 m;have G2:=aq H F;have G3:=aq G2 A;have s3:=A.1;refine bu rfl (dM (k1.ai (aq F A)) (an2 f m (ck.lt _ (hs.gr G3).a) (λc z=>z.2) λV p h4 g4 a' B4=>?_));refine QH.bC (λx g=>∃(i:Nat)(Q T:aR),x=i/\i<=l.length/\aB E g/\f.gL Q T g p (l.take i)/\(∀c,T c->E.size<=c)/\(∀c,c<E.size->Q c)/\Good f l i) (λx _=>l.length-x.toNat)
  ⟨0,_,V,rfl,eH _,g4,B4,a',λc z=>⟨trivial,z⟩,λj x hj=>ag⟩ ?_
 rintro x g ⟨i,Q,T,rfl,hi,G,B,hT,hQ,M⟩ N hN;have W:=aq G3 G;have S:=M.can PF hi;have z3:=G.1;refine cE (λc=>?_) λc=>?_
 ·have C:l[i]? =some l[i]:=aC;have I:l.take (i+1)=l.take i++[l[i]]:=aC;generalize l[i]=x at C I;have bad:∀{v:Hp},aB h2 v->iu f (l.take i) x≠0->cJ v (aF a4) 0 0 0 bM bM bM λa=>bY a (aF a4) λd e f1 H i1 j=>K d e f1 H i1 j (iu f (l.take i) x) (i:Int) a:=λo r=>
   iH (P.ai o) rfl λh7 o7 k7=>fB k7 (Y i x h7 (bK (aq G2 o) o7 ag) M C r)
  refine((aS.lt _ hv).gr W).ix rfl C λa u cx X=>ig cx (avC m J S B (X.mo λc z=>hQ c ag) (hr.get C) (λq v o=>?_) λq Q' V v U O=>?_)
  ·have e:iu f (l.take i) x=7:=by unfold iu;rw[aE q]
   have:=bad (aq (aq A G) o) ag
   rw[e]at this;exact bQ rfl this
  ·have e:iu f (l.take i) x=gp f (l.take i) x:=by unfold iu;rw[aI q]
   have o:aB E v:=((bx G:Tn No E g).trans' U.tn λc z c'=>by have:=hT c z;omega).ai
   rw[<-e]at O ⊢;refine cE (λr=>?_) λr=>?_
   ·exact bad (aq A o) r
   ·refine aY ag ag (hN _ _ ⟨i+1,Q',V,aC,ag,o,I▸O r,λc z=>?_,λc z=>U.q c (hQ c z),λj y hj R=>?_⟩ ag)
    ·rcases U.t' c z with z|z
     ·exact hT c z
     ·omega
    ·by_cases ej:j=i
     ·subst ej;rw[C]at R;cases R;exact r
     ·exact M j y ag R
 ·have:i=l.length:=ag;subst this;rw[mO]at B S;refine(aeS f m).1 S B λq v o D5=>iH ((P.ai (aq A G)).ai o) rfl λh6 o6 k6=>fB k6 (Z q h6 (bK (aq W o) o6 ag) M ?_);exact D5.fr o6.fr (λc(z:g.size<=c)_ e=>ag) (λc(z:g.size<=c)_ e=>ag) (λc(z:g.size<=c)=>ag) λc(z:g.size<=c)=>ag
end
def Mq(f:ak)(l:aQ)(i:Nat):Prop:=Good f l i/\∃x,l[i]? =some x/\iu f (l.take i) x≠0
def e0:bH:=.mk 0 0 0 [] [] []
open Classical in
noncomputable def vi(f:ak)(l:aQ):bH×Int×Int:=
 if bE f then(if q:∃i,Mq f l i then(e0,iu f (l.take q.choose) (l.getD q.choose v0),q.choose)else(f.dn (f.st l),0,0))else(e0,5,0)
section
variable {D' E':aR} {l:aQ} {d:bH}
theorem Mq.uniq(a:Mq f l i)(b:Mq f l j):i=j:=by
 obtain⟨n,x,k,e⟩:=a;obtain⟨m,y,g,c⟩:=b;rcases Nat.lt_trichotomy i j with q|q|q
 ·exact absurd (m i x q k) e
 ·exact q
 ·exact absurd (n j y q g) c
theorem ach(h:¬bE f):vi f l=(e0,5,0):=by unfold vi;simp[*]
theorem acg(h:bE f)(g:Good f l l.length):vi f l=(f.dn (f.st l),0,0):=by
 unfold vi;rw[aI h,dif_neg];rintro⟨i,c,x,a,b⟩;exact b (g i x (dy.1 a).1 a)
theorem acj(h:bE f){i:Nat}{x:aD}(g:Good f l i)(a:l[i]? =some x)(b:iu f (l.take i) x≠0):vi f l=(e0,iu f (l.take i) x,(i:Int)):=by
 have q:∃i,Mq f l i:=⟨i,g,x,a,b⟩;unfold vi;rw[aI h,dif_pos q,(q.choose_spec.uniq ⟨g,x,a,b⟩),gB,a];rfl
theorem aeH:e0.lR:=⟨aC,⟨aC,trivial⟩,aC,trivial⟩
theorem aci:(vi f l).1.lR:=by
 unfold vi;split
 ·split
  all_goals grind[aeH,aeO]
 ·exact aeH
theorem Ov{g:Hp}:eD D E' g (Sl.nil,Sl.nil,Sl.nil) e0:=⟨Jn,jv _,jv _⟩
variable {K:Int->Int->Int->Sl->Sl->Sl->Int->Int->HP}
def Tp(h:Hp)(K:Int->Int->Int->Sl->Sl->Sl->Int->Int->HP)(o:bH×Int×Int):Prop:=∀q h',aB h h'->eD (Nw h) (Nw h) h' q o.1->K o.1.len o.1.off o.1.au q.1 q.2.1 q.2.2 o.2.1 o.2.2 h'
theorem OfP(c:f.fQ)(u:m5 l)(hl:l.length<=9223372036854775807)(m:kS h)(r:jz h)(n:cG h s f.cs)(p:aS D h t l)(b:Tp h K (vi f l)):qw f.name f.au f.k f.w f.id f.ix s t h K Kp:=by
 unfold Tp at b
 by_cases a:bE f
 ·refine PS (A8 f a) (Wy f a c) (mE f a).1 (aeq f a) a c u hl m r n p (λq e g _ j d=>?_) λi x e g j o v=>?_
  ·rw[acg a j]at b;exact b q e g d
  ·rw[acj a j o v]at b;exact b (Sl.nil,Sl.nil,Sl.nil) e g Ov
 ·rw[ach a]at b;exact avV (l:=l) a c m n λe g=>b (Sl.nil,Sl.nil,Sl.nil) e g Ov
theorem OfR(e:f.fQ)(p:m5 l)(hl:l.length<=9223372036854775807)(m:cG h s f.cs)(o:aS D h t l)(b:Tp h K (vi f l)):yJ f.name f.au f.k f.w f.id f.ix s t h K Kp:=by
 unfold Tp at b
 by_cases a:bE f
 ·refine avX a e p hl m o (λq c g j d=>?_) λi x c g j n r=>?_
  ·rw[acg a j]at b;exact b q c g d
  ·rw[acj a j n r]at b;exact b (Sl.nil,Sl.nil,Sl.nil) c g Ov
 ·rw[ach a]at b;exact avW a e m λc g=>b (Sl.nil,Sl.nil,Sl.nil) c g Ov
structure Kd(h0 h:Hp)(a:Nat)(d:bH):Prop where
 e:∃q:Sl×Sl×Sl,aO h a #[ah d.len,ah d.off,ah d.au,Sl.v q.1,Sl.v q.2.1,Sl.v q.2.2] cg/\eD (λc=>h0.size<=c/\c≠a) (λc=>h0.size<=c/\c≠a) h q d
theorem Kd.gr{a:Nat}(k:Kd h0 h a d)(g:aB h H):Kd h0 H a d:=by
 obtain⟨q,k,v⟩:=k.e;exact⟨q,k.ai g,v.gr g⟩
theorem Kd.put{q:Sl×Sl×Sl}{K:Addr->HP}(v:eD (Nw h0) (Nw h0) h q d)(p:∀a h',aB h h'->Kd h0 h' a d->K (aF a) h'):
  aL h cY cg λa j=>cJ j a d.len d.off d.au q.1 q.2.1 q.2.2 λg=>K a g:=
 aJ λa j e1 k o _=>iH o rfl λg i n=>p a g (bK k i ag) ⟨q,n,by
  have m:=(v.lt.gr k).fr (D':=λc=>h0.size<=c/\c≠a) (E':=λc=>h0.size<=c/\c≠a) i.fr (λc z _ e=>ag) (λc z _ e=>ag) (λc z=>⟨z.1,ag⟩) λc z=>⟨z.1,ag⟩
  exact m⟩
theorem apd{K:fD}(i:f.fQ)(Y:m5 l)(hl:l.length<=9223372036854775807)(B:cG h s f.cs)(X:aS D h t l)(H:oL h)(G:jz h)(hk:∀Z,aB h Z->K true Z):
  Te f.name f.au f.k f.w f.id f.ix s t h K Kp:=by
 refine Te.of (aJ λa3 h1 e1 M r _=>avl (H.ai M) (G.ai M) λh2 L=>bu rfl (dM (r.ai L) ?_));have u:=aq M L;have r:=r.ai L;refine OfP i Y hl (H.k.ai u) (G.ai u) (B.gr u) (eO X u) λq h3 g3 v3=>Kd.put v3 λad h4 g4 kd=>R4.of (dM (r.ai (aq g3 g4)) ?_);have p:=aq g3 g4;have O:=aq u p;refine OfR i Y hl (B.gr O) (eO X O) λq2 h5 g5 v5=>Kd.put v5 λaw h6 g6 kw=>R3.of (dM (r.ai (aq p (aq g5 g6))) ?_);have o:=aq g5 g6;have N:=aq O o;refine Td.of (aJ λb1 h7 e7 g7 k7 _=>aJ λb2 I e8 J W _=>dM (k7.ai J) ?_);have y:=aq g7 J;have C:=aq N y;refine OfP (D:=Tt) (l:=[]) i trivial aC (H.k.ai C) (G.ai C) (B.gr C) (oz _) λq3 h9 g9 v9=>Kd.put v9 λax f' V kx=>?_;obtain⟨q4,kb,E⟩:=kx.e;have a:=aq g9 V;refine fB kb (iH (W.ai a) rfl λR v P=>fB P ?_);have n:=bK (aq y a) v ag;have E:=E.fr v.fr (λc z _ e=>ag) (λc z _ e=>ag) (λc z=>z.1) λc z=>z.1
 refine Kd.put E λay e' A ky=>R2.of (dM ((r.ai (aq p o)).ai (aq n A)) ?_);have m:=aq n A;have Gc:=aq N m;refine OfR (D:=Tt) (l:=[]) i trivial aC (B.gr Gc) (oz _) λq6 d' U v6=>Kd.put v6 λaz c' T kz=>?_;have j:=aq U T;obtain⟨r1,b1,d1⟩:=((kd.gr o).gr (aq m j)).e;obtain⟨r2,b2,d2⟩:=(kw.gr (aq m j)).e;obtain⟨r3,b3,d3⟩:=(ky.gr j).e;obtain⟨r4,b4,d4⟩:=kz.e;have F:∀x:Int,(x==x)=true:=λx=>aC
 refine R1.of (bQ (F _) ?_);rw[F];refine Kr.of (bQ rfl (fB b1 (fB b2 (Ol _ aci d1 d2 λb' g=>Kq.of (bQ rfl ?_)))));rw[F];exact Ko.of (bQ rfl (fB (b3.ai g) (fB (b4.ai g) (Ol _ aci (d3.gr g) (d4.gr g) λQ S=>hk Q (aq (aq Gc j) (aq g S))))))
end
end
end Go.Proofs.YtmjifnioaoamfaaGreatDoor
