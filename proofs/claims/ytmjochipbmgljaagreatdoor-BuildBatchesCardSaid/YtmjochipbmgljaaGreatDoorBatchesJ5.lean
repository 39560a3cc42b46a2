import Derived.Test.YtmjochipbmgljaaGreatDoorBatchesJ4
set_option linter.all false
set_option maxRecDepth 99999
set_option maxHeartbeats 999999
noncomputable section
namespace Go.Proofs.YtmjochipbmgljaaGreatDoor
open Go Go.Sh Go.WideShapes
section
variable {v:aB} {lo i j:Nat} {f c:aq} {h h0:Hp} {Kp:PK} {s t:Sl} {el:TypeId} {l:dB} {ms:List Md} {D:aQ} {z:Array Value} {kc:Nat->List aB} {G:Nat->aB} {fs:cC} {rows:List (List aB)}
section
variable {KM:List BF} {p:Nat} {Q0 T0 Q Q' T S E A A':aQ} {h' h1:Hp} {g:dK} {n:Bn} {X X':Bx} {vl YW:aP} {s':Sl} {w:Nat} {M:BF} {vs:aP}
theorem gf.Sd{x:Int}{K:Option Addr->Prop}(G:gf f KM Q T h p g n X vl kc)(c:g.kp[j]? =some w)(e:x=j)(k:K (bz w)):Ix g.sp.a g.sp.n 1 x λd=>Ld h d Value.pointer K:=by
 subst e;have m:=(cU.1 c).1;have b:=G.pt.n;rw[cm]at b;refine G.pt.sv.ix ag ag (v:=oz w) bU λa l=>?_
 exact⟨some _,l,k⟩
theorem gf.m(G:gf f KM Q T h p g n X vl kc)(o:j<KM.length):∃M A w,KM[j]? =some M/\g.KT[j]? =some A/\g.kp[j]? =some w/\M Q A h w (kc j):=by
 have lk:=G.lk;exact⟨_,_,_,bx o,bx ag,bx ag,G.aL j _ _ _ (bx o) (bx ag) (bx ag)⟩
theorem gp.aL(KF:∀M∈KM,od M)(C:gp f KM p Q0 T0 h0 Q T h g n X vl kc E)(H:KM[j]? =some M)(I:g.KT[j]? =some A)(K:g.kp[j]? =some w)(y:Ext Q Q' A A' h h')(m:M Q' A' h' w vs):gp f KM p Q0 T0 h0 Q' (λc=>T c\/A' c) h' {g with KT:=g.KT.set j A'} n X vl (λi=>if i=j then vs else kc i) E/\Tn (λc=>¬E c) h h':=by
 have G:=C.S;have r:=g.fC I;have F:=y.tn.1;have jL:=(cU.1 I).1;have a:∀c,A c->T c/\c≠p:=λc z=>G.t.sub _ (bL r) c z;have b:∀{B:aQ}(k:Nat),g.Ls[k]? =some B->k≠2+g.ST.length+j->∀c,B c->¬A c:=λ{B}k L ne c z=>G.t.ne L r ne c z;have o:∀c,Q c->¬A c:=λc z x=>(G.q c z).1 (a c x).1;have J:=(KF M (bL H)).d m;have D:∀c,Q' c->¬(T c\/A' c)/\c<h'.size:=λc z=>by
  have:=J c z;refine⟨λx=>x.elim (λx=>?_) this.1,this.2⟩;rcases y.q' c z with z|z
  ·exact(G.q c z).1 x
  ·have:=G.t.lt c x;omega
 have tr:iR (λc=>T c\/A' c) h' p (({g with KT:=g.KT.set j A'}:dK).Ls):=by
  have:=G.t.put r F y.t';have O:g.Ls.set (2+g.ST.length+j) A'=({g with KT:=g.KT.set j A'}:dK).Ls:=by
   unfold dK.Ls;rw[show 2+g.ST.length+j=g.ST.length+j+1+1 by omega]
   simp only[tO];simp
  grind
 refine⟨⟨⟨tr,D,y.tn.aZ G.k λz=>(a p z).2 rfl,bY.fr y.tn o y.q _ G.fs,G.ls,λi s B x h1(l:g.ST[i]? =some B)u=>(G.sl i s B x h1 l u).fr y.tn λc z _=>b _ (g.ic l) bU c z,(G.aF.fr y.tn (b 0 rfl ag) o).q y.q,
  G.pt.fr y.tn λc z _=>b 1 rfl ag c z,by simp[G.lk],λk N B v h1 l u=>?_⟩,?_,λc z=>?_⟩,y.tn.mono λc z _ x=>(C.e c x).2 (a c z).1⟩
 ·simp only at l
  by_cases e:j=k
  ·subst e;rw[El jL]at l;rw[H]at h1;rw[show({g with KT:=g.KT.set j A'}:dK).kp=g.kp from rfl,K]at u
   cases h1;cases l;cases u;simp only[gu];exact m
  ·rw[HU e]at l;simp only[aC (sD e)];have ok:=KF N (bL h1);refine ok.q (ok.fr (G.aL k N B v h1 l u) y.tn (b _ (g.fC l) ag) o) y.q λc z=>⟨λx=>(D c z).1 (.inl (G.t.sub _ (bL (g.fC l)) c x).1),(D c z).2⟩
 ·exact C.x.trans ⟨y.tn.mono λc z _=>(a c z).1,y.q,y.q',λ_ z=>.inl z,λc z=>z.elim .inl λz=>(y.t' c z).imp (λz=>(a c z).1) id⟩
 ·have:=C.e c z;refine⟨ag,λx=>?_⟩
  rcases x with x|x
  ·exact this.2 x
  ·rcases y.t' c x with x|x
   all_goals grind
theorem gp.cells{x':List Value×TypeId}(KF:∀M∈KM,od M)(u:gp f KM p Q0 T0 h0 Q T h g n X vl kc E)(D:g.SS[i]? =some s)(C:g.ST[i]? =some A)(t:Tn A h h')(o:Os A h' s x'.1 x'.2)(J:X'.fj=X.fj.set i x'):gp f KM p Q0 T0 h0 Q T h' g n X' vl kc E/\Tn (λc=>¬E c) h h':=by
 have G:=u.S;have r:=g.ic C;have b:∀c,A c->T c/\c≠p:=λc z=>G.t.sub _ (bL r) c z;have m:∀c,Q c->¬A c:=λc z x=>(G.q c z).1 (b c x).1;have a:∀{B:aQ}(k:Nat),g.Ls[k]? =some B->k≠2+i->∀c,B c->¬A c:=λ{B}k H ne c z=>G.t.ne H r ne c z;refine⟨⟨⟨G.t.grow t.1,λc z=>⟨(G.q c z).1,by have:=(G.q c z).2;have:=t.1;omega⟩,t.aZ G.k λz=>(b p z).2 rfl,bY.fr t m (λ_ z=>z) _ G.fs,G.ls,λj y B x h1 l d=>?_,G.aF.fr t (a 0 rfl ag) m,G.pt.fr t λc z _=>a 1 rfl ag c z,G.lk,λj N B v h1 l d=>(KF N (bL h1)).fr (G.aL j N B v h1 l d) t (a _ (g.fC l) bU) m⟩,?_,λc z=>?_⟩,t.mono λc z _ x=>(u.e c x).2 (b c z).1⟩
 ·rw[J]at d
  by_cases e:i=j
  ·grind
  ·rw[HU e]at d;exact(G.sl j y B x h1 l d).fr t λc z _=>a _ (g.ic l) ag c z
 ·exact u.x.trans ⟨t.mono λc z _=>(b c z).1,λ_ z=>z,λ_ z=>.inl z,λ_ z=>z,λ_ z=>.inl z⟩
 ·have:=u.e c z;exact⟨by have:=t.1;omega,this.2⟩
theorem gp.ak1(KF:∀M∈KM,od M)(u:gp f KM p Q0 T0 h0 Q T h g n X vl kc E)(t:Tn (λc=>g.VT c\/c=p) h h')(o:vi (Tr g.VT h h') Q h' s' YW)(F:aN h' p (({g with sv:=s',VT:=Tr g.VT h h'}:dK).row f n).toArray Et):gp f KM p Q0 T0 h0 Q (λc=>T c\/Tr g.VT h h' c) h' {g with sv:=s',VT:=Tr g.VT h h'} n X YW kc E/\Tn (λc=>¬E c) h h':=by
 have G:=u.S;have C:=t.1;have d:g.Ls[0]? =some g.VT:=rfl;have b:∀c,g.VT c->T c/\c≠p:=λc z=>G.t.sub _ (bL d) c z;have ku:∀c,(g.VT c\/c=p)->T c:=λc z=>z.elim (λz=>(b c z).1) λz=>z▸G.t.tb;have m:∀c,Q c->¬(g.VT c\/c=p):=λc z x=>(G.q c z).1 (ku c x);have a:∀{B:aQ}(k:Nat),g.Ls[k]? =some B->k≠0->∀c,B c->¬(g.VT c\/c=p):=λ{B}k y ne c z x=>x.elim (λx=>G.t.ne y d ne c z x) λx=>(G.t.sub _ (bL y) c z).2 x;refine⟨⟨⟨G.t.put d C λ_ z=>z,λc z=>⟨λx=>?_,by have:=(G.q c z).2;omega⟩,F,bY.fr t m (λ_ z=>z) _ G.fs,G.ls,λj D B x h1 l r=>(G.sl j D B x h1 l r).fr t λc z _=>a _ (g.ic l) ag c z,o,G.pt.fr t λc z _=>a 1 rfl ag c z,G.lk,
  λj N B v h1 l r=>(KF N (bL h1)).fr (G.aL j N B v h1 l r) t (a _ (g.fC l) ag) m⟩,?_,λc z=>?_⟩,t.mono λc z _ x=>(u.e c x).2 (ku c z)⟩
 ·have:=G.q c z;grind
 ·exact u.x.trans ⟨t.mono λc z _=>ku c z,λ_ z=>z,λ_ z=>.inl z,λ_ z=>.inl z,λc z=>z.elim .inl λz=>z.imp (λz=>(b c z).1) id⟩
 ·have:=u.e c z;grind
theorem gp.akZ{u:Sl}{a:Nat}{ty:TypeId}{K:HP}(KF:∀M∈KM,od M)(s0:gp f KM p Q0 T0 h0 Q T h g n X vl kc E)(k:aN h a #[.bool false,ah 0,.string (bs []),Sl.v Sl.nil] ty)(hv:aR Q h u v.items)(hn:vl.length<=5000)
  (hk:∀Q T h' g,Tn (λc=>¬E c) h h'->gp f KM p Q0 T0 h0 Q T h' g n X (vl++[v]) kc E->K h'):Ap h dh fU 4 56 g.sv 1 (rd h (bz a) (1*4)) λt h1=>Ix t.a t.n 4 (g.sv.n:Int) λb=>
   (dH h1 b v.au v.num (bs v.text) u λP=>St P ⟨p,17,none⟩ (Sl.v t) K)/\(St h1 ⟨p,17,none⟩ (Sl.v t) λP=>dH P b v.au v.num (bs v.text) u K):=by
 have G:=s0.S;obtain⟨L,e,r,nW,vv⟩:=G.aF;have on:=r.n;rw[oG]at on;have c':g.Ls[0]? =some g.VT:=rfl;have y:∀c,g.VT c->T c/\c≠p:=λc z=>G.t.sub _ (bL c') c z;have e':=G.t.lt p G.t.tb;refine r.ap (dN _) rfl (new:=[[.bool false,ah 0,.string (bs []),Sl.v Sl.nil]]) rfl (λr O=>by simp at O;subst O;rfl) (λr O w J=>by simp at O;subst O;simp at J;rcases J with rfl|rfl|rfl|rfl <;> rfl) (by simpa using iM k rfl) ag ag λt h1 f1 d' r1=>?_
 have W:=f1.mono λc z _=>nW c z;have k1:=W.aZ G.k λz=>(y p z).2 rfl;have rn:=r1.n;rw[ij,jw,oG]at rn;rcases r1.cases with⟨z,_⟩|⟨b,_,I⟩
 ·rw[z]at rn;simp[Sl.nil]at rn
 have tb:t.at b:=⟨_,I.a,rfl⟩;have bV:Tr g.VT h h1 b:=(d' b tb).imp (nW b) λz=>⟨z,I.lt⟩;have bp:b≠p:=λz=>by
  subst z;rcases bV with z|z
  ·exact(y _ z).2 rfl
  ·omega
 have Y:(List.zipWith aB.row vl L).length=vl.length:=by rw[oG];omega
 refine I.ix (i:=vl.length) ag (by rw[ij,Y];simp) ?_
 have B:(List.zipWith aB.row vl L++[[.bool false,ah 0,.string (bs []),Sl.v Sl.nil]]).set vl.length (v.row u)=List.zipWith aB.row (vl++[v]) (L++[u]):=by
  rw[wK _ _ ag,Y,wM,ki,EZ e]
 have U:(g.row f n).length=19:=by unfold dK.row;simp[FF,G.ls.1]
 have C:(g.row f n).toArray.setIfInBounds 17 (Sl.v t)=(({g with sv:=t,VT:=Tr g.VT h h1}:dK).row f n).toArray:=by
  rw[nZ];unfold dK.row;rw[wK _ _ (by show 10<=17;omega),wK _ _ (by show _<=17-10;rw[cm,G.ls.1];omega),cm,G.ls.1];rfl
 have fin:∀{m:Hp},Tn (λc=>c=b\/c=p) h1 m->m.size=h1.size->lY 4 m t b (List.zipWith aB.row (vl++[v]) (L++[u])) dh->aN m p (({g with sv:=t,VT:=Tr g.VT h h1}:dK).row f n).toArray Et->K m:=by
  intro m f3 z3 d Z;have tt:Tn (λc=>g.VT c\/c=p) h m:=(W.mono λc z _=>.inl z).trans' f3 λc z b'=>by
   rcases z with rfl|z
   ·exact .inl (bV.elim id λz=>ag)
   ·exact .inr z
  have V:∀c,Q c->¬(g.VT c\/c=p):=λc z x=>(G.q c z).1 (x.elim (λx=>(y c x).1) λx=>x▸G.t.tb);have eV:Tr g.VT h m=Tr g.VT h h1:=by unfold Tr;rw[z3]
  have o:vi (Tr g.VT h m) Q m t (vl++[v]):=by
   refine⟨L++[u],by simp[e],⟨d.len,d.n,.inr ⟨b,dN _,d.lt,d.own⟩⟩,λc z=>?_,λj z w N J=>?_⟩
   ·obtain⟨a',ea,rfl⟩:=z;rw[I.a]at ea;cases ea;rw[eV];exact bV
   ·rcases xu e J with⟨b',J⟩|⟨rfl,rfl⟩
    ·rw[iQ ag]at N;exact aR.fr tt (λc hc _=>V c hc) (λ_ q=>q) _ (vv j z w N J)
    ·rw[gm (bP _)]at N;simp at N;subst N;exact aR.fr tt (λc hc _=>V c hc) (λ_ q=>q) _ hv
  obtain⟨S',t'⟩:=s0.ak1 KF tt o (by rw[eV];exact Z)
  exact hk _ _ _ _ t' S'
 have D:=AO v u;refine⟨yD (I.set (by rw[ij,Y];simp) rfl D λP H R=>dc (H.aZ k1 (sD bp)) (by rw[LU,U];omega) rfl λm F Z=>?_),
  dc k1 (by rw[LU,U];omega) rfl λP H k2=>yD ((I.fr H.fr bp).set (by rw[ij,Y];simp) rfl D λm F d=>?_)⟩
 ·rw[B]at R;rw[C]at Z;exact fin ((H.fr.mono λc z _=>.inl z).trans (F.fr.mono λc z _=>.inr z)) (by have:=H.1;have:=F.1;omega) (R.fr F.fr bp) Z
 ·rw[B]at d;rw[C]at k2;exact fin ((H.fr.mono λc z _=>.inr z).trans (F.fr.mono λc z _=>.inl z)) (by have:=H.1;have:=F.1;omega) d (F.aZ k2 (sD bp))
end
def Jg(b:UInt8)(r:dB)(n:Nat):Prop:=n<=r.length+1/\rL b.toNat (r.getD 0 0)=true/\∀j,1<=j->j+1<n->uu (r.getD j 0)=true
theorem alj{b:UInt8}{r:dB}{n:Nat}(k:128<=b.toNat)(f:uF b.toNat%8=n)(d:n=2\/n=3\/n=4):(Jg b r n->jm b r=some (r.drop (n-1)))/\(¬Jg b r n->jm b r=none):=by
 have e0:¬b.toNat<128:=ag;unfold jm Jg;rw[aC e0,f];rcases d with rfl|rfl|rfl
 ·rw[aI rfl];rcases r with _|⟨c,r⟩
  all_goals grind
 ·rw[aC aY,aI rfl];rcases r with _|⟨c,_|⟨e,r⟩⟩
  ·simp
  ·simp
  ·simp only[HD,iq];refine⟨λq=>by rw[aI (by rw[q.2.1];exact q.2.2 1 ag ag)];rfl,λq=>aC λz=>q ⟨ag,?_,λj a c=>?_⟩⟩
   all_goals grind
 ·rw[aC aY,aC aY,aI rfl];rcases r with _|⟨c,_|⟨e,_|⟨g,r⟩⟩⟩
  ·simp
  ·simp
  ·simp
  ·simp only[HD,iq];refine⟨λq=>by rw[aI (by rw[q.2.1,Ah,dm];exact⟨q.2.2 1 ag ag,q.2.2 2 ag ag⟩)];rfl,λq=>aC λz=>?_⟩
   grind
section
variable {V:ff} {K:cJ} {b:UInt8} {r:dB}
def af1(K:cJ)(h:Hp)(b:UInt8)(r:dB):Prop:=(∀n:Nat,1<=n->n<=r.length+1->jm b r=some (r.drop (n-1))->K n h)/\(jm b r=none->K 0 h)
theorem ala{n hi:Nat}(D:(tx V).drop i=b::r)(hl:V.size<=9223372036854775000)(O:128<=b.toNat)(M:uF b.toNat%8=n)(L:n=2\/n=3\/n=4)(J:Fe (uF b.toNat/16)=lo)(I:Ff (uF b.toNat/16)=hi)
  (s:af1 K h b r):Az K Kp V i lo hi n h:=by
 obtain⟨G,u2⟩:=alj O M L;have w:(tx V).length=V.size:=rfl;have F:i+(r.length+1)=V.size:=by
  have:=tP List.length D;rw[HH,iq,w]at this;omega
 have l:∀{j:Nat},j<r.length->(tx V)[i+(j+1)]? =some (r.getD j 0):=λ{j}t=>by
  have e:((tx V).drop i)[j+1]? =r[j]? :=by rw[D];rfl
  grind[List.getElem?_eq_getElem]
 have A:(¬Jg b r n->K 0 h)->(n<=r.length+1->rL b.toNat (r.getD 0 0)=true->Wc K Kp V i n 2 h)->Az K Kp V i lo hi n h:=by
  intro p v;refine aCG (aW ag ag (cL (λc=>?_) λc=>?_))
  ·exact aiG (bO rfl (p λq=>by have:=q.1;omega))
  ·have y:0<r.length:=ag;have E:=l y;have e1:((i:Int)+1)=((i+(0+1):Nat):Int):=ag;have o:rL b.toNat (r.getD 0 0)=(decide (lo<=(r.getD 0 0).toNat)&&decide ((r.getD 0 0).toNat<=hi)):=by unfold rL;rw[J,I]
   refine aW ag ag (yX e1 E (aiG (cL (λk=>?_) λk=>?_)))
   ·refine p λq=>?_;have:=q.2.1;rw[o,dm,dQ]at this;omega
   ·refine aW ag ag (yX e1 E (cL (λf=>?_) λf=>?_))
    ·refine p λq=>?_;have:=q.2.1;rw[o,dm,dQ,dQ]at this;omega
    ·refine aCF (v ag ?_);simp_all
 refine A (λq=>s.2 (u2 q)) λC H=>aAf (λx u=>u=h/\∃d:Nat,x=d/\2<=d/\d<=n/\∀j,1<=j->j+1<d->uu (r.getD j 0)=true) (λx _=>n-x.toNat) ⟨rfl,2,rfl,ag,ag,λj a c=>ag⟩ ?_
 rintro x u ⟨rfl,d,rfl,Q,P,m⟩ N hN;refine cL (λc=>?_) λc=>?_
 ·have t:d-1<r.length:=ag;have g:=l t;have e1:((i:Int)+(d:Int))=((i+(d-1+1):Nat):Int):=ag;have B:uu _=(decide _&&decide ((r.getD (d-1) 0).toNat<=191)):=rfl;have bad:¬(128<=(r.getD _ 0).toNat/\(r.getD _ 0).toNat<=191)->K 0 u:=λz=>s.2 (u2 λq=>by
   have:=q.2.2 (d-1) ag ag;rw[B,dm,dQ,dQ]at this;exact z this)
  refine aW ag ag (yX e1 g (aE (λk=>?_) λk=>aW ag ag (yX e1 g (aE (λf=>?_) λf=>aW ag ag (hN _ _ ⟨rfl,d+1,ag,ag,ag,λj a z=>?_⟩ ag)))))
  ·have k:=aM k;exact bad ag
  ·have f:=aM f;exact bad ag
  ·by_cases e:j+1<d
   ·exact m j a e
   ·obtain rfl:j=d-1:=ag;simp only[sm,reduceCtorEq]at k f;rw[B,dm,dQ,dQ];omega
 ·obtain rfl:d=n:=ag;exact s.1 d ag C (G ⟨C,H,m⟩)
theorem ak9{x:Int}(hx:x=i)(hd:(tx V).drop i=b::r)(hl:V.size<=9223372036854775000)(hk:af1 K h b r):Yi V x h K Kp:=by
 subst hx;have ng:(tx V).length=V.size:=rfl;have hlen:i+(r.length+1)=V.size:=by
  have:=tP List.length hd;rw[HH,iq,ng]at this;omega
 have g0:(tx V)[i]? =some b:=by
  have e:((tx V).drop i)[0]? =some b:=by rw[hd];rfl
  rwa [HL,Eo]at e
 have aqq:¬b.toNat<128->(∀n,n=2\/n=3\/n=4->uF b.toNat%8≠n)->K 0 h:=λz w=>hk.2 (by
  simp_all[jm,aC])
 have one:∀{n:Nat}{x:Int},x=n->(128<=b.toNat)->uF b.toNat%8=n->n=2\/n=3\/n=4->yW K Kp V i b.toNat 128 191 x h:=by
  rintro n x rfl h1 h2 h3;have go:=λlo hi q1 q2=>ala (Kp:=Kp) (lo:=lo) (hi:=hi) hd hl h1 h2 h3 q1 q2 hk;have zj:∀k,b.toNat=k->uF b.toNat=uF k:=λk e=>by rw[e]
  refine aCH (aE (λc=>?_) λc=>aE (λc2=>?_) λc2=>aE (λc3=>?_) λc3=>aE (λc4=>?_) λc4=>?_)
  ·have c:=aM c;exact go 160 191 (by rw[zj 224 ag];rfl) (by rw[zj 224 ag];rfl)
  ·have c2:=aM c2;exact go 128 159 (by rw[zj 237 ag];rfl) (by rw[zj 237 ag];rfl)
  ·have c3:=aM c3;exact go 144 191 (by rw[zj 240 ag];rfl) (by rw[zj 240 ag];rfl)
  ·have c4:=aM c4;exact go 128 143 (by rw[zj 244 ag];rfl) (by rw[zj 244 ag];rfl)
  ·simp only[sm,reduceCtorEq]at c c2 c3 c4;have e:uF b.toNat/16=0:=by unfold uF at h2 ⊢;(repeat' split at h2) <;> (repeat' split) <;> omega
   exact go 128 191 (by rw[e];rfl) (by rw[e];rfl)
 refine aF1 (bu cj (yX rfl g0 (cL (λc=>?_) λc=>?_)))
 ·apply hk.1 1 ag ag;unfold jm;rw[dR];rfl
 ·have c2:194<=b.toNat/\b.toNat<=223->uF b.toNat%8=2:=λq=>by grind[uF]
  have c3:224<=b.toNat/\b.toNat<=239->uF b.toNat%8=3:=λq=>by grind[uF]
  have c4:240<=b.toNat/\b.toNat<=244->uF b.toNat%8=4:=λq=>by unfold uF;(repeat' split) <;> omega
  have cn:¬(194<=b.toNat/\b.toNat<=244)->∀n,n=2\/n=3\/n=4->uF b.toNat%8≠n:=λq n hn=>by unfold uF;(repeat' split) <;> omega
  have n0:¬(194<=b.toNat/\b.toNat<=244)->K 0 h:=λq=>aqq ag (cn q)
  repeat' (with_reducible refine aE (λc=>?_) λc=>?_)
  all_goals simp only[sm,reduceCtorEq]at*
  all_goals first|(with_reducible apply n0;omega)|(with_reducible refine one rfl ?_ (c2 ?_) ?_ <;> omega)|(with_reducible refine one rfl ?_ (c3 ?_) ?_ <;> omega)|(with_reducible refine one rfl ?_ (c4 ?_) ?_ <;> omega)
theorem ark(hl:V.size<=9223372036854775000){K:fJ}(d:K (iD (tx V)) h):Yr V h K Kp:=by
 have j:(tx V).length=V.size:=rfl;refine aGh (aAt (λx k=>k=h/\∃i:Nat,x=i/\i<=V.size/\iD ((tx V).drop i)=iD (tx V)) (λx _=>V.size-x.toNat) ⟨rfl,0,rfl,ag,aA⟩ ?_)
 rintro x k ⟨rfl,i,rfl,p,a⟩ N hN;refine cL (λc=>?_) λc=>?_
 ·obtain⟨b,r,f⟩:∃b r,(tx V).drop i=b::r:=by
   cases o:(tx V).drop i with
   |nil=>grind[List.drop_eq_nil_iff]
   |cons b r=>simp
  have l:i+(r.length+1)=V.size:=by
   have:=tP List.length f;rw[HH,iq,j]at this;omega
  rw[f,Jc]at a;refine ak9 rfl f hl ⟨λn s q g=>?_,λg=>?_⟩
  ·refine bu cj (aW ag ag (hN _ _ ⟨rfl,i+n,ag,ag,?_⟩ ag))
   rw[g]at a;rw[<-a,<-B7,f]
   congr 1
   obtain⟨m,rfl⟩:∃m,n=m+1:=⟨n-1,ag⟩
   simp
  grind[bO]
 ·have:(tx V).drop i=[]:=List.drop_eq_nil_iff.2 ag;rw[this]at a;have e:iD ([]:dB)=true:=rfl;rw[e]at a;rw[<-a]at d;exact d
end
def BM(w:Nat)(Bf:Int):Int:=if(w:Int)<=Bf then w else Bf+1
def VO(v:aB):Prop:=∀{D:aQ}{h:Hp}{s:Sl}{Bf:Int}{K:cJ}{Kp:PK},aR D h s v.items->-100<=Bf->Bf<=2^50->(∀h',az h h'->K (BM v.bq Bf) h')->IM v.au v.num (bs v.text) s Bf h K Kp
theorem akL(l:aP)(i:Nat):bH (l.take i)<=bH l:=by
 grind[oT,List.take_append_drop]
theorem YR:∀l:List aB,l.length*16<=bH l
 |[]=>by simp[bH]
 |z::l=>by have:=gV z;have:=YR l;simp only[bH,iq];omega
theorem aod(R:∀x∈v.items,VO x):VO v:=by
 intro D h s b K Kp H Y X I;have G:=gV v;have U:=H.n;have k:b<v.bq->∀f,az h f->K (b+1) f:=λq f g=>by
  have:=I f g;simp_all[BM,aC]
 refine aE3 (aG λQ M e1 J t _=>aj t rfl (aW ag ag (cL (λc=>?_) λc=>?_)))
 ·rw[iV]at c;exact aW ag ag (k ag M J)
 rw[iV]at c;apply aj t rfl;rw[iV];apply aW ag ag;refine azV (λy x f=>∃i:Nat,x=i/\i<=v.items.length/\az h f/\aN f Q #[.bool v.au,ah v.num,.string (bs v.text),Sl.v s] dh/\((y=((16+v.text.length+bH (v.items.take i):Nat):Int)/\y<=b)\/(y=b+1/\b<v.bq))) (λ_ x _=>v.items.length-x.toNat)
  ⟨0,rfl,dN _,J,t,.inl ⟨by simp[bH],ag⟩⟩ ?_
 rintro y x B ⟨i,rfl,V,j,p,w⟩ N hN;have e:y>b->K _ B:=λq=>k (w.elim (λz=>ag) λz=>z.2) B j
 refine aj p rfl (aE (λE=>aE (λd=>?_) λd=>?_) λE=>aE (λd=>?_) λd=>?_)
 ·have d:=aM d;exact aW ag ag (e d)
 ·simp only[sm,reduceCtorEq]at E d;obtain⟨C,_⟩:=w.resolve_right λz=>ag
  have m:i<v.items.length:=ag;have A:=bx m;have l:=kg m;have F:=YR (v.items.take i);rw[kP]at F;generalize v.items[i]=z at A l;have o:=bL A;have S:=akL v.items (i+1);have O:bH (v.items.take (i+1))=bH (v.items.take i)+z.bq:=by rw[l,oT];simp[bH]
  refine aj p rfl ((eR H j).ix rfl A λa u P L=>gZ P (aW ag ag (R z o L ag ag λW r=>?_)));unfold BM
  by_cases q:(z.bq:Int)<=b-y
  ·rw[aI q];exact aW ag ag (aW ag ag (hN _ _ _ ⟨i+1,ag,ag,ak j r,p.ai r,.inl ⟨by rw[O];push_cast;omega,ag⟩⟩ ag))
  ·rw[aC q];exact aW ag ag (aW ag ag (hN _ _ _ ⟨i+1,ag,ag,ak j r,p.ai r,.inr ⟨ag,ag⟩⟩ ag))
 ·have d:=aM d;exact aW ag ag (e d)
 ·simp only[sm,reduceCtorEq]at E d;obtain⟨C,_⟩:=w.resolve_right λz=>ag
  have:i=v.items.length:=ag;simp_all[BM]
theorem Pt:∀v:aB,VO v
 |.mk a b c items=>aod (v:=.mk a b c items) λx(_:x∈items)=>Pt x
section
variable {K:fJ}
theorem aoH{k:Int}(a:K (decide (2<=k/\k<=11)) h):XA k h K Kp:=by
 refine aEE (cL (λc=>?_) λc=>?_)
 ·simp_all
 ·simp_all
theorem aoA{k n:Int} (hn : -9223372036854775808<=n/\n<=9223372036854775807) (hr:2<=k/\k<=11) (hk:∀b,(b=true↔if k=2 then n=0\/n=1 else kW k n=true)->K b h):Xz k n h K Kp:=by
 have e:k=2\/k=3\/k=4\/k=5\/k=6\/k=7\/k=8\/k=9\/k=10\/k=11:=ag;rcases e with rfl | rfl | rfl | rfl | rfl | rfl | rfl | rfl | rfl | rfl
 all_goals apply aED
 all_goals repeat' first | (with_reducible first | refine uf ?_ | refine ug ?_ | refine cL (λc => ?_) λc => ?_)
 all_goals apply hk _
 all_goals simp_all
 all_goals (try simp[kW,dL])
 all_goals first | omega | exact absurd trivial ‹¬True›
end
def VQ(f:aq):Prop:=∀{D:aQ}{h:Hp}{s:Sl}{K:fJ}{Kp:PK},bC f->bY D h s f.cs->(∀h',az h h'->K f.lets h')->Og f.name f.au f.k f.w f.id f.ix s h K Kp
theorem aoJ(x:∀c∈f.cs,VQ c):VQ f:=by
 intro D h s K Kp i p n;have q:=(bC.self i).1;unfold Shaped at q;refine aEF (aG λb t e1 l j _=>aj j rfl (aE (λc=>?_) λc=>aBn (aj j rfl ?_)))
 ·have c:=aM c;have g:f.cs[0]? =some (f.cs[0]' ag):=bx _;have d:(f.cs[0]' ag)∈f.cs:=kE _;have el:f.lets=(f.cs[0]' ag).lets:=by
   rw[yB];unfold m9;rw[aI ⟨c,by rw[cm];omega⟩,gL,fh,g];rfl
  generalize f.cs[0]' ag=c0 at g d el;refine aj j rfl ((p.gr l).ix rfl g λa u w o=>gK w (x c0 d (bC.aL i d) o λr v=>?_));rw[<-el];exact n r (ak l v)
 ·have c:=aM c;have el:f.lets=(f.au&&decide (f.k≠18)):=by rw[yB];unfold m9;rw[aC λz=>c z.1]
  have:=n t l;rw[el]at this;refine aE (λm=>aj j rfl ?_) λm=>?_
  ·rw[m,Ah]at this;have e:(f.k !=18)=decide (f.k≠18):=by rw[ke];simp
   rw[e];exact this
  ·rw[m,D8]at this;exact this
theorem aaf:∀f:aq,VQ f
 |.mk a b k w i x cs=>aoJ (f:=.mk a b k w i x cs) λc(_:c∈cs)=>aaf c
theorem aoL{c:Int}{K:fJ}(hk:∀b,(b=true↔(yT c\/sL c))->K b h):X0 c h K Kp:=by
 apply aFz;unfold yT sL at hk
 repeat' first|(with_reducible first|refine aCj ?_|refine aCi ?_|refine aCh ?_|refine uf ?_|refine ug ?_|refine cL (λc=>?_) λc=>?_)
 all_goals apply hk _
 all_goals simp_all
 all_goals omega
theorem aoK{s:ff}{K:fJ}{t:PK}(I:s.size<=9223372036854775807)(w:∀b,(b=true↔EA s)->K b h):Ya s h K t:=by
 have p:¬EA s->K false h:=λn=>w false ⟨aA,λx=>(n x).elim⟩
 have loop:1<=s.size->s.size<=48->(∀b:UInt8,s[0]? =some b->¬sL (b.toNat:Int))->Iw K t s h:=by
  intro D C B;refine aCz (aAd (λx F=>F=h/\∃i:Nat,x=i/\i<=s.size/\∀j b,j<i->s[j]? =some b->EU j (b.toNat:Int)) (λx _=>s.size-x.toNat) ⟨rfl,0,rfl,ag,λj b E=>ag⟩ ?_)
  rintro x L ⟨rfl,i,rfl,J,g⟩ M hN;refine cL (λf=>?_) λf=>?_
  ·have u:i<s.size:=ag;have a:=getElem?_pos s i u;generalize s[i]=b at a;refine⟨b,ag,by rw[fR];exact a,aoL λr v=>aE (λl=>?_) λl=>?_⟩
   ·have l:=aM l;subst l;refine p λq=>?_;have:=q.2.2 i b a;have z:¬(yT _\/sL _):=λz=>by simpa using v.2 z
    exact z (this.imp id And.left)
   ·have l:=aM l;subst l;refine aW ag ag (hN _ _ ⟨rfl,i+1,aA,ag,λj A E d=>?_⟩ ag)
    by_cases e:j=i
    ·subst e;rw[a]at d;cases d;rcases v.1 rfl with q|q
     ·exact .inl q
     ·refine .inr ⟨q,λe0=>?_⟩;subst e0;exact B b a q
    ·exact g j A ag d
  ·refine w true ⟨λ_=>⟨D,C,λj b a=>?_⟩,λ_=>rfl⟩;have:j<s.size:=by
    rcases Nat.lt_or_ge j s.size with h|h
    ·exact h
    ·simp_all
   exact g j b ag a
 refine aFP (aE (λc=>?_) λc=>aiF (aE (λf=>?_) λf=>?_))
 ·have c:=aM c;exact aiF (bO rfl (p λq=>by have:=q.1;omega))
 ·have f:=aM f;exact p λq=>by have:=q.2.1;omega
 ·simp only[sm,reduceCtorEq]at c f;have a:=getElem?_pos s 0 ag;generalize s[0]=b at a;have ix:∀{K:Int->Prop},K b.toNat->hY s 0 K:=λk=>⟨b,ag,a,k⟩
  have o:sL (b.toNat:Int)->K false h:=λz=>p λq=>by
   rcases q.2.2 0 b a with y|y
   ·grind[yT,sL]
   ·exact y.2 rfl
  have m:¬sL _->Iw K t s h:=λz=>loop ag ag λA d=>by rw[a]at d;cases d;exact z
  grind[sL,aE,sm]
theorem aox{k w id ix:Int}{K:fJ}(hk:∀b h',az h h'->(b=true↔Shaped k w id ix s.n)->K b h'):X9 k w id ix s h K Kp:=by
 refine aFO (aG λb1 h1 e1 g1 k1 _=>?_);have hk:=λb=>hk b h1 g1;have last:∀{lo hi:Int}{wb ib xb:Bool},(∀b:Bool,(b=true↔(1<=k/\k<=20)/\wb=true/\ib=true/\xb=true/\lo<=s.n/\(s.n:Int)<=hi)->K b h1)->ue K Kp (aJ b1) lo hi wb ib xb h1:=by
  intro lo hi wb ib xb q;refine aCy (aj k1 rfl (aj k1 rfl ?_));cases wb <;> cases ib <;> cases xb <;> repeat' first|(with_reducible first|refine aCx ?_|refine aCw ?_|refine aCv ?_|refine aCu ?_|refine aCt ?_|refine uf ?_|refine ug ?_|refine cL (λc=>?_) λc=>?_)|refine aj k1 rfl ?_
  all_goals apply q _
  all_goals simp_all
  all_goals try omega
 unfold Shaped at hk;refine aj k1 rfl (aj k1 rfl (aj k1 rfl (aj k1 rfl ?_)))
 repeat' first|(with_reducible first|refine aCs ?_|refine aCr ?_|refine uf ?_|refine ug ?_|refine cL (λc=>?_) λc=>?_)|refine aj k1 rfl ?_
 all_goals refine last λb hb=>hk b (hb.trans ?_)
 all_goals simp only[sm,reduceCtorEq]at*
 all_goals simp[false_and];omega
 all_goals omega
theorem aoI{n:ff}{au:Bool}{k w id ix:Int}{cs:cC}{H:Hp}{K:fJ}{x:PK}(g:az H h)(p:cH H s cs)(t:k=20->cs.length=1)(d:∀b m,az h m->(b=true↔At k au cs)->K b m):X8 n au k w id ix s h K x:=by
 refine aFN (aG λy r e1 o j _=>?_);have d:=λb=>d b r o;unfold At at d;simp only[bw,Nat.reduceAdd];refine aj j rfl (aE (λc=>?_) λc=>aE (λi=>?_) λi=>aE (λe=>?_) λe=>?_)
 ·have c:=aM c;subst c;refine aj j rfl (d _ ?_);simp
 ·have i:=aM i;subst i;refine aj j rfl (d _ ?_);simp
 ·have e:=aM e;subst e;have l:cs[0]? =some cs[0]:=by simp_all
  refine aj j rfl (aj j rfl ?_);generalize cs[0]=f at l;refine p.ix rfl l λa q=>?_;obtain⟨u,_,_,v,_⟩:=q.cells;refine⟨_,(ak g o).cell v,d _ ?_⟩;simp[l]
 ·simp only[sm,reduceCtorEq]at c i e;apply d _;simp[c,i,e]
def Pl.row(x:Pl)(sp sf sa:Sl):List Value:=[Sl.v sp,.string x.f.name,.bool x.f.au,ah x.f.k,ah x.f.w,ah x.f.id,ah x.f.ix,Sl.v sf,Sl.v sa,.bool x.ins]
def VX(h0:Hp)(x:Pl)(sp sf sa:Sl):Prop:=sp.n=x.deep/\sp.n<=sp.c/\cH h0 sf x.f.cs/\cH h0 sa x.ahead/\x.f.gh/\x.ahead.length<=jP
structure mE(lo:Nat)(h0 h:Hp)(s:Sl)(xs:List Pl):Prop where
 r:∃rows,eT lo 10 h s rows HZ/\rows.length=xs.length/\∀(i:Nat)x,xs[i]? =some x->∃sp sf sa,rows[i]? =some (x.row sp sf sa)/\VX h0 x sp sf sa
section
variable {h':Hp} {xs:List Pl}
theorem mE.n(o:mE lo h0 h s xs):s.n=xs.length:=by
 obtain⟨rows,r,l,_⟩:=o.r;rw[<-l];exact r.n
theorem mE.at(o:mE lo h0 h s xs){c:Nat}(z:s.at c):lo<=c/\c<h.size:=by
 obtain⟨rows,r,_⟩:=o.r;exact r.at z
theorem mE.fr{S:aQ}(o:mE lo h0 h s xs)(f:Tn S h h')(z:∀c,s.at c->¬S c):mE lo h0 h' s xs:=by
 obtain⟨rows,r,l,q⟩:=o.r;refine⟨rows,⟨r.len,r.n,?_⟩,l,q⟩;rcases r.sh with e|⟨b,d,b2,a⟩
 ·exact .inl e
 ·exact .inr ⟨b,d,by have:=f.1;omega,a.fr f (z b ⟨_,a.1,rfl⟩)⟩
theorem mE.ai(o:mE lo h0 h s xs)(g:az h h'):mE lo h0 h' s xs:=o.fr (bh g) λ_ _=>id
theorem mE.ix(o:mE lo h0 h s xs){x:Int}{i:Nat}(B:x=i){p:Pl}(z:xs[i]? =some p){K:Addr->Prop}(C:∀a sp c g,Cs h a (p.row sp c g)->VX h0 p sp c g->K a):Ix s.a s.n 10 x K:=by
 obtain⟨rows,r,l,q⟩:=o.r;have f:=(cU.1 z).1;obtain⟨sp,c,g,e,ok⟩:=q i p z;rcases r.cases with⟨_,e0⟩|⟨b,_,d⟩
 ·grind
 ·exact d.ix B ag (C _ sp c g (d.cs e) ok)
theorem mE.Pj(o:mE lo h0 h s xs){i:Nat}(w:i<=xs.length){K:Sl->Prop}(g:∀t,(∀c,t.at c->s.at c)->t.n=i->(∀(j:Nat)p,j<i->xs[j]? =some p->∀{K:Addr->Prop},(∀a sp d f,Cs h a (p.row sp d f)->VX h0 p sp d f->K a)->Ix t.a t.n 10 (j:Int) K)->K t):jA s 10 none (some (i:Int)) none K:=by
 have u:=o.n;obtain⟨rows,r,l,q⟩:=id o.r;have y:=r.cap;refine⟨aA,aA,by simp;omega,aA,?_⟩
 simp only[tT,oI,L4,fR];have m:me s.a 0 s.c 10=s.a:=by
  unfold me;split
  ·rfl
  ·simp[add_zero']
 rw[m];refine g _ (λc h=>h) rfl λj p v b K k=>?_;have:=o.ix rfl b k;unfold Ix at this ⊢;grind
end
def NJ(h0:Hp)(lo:Nat)(cs:cC):Prop:=∀{h:Hp}{sl sp so:Sl}{x:Bool}{xs:List Pl}{vs:bg}{d:Nat}{K:Sl->HP}{Kp:PK},cH h0 sl cs->cs.length<=jP->ia cs->az h0 h->h0.size<=lo->lo<=h.size->Sv h sp vs->(sp.a≠none\/vs=[])->(∀v∈vs,one v=true)->
 sp.n=d->d<=64->(∀c,sp.at c->c<h.size/\¬so.at c)->mE lo h0 h so xs->xs.length<=257->(∀s' h',Tn so.at h h'->(∀c,s'.at c->so.at c\/h.size<=c)->mE lo h0 h' s' ((xs++dY (d+1) [] x cs).take 257)->K s' h')->EP sl sp x so h K Kp
theorem apo{a:cC}{d:Nat}{B:Bool}:dY d [] B (a++[f])=dY d [] B a++f.places d a B:=by
 rw[JO,Ai];simp only[dY,oH]
theorem acL{cs:cC}(IH:∀f∈cs,NJ h0 lo f.cs):NJ h0 lo cs:=by
 intro h sl sp I x xs vs d K Kp hf hl n' g p' u' hp o' G hd q' m o hx hk;have sn:=hf.n;have s':jP=9223372036854775807:=rfl;have e':∀c,I.at c->h0.size<=c:=λc q=>by have:=(o.at q).1;omega
 refine aF3 (aAi (λc i h'=>∃j:Nat,i=j/\j<=cs.length/\Tn I.at h h'/\(∀b,c.at b->I.at b\/h.size<=b)/\mE lo h0 h' c ((xs++dY (d+1) [] x (cs.take j)).take 257)) (λ_ i _=>cs.length-i.toNat) ⟨0,rfl,dN _,iX _ _,λb q=>.inl q,by
  simp only[HQ,dY];grind[List.take_of_length_le]⟩ ?_)
 rintro c i P ⟨j,rfl,hj,M,V,E⟩ N hN;have s1:=M.1;have g1:az h0 P:=((bh g:Tn No h0 h).trans' M λc q l=>by have:=e' c q;omega).ai
 refine cL (λU=>?_) λU=>?_;rotate_left
 ·obtain rfl:j=cs.length:=ag;rw[mz]at E;exact hk c P M V E
 have l:j<cs.length:=ag;have hc:=bx l;have D:=kE l;have f':=kg l;generalize cs[j]=f at hc D f';have B:=ia.get n' f D;have next:dY (d+1) [] x (cs.take (j+1))=dY (d+1) [] x (cs.take j)++f.places (d+1) (cs.take j) x:=by rw[f',apo]
 refine hf.ix rfl hc λa ha=>?_;obtain⟨u,cu,hu⟩:=ha.row;refine gK (cu.ai g1) (aG λb2 h2 e2 g2 k2 _=>oD k2 rfl λh3 o3 k3=>?_);have T:=bE g2 o3 ag;have s3:=T.1;have cn:=E.n;refine aE (λZ=>?_) λZ=>?_
 ·have Z:=aM Z;have j':257<=(xs++dY (d+1) [] x (cs.take j)).length:=by rw[kP]at cn;omega
  apply hk c h3 (M.trans (bh T)) V;have e:(xs++dY (d+1) [] x cs).take 257=(xs++dY (d+1) [] x (cs.take j)).take 257:=by
   have e2:dY (d+1) [] x cs=dY (d+1) [] x (cs.take j)++dY (d+1) ([]++cs.take j) x (cs.drop j):=by rw[<-JO,Eg]
   rw[e2,<-q9,UQ j']
  rw[e];exact E.ai T
 have Z:=aM Z;have lG:(xs++dY (d+1) [] x (cs.take j)).length<=256:=by rw[kP]at cn;omega
 rw[qu ag]at E;have v':∀b,sp.at b->b<h.size/\¬c.at b:=λb q=>⟨(m b q).1,λz=>by
  rcases V b z with y|y
  ·exact(m b q).2 y
  ·have:=(m b q).1;omega⟩
 have m':=hp.fr M λa e z=>(m a.block ⟨a,e,rfl⟩).2 z;refine aW ag ag (EB ag ag ag λt h4 g4 ow t'=>?_);have l':=m'.ai (ak T g4);have b':t.n=d+1:=by have:=ow.2.1;simp at this;omega
 obtain⟨R,w2,wc,w3,w4,w5,w6⟩:=ow;have pl:=hp.1
 -- r' a'
 have a':∀{X:HP},(∀F,az h3 F->F.size=h4.size->Sv F t (vs++[ah (j:Int)])->X F)->AJ h4 t.a (rd h4 sp.a (Nat.min sp.n t.n*1)) λh5=>Ix t.a t.n 1 (sp.n:Int) λp=>St h5 p (ah (j:Int)) X:=by
  intro X hX;have mn:Nat.min sp.n t.n*1=sp.n*1:=by rw[show Nat.min sp.n t.n=sp.n from Ad ag]
  rw[mn];refine⟨vs,l'.A7 o',?_⟩;rw[R];have i':=G;refine wW vs w3 ag i' λh5 w' o5 k5 l5 q5=>⟨ag,ag,?_⟩
  rw[bw];simp only[cz,fR,u7];refine dc k5 ag rfl λF o6 k6=>?_;have Q:=bE (bE g4 o5 ag) o6 ag;refine hX F Q (by have:=o5.1;have:=o6.1;omega) ⟨by simp;omega,ag,λy J=>⟨_,R,λi v A=>?_⟩⟩
  rw[bw,gW k6,vg];simp only[cz]
  by_cases e:sp.n=i
  ·subst e;rw[aI rfl,dR];rw[gm ag]at A;rw[show sp.n-vs.length=0 by omega]at A
   exact A
  ·rw[aC e,q5 i];have:i<(vs++[ah (j:Int)]).length:=(cU.1 A).1;simp at this;rw[dR];rw[iQ ag]at A
   simpa using A
 refine a' λF Q z6 k'=>dZ (k3.ai Q) ?_;have ea:me sl.a 0 sl.c 7=sl.a:=by
  unfold me;split
  ·rfl
  ·cases sl.a with
   |none=>rfl
   |some a=>simp[add_zero']
 refine⟨aA,aA,by simp;omega,aA,?_⟩
 simp only[tT,oI,L4,fR,Ma,ea];have hq:cH h0 ⟨sl.a,j,sl.c⟩ (cs.take j):=hf.take hj rfl rfl rfl;generalize(⟨sl.a,j,sl.c⟩:Sl)=q at hq;refine aG λb7 h7 e7 g7 k7 _=>?_;have G7:=ak (ak T Q) g7;obtain⟨rows,r1,rl,rq⟩:=(E.ai G7).r;refine r1.ap ag rfl (new:=[Pl.row ⟨d+1,cs.take j,f,x⟩ t u q]) rfl (by intro r S;simp at S;subst S;rfl) (by intro r S v A;simp at S;subst S;simp[Pl.row]at A;rcases A with rfl|rfl|rfl|rfl|rfl|rfl|rfl|rfl|rfl|rfl <;> rfl)
  (by simp only[U5,List.flatten_nil,oH];exact iM k7 rfl) ag ag λc' h8 f8 g' r8=>?_
 have s8:=f8.1;have o8:mE lo h0 h8 c' (xs++dY (d+1) [] x (cs.take j)++[⟨d+1,cs.take j,f,x⟩]):=by
  refine⟨_,r8,by simp only[ij,jw]at rl ⊢;omega,λi y J=>?_⟩
  by_cases e:i<(xs++dY (d+1) [] x (cs.take j)).length
  ·rw[iQ e]at J;rw[iQ ag];exact rq i y J
  ·have hi:=(cU.1 J).1;rw[ij,jw]at hi;rw[gm ag,show i-(xs++dY (d+1) [] x (cs.take j)).length=0 by omega]at J
   simp at J;subst J;refine⟨t,u,q,by rw[gm ag,show i-rows.length=0 by omega];rfl,b',ag,hu,hq,B,?_⟩
   show(cs.take j).length<=jP
   rw[kP];omega
 have C:∀b,c.at b->b<P.size:=λb z=>(E.at z).2;have t8:=(M.trans (bh G7)).trans' f8 λb z l=>(V b z).elim id λy=>ag
 have L:∀b,c'.at b->I.at b\/h.size<=b:=λb z=>(g' b z).elim (V b) λy=>.inr ag;have k8:=f8.aZ (k3.ai (ak Q g7)) (by intro z;have:=C b2 z;omega)
 have step:∀{W:Sl}{O:Hp},Tn I.at h O->(∀b,W.at b->I.at b\/h.size<=b)->mE lo h0 O W ((xs++dY (d+1) [] x (cs.take (j+1))).take 257)->aO ((j:Int)+1) λi=>N (Bh sl sp x sl (sl.n:Int) W i) O:=λt9 a9 o9=>
  aW ag ag (hN _ _ _ ⟨j+1,ag,ag,t9,a9,o9⟩ ag)
 have d':f.places (d+1) (cs.take j) x=⟨d+1,cs.take j,f,x⟩::(if d+1<65 then dY (d+1+1) [] (x||f.k==19) f.cs else[]):=by
  obtain⟨nm,au,k,w,id,ix,ds⟩:=f;simp only[aq.places,aq.k,aq.cs]
 refine cL (λY=>?_) λY=>?_;rotate_left
 ·apply step t8 L;rw[next,d',ay,<-q9,qu (by simp at lG ⊢;omega)]
  exact o8
 have H:∀{y:Bool},y=(x||f.k==19)->EP u t y c' h8 (λW O=>aO ((j:Int)+1) λi=>N (Bh sl sp x sl (sl.n:Int) W i) O) Kp:=by
  rintro y rfl;refine IH f D hu (by obtain⟨nm,au,k,w,id,ix,ds⟩:=f;unfold aq.gh at B;exact B.2.1) (by obtain⟨nm,au,k,w,id,ix,ds⟩:=f;unfold aq.gh at B;exact B.2.2)
   (((bh g:Tn No h0 h).trans' t8 λb z l=>by have:=e' b z;omega).ai) p' ag (((k'.ai g7).fr f8 λa e z=>by rw[R]at e;cases e;have:=C _ z;simp at this;omega)) (.inl (by rw[R];simp))
   (by intro v A;rcases nt.1 A with z|z;exact G v z;simp at z;subst z;rfl) b' ag (λb z=>?_) o8 (by simp at lG ⊢;omega) λs9 O t9 a9 o9=>?_
  ·obtain⟨a,e,rfl⟩:=z;rw[R]at e;cases e;refine⟨by simp only;omega,λz=>?_⟩
   rcases g' _ z with y|y
   ·have:=C _ y;simp at this;omega
   ·simp at y;omega
  ·refine step (t8.trans' t9 λb z l=>(L b z).elim id λy=>ag) (λb z=>(a9 b z).elim (L b) λy=>.inr (by have:=t8.1;omega)) ?_
   rw[next,d',dR];have e:xs++(dY (d+1) [] x (cs.take j)++(⟨d+1,cs.take j,f,x⟩::dY (d+1+1) [] (x||f.k==19) f.cs))=xs++dY (d+1) [] x (cs.take j)++[⟨d+1,cs.take j,f,x⟩]++dY (d+1+1) [] (x||f.k==19) f.cs:=aA
   rw[e];exact o9
 refine aj k8 rfl (aE (λcx=>?_) λcx=>aj k8 rfl ?_)
 ·exact H (by rw[cx];rfl)
 ·exact H (by rw[cx];rfl)
theorem acM:∀f:aq,NJ h0 lo f.cs
 |.mk _ _ _ _ _ _ cs=>acL (cs:=cs) λf _=>acM f
theorem atQ(cs:cC):NJ h0 lo cs:=acL λf _=>acM f
theorem uQ{b n:Nat}{cs:Array Value}{vs:bg}(k:aN h b cs el)(c:∀(i:Nat)v,vs[i]? =some v->cs[n+i]? =some v):Cs h ⟨b,n,none⟩ vs:=λi v q=>by
 rw[bw,gW k];exact c i v q
theorem ab3{w:Int}{l:List Pl}:∀{b:List Int},w∈kY b l↔w∈b\/∃y∈l,y.f.k=19/\y.f.id=w:=by
  induction l with
  |nil=>intro b;simp[kY]
  | cons x xs c=>
    intro b;simp only[kY,c,xF,mB,exists_eq_or_imp];split
    · rename_i e
      simp only[nt,mA,e,true_and,or_assoc,eq_comm (a:=w)]
    · rename_i e
      simp only[e,false_and,false_or]
section
variable {xs:List Pl} {x:Pl}
theorem aoc{a:Int}{K:cJ}(o:mE lo h0 h s xs)(g:az h0 h)(hx:a=i)(hp:xs[i]? =some x)(hl:xs.length<=257)(hk:∀c F,az h F->(c=0↔Ar i (kY [] (xs.take i)) x)->K c F):Yj s a h K Kp:=by
 subst hx;have o':jP=9223372036854775807:=rfl;have r':=(cU.1 hp).1;have d:∀{c:Int}{F:Hp},az h F->c≠0->¬Ar i (kY [] (xs.take i)) x->K c F:=λg' c0 n=>hk _ _ g' ⟨λe=>absurd e c0,λe=>absurd e n⟩;refine aF2 (o.ix rfl hp λa sp sf sa cs ok=>?_);have⟨p1,p2,p3,p4,p5,p6⟩:=ok;have q':x.f.name.size<=jP:=by have⟨_,_,f,_⟩:=x;have⟨nm,au,k,w,id,ix,ds⟩:=f;simp only[aq.gh]at p5;exact p5.1
 refine EC.c cs (aG λb1 h1 e1 g1 k1 _=>yO.b k1 rfl λh2 o2 C=>gK (uQ C (vs:=[.string x.f.name,.bool x.f.au,.int .i64 x.f.k,.int .i64 x.f.w,.int .i64 x.f.id,.int .i64 x.f.ix,Sl.v sf]) λi v W=>?_) ?_)
 ·rcases i with _|_|_|_|_|_|_|i <;> simp at W⊢ <;> exact W
 have g2:=bE g1 o2 ag;refine aG λb3 h3 e3 g3 k3 _=>oD k3 rfl λh4 o4 l=>?_;have g4:=bE g3 o4 ag;have G4:=ak g2 g4;have C:=C.ai g4;refine aj C rfl (aE (λc=>?_) λc=>aE (λc2=>?_) λc2=>?_)
 ·have c:=aM c;exact d G4 aY λq=>by have:=q.1;omega
 ·have c2:=aM c2;exact d G4 aY λq=>by have:=q.2.1;omega
 simp only[sm,reduceCtorEq]at c c2;refine aj l rfl (aoK ag λb I=>aE (λQ=>?_) λQ=>aj C rfl ?_)
 ·have Q:=aM Q;subst Q;exact d G4 aY λq=>by have:=I.2 q.2.2.1;cases this
 have Q:=aM Q;subst Q;have q3:=I.1 rfl;have an:=p4.n;apply aAg (λy F=>∃j:Nat,y=j/\j<=x.ahead.length/\az h4 F/\∀g∈x.ahead.take j,g.name≠x.f.name) (λy _=>x.ahead.length-y.toNat) ⟨0,rfl,dN _,cK _,λg hg=>by simp at hg⟩
 rintro y h5 ⟨j,rfl,hj,g5,m⟩ N hN;have G5:=ak G4 g5;have C:=C.ai g5;have l:=l.ai g5;refine aE (λY=>?_) λY=>?_
 ·have Y:=aM Y;have A:j<x.ahead.length:=ag;have U:=bx A;have D:=kg A;have L:=kE A;generalize x.ahead[j]=f at U D L;refine p4.ix rfl U λa2 S=>?_;have⟨u,cu,hu⟩:=S.row;refine gK (cu.ai (ak g G5)) (aG λb6 h6 e6 O k6 _=>oD k6 rfl λV o7 k7=>?_);have J:=bE O o7 ag;refine aj k7 rfl (aj (l.ai J) rfl (aE (λr=>?_) λr=>?_))
  ·rw[BT]at r;exact d (ak G5 J) aY λq=>q.2.2.2.1 f L r
  ·rw[U1,ne_eq,BT]at r;refine aW ag ag (hN _ _ ⟨j+1,by omega,by omega,ak g5 J,λg' b'=>?_⟩ ag)
   rw[D]at b';rcases nt.1 b' with z|z
   ·exact m g' z
   ·simp at z;subst z;exact r
 have Y:=aM Y;obtain rfl:j=x.ahead.length:=ag;rw[mz]at m;refine aCK (nk (uQ l (vs:=[.int .i64 x.f.k,.int .i64 x.f.w,.int .i64 x.f.id,.int .i64 x.f.ix,Sl.v sf]) λi v W=>?_) (aox λb h6 O I=>aE (λr=>?_) λr=>?_))
 ·rcases i with _|_|_|_|_|i <;> simp at W⊢ <;> exact W
 ·have r:=aM r;subst r;exact d (ak G5 O) aY λq=>by have:=I.2 (by rw[p3.n.1];exact q.2.2.2.2.1);cases this
 have r:=aM r;subst r;have q5:Shaped x.f.k x.f.w x.f.id x.f.ix x.f.cs.length:=by have:=I.1 rfl;rwa [p3.n.1]at this
 have G6:=ak G5 O;have l:=l.ai O;have C:=C.ai O;have f':=q5;unfold Shaped at f';refine dZ l (aoI (ak g G6) p3 (λe=>by omega) λb V J c'=>aE (λP=>?_) λP=>?_)
 ·have P:=aM P;subst P;exact d (ak G6 J) aY λq=>by have:=c'.2 q.2.2.2.2.2.1;cases this
 have P:=aM P;subst P;have q6:=c'.1 rfl;have R:=ak G6 J;have l:=l.ai J;have C:=C.ai J;have two:¬(x.ins=true/\(x.f.k=19\/x.f.k=20))->Ny K Kp s i (aJ b3) V:=by
  intro q7;refine aCJ (aj l rfl (aE (λc8=>aj l rfl ?_) λc8=>?_));rotate_left
  ·have c8:=aM c8;exact hk 0 V R ⟨λ_=>⟨by omega,by omega,q3,m,q5,q6,q7,λe=>absurd e c8⟩,λ_=>rfl⟩
  have c8:=aM c8;have H:x.f.cs[0]? =some x.f.cs[0]:=bx ag;generalize x.f.cs[0]=c0 at H;refine p3.ix rfl H λa2 S=>?_;have⟨u,_,_,cn,_⟩:=S.cells;refine⟨_,(ak g R).cell cn,aE (λc9=>?_) λc9=>?_⟩
  ·exact d R aY λq=>by
    have⟨c,e,z⟩:=(q.2.2.2.2.2.2.2 c8).1;rw[H]at e;cases e;rw[c9]at z;cases z
  refine(o.ai R).Pj ag λt _ tn e'=>aAh (λy F=>∃j:Nat,y=j/\j<=i/\az V F/\∀p∈xs.take j,¬(p.f.k=19/\p.f.id=x.f.id)) (λy _=>i-y.toNat) ⟨0,rfl,dN _,cK _,λp hp=>by simp at hp⟩ ?_
  rintro y h8 ⟨j,rfl,hj,X,a'⟩ N hN;refine aE (λE=>?_) λE=>?_
  ·have E:=aM E;have A:j<xs.length:=ag;have U:=bx A;have D:=kg A;generalize xs[j]=p at U D;refine e' j p ag U λa3 k' l' m' j' n'=>EC.c (j'.ai X) (aG λb9 h9 e9 g9 k9 _=>yO.b k9 rfl λd' i' Z=>?_);have T:=bE g9 i' ag;have step:¬(p.f.k=19/\p.f.id=x.f.id)->aO ((j:Int)+1) λc=>N (F2 (aJ b3) t (t.n:Int) c) d':=λz=>
    aW ag ag (hN _ _ ⟨j+1,by omega,by omega,ak X T,λp' G=>by
     rw[D]at G;rcases nt.1 G with y|y
     ·exact a' p' y
     ·simp at y;subst y;exact z⟩ ag)
   refine aj Z rfl (aE (λB=>aj Z rfl (aj (l.ai (ak X T)) rfl (aE (λsu=>?_) λsu=>step ?_))) λB=>step ?_)
   ·simp only[sm,reduceCtorEq]at B su;refine d (ak R (ak X T)) aY λq=>(q.2.2.2.2.2.2.2 c8).2 (ab3.2 (.inr ⟨p,?_,B,su⟩));exact bL (i:=j) (by rw[US,aI ag];exact U)
   ·have su:=aM su;exact λz=>su z.2
   ·have B:=aM B;exact λz=>B z.1
  ·have E:=aM E;obtain rfl:j=i:=ag;refine hk 0 h8 (ak R X) ⟨λ_=>⟨by omega,by omega,q3,m,q5,q6,q7,λe=>⟨⟨c0,H,c9⟩,λz=>?_⟩⟩,λ_=>rfl⟩
   rcases ab3.1 z with z|⟨p,G,z⟩
   ·simp at z
   ·exact a' p G z
 have M:∀{b:Bool},(b=true↔x.f.k=19\/x.f.k=20)->Nx K Kp s i ⟨b1,0,none⟩ ⟨b3,0,none⟩ b V:=by
  intro b I;refine aCI (aE (λc8=>aj C rfl (aE (λc9=>?_) λc9=>two λq=>by rw[c9]at q;cases q.1)) λc8=>two λq=>by have:=I.2 q.2;rw[c8]at this;cases this)
  exact d R aY λq=>q.2.2.2.2.2.2.1 ⟨c9,I.1 c8⟩
 refine aj l rfl (aE (λc8=>M ?_) λc8=>aj l rfl (M ?_))
 ·have c8:=aM c8;simp[c8]
 ·have c8:=aM c8;simp[c8]
end
theorem aGI{xs:List Pl}:∀{n:Nat}{a:List Int},gN n a xs↔∀(i:Nat)x,xs[i]? =some x->Ar (n+i) (kY a (xs.take i)) x:=by
  induction xs with
  |nil=>intro n a;simp[gN]
  | cons y f c=>
    intro n a;simp only[gN,c];constructor
    · rintro⟨e,d⟩ i x b;rcases i with _|i
      ·simp at b;subst b;exact e
      · have:=d i x (by simpa using b)
        rw[show n+(i+1)=n+1+i by omega];exact this
    · intro q;refine⟨q 0 y rfl,λi x b=>?_⟩;have:=q (i+1) x (by simpa using b)
      rw[show n+1+i=n+(i+1) by omega];exact this
theorem aGH{xs:List Pl}:gN 0 [] (xs.take 257)↔gN 0 [] xs:=by
 by_cases h:xs.length<=257
 ·rw[qu h]
 ·constructor
  ·intro q;have:=YA q ag;rw[kP]at this;omega
  ·intro q;have:=YA q ag;omega
section
variable {K:Int->Sl->Int->HP}
theorem aaq{sl:Sl}{l:cC}(hf:cH h sl l)(hm:tY h t 2 (ms.map xG))(b':ia l)(X:∀e p n o,az h o->p.n<=p.c->(e=0↔vk l ms)->K e p n o):Oz sl t h K Kp:=by
 have g':jP=9223372036854775807:=rfl;have sn:=hf.n;have mn:t.n=ms.length:=by simpa using hm.1
 refine aGi (aG λa h1 e1 g1 u _=>aG λb h2 e2 Y H _=>?_);have u:=u.ai Y;have G2:=ak g1 Y;have bad:∀{e n:Int}{D:Hp},az h2 D->e≠0->¬vk l ms->dW D (aJ b) e bT n λa=>eG a (aJ b) λx y z=>K x y z a:=λg P c'=>
  mw (H.ai g) rfl λw C r=>nY r (X _ _ _ w (bE (ak G2 g) C ag) (bP _) ⟨λz=>absurd z P,λz=>absurd z c'⟩)
 refine aj u rfl (aE (λc=>?_) λc=>aj u rfl (aE (λk=>?_) λk=>aj u rfl ?_))
 ·have c:=aM c;exact bad (cK _) aY λq=>by have:=q.1;omega
 ·have k:=aM k;exact bad (cK _) aY λq=>by have:=q.2.1;omega
 simp only[sm,reduceCtorEq]at c k;apply aAu (λy o=>∃i:Nat,y=i/\i<=ms.length/\az h2 o/\∀(j:Nat)v,j<i->ms[j]? =some v->Ik v) (λy _=>ms.length-y.toNat) ⟨0,rfl,dN _,cK _,λj v hj=>by omega⟩
 rintro y o ⟨i,rfl,hi,F,f⟩ N hN;have T:=ak G2 F;refine aE (λL=>?_) λL=>?_
 ·have L:=aM L;have J:ms[i]? =some ms[i]:=bx ag;generalize ms[i]=v at J;refine hm.ix rfl J λa ha=>⟨_,T.cell (Cs.c0 ha),_,T.cell (ha 1 _ rfl),aG λd h4 e4 Q k4 _=>dc k4 aA rfl λh5 o5 k5=>dc k5 aA rfl λw C r=>?_⟩;have r:aN w d #[.string v.1,.string v.2] Vw:=by simpa using r
  have A:=bE Q (o5.trans C) ag;refine aj r rfl (aE (λS=>?_) λS=>aj r rfl (aE (λR=>?_) λR=>?_))
  ·have S:=aM S;exact bad (ak F A) aY λq=>by have:=(q.2.2.1 i v J).1;omega
  ·have R:=aM R;exact bad (ak F A) aY λq=>by have:=(q.2.2.1 i v J).2;omega
  simp only[sm,reduceCtorEq]at S R;refine aW ag ag (hN _ _ ⟨i+1,by simp,by omega,ak F A,λj' v' M G=>?_⟩ ag)
  by_cases e:j'=i
  ·subst e;rw[J]at G;cases G;exact⟨by omega,by omega⟩
  ·exact f j' v' ag G
 have L:=aM L;have d':∀(j:Nat)m,ms[j]? =some m->Ik m:=λj v G=>f j v (by have:=(cU.1 G).1;omega) G
 have u:=u.ai F;have s3:=F.1;refine aCY (aj u rfl ?_);have a':mE o.size h o Sl.nil []:=⟨[],qY _ _ _ _,rfl,λi x D=>by simp at D⟩
 refine atQ l (d:=0) hf ag b' T ag (bP _) (yF _) (.inr rfl) (by intro v hv;simp at hv) rfl ag (λc q=>absurd q (Sl.Uq c)) a' aA λs' h3 t3 _ O=>?_
 have Q:=t3.Td λd q=>absurd q (Sl.Uq d);rw[Ai]at O;have H:=H.ai (ak F Q);have Z:=ak T Q;have B:((dY 1 [] false l).take 257).length<=257:=by rw[kP];omega
 have f:gN 0 [] ((dY 1 [] false l).take 257)↔vk l ms:=by
  rw[aGH,EX];unfold vk;constructor
  ·rintro⟨V,U⟩;exact⟨by omega,by omega,d',V,U⟩
  ·rintro⟨_,_,_,V,U⟩;exact⟨V,U⟩
 generalize(dY (0+1) [] false l).take 257=xs at O B f;have f:=f;have on:=O.n;rw[aGI]at f;simp only[cz]at f;apply aAv (λy o=>∃j:Nat,y=j/\j<=xs.length/\az h3 o/\∀(i:Nat)x,i<j->xs[i]? =some x->Ar i (kY [] (xs.take i)) x) (λy _=>xs.length-y.toNat) ⟨0,rfl,dN _,cK _,λi x hi=>by omega⟩
 rintro y h4 ⟨j,rfl,hj,E,hr⟩ N2 e';have o4:=O.ai E;refine aE (λc=>?_) λc=>?_
 ·have c:=aM c;have M:j<xs.length:=ag;have I:=bx M;generalize xs[j]=x at I;refine aoc o4 (ak Z E) rfl I B λe h5 A P=>aE (λk=>?_) λk=>?_
  ·have k:=aM k;refine(o4.ai A).ix rfl I λa2 sp sf sa cs ok=>?_;have c0:=Cs.c0 cs;refine⟨sp,c0,mw ((H.ai E).ai A) rfl λw C r=>nY r (X _ _ _ w ?_ ok.2.1 ⟨λz=>absurd z k,λz=>absurd (P.2 (f.2 z j x I)) k⟩)⟩;exact bE (ak (ak Z E) A) C ag
  ·have k:=aM k;refine aW ag ag (e' _ _ ⟨j+1,by omega,by omega,ak E A,λi y hi W=>?_⟩ ag)
   by_cases e:i=j
   ·subst e;rw[I]at W;cases W;exact P.1 k
   ·exact hr i y ag W
 ·have c:=aM c;refine mw (H.ai E) rfl λw C r=>nY r (X _ _ _ w (bE (ak Z E) C ag) (bP _) ⟨λ_=>f.1 λi x D=>?_,λ_=>rfl⟩);have:=(cU.1 D).1;exact hr i x ag D
theorem aoP(R:cH h s f.cs)(A:f.gh)(B:∀e p n E,az h E->(e=0↔bC f)->K e p n E):Xc f.name f.au f.k f.w f.id f.ix s h K Kp:=by
 refine aDf (aG λa h1 e1 G P _=>aG λb h2 e2 z g _=>dZ (P.ai z) (aG λc V e3 y O _=>?_));have I:=ak (ak G z) y;have g:=g.ai y;have S:cH V ⟨some (aJ c),1,1⟩ [f]:=by
  unfold cH;refine⟨rfl,bP _,_,rfl,?_,trivial⟩;have⟨nm,au,k,w,id,ix,ds⟩:=f;unfold jR;exact⟨s,uQ O λi v Q=>by rw[cz,qZ];exact Q,R.gr I⟩
 refine aaq (ms:=[]) S ⟨rfl,bP _,λj r h=>by simp at h⟩ ⟨A,trivial⟩ λe p n U u pc C=>aG λd h5 e5 F N _=>mw N rfl λD L m=>aj m rfl ?_
 have t:=bE F L ag;have g:=g.ai u;have l2:=g.lt;have g:=g.ai t;have H:=ak (ak I u) t;refine aE (λc=>aj m rfl ?_) λc=>nY m (mw g rfl λq l o=>nY o (B _ _ _ q (bE H l ag) C));have c:=aM c;refine⟨by simp,by simp only[oI,tT];omega,by simp only[tT];omega,by simp,(dc m aA rfl λq l o=>?_)⟩
 have l:eD d D q:=l;refine nY o (mw (l.aZ g ag) rfl λT J M=>nY M (B _ _ _ T ?_ C));exact bE (bE H l ag) J ag
theorem aoz{K:fJ}(r:cH h s f.cs)(c:f.gh)(t:∀b d,az h d->(b=true↔bC f)->K b d):Xt f.name f.au f.k f.w f.id f.ix s h K Kp:=by
 refine aEv (aG λa B e1 j q _=>dZ q (aoP (r.gr j) c λe p n A y u=>aG λb z C g o _=>mw o rfl λv l m=>aj m rfl (t _ v ?_ ?_)))
 ·have:=g.1;exact ak (ak j y) (bE g l ag)
 ·rw[nv];exact u
end
def Mm(f:aq):Prop:=∀{D E:aQ}{h:Hp}{s t:Sl}{v:aB}{K:fJ}{Kp:PK},bC f->bY D h s f.cs->aR E h t v.items->v.nM->v.bq<=2^50->(∀b h',az h h'->(b=true↔f.fit v=true)->K b h')->
 AG f.name f.au f.k f.w f.id f.ix s v.au v.num (bs v.text) t h K Kp
section
variable {E:aQ} {K:fJ}
theorem xO(h:f.fit v=true):v.items.length<=4096:=by rw[eL]at h;exact DG h
theorem arj(IH:∀c∈f.cs,Mm c)(O:bC f)(f':f.k=1\/(15<=f.k/\f.k<=18))(gP:v.au=false)(ht:v.text.length=0)(hs:bY D h s f.cs)(hv:aR E h t v.items)(hr:v.nM)(hw:v.bq<=2^50)(hk:∀b H,az h H->(b=true↔f.fit v=true)->K b H):Xy f.k f.w f.id f.ix s v.au v.num (bs v.text) t h K Kp:=by
 obtain⟨h0,nS,i',W,_,_,_,T,b',g',_⟩:=O.right.1;have hn:=hv.n;have e':=hs.n;have d':=gV v;refine aEC (aG λb1 hA e1 g1 o _=>aG λb2 hB e2 g2 r _=>aj r rfl (aj (o.ai g2) rfl ?_));have L:=ak g1 g2;have o:=o.ai g2;have A:∀{H},az hB H->f.fit v≠true->K false H:=λg q=>hk false _ (ak L g) ⟨λz=>by(cases z),λz=>absurd z q⟩
 have B:=cK hB;have X:¬v.items.length<=4096->f.fit v≠true:=λq z=>q (xO z);have loop:(f.k=15\/f.k=16\/f.k=17)->v.items.length<=4096->v.num=0->(f.k=16->v.items.length=f.w.toNat)->(f.k=17->v.items.length=f.cs.length)->EG K Kp (aJ b1) (aJ b2) (t.n:Int) hB:=by
  intro C cl cn cw cc;have U:=DI C (λq=>T ag) cl gP;refine aBm (azI (λy H=>∃j:Nat,y=j/\j<=v.items.length/\az hB H/\EJ f v.items j) (λy _=>v.items.length-y.toNat) ⟨0,rfl,dN _,B,λi y hi=>ag⟩ ?_)
  rintro y h4 ⟨j,rfl,hj,I,V⟩ N hN;have o:=o.ai I;have r:=r.ai I;refine cL (λc=>?_) λc=>?_
  ·have S:v.items[j]? =some (v.items[j]' ag):=aA;generalize v.items[j]' ag=x at S;have d:=bL S;have a':=oh d;have G:∀m:Nat,m=uI f j->MJ K Kp N (aJ b1) (aJ b2) (t.n:Int) (j:Int) (m:Int) h4:=by
    intro m Y;have ml:m<f.cs.length:=by
     unfold uI at Y;split at Y
     ·omega
     ·omega
    have Z:f.cs[m]? =some (f.cs[m]' ml):=aA;have l:f.cs[m]' ml∈f.cs:=aA;generalize f.cs[m]' ml=c0 at Z l;refine aBl (aj o rfl ((hs.gr (ak L I)).ix rfl Z λp u cp hu=>gK cp (aj r rfl ((eR hv (ak L I)).ix rfl S λp2 u2 Q M=>gZ Q (IH c0 l (O.aL l) hu M (FG hr.items x d) ag λb h5 g5 hb=>aE (λa=>A (ak I g5) λq=>?_) λa=>aW ag ag (hN _ _ ⟨j+1,ag,ag,ak I g5,λi y hi F=>?_⟩ ag))))))
    ·have a:=aM a;subst a;obtain⟨c',e1,e2⟩:=(U.1 q).2.2.2.2 j x ag S;rw[<-Y,Z]at e1;cases e1;have:=hb.2 e2;cases this
    ·have a:=aM a;subst a
     by_cases e:i=j
     ·subst e;rw[S]at F;cases F;exact⟨c0,by rw[<-Y];exact Z,hb.1 rfl⟩
     ·exact V i y ag F
   refine aj o rfl (aE (λa=>G j ?_) λa=>G 0 ?_)
   ·have a:=aM a;unfold uI;simp[*]
   ·have a:=aM a;unfold uI;simp[*]
  ·obtain rfl:j=v.items.length:=ag;exact hk true h4 (ak L I) ⟨λ_=>U.2 ⟨cn,ht,cw,cc,V⟩,λ_=>rfl⟩
 have num:(f.k=15\/f.k=16\/f.k=17)->(f.k=16->v.items.length=f.w.toNat)->(f.k=17->v.items.length=f.cs.length)->v.items.length<=4096->If (v.num !=0) (K false hB) (EG K Kp (aJ b1) (aJ b2) (t.n:Int) hB):=by
  intro C cw cc cl;refine aE (λc=>A B λq=>?_) λc=>loop C cl ?_ cw cc
  ·have c:=aM c;exact c ((DI C (λq=>T ag) cl gP).1 q).1
  ·have c:=aM c;exact c
 refine aE (λc=>aE (λa=>A B (X ?_)) λa=>aj r rfl (num (.inl ?_) (λz=>?_) (λz=>?_) ?_)) λc=>aE (λa=>aj o rfl (aE (λR=>A B λq=>?_) λR=>aj r rfl (num (.inr (.inl ?_)) (λz=>?_) (λz=>?_) ?_))) λa=>
  aE (λR=>aj o rfl (aE (λJ=>A B λq=>?_) λJ=>aj r rfl (num (.inr (.inr ?_)) (λz=>?_) (λz=>?_) ?_))) λR=>aE (λJ=>?_) λJ=>A B λq=>?_
 all_goals simp only[sm,reduceCtorEq]at*
 ·omega
 ·omega
 ·omega
 ·omega
 ·omega
 ·have:=((DI (.inr (.inl a)) (λq=>T ag) (xO q) gP).1 q).2.2.1 a;omega
 ·omega
 ·omega
 ·omega
 ·omega
 ·have:=((DI (.inr (.inr R)) (λq=>T ag) (xO q) gP).1 q).2.2.2.1 R;omega
 ·omega
 ·omega
 ·omega
 ·omega
 ·refine aE (λc5=>aj r rfl (aE (λc6=>aj r rfl (aj o rfl (aE (λc7=>aj o rfl (aj r rfl ?_)) λc7=>A B λq=>?_))) λc6=>A B λq=>?_)) λc5=>A B λq=>?_
  all_goals simp only[sm,reduceCtorEq]at*
  ·have l1:v.items.length=1:=ag;have U:=DJ J ag gP;have P:f.cs[v.num.toNat]? =some (f.cs[v.num.toNat]' ag):=aA;have l:f.cs[v.num.toNat]' ag∈f.cs:=aA;have F:v.items[0]? =some (v.items[0]' ag):=aA;generalize f.cs[v.num.toNat]' ag=c0 at P l;generalize v.items[0]' ag=x at F;have d:=bL F;have a':=oh d;have e1:(f.cs.map aq.fit).getD v.num.toNat uD (v.items.getD 0 v0)=c0.fit x:=by rw[gL,fh,P,gL,F];rfl
   rw[e1]at U;refine(hs.gr L).ix ag P λp u cp hu=>gK cp (aj r rfl ((eR hv L).ix rfl F λp2 u2 Q M=>gZ Q (IH c0 l (O.aL l) hu M (FG hr.items x d) ag λb h5 g5 hb=>hk b h5 (ak L g5) (hb.trans ?_))));rw[U];exact⟨λq=>⟨ht,c6,ag,l1,q⟩,λq=>q.2.2.2.2⟩
  ·have:=(DJ J (xO q) gP).1 q;omega
  ·have:=(DJ J (xO q) gP).1 q;omega
  grind[DJ,xO]
 ·have o:f.k=1:=ag;simp_all[eL,fD,aC,ag]
theorem aoO(IH:∀c∈f.cs,Mm c):Mm f:=by
 intro D E h s t v K Kp O hs hv hr hw hk;obtain⟨h0,nS,a',g',_,_,_,Z,f',e',_⟩:=O.right.1;have hn:=hv.n;have d':=gV v;refine aEL (aG λb1 hA e1 g1 X _=>aG λb2 hB e2 g2 o _=>nk (A6 (X.ai g2)) (aG λb3 hC e3 g3 G _=>pE G rfl λH o3 G=>?_));have g4:=bE g3 o3 ag;have V:=ak (ak g1 g2) g4;have X:=(X.ai g2).ai g4;have o:=o.ai g4;have fin:∀{b h'},az H h'->(b=true↔f.fit v=true)->K b h':=λg q=>hk _ _ (ak V g) q;have N:=cK H;have B:f.fit v=fD f.k f.w f.lets (f.cs.map aq.fit) v:=by rw[eL]
 have S:((bs v.text).toList==(bs []).toList)=decide (v.text.length=0):=by
  rw[BU,ke];simp[jv]
 have L:((t.n:Int)==0)=decide (v.items.length=0):=by rw[ke];simp[hn.1]
 have n0:((v.num:Int)==0)=decide (v.num=0):=by rw[ke];simp
 refine aj o rfl (aE (λc=>?_) λc=>aBI (aj G rfl (aoH (aE (λJ=>?_) λJ=>?_))))
 ·have C:f.fit v=true↔f.lets=true/\v.num=0/\v.text.length=0/\v.items.length=0:=by
   rw[B];unfold fD;rw[aI c];simp only[dm,dQ];exact⟨λq=>⟨q.2.2,q.2.1.1.1,q.2.1.1.2,q.2.1.2⟩,λq=>⟨ag,⟨⟨q.2.1,q.2.2.1⟩,q.2.2.2⟩,q.1⟩⟩
  refine dZ X (aaf f O (hs.gr V) λY R=>?_);have o:=o.ai R;have j6:∀b,(b=true↔f.lets=true/\v.num=0)->MS K Kp (aJ b2) b Y:=by
   intro b r;have j7:∀b,(b=true↔f.lets=true/\v.num=0/\v.text.length=0)->MR K Kp (aJ b2) b Y:=by
    intro b r;refine aBC (aE (λc=>aj o rfl (fin R ?_)) λc=>fin R ?_)
    ·rw[L,C,dQ];have:=r.1 c;exact⟨λq=>⟨this.1,this.2.1,this.2.2,q⟩,λq=>q.2.2.2⟩
    ·rw[C];exact⟨λq=>(by cases q),λq=>by rw[r.2 ⟨q.1,q.2.1,q.2.2.1⟩]at c;cases c⟩
   refine aBD (aE (λc=>aj o rfl (j7 _ ?_)) λc=>j7 _ ?_)
   ·rw[S,dQ];have:=r.1 c;exact⟨λq=>⟨this.1,this.2,q⟩,λq=>q.2.2⟩
   ·exact⟨λq=>(by cases q),λq=>by rw[r.2 ⟨q.1,q.2.1⟩]at c;cases c⟩
  refine aE (λJ=>aj o rfl (j6 _ ?_)) λJ=>j6 _ ?_
  all_goals simp[*]
 ·have J:=aM J;have C:f.fit v=true↔(if f.k=2 then v.num=0\/v.num=1 else kW f.k v.num=true)/\v.text.length=0/\v.items.length=0:=by
   rw[B];unfold fD;rw[aC (by simp[c]),ay,ay,ay,ay,ay,ay]
   by_cases e:f.k=2
   ·rw[aI e,aI e];simp only[dm,dQ];exact⟨λq=>⟨q.2.2.2,q.2.1,q.2.2.1⟩,λq=>⟨ag,q.2.1,q.2.2,q.1⟩⟩
   ·rw[aC e,aC e];simp only[dm,dQ];exact⟨λq=>⟨q.2.2.2.2,q.2.1,q.2.2.1⟩,λq=>⟨ag,q.2.1,q.2.2,ag,q.1⟩⟩
  refine aj G rfl (aj o rfl (aoA hr.num J λb r=>?_));have j3:∀b,(b=true↔(if f.k=2 then v.num=0\/v.num=1 else kW f.k v.num=true)/\v.text.length=0)->MV K Kp (aJ b2) b H:=by
   intro b r;refine aBG (aE (λc=>aj o rfl (fin N ?_)) λc=>fin N ?_)
   ·rw[L,C,dQ];have:=r.1 c;exact⟨λq=>⟨this.1,this.2,q⟩,λq=>q.2.2⟩
   ·rw[C];exact⟨λq=>(by cases q),λq=>by rw[r.2 ⟨q.1,q.2.1⟩]at c;cases c⟩
  refine aE (λF=>aj o rfl (j3 _ ?_)) λF=>j3 _ ?_
  all_goals simp_all
 have J:=aM J;have P:f.k=12\/f.k=13\/f.k=14->(f.fit v=true↔v.num=0/\v.items.length=0/\(f.k=12->iD v.text=true)/\(f.k=14->v.text.length=f.w.toNat)):=λe=>by
  rw[B];unfold fD;rw[aC (by simp[c]),ay,ay,ay,ay,ay,aI e]
  simp only[dm,HS,dQ];constructor
  ·rintro⟨q1,q2,q3,q4,q5⟩;exact⟨q2,q3,λz=>q4.resolve_left λy=>y z,λz=>q5.resolve_left λy=>y z⟩
  ·rintro⟨q2,q3,q4,q5⟩;refine⟨ag,q2,q3,?_,?_⟩
   ·by_cases z:f.k=12
    ·exact .inr (q4 z)
    ·exact .inl z
   ·by_cases z:f.k=14
    ·exact .inr (q5 z)
    ·exact .inl z
 refine aj G rfl (aE (λF=>aj o rfl (ark (by rw[iV];omega) ?_)) λF=>aj G rfl (aE (λM=>aj o rfl (aE (λI=>aj o rfl (fin N ?_)) λI=>fin N ?_)) λM=>aj G rfl (aE (λI=>aj o rfl ?_) λI=>?_)))
 ·have F:=aM F;rw[Jh];have C:=P ag;have j4:∀b,(b=true↔iD v.text=true/\v.num=0)->MU K Kp (aJ b2) b H:=by
   intro b r;refine aBF (aE (λc=>aj o rfl (fin N ?_)) λc=>fin N ?_)
   ·rw[L,C,dQ];have:=r.1 c;exact⟨λq=>⟨this.2,q,λ_=>this.1,λz=>ag⟩,λq=>q.2.1⟩
   ·rw[C];exact⟨λq=>(by cases q),λq=>by rw[r.2 ⟨q.2.2.1 F,q.1⟩]at c;cases c⟩
  refine aE (λM=>aj o rfl (j4 _ ?_)) λM=>j4 _ ?_
  all_goals simp[*]
 ·simp_all
 ·simp_all
 ·simp only[sm,reduceCtorEq]at F M I;have C:=P ag;have j5:∀b,(b=true↔v.num=0/\v.items.length=0)->MT K Kp (aJ b2) (aJ b3) b H:=by
   intro b r;refine aBE (aE (λc=>aj o rfl (aj G rfl (fin N ?_))) λc=>fin N ?_)
   ·rw[C,nv,iV];have:=r.1 c;exact⟨λq=>⟨this.1,this.2,λz=>ag,λz=>ag⟩,λq=>by have:=q.2.2.2 I;omega⟩
   ·rw[C];exact⟨λq=>(by cases q),λq=>by rw[r.2 ⟨q.1,q.2.1⟩]at c;cases c⟩
  refine aE (λA=>aj o rfl (j5 _ ?_)) λA=>j5 _ ?_
  ·have A:=aM A;rw[L,dQ];exact⟨λq=>⟨A,q⟩,λq=>q.2⟩
  ·have A:=aM A;exact⟨λq=>(by cases q),λq=>absurd q.1 A⟩
 simp only[sm,reduceCtorEq]at F M I;have Q:f.k=19\/f.k=20->Ld H (Addr.add (aJ b3) 4) Sl.v λa=>Ix a.a a.n 7 0 λa=>bN H a λa c d e f g i=>bJ H (aJ b2) λj k l m=>AG a c d e f g i j k l m H (λa b=>K a b) Kp:=by
  intro e;have U:f.cs[0]? =some (f.cs[0]' ag):=aA
  have T:f.cs[0]' ag∈f.cs:=aA
  generalize f.cs[0]' ag=c0 at U T
  have C:=ac8 e U c;refine aj G rfl ((hs.gr V).ix rfl U λp u cp hu=>gK cp (eY o (IH c0 T (O.aL T) hu (eR hv V) hr hw λb Y R r=>fin R (r.trans ?_))));rw[C,dm,dQ];exact⟨λq=>⟨xO q,q⟩,λq=>q.2⟩
 have W:f.k≠19/\f.k≠20->MW K Kp (aJ b2) (aJ b3) H:=by
  intro e;refine aBH (aj o rfl ?_);rw[S];refine aE (λA=>yE G (eY o (arj IH O ag c ?_ (hs.gr V) (eR hv V) hr hw λb Y R r=>fin R r))) λA=>fin N ⟨λq=>(by cases q),λq=>?_⟩
  ·simpa using A
  ·have A:=aM A;refine absurd ?_ A
   by_cases b':f.k=18
   ·exact((DJ b' (xO q) c).1 q).1
   ·by_cases e1:f.k=1
    ·rw[B]at q;unfold fD at q;rw[aC (by simp[c]),ay,ay,ay,ay,ay,ay,e1]at q
     simp at q
    ·exact((DI ag (λz=>Z ag) (xO q) c).1 q).2.1
 refine aj G rfl (aE (λA=>bO A (Q ?_)) λA=>aj G rfl (aE (λc7=>Q ?_) λc7=>W ?_))
 all_goals simp only[sm,reduceCtorEq]at*
 all_goals omega
end
theorem aai:∀f:aq,Mm f
 |.mk a b k w i x cs=>aoO (f:=.mk a b k w i x cs) λc(_:c∈cs)=>aai c
theorem aoN{E:aQ}{K:fJ}(e:bC f)(o:bY D h s f.cs)(i:aR E h t v.items)(p:v.nM)(j:∀b l,az h l->(b=true↔v.bq<=4194304/\f.fit v=true)->K b l):XG f.name f.au f.k f.w f.id f.ix s v.au v.num (bs v.text) t h K Kp:=by
 refine aEU (aG λC A e1 m n _=>aG λb2 hB B d g _=>eY g (Pt v (eR i (ak m d)) ag ag λx c=>?_));have a:=ak (ak m d) c;unfold BM
 by_cases q:(v.bq:Int)<=4194304
 ·rw[aI q];refine bO dM (dZ ((n.ai d).ai c) (eY (g.ai c) (aai f e (o.gr a) (eR i a) p ag λb u y r=>j b u (ak a y) (r.trans ⟨λz=>⟨ag,z⟩,λz=>z.2⟩))))
 ·rw[aC q];exact bu aA (j false x a ⟨λz=>(by cases z),λz=>ag⟩)
theorem OS(hl:f.lets=false):f.wz=min 4194305 (if f.k=14 then 16+f.w.toNat else if f.k=16 then 16+f.w.toNat*(f.cs.map aq.wz).getD 0 0 else if f.k=17 then 16+(f.cs.map aq.wz).sum else if f.k=18 then 16+(f.cs.map aq.wz).getD 0 0 else if f.k=19\/f.k=20 then(f.cs.map aq.wz).getD 0 0 else 16):=by
 rw[Aa,hl];rfl
theorem CO(a:f.cs[0]? =some c):(f.cs.map aq.wz).getD 0 0=c.wz:=by simp_all
theorem akF(a:f.k=20)(b:f.cs[0]? =some c)(d:f.cs.length=1):f.wz=c.wz:=by
  have el:f.lets=c.lets:=by
    rw[yB];unfold m9;rw[aI ⟨a,by rw[cm];exact d⟩,gL,fh,b];rfl
  cases hl:f.lets with
  |true=>rw[E0 hl,E0 (el▸hl)]
  | false=>
    simp_all[OS,aC]
theorem Zu:∀(l:cG)(i:Nat),(l.take i).sum<=l.sum
 |[],i=>aA
 |x::l,0=>aA
 |x::l,i+1=>by have:=Zu l i;simp_all
def Es(fn:aq->Sl->Hp->(Int->HP)->PK->Prop)(f:aq):Prop:=∀{h:Hp}{s:Sl}{K:cJ}{Kp:PK},bC f->cH h s f.cs->(∀h',az h h'->K (f.wz:Int) h')->fn f s h K Kp
abbrev f320(f:aq)(s:Sl)(h:Hp)(K:cJ)(Kp:PK):Prop:=za f.name f.au f.k f.w f.id f.ix s h K Kp
abbrev f336(f:aq)(s:Sl)(h:Hp)(K:cJ)(Kp:PK):Prop:=CE f.name f.au f.k f.w f.id f.ix s 4194304 h K Kp
section
theorem ajQ(IH:∀c∈f.cs,Es f320 c):Es f320 f:=by
 intro h s K Kp fu hs hk;obtain⟨h0,nS,xU,DA,_,_,_,h1,Tc,Bv,_⟩:=fu.right.1;have ln:=sY f fu;have hn:=hs.n;refine aEH (aG λb1 hA e1 g1 k1 _=>nk (A6 k1) (aG λb2 hB e2 g2 k2 _=>pE k2 rfl λhC o2 k2=>aj (k1.ai (bE g2 o2 ag)) rfl ?_));have g3:=bE g2 o2 ag;have G3:=ak g1 g3;have cap:∀{n:Nat}{h'},az hC h'->f.wz=min 4194305 n->aS ((n:Int)>4194304) _ _:=λ{n h'}g e=>by
  have:=hk h' (ak G3 g);rw[e]at this;refine cL (λc=>?_) λc=>?_
  ·rw[Ad ag]at this;exact this
  ·rw[LS ag]at this;exact this
 refine aE (λc=>?_) λc=>?_
 ·have:=hk hC G3;grind[E0]
 have hl:=ln.trans c;have ez:=OS hl;have uH:∀{Q:Prop},f.cs.length>=1->(∀c0,f.cs[0]? =some c0->c0∈f.cs->Q)->Q:=λq r=>r _ (bx ag) (kE ag);refine aj k2 rfl (aE (λgY=>?_) λgY=>aE (λkA=>?_) λkA=>aE (λmV=>?_) λmV=>aE (λfP=>?_) λfP=>?_)
 all_goals simp only[sm,reduceCtorEq]at*
 ·have:=xU gY;rw[aI gY]at ez;refine aj k2 rfl (aW ag ag ?_);have:=cap (cK _) ez
  rwa [show(((16+f.w.toNat:Nat):Int))=16+f.w by omega]at this
 ·rw[aC gY,aI kA]at ez;refine uH (by have:=h1 ag;omega) λc0 eB gQ=>aj k2 rfl ((hs.gr G3).ix rfl eB λp hp=>?_)
  rw[CO eB]at ez;obtain⟨u,cu,hu⟩:=hp.row;have ct:=rH c0;refine gK cu (IH c0 gQ (fu.aL gQ) hu λh4 g4=>azK (λc d h'=>∃i:Nat,d=i/\(i:Int)<=f.w/\c=((16+i*c0.wz:Nat):Int)/\c<=9000000/\az hC h') (λ_ d _=>(f.w-d).toNat) ⟨0,rfl,ag,aA,ag,g4⟩ ?_)
  rintro c d h5 ⟨i,rfl,hi,rfl,hc,g5⟩ N hN;have up:f.w.toNat*c0.wz>=i*c0.wz:=pG _ ag;refine aj (k2.ai g5) rfl (aE (λc5=>aE (λc6=>aW ag ag (aW ag ag (hN _ _ _ ⟨i+1,ag,?_,?_,?_,g5⟩ ?_))) λc6=>?_) λc5=>?_)
  all_goals simp only[sm,reduceCtorEq]at*
  ·omega
  ·rw[rf];push_cast;omega
  ·omega
  ·omega
  ·have:=hk h5 (ak G3 g5);rw[ez,Ad ag]at this;exact bO cj this
  ·have:i=f.w.toNat:=ag;subst this;exact cap g5 ez
 ·rw[aC gY,aC kA,aI mV]at ez;have aIM:∀x∈f.cs.map aq.wz,x<=4194305:=by grind[rH]
  apply azJ (λc d h'=>∃i:Nat,d=i/\i<=f.cs.length/\c=((16+((f.cs.map aq.wz).take i).sum:Nat):Int)/\c<=9000000/\az hC h') (λ_ d _=>f.cs.length-d.toNat) ⟨0,rfl,dN _,aA,ag,cK _⟩
  rintro c d h5 ⟨i,rfl,hi,rfl,hc,g5⟩ N hN;have up:=Zu (f.cs.map aq.wz) i;refine aj (k2.ai g5) rfl (aE (λc5=>aE (λc6=>aBo (aj (k2.ai g5) rfl ?_)) λc6=>?_) λc5=>?_)
  all_goals simp only[sm,reduceCtorEq]at*
  ·have eW:i<f.cs.length:=ag;have eB:=bx eW;have gQ:=kE eW;have lE:(f.cs.map aq.wz).take (i+1)=(f.cs.map aq.wz).take i++[(f.cs[i]' eW).wz]:=by rw[kg (by simpa using eW)];simp
   generalize f.cs[i]' eW=c0 at eB gQ lE;have ct:=rH c0;refine(hs.gr (ak G3 g5)).ix rfl eB λp hp=>?_;obtain⟨u,cu,hu⟩:=hp.row;refine gK cu (IH c0 gQ (fu.aL gQ) hu λh6 g6=>aW ag ag (aW ag ag (hN _ _ _ ⟨i+1,ag,ag,?_,ag,ak g5 g6⟩ ag)))
   rw[lE];simp;omega
  ·have:=hk h5 (ak G3 g5);rw[ez,Ad ag]at this;exact bO cj this
  ·have:i=f.cs.length:=ag;subst this;have:=cap g5 ez
   rwa [show f.cs.map aq.wz=(f.cs.map aq.wz).take f.cs.length by rw[qu aA]]at this
 ·rw[aC gY,aC kA,aC mV,aI fP]at ez;refine uH (by have:=Bv fP;omega) λc0 eB gQ=>aj k2 rfl ((hs.gr G3).ix rfl eB λp hp=>?_)
  rw[CO eB]at ez;obtain⟨u,cu,hu⟩:=hp.row;have ct:=rH c0;refine gK cu (IH c0 gQ (fu.aL gQ) hu λh4 g4=>aW ag ag ?_);have:=cap g4 ez;grind[Int.natCast_add]
 ·rw[aC gY,aC kA,aC mV,aC fP]at ez;have Zh:f.k=19\/f.k=20->Ld hC (Addr.add (aJ b2) 4) Sl.v λa=>Ix a.a a.n 7 0 λa=>bN hC a λa b d e f g i=>za a b d e f g i hC (λa b=>K a b) Kp:=by
   intro q;rw[aI q]at ez;refine uH (by have:=h1 ag;omega) λc0 eB gQ=>aj k2 rfl ((hs.gr G3).ix rfl eB λp hp=>?_)
   rw[CO eB,LS (rH c0)]at ez;obtain⟨u,cu,hu⟩:=hp.row;refine gK cu (IH c0 gQ (fu.aL gQ) hu λh4 g4=>?_);rw[<-ez];exact hk h4 (ak G3 g4)
  refine aE (λnU=>bO nU (Zh ?_)) λnU=>aE (λzV=>Zh ?_) λzV=>?_
  all_goals simp only[sm,reduceCtorEq]at*
  ·exact .inl nU
  ·exact .inr zV
  ·rw[ay]at ez;exact cap (cK _) ez
theorem ajR(IH:∀c∈f.cs,Es f336 c):Es f336 f:=by
 intro h s K Kp fu hs hk;obtain⟨h0,nS,xU,DA,_,_,_,h1,Tc,Bv,_⟩:=fu.right.1;have ln:=sY f fu;have hn:=hs.n;refine aEu (aG λb1 hA e1 g1 k1 _=>nk (A6 k1) (aG λb2 hB e2 g2 k2 _=>pE k2 rfl λhC o2 k2=>aj (k1.ai (bE g2 o2 ag)) rfl ?_));have g3:=bE g2 o2 ag;have G3:=ak g1 g3;have cap:∀{n:Nat}{h'},az hC h'->f.wz=min 4194305 n->aS ((n:Int)>4194304) (aO ((4194304:Int)+1) λa=>K a h') _:=λ{n h'}g e=>by
  have:=hk h' (ak G3 g);rw[e]at this;refine aE (λc=>aW ag ag ?_) λc=>?_
  ·have c:=aM c;rw[Ad ag]at this;exact this
  ·have c:=aM c;rw[LS ag]at this;exact this
 have uH:∀{Q:Prop},f.cs.length>=1->(∀c0,f.cs[0]? =some c0->c0∈f.cs->Q)->Q:=λq r=>r _ (bx ag) (kE ag);have j1:(f.k=20\/f.lets=false)->MB K Kp 4194304 (aJ b2) 16 hC:=by
  intro hl;have DK:=λq:f.k≠20=>OS (hl.resolve_left q);have j2:∀b,b=decide (f.k=19\/f.k=20)->f.k≠14->MA K Kp 4194304 (aJ b2) 16 f.k b hC:=by
   rintro b rfl gY;refine aA9 (cL (λc=>?_) λc=>?_)
   ·refine uH (by have:=h1 ag;omega) λc0 eB gQ=>aj k2 rfl ((hs.gr G3).ix rfl eB λp hp=>?_)
    obtain⟨u,cu,hu⟩:=hp.row;refine gK cu (IH c0 gQ (fu.aL gQ) hu λh4 g4=>?_);have:=hk h4 (ak G3 g4);have e:f.wz=c0.wz:=by
     by_cases q:f.k=20
     ·exact akF q eB (h1 ag)
     ·rw[DK q,ay,ay,ay,ay,aI c,CO eB];exact LS (rH c0)
    rw[<-e];exact this
   have ez:=DK ag;rw[aC gY]at ez;refine aE (λfP=>?_) λfP=>aE (λkA=>?_) λkA=>aE (λmV=>?_) λmV=>?_
   all_goals simp only[sm,reduceCtorEq]at*
   ·rw[ay,ay,aI fP]at ez;refine uH (by have:=Bv fP;omega) λc0 eB gQ=>aj k2 rfl ((hs.gr G3).ix rfl eB λp hp=>?_)
    rw[CO eB]at ez;obtain⟨u,cu,hu⟩:=hp.row;have ct:=rH c0;refine gK cu (IH c0 gQ (fu.aL gQ) hu λh4 g4=>aW ag ag ?_);have:=cap g4 ez;rw[Int.natCast_add]at this;exact this
   ·rw[aI kA]at ez;refine aj k2 rfl (uH (by have:=h1 ag;omega) λc0 eB gQ=>aj k2 rfl ((hs.gr G3).ix rfl eB λp hp=>?_))
    rw[CO eB]at ez;obtain⟨u,cu,hu⟩:=hp.row;have ct:=rH c0;have up:f.w.toNat*c0.wz<=64*4194305:=tN ag ct;have ew:f.w*(c0.wz:Int)=((f.w.toNat*c0.wz:Nat):Int):=by rw[UU,yH ag]
    refine gK cu (IH c0 gQ (fu.aL gQ) hu λh4 g4=>bM k2 g4 ?_);rw[ew];refine aW ag ag (aW ag ag ?_);have:=cap g4 ez;rw[Int.natCast_add]at this;exact this
   ·rw[aC kA,aI mV]at ez;apply azy (λc d h'=>∃i:Nat,d=i/\i<=f.cs.length/\c=((16+((f.cs.map aq.wz).take i).sum:Nat):Int)/\c<=16+4194305*(i:Int)/\az hC h') (λ_ d _=>f.cs.length-d.toNat) ⟨0,rfl,dN _,aA,ag,cK _⟩
    rintro c d h5 ⟨i,rfl,hi,rfl,hc,g5⟩ N hN;refine aj (k2.ai g5) rfl (aE (λc5=>aj (k2.ai g5) rfl ?_) λc5=>?_)
    all_goals simp only[sm,reduceCtorEq]at*
    ·have eW:i<f.cs.length:=ag;have eB:=bx eW;have gQ:=kE eW;have lE:(f.cs.map aq.wz).take (i+1)=(f.cs.map aq.wz).take i++[(f.cs[i]' eW).wz]:=by rw[kg (by simpa using eW)];simp
     generalize f.cs[i]' eW=c0 at eB gQ lE;have ct:=rH c0;refine(hs.gr (ak G3 g5)).ix rfl eB λp hp=>?_;obtain⟨u,cu,hu⟩:=hp.row;refine gK cu (IH c0 gQ (fu.aL gQ) hu λh6 g6=>aW ag ag (aW ag ag (hN _ _ _ ⟨i+1,ag,ag,?_,ag,ak g5 g6⟩ ag)))
     rw[lE];simp;omega
    ·have:i=f.cs.length:=ag;subst this;have:=cap g5 ez
     rwa [show f.cs.map aq.wz=(f.cs.map aq.wz).take f.cs.length by rw[qu aA]]at this
   ·rw[aC kA,aC mV,aC fP,ay]at ez;exact cap (cK _) ez
  refine aBa (aj k2 rfl (aE (λgY=>?_) λgY=>aE (λnU=>j2 _ ?_ ?_) λnU=>j2 _ ?_ ?_))
  all_goals simp only[sm,reduceCtorEq]at*
  ·have:=xU gY;have ez:=DK ag;rw[aI gY]at ez;refine aj k2 rfl (aW ag ag ?_);have:=cap (cK _) ez
   rwa [show(((16+f.w.toNat:Nat):Int))=16+f.w by omega]at this
  ·simp[nU]
  ·exact gY
  ·rw[ke];simp[nU]
  ·exact gY
 refine aE (λc=>aj k2 rfl (aE (λc2=>?_) λc2=>j1 (.inl ?_))) λc=>j1 (.inr (ln.trans c))
 ·have:=hk hC G3;grind[E0]
 ·have c2:=aM c2;exact c2
end
theorem YB:∀f:aq,Es f320 f
 |.mk a b k w i x cs=>ajQ (f:=.mk a b k w i x cs) λc(_:c∈cs)=>YB c
theorem YC:∀f:aq,Es f336 f
 |.mk a b k w i x cs=>ajR (f:=.mk a b k w i x cs) λc(_:c∈cs)=>YC c
def VN(f:aq):Prop:=∀{h:Hp}{s:Sl}{K:Bool->Int->ByteArray->Sl->HP}{Kp:PK},bC f->cH h s f.cs->(∀t h',az h h'->aR (Nw h) h' t f.zv.items->K f.zv.au f.zv.num (bs f.zv.text) t h')->CD f.name f.au f.k f.w f.id f.ix s h K Kp
theorem ajT(b:f.k=19\/f.k=20)(hl:f.lets=false\/f.k=20)(a:f.cs[0]? =some c)(d:f.cs.length=1):f.zv=c.zv:=by
 have key:f.lets=false->f.zv=c.zv:=λe=>by
  rw[OG e,ay,ay,ay,ay,aI b,I4 a]
 rcases hl with e|e
 ·exact key e
 ·have el:f.lets=c.lets:=by
   rw[yB];unfold m9;rw[aI ⟨e,by rw[cm];exact d⟩,gL,fh,a];rfl
  grind[I3]
theorem aoa(IH:∀c∈f.cs,VN c):VN f:=by
 intro h s K Kp fu hs hk;obtain⟨h0,nS,xU,DA,_,_,_,h1,Tc,Bv,_⟩:=fu.right.1;have ln:=sY f fu;have hn:=hs.n;refine aEt (aG λb1 hA e1 g1 k1 _=>aG λa2 hB e2 g2 k2 _=>nk (A6 (k1.ai g2)) (aG λa4 hC e4 g4 k4 _=>pE k4 rfl λhD o4 k4=>?_));have k4l:=k4.lt;have gD:=bE g4 o4 ag;have GD:=ak (ak g1 g2) gD;have k2:=k2.ai gD;apply aj ((k1.ai g2).ai gD) rfl;have j1:(f.k=20\/f.lets=false)->Mz K Kp (aJ a2) (aJ a4) hD:=by
  intro hl;refine aA8 (aG λa3 hE e3 g3 k3 _=>lT k3 rfl λhF o3 k3=>?_);have k3l:=k3.lt;have gF:=bE g3 o3 ag;have GF:=ak GD gF;have k2:=k2.ai gF;have k4:=k4.ai gF;have L:ZL h hF.size a2 a3 a4:=⟨ag,ag,ag,ag,ag⟩
  have S0:ZS h hF.size a2 a3 a4 _ hF Sl.nil []:=⟨GF,bP _,k2,k4,k3,nw.nil⟩;have DK:=λq:f.k≠20=>OG (hl.resolve_left q);have uH:∀{Q:Prop},f.cs.length>=1->(∀c0,f.cs[0]? =some c0->c0∈f.cs->Q)->Q:=λq r=>r _ (bx ag) (kE ag);have j2:∀b,b=decide (f.k=19\/f.k=20)->f.k≠14->My K Kp (aJ a2) (aJ a4) (aJ a3) f.k b hF:=by
   rintro b rfl gY;refine aA7 (cL (λc=>?_) λc=>?_)
   ·refine uH (by have:=h1 ag;omega) λc0 eB gQ=>aj k4 rfl ((hs.gr GF).ix rfl eB λp hp=>?_)
    obtain⟨u,cu,hu⟩:=hp.row;refine gK cu (IH c0 gQ (fu.aL gQ) hu λt h4 g4 vt=>?_);have e:=ajT c (hl.symm) eB (h1 ag);rw[<-e]at vt ⊢;exact L.GL hk (ak GF g4) (k2.ai g4) rfl vt
   have ez:=DK ag;rw[aC gY]at ez;refine aE (λfP=>?_) λfP=>aE (λkA=>?_) λkA=>aE (λmV=>?_) λmV=>?_
   all_goals simp only[sm,reduceCtorEq]at*
   ·rw[ay,ay,aI fP]at ez;refine aj k3 rfl (uH (by have:=Bv fP;omega) λc0 eB gQ=>aj k4 rfl ((hs.gr GF).ix rfl eB λp hp=>?_))
    rw[I4 eB]at ez;obtain⟨u,cu,hu⟩:=hp.row;refine gK cu (IH c0 gQ (fu.aL gQ) hu λt h4 g4 vt=>bM k3 g4 (L.more S0 aA g4 vt λhy t' S=>L.fin hk S.g S.k2 rfl S.k3 ez S.o.vs))
   ·rw[aI kA]at ez;have hw:=DA kA;refine uH (by have:=h1 ag;omega) λc0 eB gQ=>azx (λy h'=>∃(i:Nat)(t:Sl),y=i/\(i:Int)<=f.w/\ZS h hF.size a2 a3 a4 #[ah f.k,ah f.w,ah f.id,ah f.ix,Sl.v s] h' t (List.replicate i c0.zv)) (λy _=>(f.w-y).toNat) ⟨0,Sl.nil,rfl,ag,S0⟩ ?_
    rw[I4 eB]at ez;rintro y hx ⟨i,t,rfl,hi,S⟩ N hN;refine aj S.k4 rfl (cL (λcc=>?_) λcc=>?_)
    ·refine aj S.k3 rfl (aj S.k4 rfl ((hs.gr S.g).ix rfl eB λp hp=>?_));obtain⟨u,cp,hu⟩:=hp.row;refine gK cp (IH c0 gQ (fu.aL gQ) hu λt' h7 g7 vt=>bM S.k3 g7 (L.more S cj g7 vt λhy t' S=>aW ag ag (hN _ _ ⟨i+1,t',aA,ag,?_⟩ ag)))
     rw[D7];exact S
    ·have:i=f.w.toNat:=ag;subst this;exact L.fin hk S.g S.k2 rfl S.k3 ez S.o.vs
   ·rw[aC kA,aI mV]at ez;apply azw (λy h'=>∃(i:Nat)(t:Sl),y=i/\i<=f.cs.length/\ZS h hF.size a2 a3 a4 #[ah f.k,ah f.w,ah f.id,ah f.ix,Sl.v s] h' t ((f.cs.map aq.zv).take i)) (λy _=>f.cs.length-y.toNat) ⟨0,Sl.nil,rfl,dN _,S0⟩;rintro y hx ⟨i,t,rfl,hi,S⟩ N hN;refine aj S.k4 rfl (aE (λcc=>?_) λcc=>?_)
    ·have cc:=aM cc;have eW:i<f.cs.length:=ag;have eB:=bx eW;have gQ:=kE eW;have lE:(f.cs.map aq.zv).take (i+1)=(f.cs.map aq.zv).take i++[(f.cs[i]' eW).zv]:=by rw[kg (by simpa using eW)];simp
     generalize f.cs[i]' eW=c0 at eB gQ lE;refine aj S.k3 rfl (aj S.k4 rfl ((hs.gr S.g).ix rfl eB λp hp=>?_));obtain⟨u,cp,hu⟩:=hp.row;refine gK cp (IH c0 gQ (fu.aL gQ) hu λt' h7 g7 vt=>bM S.k3 g7 (L.more S cj g7 vt λhy t' S=>aW ag ag (hN _ _ ⟨i+1,t',aA,ag,?_⟩ ag)))
     rw[lE];exact S
    ·have cc:=aM cc;have:i=f.cs.length:=ag;subst this;rw[qu aA]at S;exact L.fin hk S.g S.k2 rfl S.k3 ez S.o.vs
   ·rw[aC kA,aC mV,aC fP,ay]at ez;exact L.fin hk GF k2 rfl k3 ez (qt _)
  refine aj k4 rfl (aE (λgY=>?_) λgY=>aE (λnU=>j2 _ ?_ ?_) λnU=>j2 _ ?_ ?_)
  all_goals simp only[sm,reduceCtorEq]at*
  ·have ez:=DK ag;rw[aI gY]at ez;refine aj k4 rfl (EB ag ag ag λt h7 g7 ow _=>?_);have v:Sv h7 t (bv (List.replicate f.w.toNat 0)):=by simpa[bv]using ow.sv
   refine⟨List.replicate f.w.toNat 0,by have:=v.A7 v.na;rw[u7]at this;exact this,?_⟩
   show St h7 ⟨a3,2,none⟩ (.string (bs (List.replicate f.w.toNat 0))) _
   exact dc (k3.ai g7) aA rfl λh8 o8 k8=>L.fin hk (bE (ak GF g7) o8 ag) (o8.aZ (k2.ai g7) ag) rfl (by simpa[Sl.nil]using k8) ez (qt _)
  ·simp[nU]
  ·exact gY
  ·rw[ke];simp[nU]
  ·exact gY
 refine aE (λc=>aj k4 rfl (aE (λc2=>?_) λc2=>j1 (.inl ?_))) λc=>j1 (.inr (ln.trans c))
 ·refine lT k2 rfl λh8 o8 k8=>eY k8 ?_;have:=hk Sl.nil h8 (bE GD o8 ag);rw[I3 (ln.trans c)]at this;exact this (qt _)
 ·have c2:=aM c2;exact c2
theorem Z6:∀f:aq,VN f
 |.mk a b k w i x cs=>aoa (f:=.mk a b k w i x cs) λc(_:c∈cs)=>Z6 c
theorem aob{K:Bool->Int->ByteArray->Sl->Int->HP}{E:PK}(i:bC f)(p:f.gh)(J:f.wz<=4194304)(n:cH h s f.cs)(C:∀t o,az h o->aR (Nw h) o t f.zv.items->K f.zv.au f.zv.num (bs f.zv.text) t 0 o):XC f.name f.au f.k f.w f.id f.ix s h K E:=by
 refine aEG (aG λa N e1 j m _=>aG λb hB O d u _=>dZ (m.ai d) (aoz (n.gr (ak j d)) p λq M g B=>bu (by rw[B.2 i];rfl) (dZ ((m.ai d).ai g) (YC f i (n.gr (ak (ak j d) g)) λv l=>bu cj (dZ (((m.ai d).ai g).ai l) (Z6 f i (n.gr (ak (ak (ak j d) g) l)) λt L x y=>
  lT (((u.ai g).ai l).ai x) rfl λD r A=>eY A (C t D ?_ ?_)))))))
 ·have z:=j.1;exact bE (ak (ak (ak (ak j d) g) l) x) r ag
 ·have H:=g.1;have G:=l.1;exact aR.fr r.fr (λc(q:v.size<=c)_(e:c=b)=>ag) (λc(q:v.size<=c)=>by show h.size<=c;omega) _ y
def VP(x:aB):Prop:=∀{y:aB}{D E:aQ}{h:Hp}{s t:Sl}{K:fJ}{Kp:PK},aR D h s x.items->aR E h t y.items->x.bq<=2^50->(∀b h',az h h'->(b=true↔x=y)->K b h')->
 IJ x.au x.num (bs x.text) s y.au y.num (bs y.text) t h K Kp
theorem aoy{x:aB}(IH:∀z∈x.items,VP z):VP x:=by
 intro y D E h s t K V O M hw P;have b':=gV x;have c':=Gg x;have Z:=O.n;have hm:=M.n;refine aEq (aG λU h1 e1 g1 d _=>aG λT I e2 S k _=>?_);have d:=d.ai S;have G:=ak g1 S;have B:∀{C:Hp},az h C->x≠y->K false C:=λg ne=>P false _ g ⟨λe=>(by cases e),λe=>absurd e ne⟩
 have L:x≠y->Mw K V (aJ U) (aJ T) true I:=λne=>ahM (bO rfl (B G ne));have W:x≠y->Mx K V _ _ true I:=λne=>ahN (bO rfl (L ne));refine aj d rfl (aj k rfl (aE (λc=>?_) λc=>?_))
 ·exact W λe=>by subst e;simp at c
 have c1:x.au=y.au:=by simpa using c
 simp only[bw,cz];refine aj d rfl (aj k rfl (ahN (aE (λc=>?_) λc=>?_)))
 ·exact L λe=>by subst e;simp at c
 have c2:x.num=y.num:=by simpa using c
 simp only[bw,cz];refine aj d rfl (aj k rfl ?_);rw[BU];refine ahM (aE (λc=>B G λe=>by subst e;simp at c) λc=>?_)
 have c3:x.text=y.text:=by simpa using c
 simp only[bw,cz];refine aj d rfl (aj k rfl (aE (λJ=>B G λe=>?_) λc=>?_))
 ·simp_all
 have c:=aM c;refine aA5 (azt (λz C=>∃i:Nat,z=i/\i<=x.items.length/\az I C/\x.items.take i=y.items.take i) (λz _=>x.items.length-z.toNat) ⟨0,rfl,dN _,cK _,rfl⟩ ?_);rintro z h3 ⟨i,rfl,hi,l,A⟩ N hN;have H:=ak G l;refine aj (d.ai l) rfl (aE (λm=>?_) λm=>?_)
 ·have m:=aM m;have v:i<x.items.length:=ag;have a:=bx v;have j:y.items[i]? =some y.items[i]:=bx ag;have r:=kg v;have o:y.items.take _=y.items.take i++[y.items[i]]:=kg ag;generalize x.items[i]=u at a r;generalize y.items[i]=w at j o;have f:=bL a;have a':=oh f;simp only[bw,cz];refine aj (d.ai l) rfl ((eR O H).ix rfl a λp p' cp Y=>gZ cp (aj (k.ai l) rfl ((eR M H).ix rfl j λq q' cq X=>gZ cq (IH u f Y X ag λb h4 R Q=>aE (λF=>?_) λF=>?_))))
  ·refine B (ak H R) λe=>?_;have:u=w:=by rw[e,j]at a;cases a;rfl
   rw[Q.2 this]at F;cases F
  ·have:u=w:=Q.1 (by simpa using F)
   exact aW ag ag (hN _ _ ⟨i+1,aA,ag,ak l R,by rw[r,o,A,this]⟩ ag)
 ·have m:=aM m;have:i=x.items.length:=ag;grind[YZ,List.take_length]
theorem PD:∀x:aB,VP x
 |.mk a b c items=>aoy (x:=.mk a b c items) λx(_:x∈items)=>PD x
def lR(f:aq)(v:aB):List UInt8:=if f.k=2 then[UInt8.ofNat (v.num%2^64).toNat]else if f.k=14 then(if v.au then List.replicate f.w.toNat 0 else v.text)else iU (v.num%2^64).toNat (dL f.k).toNat
structure nF(f:aq)(vs:aP)(X:Bx):Prop where
 b:X.vl.length<=vs.length/\X.cd.length<=vs.length/\X.fx.length<=16*vs.length/\X.os.length<=vs.length+1/\X.tx.length<=65536/\X.ix.length<=vs.length/\X.en.length<=vs.length
 v:f.k≠18/\f.k≠20->X.vl=vs.map λv=>if v.au then 0 else 1
 o:f.k=12\/f.k=13\/f.k=15\/f.k=18->X.os=(aK f.k vs).ends
 t:f.k=12\/f.k=13->X.tx=(aK f.k vs).all
 c:f.k=18->X.cd=(aK f.k vs).all
 i:f.k=19->X.ix=(aK f.k vs).ends
 e:f.k=20->X.en=(aK f.k vs).ends
 x:fH f.k=true->X.fx=vs.flatMap (lR f)
def yw(f:aq)(vs:aP):Bn:=⟨vs.length,vs.countP (eu f.k),bH vs⟩
def IZ(f:aq)(KM:List BF):BF:=λQ T h p vs=>∃g X,gf f KM Q T h p g (yw f vs) X (aK f.k vs).aF (λj=>cont f j vs)/\nF f vs X
mutual
def aq.gG:aq->BF
 |.mk nm au k w id ix cs=>IZ (.mk nm au k w id ix cs) (Hs cs)
def Hs:List aq->List BF
 |[]=>[]
 |f::fs=>f.gG::Hs fs
end
theorem aeK:∀cs:List aq,Hs cs=cs.map aq.gG
 |[]=>by simp[Hs]
 |f::a=>by simp[Hs,aeK a]
theorem aq.axo(f:aq):f.gG=IZ f (f.cs.map aq.gG):=by
 obtain⟨a,au,k,w,id,ix,cs⟩:=f;rw[<-aeK];simp only[aq.gG];rfl
abbrev wE:=@aq.axo
theorem IZ.ok{u:List BF}(KF:∀M∈u,od M):od (IZ f u) where
 fr:=λ⟨g,X,G,ok⟩t hT hQ=>⟨g,X,G.fr KF t hT hQ,ok⟩
 q:=λ⟨g,X,G,ok⟩b a=>⟨g,X,G.anF KF b a,ok⟩
 d:=λ⟨_,_,G,_⟩=>G.q
 r:=λ⟨g,X,G,_⟩=>by rw[gW G.k];rfl
theorem tJ:∀f:aq,od f.gG
  | .mk e au k w id ix cs=>by
    rw[wE];have a:∀c∈cs,od c.gG:=λc _=>tJ c;exact IZ.ok λM d=>by obtain⟨c,b,rfl⟩:=lU.1 d;exact a c b
theorem nV(cs:cC):∀M∈cs.map aq.gG,od M:=λM a=>by grind[tJ]
abbrev pB(p:Nat):Option Addr:=some (aJ p)
def n5(f:aq):Prop:=∀{Q T:aQ}{h:Hp}{p:Nat}{vs:aP}{x:aB}{s:Sl}{K:cJ}{Kp:PK},f.can vs->f.fit x=true->x.bq<=4194304->f.gG Q T h p vs->aR Q h s x.items->
 (∀Q' T' h',Ext Q Q' T T' h h'->(gv f vs x=0->f.gG Q' T' h' p (vs++[x]))->K (gv f vs x) h')->um (pB p) x.au x.num (bs x.text) s h K Kp
def pJ(f:aq):Prop:=∀{Q T:aQ}{h:Hp}{p:Nat}{vs:aP}{K:cJ}{Kp:PK},f.can vs->f.gG Q T h p vs->
 (∀Q' T' h',Ext Q Q' T T' h h'->(gC f vs=0->f.gG Q' T' h' p (vs++[f.bZ]))->K (gC f vs) h')->uk (pB p) h K Kp
def lg(kc:Nat->List aB)(j:Nat)(l:aP):Nat->List aB:=λi=>if i=j then l else kc i
section
variable {p:Nat} {Q0 T0 Q T E:aQ} {g:dK} {n:Bn} {X:Bx} {vl:aP} {w:Nat} {M:BF} {A:aQ}
theorem gf.Zf{x:Int}{K:Option Addr->Prop}(G:gf f (f.cs.map aq.gG) Q T h p g n X vl kc)(e:f.cs[j]? =some c)(l:x=j)(o:∀A w,g.KT[j]? =some A->g.kp[j]? =some w->c.gG Q A h w (kc j)->K (pB w)):Ld h ⟨p,18,none⟩ Sl.v λa=>Ix a.a a.n 1 x λd=>Ld h d Value.pointer K:=by
 obtain⟨M,A,w,i,k,b,m⟩:=G.m (j:=j) bU
 rw[fh,e]at i;cases i;exact G.jX (G.Sd b l (o A w k b m))
abbrev Hw:=@gf.Zf
theorem gp.iE{Y:aB}{K:cJ}(s:gp f (f.cs.map aq.gG) p Q0 T0 h0 Q T h g n X vl kc E)(H:f.cs[j]? =some c)(u:g.KT[j]? =some A)(D:g.kp[j]? =some w)(J:n5 c)(o:c.can (kc j))(m:c.fit Y=true)(B:Y.bq<=4194304)(F:aR Q h t Y.items)
  (r:gv c (kc j) Y≠0->∀d l a,Ext Q0 d T0 l h0 a->K (gv c (kc j) Y) a)
  (C:gv c (kc j) Y=0->∀d l a I,(∀c,Q c->d c)->Tn (λc=>¬E c) h a->gp f (f.cs.map aq.gG) p Q0 T0 h0 d l a I n X vl (lg kc j (kc j++[Y])) E->K 0 a):um (pB w) Y.au Y.num (bs Y.text) t h K Kp:=by
 have b:(f.cs.map aq.gG)[j]? =some c.gG:=by rw[fh,H];rfl
 have sub:∀c,A c->T c:=λc z=>(s.S.t.sub _ (bL (g.fC u)) c z).1;refine J o m B (s.S.aL j _ A w b u D) F λd l a x k=>?_
 by_cases e:gv c (kc j) Y=0
 ·obtain⟨v,i⟩:=s.aL (nV _) b u D x (k e);rw[e];exact C e _ _ _ _ x.q i v
 ·exact r e d (λc=>T c\/l c) a (s.x.trans ⟨x.tn.mono λc z _=>sub c z,x.q,x.q',λ_ z=>.inl z,λc z=>z.elim .inl λz=>(x.t' c z).imp (sub c) id⟩)
theorem gp.nH{K:cJ}(m:gp f (f.cs.map aq.gG) p Q0 T0 h0 Q T h g n X vl kc E)(y:f.cs[j]? =some c)(o:g.KT[j]? =some A)(s:g.kp[j]? =some w)(C:pJ c)(k:c.can (kc j))
  (l:gC c (kc j)≠0->∀b d a,Ext Q0 b T0 d h0 a->K (gC c (kc j)) a)
  (r:gC c (kc j)=0->∀b d a B,(∀c,Q c->b c)->Tn (λc=>¬E c) h a->gp f (f.cs.map aq.gG) p Q0 T0 h0 b d a B n X vl (lg kc j (kc j++[c.bZ])) E->K 0 a):uk (pB w) h K Kp:=by
 have i:(f.cs.map aq.gG)[j]? =some c.gG:=by rw[fh,y];rfl
 have sub:∀c,A c->T c:=λc z=>(m.S.t.sub _ (bL (g.fC o)) c z).1;refine C k (m.S.aL j _ A w i o s) λb d a x v=>?_
 by_cases e:gC c (kc j)=0
 ·obtain⟨D,u⟩:=m.aL (nV _) i o s x (v e);rw[e];exact r e _ _ _ _ x.q u D
 ·exact l e b (λc=>T c\/d c) a (m.x.trans ⟨x.tn.mono λc z _=>sub c z,x.q,x.q',λ_ z=>.inl z,λc z=>z.elim .inl λz=>(x.t' c z).imp (sub c) id⟩)
end
section
variable {K:cJ} {A:aQ}
theorem Pr{k:Int}(hk:K (dL k) h):IL k h K Kp:=by
 have fin:∀n:Int,n=dL k->K n h:=λn e=>e▸hk;apply aEQ
 repeat' first|(with_reducible first|refine aBJ ?_|refine uf ?_|refine ug ?_|refine cL (λc=>?_) λc=>?_)
 all_goals apply fin _
 all_goals(try simp only[sm,reduceCtorEq]at*)
 all_goals unfold dL
 all_goals simp_all
def yu(n:Int)(i:Nat):UInt8:=UInt8.ofNat (n/2^(8*i)%256).toNat
theorem aeF{n:Int}(a:i<8):UInt8.ofNat ((n%2^64).toNat/2^(8*i))=yu n i:=by
 unfold yu;apply UD.1;rw[tM,tM];have e:i=0\/i=1\/i=2\/i=3\/i=4\/i=5\/i=6\/i=7:=ag;rcases e with rfl|rfl|rfl|rfl|rfl|rfl|rfl|rfl <;> simp only[Nat.reduceMul] <;> omega
theorem art{n:Int}{w:Nat}(b:w<=8):iU (n%2^64).toNat w=(List.range w).map (yu n):=by
 grind[iU,List.map_congr_left,aeF]
theorem O5(x:Int):IntKind.u8.wrap x=(((x%256).toNat:Nat):Int):=by
 simp only[IntKind.wrap,IntKind.signed,IntKind.bits];simp;omega
theorem aa9{n w:Int}{K:Sl->HP}(o:Os A h s (bv l) Y8)(hA:∀c,A c->c<h.size)(hl:l.length<=2^40)(hw:0<=w/\w<=8)
  (hk:∀s' h',Tn A h h'->Os (Tr A h h') h' s' (bv (l++iU (n%2^64).toNat w.toNat)) Y8->K s' h'):EN s n w h K Kp:=by
 refine aEM (azN (λt d i h'=>∃j:Nat,i=j/\(j:Int)<=w/\d=n/2^(8*j)/\Tn A h h'/\Os (Tr A h h') h' t (bv (l++(List.range j).map (yu n))) Y8) (λ_ _ i _=>(w-i).toNat) ⟨0,rfl,ag,aA,iX _ _,by simpa using o.mono λc z=>.inl z⟩ ?_)
 rintro t d i h1 ⟨j,rfl,hj,rfl,t1,o1⟩ N hN;have s1:=t1.1;refine cL (λc=>?_) λc=>?_
 ·have on:=o1.n;rw[fM,ij,cm,Hy]at on;refine Ch (aG λb h2 e2 g2 k2 _=>(o1.gr g2).ap rfl (by rfl) (iM k2 rfl) ag ag λs' h3 t3 o3 _=>?_)
  have s3:=t3.1;have T3:=(t1.trans (bh g2)).trans' t3 λc z eW=>z.elim id λz=>ag
  refine js aY (yS (aW ag ag (hN _ _ _ _ ⟨j+1,ag,ag,?_,T3,?_⟩ ag)))
  ·show Int.fdiv _ _=_
   rw[show(2:Int)^(min _ _)=256 from rfl,Ec _ ag,Int.ediv_ediv_of_nonneg (HK (Ea ag)),show(2:Int)^(8*(j+1))=2^(8*j)*256 by grind[Int.pow_add]]
  ·have e:bv (l++(List.range j).map (yu n))++[.int .u8 (IntKind.u8.wrap (n/2^(8*j)))]=bv (l++(List.range (j+1)).map (yu n)):=by
    rw[uX,kR,<-q9,uT (l++(List.range j).map (yu n))]
    congr 1
    show[Value.int .u8 _]=[Value.int .u8 _]
    rw[O5];unfold yu;rw[tM]
    congr 3
    omega
   rw[e]at o3;refine o3.imp id λ⟨b,t,o⟩=>⟨b,?_,o⟩;rcases t with(t|t)|t
   ·exact .inl t
   ·exact .inr ⟨t.1,ag⟩
   ·exact .inr ⟨ag,o.lt⟩
 ·have:j=w.toNat:=ag;subst this;rw[<-art ag]at o1;exact hk t h1 t1 o1
end
abbrev uc(f:aq):List BF:=f.cs.map aq.gG
structure fX(f:aq)(p:Nat)(Q0 T0:aQ)(h0:Hp)(vs:aP)(x:aB)(s:Sl)(n:Bn)(T:aQ)(h:Hp)(g:dK)(X:Bx)(E:aQ)(a b:Nat):Prop where
 st:gp f (uc f) p Q0 T0 h0 Q0 T h g n X (aK f.k vs).aF (λj=>cont f j vs) E
 a:E a/\aN h a (x.row s).toArray dh
 b:E b/\∃sf,aN h b #[ah f.k,ah f.w,ah f.id,ah f.ix,Sl.v sf] kG
 v:aR Q0 h0 s x.items
def xd(f:aq):Prop:=∀{Q T:aQ}{h:Hp}{p:Nat}{vs:aP}{x:aB}{s:Sl},f.can vs->f.fit x=true->x.bq<=4194304->f.gG Q T h p vs->aR Q h s x.items->∃e,gv f vs x=oV vs x.bq e/\
 ∀{K:cJ}{Kp:PK},(∀Q' T' h',Ext Q Q' T T' h h'->((if 4096<=vs.length then 3 else e)=0->f.gG Q' T' h' p (vs++[x]))->K (if 4096<=vs.length then 3 else e) h')->Oh (pB p) x.au x.num (bs x.text) s h K Kp
section
variable {Q T Q' T' E:aQ} {h':Hp} {p:Nat} {vs:aP} {x:aB} {K:cJ}
theorem al1(L:xd f):n5 f:=by
 intro Q T h p vs x s K Kp y w u B v j;refine aET (aG λa A e1 l t _=>eY t ?_);have D:=(tJ f).fr B (bh l) (λ_ _=>id) λ_ _=>id;obtain⟨e,r,le⟩:=L y w u D (eR v l);rw[r]at j;have q:Ext Q Q T T h A:=⟨bh l,λ_ z=>z,λ_ z=>.inl z,λ_ z=>z,λ_ z=>.inl z⟩;refine le λQ' T' n C m=>?_;have X:=q.trans C
 by_cases c:4096<=vs.length
 ·simp only[aI c];have:=j Q' T' n X (by unfold oV;omega)
  simp_all[oV,aI,bu]
 ·simp only[aC c]at m ⊢;have:=j Q' T' n X;unfold oV at this;rw[aC c]at this;refine cL (λd=>?_) λd=>?_
  ·have b2:=m d;rw[aC (by simp[d])]at this
   have o:=b2;rw[wE]at o;obtain⟨g,Y,G,_⟩:=o;refine aj (x:=(bH (vs++[x]):Int)) G.k rfl (cL (λi=>?_) λi=>?_)
   ·rw[lN]at i;grind
   ·rw[lN]at i;grind
  ·grind
theorem sw{u:aQ}{H:Hp}{g:dK}{n:Bn}{X:Bx}{d a:aP}{m:Nat->List aB}(st:gp f (uc f) p D u H Q T h g n X d m E)(r:n=yw f a)(ok:nF f a X)(hl:d=(aK f.k a).aF)(c:∀j,j<f.cs.length->m j=cont f j a):f.gG Q T h p a:=by
 subst r hl;rw[wE];have G:=st.S;refine⟨g,X,⟨G.t,G.q,G.k,G.fs,G.ls,G.sl,G.aF,G.pt,G.lk,λj M A w b l i=>?_⟩,ok⟩;have e:j<f.cs.length:=by have:=(cU.1 b).1;simpa using this
 rw[<-c j e];exact G.aL j M A w b l i
theorem zG(hw:x.bq<=4194304)(Y:f.can vs)(B:f.gG Q T h p vs)(d:aR Q h s x.items)(Z:4096<=vs.length->∀Q' T' h',Ext Q Q' T T' h h'->K 3 h')
  (n:vs.length<4096->f.k=20->∀{h' g X E a b},nF f vs X->fX f p Q T h vs x s ⟨vs.length+1,vs.countP (eu f.k),bH vs+x.bq⟩ T h' g X E a b->Xx (pB p) x.au x.num (bs x.text) s h' K Kp)
  (gP:vs.length<4096->f.k≠20->x.au=true->∀{h' g X E a b},nF f vs X->fX f p Q T h vs x s ⟨vs.length+1,vs.countP (eu f.k)+1,bH vs+x.bq⟩ T h' g X E a b->Of (pB p) h' K Kp)
  (r:vs.length<4096->f.k≠20->x.au=false->∀{h' g X E a b},nF f vs X->fX f p Q T h vs x s ⟨vs.length+1,vs.countP (eu f.k),bH vs+x.bq⟩ T h' g X E a b->MQ K Kp (pB p) (aJ a) (aJ b) h'):Oh (pB p) x.au x.num (bs x.text) s h K Kp:=by
 have KF:=nV f.cs;have b':=((gk f vs).1 Y).wt;rw[wE]at B;obtain⟨g,X,G,ok⟩:=B;have I:∀c,Q c->¬T c:=λc z=>(G.q c z).1;refine aEK (aG λa h1 e1 U W z1=>?_);refine bK ?_;have A:=(gp.of (E:=λ_=>False) G λ_ z=>z.elim).ai KF U;have c':vs.countP (eu f.k)<=vs.length:=bU;refine aj (x:=(vs.length:Int)) A.S.k rfl (aE (λc=>?_) λc=>?_)
 ·have c:=aM c;exact Z ag _ _ _ A.x
 have c:=aM c;have lt:vs.length<4096:=ag;refine aj (x:=(vs.length:Int)) A.S.k rfl (aW ag ag (A.num (m:=vs.length+1) KF ag (.inl ⟨rfl,rfl⟩) λh2 M y=>?_));have O:=pz M W (.inr ⟨ag,ag⟩)
 refine aj (x:=(bH vs:Int)) y.S.k rfl (eY O (Pt x (aR.fr y.x.tn (λc z _=>I c z) (λ_ z=>z) _ d) ag ag λd' o=>?_));have cap:BM x.bq 4194304=x.bq:=by unfold BM;omega
 rw[cap];refine bM y.S.k o (aW ag ag ((y.ai KF o).num (m:=bH vs+x.bq) KF ag (.inr (.inr ⟨rfl,rfl⟩)) λR L u=>?_));have j:=pz L (O.ai o) (.inl (.inr ⟨ag,ag⟩))
 have cells:Cs R ⟨p,2,none⟩ [ah f.k,ah f.w,ah f.id,ah f.ix,Sl.v g.sf]:=uQ u.S.k λi v d=>by
  rcases i with _|_|_|_|_|i
  ·exact d
  ·exact d
  ·exact d
  ·exact d
  ·exact d
  ·simp at d
 refine nk cells (aG λb h5 e5 g5 V z5=>pE V rfl λP N C=>?_);have D:=bE g5 N ag;have a':=N.1;have H:=u.ai KF D;have j:=j.ai D;have l:fX f p Q T h vs x s ⟨vs.length+1,vs.countP _,bH vs+x.bq⟩ T P g X _ a b:=⟨H,⟨.inl (.inl (.inr ⟨ag,ag⟩)),j⟩,⟨.inr ⟨ag,ag⟩,_,C⟩,d⟩
 refine aj C rfl (aE (λe=>eY j ?_) λe=>aj j rfl (aE (λF=>?_) λF=>?_))
 ·have e:=aM e;exact n lt e ok l
 ·have e:=aM e;exact aj (x:=(vs.countP (eu f.k):Int)) H.S.k rfl (aW ag ag (H.num (i:=8) (m:=vs.countP (eu f.k)+1) KF ag (.inr (.inl ⟨rfl,rfl⟩)) λh7 J S7=>gP lt e F ok ⟨S7,⟨l.a.1,pz J j l.a.1⟩,⟨l.b.1,_,pz J C l.b.1⟩,d⟩))
 ·have e:=aM e;exact r lt e ag ok l
end
section
variable {Q T T0 E:aQ} {p a b:Nat} {vs:aP} {x:aB} {n:Bn} {g:dK} {X X':Bx} {K:HP}
theorem fX.hQ(L:fX f p Q T0 h0 vs x s n T h g X E a b):∀c,Q c->¬T c:=λc z=>(L.st.S.q c z).1
theorem fX.vv(L:fX f p Q T0 h0 vs x s n T h g X E a b):aR Q h s x.items:=aR.fr L.st.x.tn (λc z _ y=>L.hQ c z (L.st.x.t c y)) (λ_ z=>z) _ L.v
theorem fX.next{A:aQ}{h':Hp}{e:dK}{d:Bn}(L:fX f p Q T0 h0 vs x s n T h g X E a b)(KF:∀c,E c->A c)(t:Tn (λc=>¬E c) h h')(st:gp f (uc f) p Q T0 h0 Q D h' e d X' (aK f.k vs).aF (λj=>cont f j vs) A):fX f p Q T0 h0 vs x s d D h' e X' A a b:=by
 obtain⟨l,m⟩:=L.b.2;exact⟨st,⟨KF a L.a.1,pz t L.a.2 L.a.1⟩,⟨KF b L.b.1,l,pz t m L.b.1⟩,L.v⟩
theorem fX.ai{H:Hp}(L:fX f p Q T0 h0 vs x s n T h g X E a b)(gr:az h H):fX f p Q T0 h0 vs x s n T H g X (λc=>E c\/(h.size<=c/\c<H.size)) a b:=
 L.next (λc z=>.inl z) (bh gr) (L.st.ai (nV _) gr)
theorem fX.sl(L:fX f p Q T0 h0 vs x s n T h g X E a b)(hi:i<7):∃t A y,g.SS[i]? =some t/\g.ST[i]? =some A/\X.fj[i]? =some y/\Os A h t y.1 y.2/\(∀c,A c->T c):=by
 have G:=L.st.S;have ls:=G.ls;have h1:g.SS[i]? =some (g.SS[i]' ag):=aA;have h2:g.ST[i]? =some (g.ST[i]' ag):=aA;have h3:X.fj[i]? =some (X.fj[i]' hi):=bx _;exact⟨_,_,_,h1,h2,h3,G.sl i _ _ _ h1 h2 h3,λc z=>(G.t.sub _ (bL (g.ic h2)) c z).1⟩
theorem fX.LP{m bytes:Nat}{y:List Value×TypeId}{news:bg}{c:List Value->Prop}{u:Sl}{A:aQ}(L:fX f p Q T0 h0 vs x s n T h g X E a b)(r:g.SS[i]? =some u)(F:g.ST[i]? =some A)(o:Os A h u y.1 y.2)(D:X'.fj=X.fj.set i (y.1++news,y.2))
  (l:z.size=1) (w:∀v∈news,one v=true) (hl:news.length=m) (q:c news) (C:bytes<=8) (M:y.1.length+m<=300000) (B:∀H d G I,fX f p Q T0 h0 vs x s n H d G X' I a b->K d):Ap h y.2 z 1 bytes u m c λt e=>St e ⟨p,10+i,none⟩ (Sl.v t) K:=by
 have k:=o.n;refine o.BY l w hl q (by rw[k];have:=UO (y.1.length+m+(y.1.length+m)/4+192) C;omega) ag λJ e t os=>L.st.slot (nV _) r F t os.tr D λd j st=>B _ d _ _ (L.next (λ_ z=>z) j st)
theorem fX.yy{bytes:Nat}{y:List Value×TypeId}{v:Value}{u:Sl}{A:aQ}(L:fX f p Q T0 h0 vs x s n T h g X E a b)(m:g.SS[i]? =some u)(C:g.ST[i]? =some A)(o:Os A h u y.1 y.2)(B:X'.fj=X.fj.set i (y.1++[v],y.2))
  (l:z.size=1) (q:one v=true) (w:bytes<=8) (J:y.1.length<=200000) (r:∀H e G I,fX f p Q T0 h0 vs x s n H e G X' I a b->K e):aH h #[v] y.2 λc d=>Ap d y.2 z 1 bytes u 1 (rd d (some c) (1*1)) λt D=>St D ⟨p,10+i,none⟩ (Sl.v t) K:=
 aG λc F M j k _=>(L.ai j).LP m C (o.gr j) B l (by simpa using q) rfl (iM k rfl) w ag r
theorem fX.uU{bytes:Nat}{y:List Value×TypeId}{v:Value}{u:Sl}{A:aQ}(L:fX f p Q T0 h0 vs x s n T h g X E a b)(r:g.SS[i]? =some u)(G:g.ST[i]? =some A)(o:Os A h u y.1 y.2)(D:X'.fj=X.fj.set i (y.1++[v],y.2))
  (q:z.size=1) (w:one v=true) (C:bytes<=8) (N:y.1.length<=200000) (B:∀J m I M,fX f p Q T0 h0 vs x s n J m I X' M a b->K m):aH h #[v] y.2 λc d=>aU h d ⟨p,10+i,none⟩ 1 (Ap d y.2 z 1 bytes u 1 (rd d (some c) (1*1)) λt H=>St H ⟨p,10+i,none⟩ (Sl.v t) K):=
 aG λc l F e j _=>bM L.st.S.k e ((L.ai e).LP r G (o.gr e) D q (by simpa using w) rfl (iM j rfl) C ag B)
theorem fX.apF{C:PK}{m w:Int}{u:Sl}{A:aQ}(L:fX f p Q T0 h0 vs x s n T h g X E a b)(q:g.SS[2]? =some u)(e:g.ST[2]? =some A)(o:Os A h u (bv X.fx) Y8)(hl:X.fx.length<=200000)(l:0<=w/\w<=8)
  (r:∀B d y D,fX f p Q T0 h0 vs x s n B d y {X with fx:=X.fx++iU (m%2^64).toNat w.toNat} D a b->K d):EN u m w h (λt j=>St j ⟨p,12,none⟩ (Sl.v t) K) C:=by
 have sub:∀c,A c->c<h.size:=λc z=>L.st.S.t.lt c (L.st.S.t.sub _ (bL (g.ic e)) c z).1;refine aa9 o sub ag l λF j t os=>L.st.slot (nV _) q e t (x':=(bv (X.fx++iU (m%2^64).toNat w.toNat),Y8)) os rfl λd k st=>r _ d _ _ (L.next (λ_ z=>z) k st)
theorem fX.valid{v:UInt8}(L:fX f p Q T0 h0 vs x s n T h g X E a b)(hl:X.vl.length<=5000)(l:∀u k r w,fX f p Q T0 h0 vs x s n u k r {X with vl:=X.vl++[v]} w a b->K k):Ld h ⟨p,10,none⟩ Sl.v λj=>aH h #[.int .u8 (v.toNat:Int)] Y8 λc d=>Ap d Y8 #[.int .u8 0] 1 1 j 1 (rd d (some c) (1*1)) λt e=>St e ⟨p,10,none⟩ (Sl.v t) K:=by
 obtain⟨j,A,y,e,q,m,o,_⟩:=L.sl (i:=0) ag;cases m;refine L.st.S.dG e (L.yy e q o ?_ rfl rfl ag (by simp[fM];omega) l)
 show({X with vl:=X.vl++[v]}:Bx).fj=_
 unfold Bx.fj;simp[uT];rfl
end
section
variable {Q T T0 E:aQ} {p a b:Nat} {vs:aP} {x:aB} {n:Bn} {g:dK} {X X':Bx} {K:cJ}
theorem Dn(d:f.k≠18)(nS:f.k≠20)(c:f.k=1->x.au=true):eu f.k x=x.au:=by
 unfold eu
 grind
theorem pq{b:Bool}(c:eu f.k x=b):yw f (vs++[x])=⟨vs.length+1,vs.countP (eu f.k)+(if b then 1 else 0),bH vs+x.bq⟩:=by
 grind[yw,List.length_append,lN]
theorem Dm(L:fX f p Q T0 h0 vs x s n T h g X E a b)(hl:X.vl.length<=5000)
  (G:∀{z m r B c},fX f p Q T0 h0 vs x s n z m r {X with vl:=X.vl++[0]} B a c->Im K Kp (pB p) (aJ c) f.k (decide (f.k=12\/f.k=13\/f.k=15)) m):Of (pB p) h K Kp:=by
 have cells:Cs h ⟨p,2,none⟩ [ah f.k,ah f.w,ah f.id,ah f.ix,Sl.v g.sf]:=uQ L.st.S.k λi v d=>by
  rcases i with _|_|_|_|_|i
  ·exact d
  ·exact d
  ·exact d
  ·exact d
  ·exact d
  ·simp at d
 apply aEA;refine bK ?_;refine nk cells (aG λc P e1 I F J=>pE F rfl λq o D=>?_);have H:=bE I o ag;have N:=o.1;have l:=L.ai H;have l:fX f p Q T0 h0 vs x s n T q g X _ a c:=⟨l.st,l.a,⟨.inr ⟨ag,ag⟩,_,D⟩,l.v⟩
 refine l.valid (v:=0) hl λz m r B A=>?_;obtain⟨M,C⟩:=A.b.2;have j:=G A;refine aj C rfl (aE (λy=>?_) λy=>aE (λu=>?_) λu=>?_)
 all_goals simp only[sm,reduceCtorEq]at*
 ·rw[L6 (by omega:f.k=12\/f.k=13\/f.k=15)]at j
  rw[show(f.k==12)=true by simp[y]];exact j
 ·rw[L6 (by omega:f.k=12\/f.k=13\/f.k=15)]at j
  rw[show(f.k==13)=true by simp[u]];exact j
 ·have e:(f.k==15)=decide (f.k=12\/f.k=13\/f.k=15):=by rw[ke];simp;omega
  rw[e];exact j
theorem A5(L:fX f p Q T0 h0 vs x s n T h g X E a b)(hl:X.vl.length<=5000)
  (u:∀{m c d q},fX f p Q T0 h0 vs x s n m c d {X with vl:=X.vl++[1]} q a b->MP K Kp (pB p) (aJ a) (aJ b) f.k (decide (f.k=12\/f.k=13)) c):MQ K Kp (pB p) (aJ a) (aJ b) h:=by
 apply aBB;refine bK ?_;refine L.valid (v:=1) hl λm c d q o=>?_;obtain⟨t,r⟩:=o.b.2;have j:=u o;refine aj r rfl (aE (λl=>?_) λl=>?_)
 all_goals simp only[sm,reduceCtorEq]at*
 ·rw[L6 (by omega:f.k=12\/f.k=13)]at j
  rw[show(f.k==12)=true by simp[l]];exact j
 ·have e:(f.k==13)=decide (f.k=12\/f.k=13):=by rw[ke];simp;omega
  rw[e];exact j
theorem wo{c:aP}(d:f.k=12\/f.k=13):(aK f.k c).ends=kj (λv=>v.text.length) c/\(aK f.k c).all=c.flatMap aB.text:=by simp[aK,d]
theorem adk(c:f.k=12\/f.k=13):(aK f.k (vs++[x])).ends=(aK f.k vs).ends++[(vs.flatMap aB.text).length+x.text.length]:=by
 simp_all[wo,Jq]
theorem aeI(ok:nF f vs X)(c:f.k≠18/\f.k≠20){b:UInt8}(d:b=if x.au then 0 else 1):X.vl++[b]=(vs++[x]).map λv=>if v.au then 0 else 1:=by
 rw[kR,<-ok.v c,d];rfl
theorem wC{b:UInt8}{F t:dB}{o:cG}(ok:nF f vs X)(A:f.k<=17)(u:b=if x.au then 0 else 1)(e1:X'.vl=X.vl++[b])(l:X'.fx=X.fx++F)(j:X'.os=X.os++o)(d:X'.tx=X.tx++t)(c:X'.cd=X.cd/\X'.ix=X.ix/\X'.en=X.en)
  (v:fH f.k=true->F=lR f x) (z:F.length<=16) (y:o.length<=1) (lt:(X.tx++t).length<=65536) (r:f.k=12\/f.k=13\/f.k=15->(aK f.k (vs++[x])).ends=(aK f.k vs).ends++o) (m:f.k=12\/f.k=13->(aK f.k (vs++[x])).all=(aK f.k vs).all++t):nF f (vs++[x]) X':=by
 obtain⟨c,w,e⟩:=c;obtain⟨I,b2,H,G,D,C,B⟩:=ok.b;refine⟨?_,λq=>?_,λq=>?_,λq=>?_,λq=>ag,λq=>ag,λq=>ag,λq=>?_⟩
 ·grind
 ·rw[e1];exact aeI ok q u
 ·rw[j,r ag,ok.o q]
 ·rw[d,m q,ok.t q]
 ·rw[l,ok.x q,v q,List.flatMap_append];simp
theorem fX.fin(L:fX f p Q T0 h0 vs x s n T h g X E a b)(e:n=yw f (vs++[x]))(ok:nF f (vs++[x]) X)(m:f.k≠19/\f.k≠20)(l:f.cs.length=0):f.gG Q T h p (vs++[x]):=by
 have d:∀c,(aK f.k c).aF=[]:=λc=>(mN c).2.2.2 ag;exact sw L.st e ok (by rw[d,d]) λj o=>ag
theorem arA(d:f.k=12\/f.k=13)(R:bC f):xd f:=by
 intro Q T h p vs x s Y N hw B H;have a':=((gk f vs).1 Y).tx d;have G:=R.right.1.2.2.2.2.2.2.2.2.2.2 ag;have D:∀P,x.au=P->eu f.k x=P:=λP e=>by rw[Dn ag ag ag,e]
 have C:fH f.k=false:=by rcases d with e|e <;> rw[e] <;> rfl
 have len:(aK f.k vs).ends.length=vs.length+1:=by rw[(wo d).1,CW]
 have wx:=gV x;refine⟨_,alO d N,λ{K Kp}m=>zG hw Y B H (λc Q' T' O ex=>by have:=m Q' T' O ex;grind) (λ_ c=>ag) (λlt _ w{O g X E a b}ok L=>?_) (λlt _ w{O g X E a b}ok L=>?_)⟩
 ·have r:x=v0:=by rw[eL]at N;exact(kz N w).1
  rw[ay,aC (by rw[r];show¬65536<_+0;omega)]at m
  have hb:=ok.b;refine Dm L ag λ{T1 h1 g1 E1 c}j=>EF (bO cj ?_);refine bK ?_;obtain⟨I,A,y,l,M,J,o,_⟩:=j.sl (i:=3) ag;cases J;have os:=ok.o ag;have u:=o.n;have V:(ints X.os).length=vs.length+1:=by rw[ints,cm,os,len]
  rw[V]at u;refine j.st.S.dG l (j.st.S.dG l (j.st.S.dG l (aW ag ag (o.sv.ix ag ag (v:=ah (((vs.flatMap aB.text).length:Nat):Int)) ?_ λa ha=>yU ha ?_))))
  ·show _[_]? =_
   rw[show((I.n:Int)-1).toNat=vs.length by omega,os,(wo d).1,ints,fh,Pb (bP _),mz]
   simp
  ·refine j.uU (X':={X with vl:=X.vl++[0],os:=X.os++[(vs.flatMap aB.text).length]}) l M o ?_ rfl rfl ag (by rw[V];omega) λT2 h2 g2 E2 q=>m _ _ _ q.st.x λ_=>q.fin (pq (D _ w)).symm (wC (F:=[]) (t:=[]) ok ag (by rw[w];rfl) rfl aA rfl aA ⟨rfl,rfl,rfl⟩ (by simp[C]) aA aA cj (λ_=>?_) λ_=>?_) ag G
   ·show Bx.fj _=_
    simp[Bx.fj,ints]
   ·rw[adk d,r];rfl
   ·rw[(wo d).2,(wo d).2,r];simp[v0,aB.text]
 ·rw[ay]at m;have hb:=ok.b;have tx:X.tx=vs.flatMap aB.text:=by rw[ok.t d,(wo d).2]
  refine A5 L ag λ{T1 h1 g1 E1}j=>CA (bO cj ?_);refine bK ?_;obtain⟨I,A,y,l,M,J,o,_⟩:=j.sl (i:=4) ag;cases J;have u:=o.n;have u:I.n=X.tx.length:=by rw[u];exact fM _
  have W:=j.a.2;refine j.st.S.dG l (aj W rfl (aW ag (by rw[iV];omega) (aE (λc=>?_) λc=>?_)))
  ·have c:=aM c;rw[iV,u,tx]at c;rw[dR]at m;exact m _ _ _ j.st.x λz=>by cases z
  ·have c:=aM c;rw[iV,u,tx]at c;rw[ay]at m;refine j.st.S.dG l (aj W rfl (j.LP (X':={X with vl:=X.vl++[1],tx:=X.tx++x.text}) (news:=bv x.text) l M o ?_ rfl ?_ (by rw[fM,iV]) rfl ag bU λT2 h2 g2 E2 q=>?_))
   ·show Bx.fj _=_
    simp[Bx.fj,uT]
   ·intro v H;simp only[bv,lU]at H;obtain⟨y,_,rfl⟩:=H;rfl
   ·obtain⟨t3,A3,y,U,r2,r3,o3,_⟩:=q.sl (i:=3) ag;cases r3;obtain⟨t4,A4,y,w1,w2,w3,o4,_⟩:=q.sl (i:=4) ag;cases w3;have os:X.os=(aK f.k vs).ends:=ok.o ag;have n4:t4.n=(vs.flatMap aB.text).length+x.text.length:=by rw[o4.n];show(bv (X.tx++x.text)).length=_;rw[fM,ij,tx]
    refine q.st.S.dG (i:=3) U (q.st.S.dG (i:=4) w1 ?_);rw[n4];refine q.uU (X':={X with vl:=X.vl++[1],tx:=X.tx++x.text,os:=X.os++[(vs.flatMap aB.text).length+x.text.length]}) U r2 o3 ?_ rfl rfl ag (by show(ints X.os).length<=_;rw[ints,cm];omega) λT3 h3 g3 E3 Z=>m _ _ _ Z.st.x λ_=>Z.fin (by rw[pq (b:=false) (D _ w)];rfl) (wC (b:=1) (F:=[]) (t:=x.text) (o:=[(vs.flatMap aB.text).length+x.text.length]) ok ag (by rw[w];rfl) rfl aA rfl rfl ⟨rfl,rfl,rfl⟩ (by simp[C]) aA aA (by rw[ij,tx];omega) (λ_=>adk d) λ_=>?_) ag G
    ·show Bx.fj _=_
     simp[Bx.fj,ints]
    ·rw[(wo d).2,(wo d).2];simp
end
section
variable {Q T T0 E:aQ} {p a b:Nat} {vs:aP} {x:aB} {n:Bn} {g:dK} {X X':Bx} {K:cJ}
theorem OW(k:Int):0<=dL k/\dL k<=8:=by
 unfold dL
 omega
theorem aqp(L:fX f p Q T0 h0 vs x s n T h g X E a b)(H:0<=f.w/\f.w<=16)(hl:X.fx.length<=100000)(v:∀l e k m,fX f p Q T0 h0 vs x s n l e k {X with fx:=X.fx++List.replicate f.w.toNat 0} m a b->K 0 e):V9 K Kp (pB p) (aJ b) 0 h:=by
 refine azH (λi e=>∃(j:Nat)(l:aQ)(k:dK)(m:aQ),i=j/\(j:Int)<=f.w/\fX f p Q T0 h0 vs x s n l e k {X with fx:=X.fx++List.replicate j 0} m a b) (λi _=>(f.w-i).toNat) ⟨0,T,g,E,rfl,ag,dM⟩ ?_
 rintro i M ⟨j,P,O,R,rfl,I,d⟩ N hN;obtain⟨G,u⟩:=d.b.2;refine aj u rfl (cL (λc=>?_) λc=>?_)
 ·obtain⟨F,A,y,q,t,r,o,_⟩:=d.sl (i:=2) ag;cases r;refine bK ?_;refine d.st.S.dG q (d.yy q t o ?_ rfl rfl ag ?_ λB J z D C=>aW ag ag (hN _ _ ⟨j+1,B,z,D,ag,ag,C⟩ ag))
  ·show Bx.fj _=_
   simp[Bx.fj,uT,D7];rfl
  grind[fM]
 ·grind
theorem auh(c:bC f)(m:f.k<=14)(l:f.k≠12/\f.k≠13)(j:f.fit x=true):(lR f x).length<=16:=by
 unfold lR;split
 ·simp
 ·split
  ·rename_i e
   have w:=c.right.1.2.2.1 e;split
   ·simp;omega
   ·rename_i d
    have:=((DH ag j dM).2.1 ag).2.2 e
    omega
  ·have:=OW f.k;simp[iU];omega
theorem arF(hk:f.k<=14)(c':f.k≠12/\f.k≠13)(V:bC f):xd f:=by
 intro Q T h p vs x s hc r hw B hv;have sh:=V.right.1;have Y:=sh.2.2.2.2.2.2.2.2.2.2 ag;have n1:f.k=1->x.au=true:=λe=>by
  cases m:x.au with
  |true=>rfl
  |false=>simp_all[eL,fD]
 have W:∀bb,x.au=bb->eu f.k x=bb:=λbb e=>by rw[Dn ag ag n1,e]
 have te:gv f vs x=oV vs x.bq 0:=by
  by_cases e:f.k=1
  ·exact alT e r
  ·exact alS (by simp[fH];omega) r ag
 have lF:=auh V hk c' r;refine⟨0,te,λ{K Kp}hK=>zG hw hc B hv (λc Q' P u ex=>by have:=hK Q' P u ex;simp_all) (λ_ c=>ag) (λlt _ m{u g X E a b}ok L=>?_) (λlt _ m{u g X E a b}ok L=>?_)⟩ <;> rw[ay]at hK <;> have hb:=ok.b
 ·have U:x=v0:=by rw[eL]at r;exact(kz r m).1
  have fin:∀{P u g' E' a' b'},fX f p Q T h vs x s ⟨vs.length+1,vs.countP _+1,bH vs+x.bq⟩ P u g' {X with vl:=X.vl++[0],fx:=X.fx++lR f x} E' a' b'->K 0 u:=λj=>
   hK _ _ _ j.st.x λ_=>j.fin (pq (W _ m)).symm (wC (t:=[]) (o:=[]) ok ag (by rw[m];rfl) rfl rfl aA aA ⟨rfl,rfl,rfl⟩ (λ_=>rfl) lF aA cj (λ_=>ag) λ_=>ag) ag Y
  refine Dm L ag λ{T1 h1 g1 E1 c}d=>EF (bu cj ?_);refine bK ?_;obtain⟨t0,A,y,q,I,q3,o,_⟩:=d.sl (i:=2) ag;cases q3;obtain⟨sf,kb⟩:=d.b.2;refine aE (λl=>?_) λl=>aE (λH=>?_) λH=>aE (λG=>?_) λG=>aE (λD=>?_) λD=>aE (λC=>?_) λC=>?_
  all_goals have l:=aM l
  all_goals try have H:=aM H
  all_goals try have G:=aM G
  all_goals try have D:=aM D
  all_goals try have C:=aM C
  all_goals try omega
  ·have w:=sh.2.2.1 l;have e:lR f x=List.replicate f.w.toNat 0:=by unfold lR;rw[ay,aI l,m];rfl
   exact aqp d ag (by show X.fx.length<=_;omega) λO J M R j=>fin (by rw[e];exact j)
  ·have e:lR f x=[0]:=by unfold lR;rw[aI C,U];rfl
   refine d.st.S.dG q (d.yy q I o ?_ rfl rfl ag (by grind[fM]) λO J M R j=>fin (by rw[e];exact j))
   ·show Bx.fj _=_
    simp[Bx.fj,uT];rfl
  ·have e:lR f x=iU ((0:Int)%2^64).toNat (dL f.k).toNat:=by unfold lR;rw[aC C,aC l,U];rfl
   refine d.st.S.dG q (aj kb rfl (Pr (bM d.st.S.k (cK _) (d.apF q I o (by show X.fx.length<=_;omega) (OW _) λO J M R j=>fin (by rw[e];exact j)))))
 ·have d':f.k≠1:=λe=>by rw[n1 e]at m;cases m
  obtain⟨f1,f2,f3⟩:=DH ag r m;have fin:∀{P u g' E' a' b'},fX f p Q T h vs x s ⟨vs.length+1,vs.countP (eu f.k),bH vs+x.bq⟩ P u g' {X with vl:=X.vl++[1],fx:=X.fx++lR f x} E' a' b'->K 0 u:=λj=>
   hK _ _ _ j.st.x λ_=>j.fin (by simp_all[pq]) (wC (t:=[]) (o:=[]) ok ag (by rw[m];rfl) rfl rfl aA aA ⟨rfl,rfl,rfl⟩ (λ_=>rfl) lF aA cj (λ_=>ag) λ_=>ag) ag Y
  refine A5 L ag λ{T1 h1 g1 E1}d=>CA (bu cj ?_);refine bK ?_;obtain⟨t0,A,y,q,I,q3,o,_⟩:=d.sl (i:=2) ag;cases q3;have Z:=d.a.2;obtain⟨sf,kb⟩:=d.b.2;refine aE (λl=>?_) λl=>aE (λH=>?_) λH=>EH (bu cj (aE (λG=>?_) λG=>aE (λD=>?_) λD=>aE (λC=>?_) λC=>aE (λN=>?_) λN=>?_))
  all_goals have l:=aM l
  all_goals try have H:=aM H
  all_goals try have G:=aM G
  all_goals try have D:=aM D
  all_goals try have C:=aM C
  all_goals try have N:=aM N
  all_goals try omega
  ·have e:lR f x=x.text:=by unfold lR;rw[ay,aI l,m];rfl
   refine d.st.S.dG q (aj Z rfl (d.LP (X':={X with vl:=X.vl++[1],fx:=X.fx++x.text}) (news:=bv x.text) q I o ?_ rfl ?_ (by rw[fM,iV]) rfl ag (by grind[fM,iV]) λO J M R j=>fin (by rw[e];exact j)))
   ·show Bx.fj _=_
    simp[Bx.fj,uT]
   ·intro v hv;simp only[bv,lU]at hv;obtain⟨y,_,rfl⟩:=hv;rfl
  ·refine bK ?_;have e:lR f x=[UInt8.ofNat (x.num%2^64).toNat]:=by unfold lR;rw[aI N]
   refine d.st.S.dG (i:=2) q (aj Z rfl (Ch (d.uU (v:=.int .u8 (IntKind.u8.wrap x.num)) (X':={X with vl:=X.vl++[1],fx:=X.fx++[UInt8.ofNat (x.num%2^64).toNat]}) q I o ?_ rfl rfl ag (by show(bv _).length<=_;rw[fM];show X.fx.length<=_;omega) λO J M R j=>fin (by rw[e];exact j))))
   ·show Bx.fj _=_
    have e2:bv (X.fx++[UInt8.ofNat (x.num%2^64).toNat])=bv X.fx++[.int .u8 (IntKind.u8.wrap x.num)]:=by
     rw[uT,O5]
     congr 1
     show[Value.int .u8 (((UInt8.ofNat (x.num%2^64).toNat).toNat:Nat):Int)]=_
     rw[tM]
     congr 3
     omega
    simp only[Bx.fj,e2];rfl
  ·refine bK ?_;have e:lR f x=iU (x.num%2^64).toNat (dL f.k).toNat:=by unfold lR;rw[aC N,aC l]
   refine d.st.S.dG (i:=2) q (aj Z rfl (aj kb rfl (Pr (bM Z (cK _) (bM d.st.S.k (cK _) (d.apF q I o (by show X.fx.length<=_;omega) (OW _) λO J M R j=>fin (by rw[e];exact j)))))))
end
theorem lf{l:aP}:lg kc j l j=l:=by simp[lg]
theorem alc{l:aP}(h:i≠j):lg kc j l i=kc i:=by simp[lg,h]
theorem O0{l m:aP}:lg (lg kc j l) j m=lg kc j m:=by
 funext i;unfold lg;split <;> rfl
theorem O1:lg kc j (kc j)=kc:=by
 funext i;unfold lg;grind
structure fO(f:aq)(p:Nat)(Q0 T0:aQ)(h0:Hp)(x:aB)(s:Sl)(n:Bn)(X:Bx)(vl:aP)(a b:Nat)(E:aQ)(kc:Nat->List aB)(Q T:aQ)(h:Hp)(g:dK):Prop where
 st:gp f (uc f) p Q0 T0 h0 Q T h g n X vl kc E
 a:E a/\aN h a (x.row s).toArray dh
 b:E b/\∃sf,aN h b #[ah f.k,ah f.w,ah f.id,ah f.ix,Sl.v sf] kG
 v:aR Q0 h0 s x.items
 q:∀c,Q0 c->¬T0 c
section
variable {Q T Q0 T0 E:aQ} {p a b:Nat} {vs vl:aP} {x y:aB} {n:Bn} {g:dK} {X X':Bx} {K:cJ}
theorem fX.kd(L:fX f p Q T0 h0 vs x s n T h g X E a b):fO f p Q T0 h0 x s n X (aK f.k vs).aF a b E (λj=>cont f j vs) Q T h g:=
 ⟨L.st,L.a,L.b,L.v,λc z y=>L.hQ c z (L.st.x.t c y)⟩
theorem fO.vv(D:fO f p Q0 T0 h0 x s n X vl a b E kc Q T h g):aR Q h s x.items:=aR.fr D.st.x.tn (λc z _ y=>D.q c z y) D.st.x.q _ D.v
theorem fO.take{k z:Int}(D:fO f p Q0 T0 h0 x s n X vl a b E kc Q T h g)(P:f.cs[i]? =some c)(U:k=i)(R:z=j)(Y:n5 c)(O:x.items[j]? =some y)(I:c.can (kc i))(H:c.fit y=true)(hw:x.bq<=4194304)
  (J:gv c (kc i) y≠0->∀F C r,Ext Q0 F T0 C h0 r->K (gv c (kc i) y) r)
  (N:gv c (kc i) y=0->∀F C r L,fO f p Q0 T0 h0 x s n X vl a b E (lg kc i (kc i++[y])) F C r L->K 0 r):Ld h ⟨p,18,none⟩ Sl.v λd=>Ix d.a d.n 1 k λd=>Ld h d .pointer λd=>Ld h ⟨a,3,none⟩ Sl.v λe=>Ix e.a e.n 4 z λe=>bJ h e λe f g i=>um d e f g i h K Kp:=by
 have l:y∈x.items:=bU;have wy:=oh l;have wx:=gV x;refine Hw D.st.S P U λA w V o m=>aj D.a.2 rfl (D.vv.ix R O λq u W M=>gZ W (D.st.iE P V o Y I H ag M J λe F C r L hq t Z=>N e F C r L ⟨Z,⟨D.a.1,pz t D.a.2 D.a.1⟩,⟨D.b.1,?_⟩,D.v,D.q⟩));obtain⟨B,G⟩:=D.b.2;exact⟨B,pz t G D.b.1⟩
theorem fO.zero{k:Int}(D:fO f p Q0 T0 h0 x s n X vl a b E kc Q T h g)(H:f.cs[i]? =some c)(J:k=i)(M:pJ c)(u:c.can (kc i))
  (z:gC c (kc i)≠0->∀t r o,Ext Q0 t T0 r h0 o->K (gC c (kc i)) o)
  (C:gC c (kc i)=0->∀t r o B,fO f p Q0 T0 h0 x s n X vl a b E (lg kc i (kc i++[c.bZ])) t r o B->K 0 o):Ld h ⟨p,18,none⟩ Sl.v λd=>Ix d.a d.n 1 k λd=>Ld h d .pointer λd=>uk d h K Kp:=by
 refine Hw D.st.S H J λA w L l m=>D.st.nH H L l M u z λe t r o B O F N=>C e t r o B ⟨N,⟨D.a.1,pz F D.a.2 D.a.1⟩,⟨D.b.1,?_⟩,D.v,D.q⟩;obtain⟨G,I⟩:=D.b.2;exact⟨G,pz F I D.b.1⟩
theorem fO.items(D:fO f p Q0 T0 h0 x s n X vl a b E kc Q T h g)(L:f.cs[0]? =some c)(O:n5 c)(P:jl c)(H:c.can (kc 0))(C:∀y∈x.items,c.fit y=true)(J:x.bq<=4194304)(hl:x.items.length<=4096)
  (A:jU c (λx r=>c.tk r x) (kc 0) x.items≠0->∀u q l,Ext Q0 u T0 q h0 l->K (jU c (λx r=>c.tk r x) (kc 0) x.items) l)
  (I:jU c (λx r=>c.tk r x) (kc 0) x.items=0->∀u q l B,fO f p Q0 T0 h0 x s n X vl a b E (lg kc 0 (kc 0++x.items)) u q l B->MO K Kp (pB p) l):Wb K Kp (pB p) (aJ a) 0 h:=by
 refine azM (λy l=>∃(j:Nat)(u q:aQ)(B:dK),y=j/\j<=x.items.length/\fO f p Q0 T0 h0 x s n X vl a b E (lg kc 0 (kc 0++x.items.take j)) u q l B/\c.can (kc 0++x.items.take j)/\
   jU c (λx r=>c.tk r x) (kc 0) x.items=jU c (λx r=>c.tk r x) (kc 0++x.items.take j) (x.items.drop j)) (λy _=>x.items.length-y.toNat) ⟨0,Q,T,g,rfl,dN _,by simpa[O1]using D,by simpa using H,aA⟩ ?_
 rintro y U ⟨j,Y,W,V,rfl,S,t,F,e1⟩ N hN;have R:=t.vv.n;refine aj t.a.2 rfl (cL (λo=>?_) λo=>?_)
 ·have m:j<x.items.length:=ag;have w:=bx m;have k:=kg m;have v:=yI m;have d:=kE m;generalize x.items[j]=z at w k v d;rw[v]at e1;simp only[jU]at e1;refine bK ?_;refine t.take L rfl rfl O w (by rw[lf];exact F) (C z d) J (λe u q l M=>bO (by simp only[sm,reduceCtorEq];exact e) ?_) λe u q l B G=>bu rfl (aW ag ag (hN _ _ ⟨j+1,u,q,B,ag,ag,?_,?_,?_⟩ ag))
  ·rw[lf]at e ⊢;rw[aC e]at e1;rw[e1]at A;exact A e _ _ _ M
  ·grind[lf,O0,List.append_assoc]
  ·rw[lf]at e;have:=(P z (C z d) _ F e).1;simp_all
  simp_all[lf,aI]
 ·have:j=x.items.length:=ag;subst this;rw[wJ]at e1;rw[mz]at t;exact I e1 _ _ _ _ t
theorem fO.OK(D:fO f p Q0 T0 h0 x s n X vl a b E kc Q T h g)(G:f.cs[0]? =some c)(I:pJ c)(J:dU c c.zk c.bZ)(u:c.can (kc 0))(M:0<=f.w/\f.w<=64)
  (q:jU c (λ_=>c.zk) (kc 0) (List.replicate f.w.toNat c.bZ)≠0->∀l k d,Ext Q0 l T0 k h0 d->K (jU c (λ_=>c.zk) (kc 0) (List.replicate f.w.toNat c.bZ)) d)
  (v:jU c (λ_=>c.zk) (kc 0) (List.replicate f.w.toNat c.bZ)=0->∀l k d r,fO f p Q0 T0 h0 x s n X vl a b E (lg kc 0 (kc 0++List.replicate f.w.toNat c.bZ)) l k d r->K 0 d):V8 K Kp (pB p) (aJ b) 0 h:=by
 refine azG (λy d=>∃(j:Nat)(l k:aQ)(r:dK),y=j/\j<=f.w.toNat/\fO f p Q0 T0 h0 x s n X vl a b E (lg kc 0 (kc 0++List.replicate j c.bZ)) l k d r/\c.can (kc 0++List.replicate j c.bZ)/\
   jU c (λ_=>c.zk) (kc 0) (List.replicate f.w.toNat c.bZ)=jU c (λ_=>c.zk) (kc 0++List.replicate j c.bZ) (List.replicate (f.w.toNat-j) c.bZ)) (λy _=>f.w.toNat-y.toNat) ⟨0,Q,T,g,rfl,dN _,by simpa[O1]using D,dM,aA⟩ ?_
 rintro y P ⟨j,U,S,R,rfl,O,t,A,e1⟩ N hN;obtain⟨L,C⟩:=t.b.2;refine aj C rfl (cL (λo=>?_) λo=>?_)
 ·obtain⟨m,F⟩:∃m,f.w.toNat-j=m+1:=⟨f.w.toNat-j-1,ag⟩
  have z:f.w.toNat-(j+1)=m:=ag;rw[F,HF]at e1;simp only[jU]at e1;refine bK ?_;refine t.zero G rfl I (by rw[lf];exact A) (λe l k d H=>bO bU ?_) λe l k d r B=>bu rfl (aW ag ag (hN _ _ ⟨j+1,l,k,r,ag,ag,?_,?_,?_⟩ ag))
  ·rw[lf]at e ⊢;rw[aC e]at e1;rw[e1]at q;exact q e _ _ _ H
  ·grind[lf,O0,List.append_assoc,List.replicate_succ']
  ·rw[lf]at e;have:=(J _ A e).1;grind[List.replicate_succ',List.append_assoc]
  simp_all[lf,aI,D7]
 ·have:j=f.w.toNat:=ag;subst this;rw[wM]at e1;exact v e1 _ _ _ _ t
end
section
variable {Q T Q0 T0 E:aQ} {p a b:Nat} {vs vl:aP} {x y:aB} {n:Bn} {g:dK} {X X':Bx} {K:cJ}
theorem fO.ai{H:Hp}(D:fO f p Q0 T0 h0 x s n X vl a b E kc Q T h g)(gr:az h H):fO f p Q0 T0 h0 x s n X vl a b (λc=>E c\/(h.size<=c/\c<H.size)) kc Q T H g:=by
 obtain⟨d,e⟩:=D.b.2;exact⟨D.st.ai (nV _) gr,⟨.inl D.a.1,D.a.2.ai gr⟩,⟨.inl D.b.1,d,e.ai gr⟩,D.v,D.q⟩
theorem fO.sl(D:fO f p Q0 T0 h0 x s n X vl a b E kc Q T h g)(hi:i<7):∃t A y,g.SS[i]? =some t/\g.ST[i]? =some A/\X.fj[i]? =some y/\Os A h t y.1 y.2:=by
 have G:=D.st.S;have ls:=G.ls;have h1:g.SS[i]? =some (g.SS[i]' ag):=aA;have h2:g.ST[i]? =some (g.ST[i]' ag):=aA;have h3:X.fj[i]? =some (X.fj[i]' hi):=bx _;exact⟨_,_,_,h1,h2,h3,G.sl i _ _ _ h1 h2 h3⟩
theorem fO.uU{K:HP}{bytes:Nat}{y:List Value×TypeId}{v:Value}{u:Sl}{A:aQ}(D:fO f p Q0 T0 h0 x s n X vl a b E kc Q T h g)(J:g.SS[i]? =some u)(P:g.ST[i]? =some A)(o:Os A h u y.1 y.2)(O:X'.fj=X.fj.set i (y.1++[v],y.2))
  (I:z.size=1) (L:one v=true) (N:bytes<=8) (Y:y.1.length<=200000) (M:∀U m R V,fO f p Q0 T0 h0 x s n X' vl a b V kc Q U m R->K m):aH h #[v] y.2 λc d=>aU h d ⟨p,10+i,none⟩ 1 (Ap d y.2 z 1 bytes u 1 (rd d (some c) (1*1)) λt B=>St B ⟨p,10+i,none⟩ (Sl.v t) K):=by
 refine aG λc Z e2 l H _=>bM D.st.S.k l ?_;have e:=D.ai l;have w:=o.gr l;have F:=w.n;refine w.BY I (by simpa using L) rfl (iM H rfl) (by rw[F];have:=UO (y.1.length+1+(y.1.length+1)/4+192) N;omega) ag λW B t os=>e.st.slot (nV _) J P t os.tr O λm r st=>M _ m _ _ ⟨st,⟨e.a.1,pz r e.a.2 e.a.1⟩,⟨e.b.1,?_⟩,D.v,D.q⟩
 obtain⟨C,G⟩:=e.b.2;exact⟨C,pz r G e.b.1⟩
theorem fO.aa2(D:fO f p Q0 T0 h0 x s n X vl a b E kc Q T h g)(u:f.cs[0]? =some c)(hl:X.os.length<=100000)
  (q:∀z e v C,fO f p Q0 T0 h0 x s n {X with os:=X.os++[(kc 0).length]} vl a b C kc Q z e v->K 0 e):MO K Kp (pB p) h:=by
 apply aBA;refine bK ?_;obtain⟨t,A,y,d,l,k,o⟩:=D.sl (i:=3) ag;cases k;refine D.st.S.dG d (Hw D.st.S u rfl λB w G F m=>?_);refine bK ?_;refine yU ((tJ c).r m) (D.uU d l o ?_ rfl rfl ag (by show(ints X.os).length<=_;rw[ints,cm];omega) q)
 show Bx.fj _=_
 simp[Bx.fj,ints]
theorem abz(l:f.k=15):(aK f.k (vs++[x])).ends=(aK f.k vs).ends++[(cont f 0 vs++x.items).length]:=by
 have e:∀d,(aK f.k d).ends=kj (λv=>v.items.length) d:=λd=>by simp[aK,l]
 rw[e,e,Jq]
 congr 2
 show _=List.length (dJ f.k f.w (dI f.cs) 0 vs++x.items)
 rw[l,zR,kR,Hz];simp
theorem xK(d:f.cs=[c])(h:kc 0=cont f 0 vs):∀j,j<f.cs.length->kc j=cont f j vs:=λj e=>by
 grind
theorem qL(l:f.k≠19/\f.k≠20)(d:aP):(aK f.k d).aF=[]:=(mN d).2.2.2 ag
theorem arE(d:f.cs=[c])(l:f.k=15)(Z:bC f)(TK:n5 c):xd f:=by
 intro Q T h p vs x s P H hw B hv;have PC:=mb c (Z.aL (by rw[d];simp))
 have C:f.cs[0]? =some c:=by rw[d];rfl
 have N:=fy C P;have M:∀U,x.au=U->eu f.k x=U:=λU e=>by rw[Dn ag ag ag,e]
 have J:fH f.k=false:=by rw[l];rfl
 have a':x.items.length<=4096:=by rw[eL]at H;exact DG H
 have cs:cont f 0 (vs++[x])=cont f 0 vs++x.items:=by
  show dJ f.k f.w _ 0 _=dJ f.k f.w _ 0 _++_
  rw[l,zR,zR];simp
 have len:(aK f.k vs).ends.length=vs.length+1:=by simp[aK,l,CW]
 refine⟨_,alU d l PC.1 P H,λ{K Kp}m=>zG hw P B hv (λc W V I R=>by have:=m W V I R;grind) (λ_ c=>ag) (λlt _ G{I g X E a b}ok L=>?_) (λlt _ G{I g X E a b}ok L=>?_)⟩ <;> rw[ay]at m <;> have hb:=ok.b
 ·have u:x=v0:=by rw[eL]at H;exact(kz H G).1
  have e0:jU c (λx r=>c.tk r x) (cont f 0 vs) x.items=0:=by rw[u];rfl
  rw[e0]at m;refine Dm L ag λ{T1 h1 g1 E1 c'}q=>EF (bO cj ?_);refine bK ?_;obtain⟨t0,A,y,O,q2,q3,o,_⟩:=q.sl (i:=3) ag;cases q3;have os:=ok.o ag;have on:=o.n;have lx:(ints X.os).length=vs.length+1:=by rw[ints,cm,os,len]
  rw[lx]at on;refine q.st.S.dG O (q.st.S.dG O (q.st.S.dG O (aW ag ag (o.sv.ix ag ag (v:=ah (((cont f 0 vs).length:Nat):Int)) ?_ λa ha=>yU ha ?_))))
  ·show _[_]? =_
   have e:(aK f.k vs).ends=kj (λv=>v.items.length) vs:=by simp[aK,l]
   rw[show((t0.n:Int)-1).toNat=vs.length by omega,os,e,ints,fh,Pb (bP _),mz]
   show _=some (ah (((dJ f.k f.w (dI f.cs) 0 vs).length:Nat):Int))
   rw[l,zR];simp
  ·refine q.uU (X':={X with vl:=X.vl++[0],os:=X.os++[(cont f 0 vs).length]}) O q2 o ?_ rfl rfl ag (by rw[lx];omega) λT2 h2 g2 E2 L2=>m _ _ _ L2.st.x λ_=>sw L2.st (pq (M _ G)).symm (wC (F:=[]) (t:=[]) ok ag (by rw[G];rfl) rfl aA rfl aA ⟨rfl,rfl,rfl⟩ (by simp[J]) aA aA cj (λ_=>?_) λ_=>ag) (by rw[qL ag,qL ag]) (xK d ?_)
   ·show Bx.fj _=_
    simp[Bx.fj,ints]
   ·rw[abz l,u];simp[v0,aB.items]
   ·rw[cs,u];simp[v0,aB.items]
 ·refine A5 L ag λ{T1 h1 g1 E1}q=>CA (bu cj (bu cj (bO cj (EH (bO cj (q.kd.items C TK PC.1 N (KG d (.inl l) H) hw a' (λe W V I R=>m _ _ _ R λz=>absurd z e) λe W V I g' D=>D.aa2 C bU λT2 h2 g2 E2 Y=>?_))))))
  simp only[lf]at Y;rw[e]at m;refine m _ _ _ Y.st.x λ_=>sw Y.st (by simp_all[pq]) (wC (F:=[]) (t:=[]) ok ag (by rw[G];rfl) rfl aA rfl aA ⟨rfl,rfl,rfl⟩ (by simp[J]) aA aA cj (λ_=>abz l) λ_=>ag) (by rw[qL ag,qL ag]) (xK d ?_)
  rw[cs,lf]
theorem arC(d:f.cs=[c])(A:f.k=16)(J:bC f)(TK:n5 c)(ZK:pJ c):xd f:=by
 intro Q T h p vs x s P N V B W;have O:=mb c (J.aL (by rw[d];simp))
 have m:f.cs[0]? =some c:=by rw[d];rfl
 have q:=fy m P;have M:∀R,x.au=R->eu f.k x=R:=λR e=>by rw[Dn ag ag ag,e]
 have I:fH f.k=false:=by rw[A];rfl
 have U:x.items.length<=4096:=by rw[eL]at N;exact DG N
 have cs:cont f 0 (vs++[x])=cont f 0 vs++if x.au then List.replicate f.w.toNat c.bZ else x.items:=by
  show dJ f.k f.w _ 0 _=dJ f.k f.w _ 0 _++_
  rw[A,BK,BK,d];simp[dI]
 refine⟨_,alQ d A O.1 O.2.1 P N,λ{K Kp}l=>zG V P B W (λc H G r C=>by have:=l H G r C;grind) (λ_ c=>ag) (λlt _ u{r g X E a b}ok L=>?_) (λlt _ u{r g X E a b}ok L=>?_)⟩ <;> rw[ay]at l <;> have hb:=ok.b <;> simp only[u,gu,mD,lJ]at l cs
 ·refine Dm L ag λ{T1 Y Z E1 c'}S=>EF (bu cj (bu cj (bO cj ?_)));have w:=J.right.1.2.2.2.1 A;refine S.kd.OK m ZK O.2.1 q ag (λe H G r C=>l _ _ _ C λz=>absurd z e) λe H G r g' v=>?_;rw[e]at l;refine l _ _ _ v.st.x λ_=>sw v.st (pq (M _ u)).symm (wC (F:=[]) (t:=[]) (o:=[]) ok ag (by rw[u];rfl) rfl aA aA aA ⟨rfl,rfl,rfl⟩ (by simp[I]) aA aA cj (λ_=>ag) λ_=>ag) (by rw[qL ag,qL ag]) (xK d ?_)
  rw[cs,lf]
 ·refine A5 L ag λ{T1 Y Z E1}S=>CA (bu cj (bu cj (bu cj (EH (bO cj (S.kd.items m TK O.1 q (KG d (.inr A) N) V U (λe H G r C=>l _ _ _ C λz=>absurd z e) λe H G r g' D=>D.aa2 m bU λT2 h2 g2 E2 v=>?_))))))
  simp only[lf]at v;rw[e]at l;refine l _ _ _ v.st.x λ_=>sw v.st (by simp_all[pq]) (wC (F:=[]) (t:=[]) ok ag (by rw[u];rfl) rfl aA rfl aA ⟨rfl,rfl,rfl⟩ (by simp[I]) aA aA cj (λ_=>ag) λ_=>ag) (by rw[qL ag,qL ag]) (xK d ?_)
  rw[cs,lf]
end
theorem KJ{g:Nat->Int}(h0:jY g j=0)(d:g j≠0):∀{m:Nat},j<m->jY g m=g j
  |0,h=>ag
  | m+1,h=>by
    by_cases e:m=j
    ·subst e;simp[jY,h0]
    ·have:=KJ h0 d (m:=m) ag;simp[jY,this,d]
def qO(kc:Nat->List aB)(G:Nat->aB)(j:Nat):Nat->List aB:=λi=>if i<j then kc i++[G i]else kc i
theorem tj:qO kc G j j=kc j:=by simp[qO]
theorem Se:qO kc G 0=kc:=by funext i;simp[qO]
theorem Sf:lg (qO kc G j) j (kc j++[G j])=qO kc G (j+1):=by
 grind[lg,qO]
section
variable {Q T Q0 T0 E:aQ} {p a b:Nat} {vs vl:aP} {x y:aB} {n:Bn} {g:dK} {X X':Bx} {K:cJ}
theorem fO.fields{e:Nat->Int}(D:fO f p Q0 T0 h0 x s n X vl a b E kc Q T h g)(L:f.cs.length<=32)(J:∀c∈f.cs,n5 c)(u:∀(i:Nat)c,f.cs[i]? =some c->c.can (kc i))(C:x.items.length=f.cs.length)(A:∀(i:Nat)c,f.cs[i]? =some c->c.fit (x.items.getD i v0)=true)(H:x.bq<=4194304)
  (B:∀(i:Nat)c,f.cs[i]? =some c->e i=gv c (kc i) (x.items.getD i v0))
  (m:jY e f.cs.length≠0->∀l k d,Ext Q0 l T0 k h0 d->K (jY e f.cs.length) d)
  (z:jY e f.cs.length=0->∀l k d q,fO f p Q0 T0 h0 x s n X vl a b E (qO kc (λi=>x.items.getD i v0) f.cs.length) l k d q->K 0 d):Wa K Kp (pB p) (aJ a) 0 h:=by
 refine azL (λy d=>∃(j:Nat)(l k:aQ)(q:dK),y=j/\j<=f.cs.length/\fO f p Q0 T0 h0 x s n X vl a b E (qO kc (λi=>x.items.getD i v0) j) l k d q/\jY e j=0) (λy _=>f.cs.length-y.toNat) ⟨0,Q,T,g,rfl,dN _,by rw[Se];exact D,rfl⟩ ?_
 rintro y P ⟨j,U,S,R,rfl,O,v,e1⟩ N hN;have M:=v.vv.n;refine aj v.a.2 rfl (cL (λr=>?_) λr=>?_)
 ·have t:j<f.cs.length:=ag;have o:f.cs[j]? =some f.cs[j]:=aA;have F:x.items[j]? =some (x.items.getD j v0):=by rw[gL,bx ag];rfl
  generalize f.cs[j]=c at o;refine bK ?_;refine v.take o rfl rfl (J c (bL o)) F (by rw[tj];exact u j c o) (A j c o) H (λne l k d I=>bO (by simp_all) ?_) λe0 l k d q w=>bu rfl (aW ag ag (hN _ _ ⟨j+1,l,k,q,ag,ag,?_,?_⟩ ag))
  ·rw[tj]at ne ⊢;rw[<-B j c o]at ne ⊢;rw[KJ e1 ne t]at m;exact m ne _ _ _ I
  ·grind[tj,Sf]
  ·rw[tj,<-B j c o]at e0;simp[jY,e1,e0]
 ·have:j=f.cs.length:=ag;subst this;exact z e1 _ _ _ _ v
theorem fO.Tq{e:Nat->Int}(D:fO f p Q0 T0 h0 x s n X vl a b E kc Q T h g)(I:f.cs.length<=32)(H:∀c∈f.cs,pJ c)(v:∀(i:Nat)c,f.cs[i]? =some c->c.can (kc i))
  (z:∀(i:Nat)c,f.cs[i]? =some c->e i=gC c (kc i))
  (m:jY e f.cs.length≠0->∀l k d,Ext Q0 l T0 k h0 d->K (jY e f.cs.length) d)
  (w:jY e f.cs.length=0->∀l k d q,fO f p Q0 T0 h0 x s n X vl a b E (qO kc (λi=>(dI f.cs).getD i v0) f.cs.length) l k d q->K 0 d):V7 K Kp (pB p) 0 h:=by
 refine azF (λy d=>∃(j:Nat)(l k:aQ)(q:dK),y=j/\j<=f.cs.length/\fO f p Q0 T0 h0 x s n X vl a b E (qO kc (λi=>(dI f.cs).getD i v0) j) l k d q/\jY e j=0) (λy _=>f.cs.length-y.toNat) ⟨0,Q,T,g,rfl,dN _,by rw[Se];exact D,rfl⟩ ?_
 rintro y M ⟨j,P,O,C,rfl,L,t,e1⟩ N hN;have J:C.sp.n=f.cs.length:=by rw[t.st.S.pt.n,cm,t.st.S.lk.1,cm]
 refine bK ?_;refine t.st.S.jX (aE (λr=>?_) λr=>?_)
 ·have r:=aM r;have u:j<f.cs.length:=ag;have o:f.cs[j]? =some f.cs[j]:=aA;generalize f.cs[j]=c at o;have B:(dI f.cs).getD j v0=c.bZ:=mS o;refine t.zero o rfl (H c (bL o)) (by rw[tj];exact v j c o) (λne l k d F=>bO bU ?_) λe0 l k d q A=>bu rfl (aW ag ag (hN _ _ ⟨j+1,l,k,q,ag,ag,?_,?_⟩ ag))
  ·rw[tj]at ne ⊢;rw[<-z j c o]at ne ⊢;rw[KJ e1 ne u]at m;exact m ne _ _ _ F
  ·grind[tj,Sf]
  ·rw[tj,<-z j c o]at e0;simp[jY,e1,e0]
 ·grind
theorem arB(v:f.k=17)(u:bC f)(TK:∀c∈f.cs,n5 c)(ZK:∀c∈f.cs,pJ c):xd f:=by
 intro Q T h p vs x s N U S B V;have H:=u.right.1.2.2.2.2.2.2.2.2.1 v;have q:∀(i:Nat)c,f.cs[i]? =some c->c.can _:=λi c d=>fy d N;have J:∀O,x.au=O->eu f.k x=O:=λO e=>by rw[Dn ag ag ag,e]
 have I:fH f.k=false:=by rw[v];rfl
 have cs:∀j,cont f j (vs++[x])=cont f j vs++[if x.au then(dI f.cs).getD j v0 else x.items.getD j v0]:=by grind[DS]
 refine⟨_,alP v (λc d=>(mb c (u.aL d)).1) (λc d=>(mb c (u.aL d)).2.1) N U,λ{K Kp}m=>zG S N B V (λc D C r A=>by have:=m D C r A;grind) (λ_ c=>ag) (λlt _ l{r g X E a b}ok L=>?_) (λlt _ l{r g X E a b}ok L=>?_)⟩ <;> rw[ay]at m <;> have hb:=ok.b <;> simp only[l,gu]at cs
 ·refine Dm L ag λ{T1 W Y E1 c'}P=>EF (bu cj (bu cj (bu cj (bO cj (P.kd.Tq H ZK q (λi c d=>by unfold Gd;grind) (λe D C r A=>m _ _ _ A λz=>absurd z e) λe D C r Z G=>?_)))))
  rw[e]at m;refine m _ _ _ G.st.x λ_=>sw G.st (pq (J _ l)).symm (wC (F:=[]) (t:=[]) (o:=[]) ok ag (by rw[l];rfl) rfl aA aA aA ⟨rfl,rfl,rfl⟩ (by simp[I]) aA aA cj (λ_=>ag) λ_=>ag) (by rw[qL ag,qL ag]) λj M=>?_
  rw[cs];simp[qO,M]
 ·obtain⟨_,hl,R⟩:=DF v U l;refine A5 L ag λ{T1 W Y E1}P=>CA (bu cj (bu cj (bu cj (EH (bu cj (bO cj (P.kd.fields H TK q hl R S (λi c d=>by unfold Gd;grind) (λe D C r A=>m _ _ _ A λz=>absurd z e) λe D C r Z G=>?_)))))))
  rw[e]at m;refine m _ _ _ G.st.x λ_=>sw G.st (by simp_all[pq]) (wC (F:=[]) (t:=[]) (o:=[]) ok ag (by rw[l];rfl) rfl aA aA aA ⟨rfl,rfl,rfl⟩ (by simp[I]) aA aA cj (λ_=>ag) λ_=>ag) (by rw[qL ag,qL ag]) λj M=>?_
  rw[cs];simp[qO,M]
end
section
variable {Q T Q0 T0 E:aQ} {p a b:Nat} {vs vl:aP} {x y:aB} {n:Bn} {g:dK} {X X':Bx} {K:cJ}
theorem adP(e:f.k=18):(aK f.k (vs++[x])).ends=(aK f.k vs).ends++[(cont f (fL x) vs).length]/\(aK f.k (vs++[x])).all=(aK f.k vs).all++[UInt8.ofNat (fL x)]:=by
 constructor
 ·show _=_++[(dJ f.k f.w (dI f.cs) (fL x) vs).length]
  rw[e,DR];simp only[aK];simp only[show¬((18:Int)=12\/(18:Int)=13) by omega,show¬((18:Int)=15) by omega,lJ,gu]
  rw[ij,jw,uX,kR]
  congr 1
  ·grind[List.map_congr_left]
  simp
 ·rw[e];simp[aK]
theorem awB(l:f.k=18)(d:x.items=[y])(j:Nat):cont f j (vs++[x])=if fL x=j then cont f j vs++[y]else cont f j vs:=by
 grind[DR]
theorem arI(l:f.k=18)(G:bC f)(TK:∀c∈f.cs,n5 c):xd f:=by
 intro Q T h p vs x s W hf hw B hv;have d':f.lets=false:=by rw[yB];unfold m9;rw[ay];simp[l]
 obtain⟨hn,ht,i',c,y,d,t,O⟩:=KH l d' hf;have R:=fy d W;have c':eu f.k x=false:=by unfold eu;rw[ay,dR]
 have b':fH f.k=false:=by rw[l];rfl
 have P:=(cU.1 d).1;have C:x.num=(fL x:Int):=by unfold fL;omega
 have wy:=gV x;rw[t]at wy;simp only[bH]at wy;refine⟨_,alW G l d t ht ((mb c (G.aL (bL d))).1 y O) W,λ{K Kp}I=>zG hw W B hv (λc Q' Z U Y=>by have:=I Q' Z U Y;simp_all) (λ_ c=>ag) (λlt _ N=>by rw[hn]at N;cases N) (λlt _ _{U g X E a b}ok L=>?_)⟩
 rw[ay]at I;have hb:=ok.b;refine A5 L ag λ{T1 h1 g1 E1}V=>CA (bu cj (bu cj (bu cj (EH (bu cj (bu cj (bO cj ?_)))))));refine bK ?_;obtain⟨t0,A,z,q1,q2,q3,o,_⟩:=V.sl (i:=1) ag;cases q3;refine V.st.S.dG q1 (aj V.a.2 rfl (Ch (V.uU (X':={X with vl:=X.vl++[1],cd:=X.cd++[UInt8.ofNat (fL x)]}) q1 q2 o ?_ rfl rfl ag (by grind[fM]) λT2 h2 g2 E2 F=>aBz ?_)))
 ·show Bx.fj _=_
  have e2:bv (X.cd++[UInt8.ofNat (fL x)])=bv X.cd++[.int .u8 (IntKind.u8.wrap x.num)]:=by
   rw[uT,O5]
   congr 1
   show[Value.int .u8 (((UInt8.ofNat (fL x)).toNat:Nat):Int)]=_
   rw[tM]
   congr 3
   omega
  simp only[Bx.fj,e2];rfl
 refine bK ?_;obtain⟨t1,A1,z,r1,r2,r3,o1,_⟩:=F.sl (i:=3) ag;cases r3;obtain⟨M,B1,w,H,hA,a',m⟩:=F.st.S.m (by rw[cm];exact P)
 rw[fh,d]at H;cases H;refine F.st.S.dG r1 (F.st.S.jX (aj F.a.2 rfl (F.st.S.Sd a' C ?_)));refine bK ?_;refine yU ((tJ c).r m) (F.uU (X':={X with vl:=X.vl++[1],cd:=X.cd++[UInt8.ofNat (fL x)],os:=X.os++[(cont f (fL x) vs).length]}) r1 r2 o1 ?_ rfl rfl ag (by show(ints X.os).length<=_;rw[ints,cm];omega) λT3 h3 g3 E3 D=>aBy ?_)
 ·show Bx.fj _=_
  simp[Bx.fj,ints]
 refine bK ?_;obtain⟨M,B3,w3,H,e',J,m3⟩:=D.st.S.m (by rw[cm];exact P)
 rw[fh,d]at H;cases H;refine D.st.S.jX (aj D.a.2 rfl (D.st.S.Sd J C (aj D.a.2 rfl (D.vv.ix rfl (by rw[t];rfl) λq u cx hz=>gZ cx (D.st.iE d e' J (TK c (bL d)) R O ag hz (λe Q' Z U Y=>I _ _ _ Y λz=>absurd z e) λe Q' Z U g' hq t' S'=>?_)))))
 rw[e]at I;obtain⟨b1,b2,b3,b4,b5,b6,b7⟩:=hb;refine I _ _ _ S'.x λ_=>sw S' (by rw[pq c'];rfl) ⟨?_,λq=>ag,λ_=>?_,λq=>ag,λ_=>?_,λq=>ag,λq=>ag,λq=>by rw[b']at q;cases q⟩ (by rw[qL ag,qL ag]) λj hj=>?_
 ·simp only[ij,jw];omega
 ·show X.os++_=_
  rw[(adP l).1,ok.o ag]
 ·show X.cd++_=_
  rw[(adP l).2,ok.c l]
 ·rw[awB l t];split
  ·rename_i e;subst e;exact lf
  ·rename_i e;exact alc λz=>e z.symm
end
theorem aph{l:aP}(h:l[j]? =some v)(k:∀i,i<j->l[i]? ≠some v):gj v l=some j:=by
  cases e:gj v l with
  |none=>grind[List.mem_of_getElem?,vQ]
  | some i=>
    obtain⟨a,b⟩:=Dd e
    grind
section
variable {Q T Q0 T0 E:aQ} {p a b:Nat} {vs vl:aP} {x y:aB} {n:Bn} {g:dK} {X X':Bx} {K:cJ}
theorem aa8{x:Int}(d:K (oB x) h):Oe x h K Kp:=by
 refine aEr (aE (λe=>?_) λe=>aE (λk=>?_) λk=>?_)
 all_goals have e:=aM e
 all_goals try have k:=aM k
 ·unfold oB at d;grind
 ·unfold oB at d;grind
 ·unfold oB at d;grind
theorem vi.AN{A:aQ}(o:vi A Q h s vs):aR (λ_=>True) h s vs:=by
 obtain⟨l,e,r,_,vv⟩:=o;exact aR.snoc r e (λ_ _=>trivial) λj v t k d=>sA (vv j v t k d) λ_ _=>trivial
theorem fO.fresh{K:Addr->HP}(D:fO f p Q0 T0 h0 x s n X vl a b E kc Q T h g)(o:∀d l t,fO f p Q0 T0 h0 x s n X vl d b t kc Q T l g->K (aJ d) l):iK h x.au x.num (bs x.text) s K:=
 aG λd r e1 m k _=>by
  have e:=D.ai m;exact o d r _ ⟨e.st,⟨.inr ⟨ag,ag⟩,k⟩,e.b,e.v,e.q⟩
theorem fO.yy{K:HP}{bytes:Nat}{y:List Value×TypeId}{v:Value}{u:Sl}{A:aQ}(D:fO f p Q0 T0 h0 x s n X vl a b E kc Q T h g)(l:g.SS[i]? =some u)(C:g.ST[i]? =some A)(o:Os A h u y.1 y.2)(B:X'.fj=X.fj.set i (y.1++[v],y.2))
  (k:z.size=1) (m:one v=true) (w:bytes<=8) (q:y.1.length<=200000) (r:∀I e H J,fO f p Q0 T0 h0 x s n X' vl a b J kc Q I e H->K e):aH h #[v] y.2 λc d=>Ap d y.2 z 1 bytes u 1 (rd d (some c) (1*1)) λt G=>St G ⟨p,10+i,none⟩ (Sl.v t) K:=(D.uU l C o B k m w q r).2
theorem fO.YT{K:HP}(D:fO f p Q0 T0 h0 x s n X vl a b E kc Q T h g)(hl:vl.length<=5000)(F:∀z w m u I,fO f p Q0 T0 h0 x s n X (vl++[x]) a b I kc z w m u->K m):Ld h ⟨p,17,none⟩ Sl.v λsv=>bJ h (aJ a) λc d e f=>aH h #[.bool false,ah 0,.string (bs []),.slice none 0 0] dh λg i=>aU h i (aJ a) 4<|aU h i ⟨p,17,none⟩ 1<|Ap i dh fU 4 56 sv 1 (rd i (some g) (1*4)) λt g=>Ix t.a t.n 4 (sv.n:Int) λb=>
   (dH g b c d e f λb=>St b ⟨p,17,none⟩ (Sl.v t) K)/\(St g ⟨p,17,none⟩ (Sl.v t) λG=>dH G b c d e f K):=by
 refine D.st.S.mQ (eY D.a.2 (aG λL J e1 o C _=>bM D.a.2 o (bM D.st.S.k o ?_)));have l:=D.ai o;refine l.st.akZ (nV _) C l.vv hl λz w m u r H=>F _ _ m _ _ ⟨H,⟨l.a.1,pz r l.a.2 l.a.1⟩,⟨l.b.1,?_⟩,D.v,D.q⟩;obtain⟨A,B⟩:=l.b.2;exact⟨A,pz r B l.b.1⟩
theorem fO.self(D:fO f p Q0 T0 h0 x s n X vl a b E kc Q T h g)(C:f.cs[0]? =some c)(H:n5 c)(t:c.can (kc 0))(r:c.fit x=true)(F:x.bq<=4194304)
  (u:gv c (kc 0) x≠0->∀q o k,Ext Q0 q T0 o h0 k->K (gv c (kc 0) x) k)
  (B:gv c (kc 0) x=0->∀q o k z,gp f (uc f) p Q0 T0 h0 q o k z n X vl (lg kc 0 (kc 0++[x])) E->K 0 k):Ld h ⟨p,18,none⟩ Sl.v λd=>Ix d.a d.n 1 0 λd=>Ld h d .pointer λd=>bJ h (aJ a) λe f g i=>um d e f g i h K Kp:=by
 exact Hw D.st.S C rfl λA w G l m=>eY D.a.2 (D.st.iE C G l H t r F D.vv u λe q o k z L J I=>B e q o k z I)
theorem avj(q:f.k=19):(aK f.k (vs++[x])).ends=(aK f.k vs).ends++[if x.au then 0 else(gj x (dS (vs++[x]))).getD 0]:=by
  have d:∀e,(aK f.k e).ends=e.map λu=>if u.au then 0 else(gj u (dS e)).getD 0:=λe=>by rw[q];simp[aK]
  rw[d,d,kR,HA]
  congr 1
  refine B4 λu o=>?_;cases m:u.au with
  |true=>rfl
  | false=>
    simp only[mD,lJ];cases l:gj u (dS vs)with
    |none=>simp_all[JZ,vQ]
    | some i=>
      grind[x9,qS,P1]
theorem Ui{b:UInt8}{m:Nat}(ok:nF f vs X)(d:f.k=19)(l:b=if x.au then 0 else 1)(e:m=if x.au then 0 else(gj x (dS (vs++[x]))).getD 0):nF f (vs++[x]) {X with vl:=X.vl++[b],ix:=X.ix++[m]}:=by
 obtain⟨w,b2,v,u,t,r,o⟩:=ok.b;refine⟨?_,λq=>aeI ok q l,λq=>ag,λq=>ag,λq=>ag,λ_=>?_,λq=>ag,λq=>by rw[d]at q;cases q⟩
 ·grind
 ·show X.ix++_=_
  rw[avj d,ok.i d,e]
theorem arH(l:f.cs=[c])(I:f.k=19)(i':bC f)(TK:n5 c):xd f:=by
 intro Q T h p vs x s hc hf hw B hv;have PC:=mb c (i'.aL (by rw[l];simp))
 have e':f.cs[0]? =some c:=by rw[l];rfl
 have C:∀D,cont f 0 D=dS D:=by grind[BJ]
 have R:∀D,(aK f.k D).aF=dS D:=λD=>by simp[aK,I]
 have H:c.can (dS vs):=by rw[<-C];exact fy e' hc
 have b':=(gk c _).1 H;have n4:=b'.n4;have wt:=b'.wt;have O:∀bb,x.au=bb->eu f.k x=bb:=λbb e=>by rw[Dn ag ag ag,e]
 refine⟨_,alV l I PC.1 hc hf,λ{K Kp}m=>zG hw hc B hv (λc Q' T' J ex=>by have:=m Q' T' J ex;simp_all) (λ_ c=>ag) (λlt _ d{J g X E a b}ok L=>?_) (λlt _ d{J g X E a b}ok L=>?_)⟩ <;> rw[ay]at m <;> have hb:=ok.b
 ·rw[aI d]at m;have v:dS (vs++[x])=dS vs:=by rw[x9];unfold qS;rw[aI d]
  refine Dm L ag λ{T1 h1 g1 E1 c'}L1=>EF (bu cj (bu cj (bu cj (bu cj (bO cj ?_)))));refine bK ?_;have D1:=L1.kd;obtain⟨t0,A,y,F,V,U,o⟩:=D1.sl (i:=5) ag;cases U;refine D1.st.S.dG F (D1.yy (X':={X with vl:=X.vl++[0],ix:=X.ix++[0]}) F V o ?_ rfl rfl ag (by show(ints X.ix).length<=_;rw[ints,cm];omega) λT2 h2 g2 E2 G=>m _ _ _ G.st.x λ_=>sw G.st (pq (O _ d)).symm (Ui ok I (by rw[d];rfl) (by rw[d];rfl)) (by rw[R,R,v]) (xK l (by rw[C,C,v])))
  show Bx.fj _=_
  simp[Bx.fj,ints]
 ·rw[aC (by simp[d])]at m
  refine A5 L ag λ{T1 h1 g1 E1}L1=>CA (bu cj (bu cj (bu cj (EH (bu cj (bu cj (bu cj (bO cj (eY L1.a.2 (aEz (L1.kd.fresh λa2 h2 E2 G=>?_)))))))))));rw[R]at G;apply azE (λy J=>∃(j:Nat)(E':aQ),y=j/\j<=(dS vs).length/\fO f p Q T h x s _ _ (dS vs) a2 b E' (λj=>cont f j vs) Q T1 J g1/\∀i,i<j->(dS vs)[i]? ≠some x) (λy _=>(dS vs).length-y.toNat) ⟨0,E2,rfl,dN _,G,λi hi=>ag⟩
  rintro y h3 ⟨j,E3,rfl,hj,r,M⟩ N hN;have AN:=r.st.S.aF.AN;have vn:=AN.n;refine bK ?_;refine r.st.S.mQ (aE (λY=>?_) λY=>?_)
  ·have Y:=aM Y;have d':j<(dS vs).length:=ag;have hx:=bx d';have t:=kE d';generalize(dS vs)[j]=z at hx t;have wz:=oh t;refine r.st.S.mQ (AN.ix rfl hx λq u cx hz=>gZ cx (eY r.a.2 (PD z hz r.vv ag λbb h4 g4 f'=>?_)));have P:=r.ai g4;refine aE (λc1=>?_) λc1=>?_
   ·have e:z=x:=f'.1 c1;subst e;have hm:=t;rw[aI hm]at m;have W:=aph hx M;have v:dS (vs++[z])=dS vs:=by rw[x9];unfold qS;rw[aC (by simp[d]),W]
    obtain⟨t0,A,y,F,V,U,o⟩:=P.sl (i:=5) ag;cases U;refine P.st.S.dG F (P.yy (X':={X with vl:=X.vl++[1],ix:=X.ix++[j]}) F V o ?_ rfl rfl ag (by show(ints X.ix).length<=_;rw[ints,cm];omega) λT2 h2 g2 E2 G=>m _ _ _ G.st.x λ_=>sw G.st (by rw[pq (O _ d)];rfl) (Ui ok I (by rw[d];rfl) (by rw[d,v,W];rfl)) (by rw[R,v]) (xK l (by rw[C,C,v])))
    show Bx.fj _=_
    simp[Bx.fj,ints]
   ·refine aW ag ag (hN _ _ ⟨j+1,_,ag,ag,P,λi hi=>?_⟩ ag)
    by_cases e:i=j
    ·subst e;rw[hx];intro q;cases q;rw[f'.2 rfl]at c1;cases c1
    ·exact M i ag
  ·have a':x∉dS vs:=by grind[List.mem_iff_getElem?,List.getElem?_eq_some_iff]
   rw[aC a']at m;have W:=vQ.2 a';have v:dS (vs++[x])=dS vs++[x]:=by rw[x9];unfold qS;rw[aC (by simp[d]),W]
   apply aBh;refine bK ?_;refine r.st.S.mQ (aj r.st.S.k rfl (aa8 (bM r.st.S.k (cK _) (aE (λZ=>?_) λZ=>?_))))
   ·have Z:=aM Z;rw[dR]at m;exact m _ _ _ r.st.x λz=>by cases z
   ·have Z:=aM Z;rw[ay]at m;refine aBg ?_;refine bK ?_;obtain⟨t0,A,y,F,V,U,o⟩:=r.sl (i:=5) ag;cases U;refine r.st.S.dG (i:=5) F (r.st.S.mQ ?_);rw[vn.1];refine r.uU (i:=5) (X':={X with vl:=X.vl++[1],ix:=X.ix++[(dS vs).length]}) F V o ?_ rfl rfl ag (by show(ints X.ix).length<=_;rw[ints,cm];omega) λT4 h4 g4 E4 P=>aBf ?_
    ·show Bx.fj _=_
     simp[Bx.fj,ints]
    refine bK ?_;refine P.YT ag λQ5 T5 h5 g5 E5 D5=>aBe ?_;refine bK ?_;refine D5.self e' TK (by rw[C];exact H) (KE l (.inl I) hf d) hw (λe Q' T' J ex=>?_) λe Q' T' J g' S'=>?_
    ·rw[C]at e ⊢;exact m _ _ _ ex λz=>absurd z e
    ·rw[C]at e;rw[e]at m;refine m _ _ _ S'.x λ_=>sw S' (by rw[pq (b:=false) (O _ d)];rfl) (Ui ok I (by rw[d];rfl) (by rw[d,v,P0 W];rfl)) (by rw[R,v]) (xK l (by rw[lf,C,C,v]))
end
section
variable {Q T Q0 T0 E:aQ} {p a b:Nat} {vs vl:aP} {x y:aB} {n:Bn} {g:dK} {X X':Bx} {K:cJ}
theorem aeJ{l:cG}(ok:nF f vs X)(d:f.k=20)(hl:l=(cO (vs++[x])).2):nF f (vs++[x]) {X with en:=l}:=by
 obtain⟨v,b2,u,t,r,o,m⟩:=ok.b;have e:(aK f.k (vs++[x])).ends=(cO (vs++[x])).2:=by rw[d];simp[aK]
 refine⟨?_,λq=>absurd d q.2,λq=>ag,λq=>ag,λq=>ag,λq=>ag,λ_=>hl.trans e.symm,λq=>by rw[d]at q;cases q⟩
 have:=(FE _ (vs++[x]) rfl).1;grind
theorem arD(r:f.cs=[c])(C:f.k=20)(a':bC f)(TK:n5 c):xd f:=by
  intro Q T h p vs x s hc hf hw B hv;have cv:=ac1 a' C r hf;have PC:=(mb c (a'.aL (by rw[r];simp))).1 x cv
  have d':f.cs[0]? =some c:=by rw[r];rfl
  have M:∀I,cont f 0 I=(cO I).1:=by grind[DQ]
  have ve:∀I,(aK f.k I).aF=(cO I).1:=λI=>by simp[aK,C]
  have ee:(aK f.k vs).ends=(cO vs).2:=by rw[C];simp[aK]
  have N:c.can (cO vs).1:=by rw[<-M];exact fy d' hc
  have c':=(gk c _).1 N;have wt:=c'.wt;obtain⟨V,U⟩:=AZ _ vs rfl;have f':=(FE _ vs rfl).1;have b':eu f.k x=false:=by unfold eu;simp[*]
  refine⟨_,alR r C PC hc,λ{K Kp}J=>zG hw hc B hv (λc Q' T' h' ex=>by have:=J Q' T' h' ex;grind) (λlt _{h' g X E a b}ok L=>?_) (λlt q=>absurd C q) λlt q=>absurd C q⟩
  rw[ay]at J;have hb:=ok.b;refine aEB (L.kd.fresh λa2 h2 E2 G=>?_);rw[ve]at G;have vn:=G.st.S.aF.AN.n;have D:(cO vs).1.getLast? ≠some x->∀{h3:Hp}{E3:aQ}{m:Int},m=((cO vs).1.length:Int)->fO f p Q T h x s ⟨vs.length+1,vs.countP (eu f.k),bH vs+x.bq⟩ X (cO vs).1 a2 b E3 (λj=>cont f j vs) Q T h3 g->MI K Kp (pB p) (aJ a2) m false h3:=by
    intro ne h3 E3 m hm D3;subst hm;rw[aC ne]at J;have P:cO (vs++[x])=((cO vs).1++[x],(cO vs).2++[(cO vs).2.getLastD 0+1]):=by rw[AY];unfold xz;rw[aC ne]
    refine ahV (bu rfl (aBk (bu cj ?_)));refine bK ?_;refine D3.YT ag λQ4 T4 h4 g4 E4 F=>aBj ?_;refine bK ?_;obtain⟨t0,A,y,Y,q2,q3,o⟩:=F.sl (i:=6) ag;cases q3;refine F.st.S.dG Y (aj F.st.S.k rfl (F.uU (X':={X with en:=X.en++[vs.length+1]}) Y q2 o ?_ rfl rfl ag (by show(ints X.en).length<=_;rw[ints,cm];omega) λT5 h5 g5 E5 D5=>aBi ?_))
    · show Bx.fj _=_
      simp[Bx.fj,ints]
    refine bK ?_;refine D5.self d' TK (by rw[M];exact N) cv hw (λe Q' T' h' ex=>?_) λe Q' T' h' g' S'=>?_
    ·rw[M]at e ⊢;exact J _ _ _ ex λz=>absurd z e
    ·rw[M]at e;rw[e]at J;exact J _ _ _ S'.x λ_=>sw S' (by rw[pq b'];rfl) (aeJ ok C (by rw[P,ok.e C,ee,V])) (by rw[ve,P]) (xK r (by rw[lf,M,M,P]))
  refine bK ?_;refine G.st.S.mQ (aE (λc1=>?_) λc1=>?_)
  · have c1:=aM c1;obtain⟨d,z,hd⟩:∃d z,(cO vs).1=d++[z]:=⟨_,_,(Ae (λe=>bU)).symm⟩
    have ln:(cO vs).1.length=d.length+1:=by rw[hd];simp
    have hx:(cO vs).1[d.length]? =some z:=by rw[hd];simp
    have hl:(cO vs).1.getLast? =some z:=by rw[hd];simp
    have wz:=oh (bL hx);refine G.st.S.mQ (aW ag ag (G.st.S.aF.AN.ix ag hx λq u cx hz=>gZ cx (eY G.a.2 (PD z hz G.vv ag λbb h4 g4 e'=>?_))));have F:=G.ai g4;cases W:bb with
    | false=>
      refine D (λe=>?_) ag F;rw[hl]at e;cases e;rw[e'.2 rfl]at W;cases W
    | true=>
      have e:z=x:=e'.1 W;subst e;rw[aI hl]at J;have P:cO (vs++[z])=((cO vs).1,(cO vs).2.dropLast++[(cO vs).2.getLastD 0+1]):=by rw[AY];unfold xz;rw[aI hl]
      obtain⟨R,O,H⟩:∃d z,(cO vs).2=d++[z]:=⟨_,_,(Ae (λe=>by rw[e,q8]at U;omega)).symm⟩
      have j':R.length=d.length:=by rw[H,ln]at U;simp at U;omega
      have i':O=vs.length:=by rw[H]at V;simpa using V
      have en:X.en=R++[O]:=by rw[ok.e C,ee,H]
      obtain⟨t0,A,y,Y,q2,q3,o⟩:=F.sl (i:=6) ag;cases q3;have Z:=o.n;have Z:t0.n=d.length+1:=by rw[Z];show(ints X.en).length=_;rw[ints,cm,en];simp;omega
      refine ahV (bO rfl ?_);refine bK ?_;refine F.st.S.dG (i:=6) Y (aW ag ag (o.sv.ix ag ag (v:=ah (O:Int)) ?_ λa ha=>yU ha (aW ag ag ?_)))
      · show(ints X.en)[_]? =_
        rw[show((g.sv.n:Int)-1).toNat=R.length by omega,en,ints,fh];simp
      · have o':=o;rcases o' with⟨e1,_⟩|⟨bb,tb,ow⟩
        ·rw[e1]at Z;simp[Sl.nil]at Z
        rw[ow.1];refine⟨ag,ag,?_⟩
        rw[bw,cz];refine o.Jy ag ⟨bb,ow.1,aA⟩ rfl λh' t os _=>?_
        have set:(ints X.en).set (t0.n-1) (ah ((O:Int)+1))=ints (R++[O+1]):=by
          rw[en,Z,show d.length+1-1=R.length by omega,ints,ints,kR,kR,wK _ _ aA]
          simp
        obtain⟨S',t'⟩:=F.st.cells (i:=6) (X':={X with en:=R++[O+1]}) (nV _) Y q2 t (x':=(ints (R++[O+1]),Y6)) (by rw[<-set];exact os) rfl
        exact J _ _ _ S'.x λ_=>sw S' (by rw[pq (b:=false) b'];rfl) (aeJ ok C (by rw[P,H];simp)) (by rw[ve,P]) (xK r (by rw[M,M,P]))
  ·have c1:=aM c1;grind
end
structure tV(f:aq)(p:Nat)(Q0 T0:aQ)(h0:Hp)(n:Bn)(X:Bx)(vl:aP)(b:Nat)(E:aQ)(kc:Nat->List aB)(Q T:aQ)(h:Hp)(g:dK):Prop where
 st:gp f (uc f) p Q0 T0 h0 Q T h g n X vl kc E
 b:E b/\∃sf,aN h b #[ah f.k,ah f.w,ah f.id,ah f.ix,Sl.v sf] kG
section
variable {Q T Q0 T0 E:aQ} {p a b:Nat} {vs vl:aP} {x y:aB} {n:Bn} {g:dK} {X X':Bx} {K:cJ}
theorem gf.R4{K:ByteArray->Bool->Int->Int->Int->Int->Sl->Prop}{m:List BF}(G:gf f m Q T h p g n X vl kc)(e:K f.name f.au f.k f.w f.id f.ix g.sf):bN h (aJ p) K:=
 gK (uQ G.k (vs:=f.row g.sf) λi v d=>by
  rw[cz,qZ];unfold dK.row;grind) e
theorem tV.zero{k:Int}(D:tV f p Q0 T0 h0 n X vl b E kc Q T h g)(C:f.cs[i]? =some c)(I:k=i)(L:pJ c)(t:c.can (kc i))
  (u:gC c (kc i)≠0->∀r q o,Ext Q0 r T0 q h0 o->K (gC c (kc i)) o)
  (B:gC c (kc i)=0->∀r q o z,tV f p Q0 T0 h0 n X vl b E (lg kc i (kc i++[c.bZ])) r q o z->K 0 o):Ld h ⟨p,18,none⟩ Sl.v λd=>Ix d.a d.n 1 k λd=>Ld h d .pointer λd=>uk d h K Kp:=by
 refine Hw D.st.S C I λA w J l m=>D.st.nH C J l L t u λe r q o z N F M=>B e r q o z ⟨M,⟨D.b.1,?_⟩⟩;obtain⟨G,H⟩:=D.b.2;exact⟨G,pz F H D.b.1⟩
theorem tV.OK(D:tV f p Q0 T0 h0 n X vl b E kc Q T h g)(G:f.cs[0]? =some c)(H:pJ c)(I:dU c c.zk c.bZ)(q:c.can (kc 0))(L:0<=f.w/\f.w<=64)
  (v:∀e,e=jU c (λ_=>c.zk) (kc 0) (List.replicate f.w.toNat c.bZ)->∀l k d,Ext Q0 l T0 k h0 d->K (if e≠0 then e else 3) d):V6 K Kp (pB p) (aJ b) 0 h:=by
 refine azv (λy d=>∃(j:Nat)(l k:aQ)(r:dK),y=j/\j<=f.w.toNat/\tV f p Q0 T0 h0 n X vl b E (lg kc 0 (kc 0++List.replicate j c.bZ)) l k d r/\c.can (kc 0++List.replicate j c.bZ)/\
   jU c (λ_=>c.zk) (kc 0) (List.replicate f.w.toNat c.bZ)=jU c (λ_=>c.zk) (kc 0++List.replicate j c.bZ) (List.replicate (f.w.toNat-j) c.bZ)) (λy _=>f.w.toNat-y.toNat) ⟨0,Q,T,g,rfl,dN _,by simpa[O1]using D,dM,aA⟩ ?_
 rintro y O ⟨j,S,R,P,rfl,M,t,z,e1⟩ N hN;obtain⟨J,B⟩:=t.b.2;refine aj B rfl (cL (λo=>?_) λo=>?_)
 ·obtain⟨m,C⟩:∃m,f.w.toNat-j=m+1:=⟨f.w.toNat-j-1,ag⟩
  have u:f.w.toNat-(j+1)=m:=ag;rw[C,HF]at e1;simp only[jU]at e1;refine bK ?_;refine t.zero G rfl H (by rw[lf];exact z) (λe l k d F=>bO bU ?_) λe l k d r A=>bu rfl (aW ag ag (hN _ _ ⟨j+1,l,k,r,ag,ag,?_,?_,?_⟩ ag))
  ·rw[lf]at e ⊢;rw[aC e]at e1;have:=v _ e1.symm _ _ _ F;grind
  ·grind[lf,O0,List.append_assoc,List.replicate_succ']
  ·rw[lf]at e;have:=(I _ z e).1;grind[List.replicate_succ',List.append_assoc]
  simp_all[lf,aI,D7]
 ·have:j=f.w.toNat:=ag;subst this;rw[wM]at e1;have:=v 0 e1.symm _ _ _ t.st.x;exact this
theorem tV.Tq{e:Nat->Int}(D:tV f p Q0 T0 h0 n X vl b E kc Q T h g)(I:f.cs.length<=32)(H:∀c∈f.cs,pJ c)(u:∀(i:Nat)c,f.cs[i]? =some c->c.can (kc i))
  (z:∀(i:Nat)c,f.cs[i]? =some c->e i=gC c (kc i))
  (w:∀m,m=jY e f.cs.length->∀q l k,Ext Q0 q T0 l h0 k->K (if m≠0 then m else 3) k):V5 K Kp (pB p) 0 h:=by
 refine azu (λy k=>∃(j:Nat)(q l:aQ)(v:dK),y=j/\j<=f.cs.length/\tV f p Q0 T0 h0 n X vl b E (qO kc (λi=>(dI f.cs).getD i v0) j) q l k v/\jY e j=0) (λy _=>f.cs.length-y.toNat) ⟨0,Q,T,g,rfl,dN _,by rw[Se];exact D,rfl⟩ ?_
 rintro y M ⟨j,P,O,C,rfl,L,r,e1⟩ N hN;have J:C.sp.n=f.cs.length:=by rw[r.st.S.pt.n,cm,r.st.S.lk.1,cm]
 refine bK ?_;refine r.st.S.jX (aE (λo=>?_) λo=>?_)
 ·have o:=aM o;have t:j<f.cs.length:=ag;have d:f.cs[j]? =some f.cs[j]:=aA;generalize f.cs[j]=c at d;have B:(dI f.cs).getD j v0=c.bZ:=mS d;refine r.zero d rfl (H c (bL d)) (by rw[tj];exact u j c d) (λne q l k F=>bO bU ?_) λe0 q l k v A=>bu rfl (aW ag ag (hN _ _ ⟨j+1,q,l,v,ag,ag,?_,?_⟩ ag))
  ·rw[tj]at ne ⊢;rw[<-z j c d]at ne ⊢;have:=w _ rfl _ _ _ F;rw[KJ e1 ne t,aI ne]at this;omega
  ·grind[tj,Sf]
  ·rw[tj,<-z j c d]at e0;simp[jY,e1,e0]
 ·have o:=aM o;have:j=f.cs.length:=ag;subst this;have:=w 0 e1.symm _ _ _ r.st.x;exact this
theorem tV.first{k:Int}(D:tV f p Q0 T0 h0 n X vl b E kc Q T h g)(C:f.cs[0]? =some c)(B:k=0)(F:pJ c)(q:c.can (kc 0))(A:∀z u t,Ext Q0 z T0 u h0 t->K (if gC c (kc 0)≠0 then gC c (kc 0)else 3) t):Ld h ⟨p,18,none⟩ Sl.v λd=>Ix d.a d.n 1 k λd=>Ld h d .pointer λd=>uk d h (λa b=>If (a !=0) (K a b) (K 3 b)) Kp:=by
 refine D.zero C B F q (λe z u t l=>bO dM ?_) λe z u t o m=>bu rfl ?_
 ·have:=A _ _ _ l;grind
 ·have:=A _ _ _ m.st.x;grind
end
theorem al0(a:bC f)(b:∀c∈f.cs,n5 c)(d:∀c∈f.cs,pJ c):n5 f:=by
 have one:f.k=15\/f.k=16\/f.k=19\/f.k=20->∃c,f.cs=[c]/\n5 c/\pJ c:=λq=>by
  obtain⟨c,e,_⟩:=a.one q;simp[*]
 suffices L:xd f from@al1 f L
 by_cases n:f.k=12\/f.k=13
 ·exact arA n a
 by_cases m:f.k<=14
 ·exact arF m ag a
 by_cases l:f.k=15
 ·obtain⟨c,e,t,_⟩:=one ag;exact arE e l a t
 by_cases j:f.k=16
 ·obtain⟨c,e,t,z⟩:=one ag;exact arC e j a t z
 by_cases i:f.k=17
 ·exact arB i a b d
 by_cases h:f.k=18
 ·exact arI h a b
 by_cases g:f.k=19
 ·obtain⟨c,e,t,_⟩:=one ag;exact arH e g a t
 ·have:=a.right.1.2.1;obtain⟨c,e,t,_⟩:=one ag;exact arD e ag a t
theorem aj5(l:bC f)(d':f.gh)(TF:n5 f)(ZK:∀c∈f.cs,pJ c):pJ f:=by
 intro Q T h p vs K Kp u B hk;have sh:=l.right.1;have KF:=nV f.cs;have BF:=B;have L:=tJ f;rw[wE]at B;obtain⟨g,X,G,ok⟩:=B;have H:Cs h ⟨p,2,none⟩ [ah f.k,ah f.w,ah f.id,ah f.ix,Sl.v g.sf]:=uQ G.k λi v M=>by
  rcases i with _|_|_|_|_|i
  ·exact M
  ·exact M
  ·exact M
  ·exact M
  ·exact M
  ·simp at M
 apply aEs;refine bK ?_;refine nk H (aG λb h1 e1 g1 k1 z1=>pE k1 rfl λh2 o2 k2=>?_);have g2:=bE g1 o2 ag;have G2:=G.fr KF (bh g2) (λ_ _=>id) λ_ _=>id;refine G2.R4 (YB f l (bY.h _ G2.fs) λh3 g3=>?_);have G3:=G2.fr KF (bh g3) (λ_ _=>id) λ_ _=>id;have k3:=k2.ai g3;have J:=ak g2 g3;refine aE (λc1=>?_) λc1=>?_
 ·have c1:=aM c1;have hw:f.wz<=4194304:=ag;have s:=(CZ f).2 hw;obtain⟨n1,n2,n3,_⟩:=sP l s;refine G3.R4 (aob l d' hw (bY.h _ G3.fs) λt R g4 vt=>aG λe h5 e5 g5 k5 z5=>lT k5 rfl λI o6 k6=>eY k6 ?_);have g6:=bE g5 o6 ag;have b':=ak g4 g6;have c':=ak J b';have g':=J.1;have f':=b'.1;have a':=aR.lt _ (eR vt g6);have B6:f.gG (λc=>Q c\/(h.size<=c/\c<I.size)) T I p vs:=by
   refine L.q (L.fr BF (bh c') (λ_ _=>id) λ_ _=>id) (λc z=>.inl z) λc z=>?_;rcases z with z|z
   ·have:=L.d BF c z;exact⟨this.1,ag⟩
   ·exact⟨λy=>by have:=G.t.lt c y;omega,z.2⟩
  have x0:Ext Q _ T T h I:=⟨bh c',λc z=>.inl z,λc z=>z,λc z=>z,λc z=>.inl z⟩;rw[<-n1]at a' ⊢;have A:gC f vs=gv f vs f.bZ:=by
   unfold gC gv;rw[vA (.inl s)]
  refine TF u n2 ag B6 (sA a' λc z=>.inr ⟨ag,z.2⟩) λQ' T' U ex hb=>?_
  rw[<-A]at hb ⊢;exact hk _ _ _ (x0.trans ex) hb
 ·have c1:=aM c1;have s:f.small=false:=by
   have:¬f.small=true:=λe=>by have:=(CZ f).1 e;omega
   simpa using this
  have i':=ans l s;have C:=(mb f l).2.2;have ne:gC f vs≠0:=λq=>by have:=C vs u q;grind
  have P:=(gp.of (E:=λ_=>False) G λ_ z=>z.elim).ai KF J;have N:∀{e:Int},gC f vs=vD vs e->vs.length<4096->∀Q' T' U,Ext Q Q' T T' h U->K (if e≠0 then e else 3) U:=λ{e}A lt Q' T' U ex=>by
   have:=hk Q' T' U ex λq=>absurd q ne;grind[vD]
  apply aA6;refine bK ?_;refine aj (x:=(vs.length:Int)) P.S.k rfl (aE (λZ=>?_) λZ=>?_)
  ·have Z:=aM Z;have z3:gC f vs=3:=by
    have F:∀{e:Int},gC f vs=vD vs e->gC f vs=3:=λq=>by rw[q];unfold vD;omega
    by_cases R:f.k=16
    ·obtain⟨c,e,o⟩:=l.one ag;simp_all[YJ,mb]
    by_cases h5:f.k=17
    ·exact F (YI h5 s C (λc o=>(mb c (l.aL o)).2.1) u)
    by_cases I:f.k=18
    ·have n1:=(sh.2.2.2.2.2.2.2.2.2.1 I).1;have a:f.cs[0]? =some f.cs[0]:=aA;exact F (YK I a s C (mb _ (l.aL (bL a))).2.1 u)
    ·obtain⟨c,e,o⟩:=l.one ag;exact F (OI ag e s C u)
   have:=hk _ _ _ P.x λq=>absurd q ne;grind
  have Z:=aM Z;have lt:vs.length<4096:=ag;refine aj (x:=(vs.length:Int)) P.S.k rfl (aW ag ag (P.num (m:=vs.length+1) KF ag (.inl ⟨rfl,rfl⟩) λR t4 S4=>?_));have Eb:(λc=>False\/(h.size<=c/\c<h3.size)) b:=.inr ⟨ag,k3.lt⟩
  have k4:=pz t4 k3 Eb;have D:tV f p Q T h _ X _ b _ (λj=>cont f j vs) Q T R g:=⟨S4,Eb,_,k4⟩;have r:∀(i:Nat)c,f.cs[i]? =some c->c.can (cont f i vs):=λi c o=>fy o u;refine aj k4 rfl (aE (λe1=>?_) λe1=>aE (λW=>?_) λW=>aE (λO=>?_) λO=>aE (λV=>?_) λV=>?_)
  all_goals have e1:=aM e1
  all_goals try have W:=aM W
  all_goals try have O:=aM O
  all_goals try have V:=aM V
  ·obtain⟨c,e,o⟩:=l.one ag;have a:f.cs[0]? =some c:=by rw[e];rfl
   have w:=sh.2.2.2.1 e1;exact D.OK a (ZK c (bL a)) (mb c o).2.1 (r 0 c a) ag λm hm=>by
    rw[hm];exact N (YJ e e1 s C (mb c o).2.1 u) lt
  ·exact D.Tq (e:=λi=>gC (f.cs.getD i f0) (cont f i vs)) (sh.2.2.2.2.2.2.2.2.1 W) ZK r (λi c o=>bU) λm hm=>by
    rw[hm];exact N (YI W s C (λc o=>(mb c (l.aL o)).2.1) u) lt
  ·obtain⟨c,e,o⟩:=l.one ag;have a:f.cs[0]? =some c:=by rw[e];rfl
   have A:=OI (f:=f) (vs:=vs) (.inl O) e s C u;have vn:=S4.S.aF.AN.n;have ve:(aK f.k vs).aF=dS vs:=by simp[aK,O]
   rw[ve]at vn;refine S4.S.mQ (aj k4 rfl (aa8 (bM S4.S.k (cK _) (cL (λY=>?_) λY=>?_))))
   ·rw[aI ⟨O,ag⟩]at A
    exact N A lt _ _ _ S4.x
   ·rw[aC λq=>by omega]at A
    exact D.first a rfl (ZK c (bL a)) (r 0 c a) (N A lt)
  ·have n1:=(sh.2.2.2.2.2.2.2.2.2.1 V).1;have a:f.cs[0]? =some f.cs[0]:=aA;generalize f.cs[0]=c at a;refine ahP (bO cj ?_);refine bK ?_;exact D.first a rfl (ZK c (bL a)) (r 0 c a) (N (YK V a s C (mb _ (l.aL (bL a))).2.1 u) lt)
  ·obtain⟨c,e,o⟩:=l.one ag;have a:f.cs[0]? =some c:=by rw[e];rfl
   have A:=OI (f:=f) (vs:=vs) (.inr ag) e s C u;rw[aC λq=>by omega]at A
   refine ahP (bO cj ?_);refine bK ?_;exact D.first a rfl (ZK c (bL a)) (r 0 c a) (N A lt)
theorem aeQ:∀f:aq,bC f->f.gh->n5 f/\pJ f
  | .mk e au k w id ix cs,d,b=>by
    have h:∀c∈cs,c.gh:=by unfold aq.gh at b;exact ia.get b.2.2
    have g:∀c∈cs,n5 c/\pJ c:=λc a=>aeQ c (d.aL a) (h c a);have t:=@al0 _ d (λc a=>(g c a).1) λc a=>(g c a).2;exact⟨t,@aj5 _ d b t λc a=>(g c a).2⟩
section
variable {Q T:aQ} {p:Nat} {vs:aP} {x:aB} {K:cJ}
theorem ayg(e:bC f)(r:f.gh)(C:f.can vs)(B:f.gG Q T h p vs)(v:aR Q h s x.items)(y:x.nM)(i:¬(x.bq<=4194304/\f.fit x=true)->∀d,az h d->K 7 d)
  (A:x.bq<=4194304/\f.fit x=true->∀m l d,Ext Q m T l h d->(gv f vs x=0->f.gG m l d p (vs++[x]))->K (gv f vs x) d):XJ (pB p) x.au x.num (bs x.text) s h K Kp:=by
 have KF:=nV f.cs;have t:=tJ f;have E:=B;rw[wE]at B;obtain⟨g,X,G,ok⟩:=B;refine aE1 (aG λa H e1 k u _=>?_);simp only[ob];have w:=G.fr KF (bh k) (λ_ _=>id) λ_ _=>id;refine w.R4 (eY u (aoN e w.fs (eR v k) y λb F o j=>aE (λc=>?_) λc=>?_))
 ·refine i (λq=>?_) _ (ak k o);grind
 ·have q:=j.1 (by simpa using c)
  have n:=ak k o;refine eY (u.ai o) ((aeQ f e r).1 C q.2 q.1 (t.fr E (bh n) (λ_ _=>id) λ_ _=>id) (eR v n) λm l d D j=>A q m l d ?_ j);exact Ext.trans ⟨bh n,λ_ z=>z,λ_ z=>.inl z,λ_ z=>z,λ_ z=>.inl z⟩ D
end
section
variable {KM:List BF} {M:BF} {Q T A:aQ} {p w:Nat} {g:dK} {n:Bn} {X:Bx} {vl:aP} {K:HP}
theorem iR.more{b:Nat}{Ls:List (Nat->Prop)}(t:iR T h b Ls)(a:∀c,A c->¬T c/\c<h.size):iR (λc=>T c\/A c) h b (Ls++[A]):=by
 refine⟨.inl t.tb,λc z=>z.elim (t.lt c) λz=>(a c z).2,λB hB c z=>?_,?_⟩
 ·rcases nt.1 hB with q|q
  ·have:=t.sub B q c z;simp[*]
  ·simp at q;subst q;exact⟨.inr z,λe=>(a c z).1 (e▸t.tb)⟩
 ·rw[LV];refine⟨t.ap,aA,λB hB C d c z y=>?_⟩
  simp at d;subst d;exact(a c y).1 (t.sub B hB c z).1
theorem gf.aye(KF:∀M∈KM,od M)(R:od M)(G:gf f KM Q T h p g n X vl kc)(m:M Q A h w (kc KM.length))(P:∀c,A c->¬T c/\c<h.size)(hl:KM.length<=5000)
  (hk:∀T' h' g',Tn T h h'->(∀c,T' c->T c\/A c\/(h.size<=c/\c<h'.size))->gf f (KM++[M]) Q T' h' p g' n X vl kc->K h'):aH h #[oz w] vh λc e=>aU h e ⟨p,18,none⟩ 1<|Ap e vh #[.pointer none] 1 8 g.sp 1 (rd e (some c) (1*1)) λt d=>St d ⟨p,18,none⟩ (Sl.v t) K:=by
 refine aG λc u e1 F k1 _=>bM G.k F ?_;have r:=G.fr KF (bh F) (λ_ _=>id) λ_ _=>id;have m1:=R.fr m (bh F) (λ_ _=>id) λ_ _=>id;have on:=r.pt.n;rw[cm,G.lk.1]at on;refine r.pt.BY rfl (λx Y=>by simp at Y;subst Y;rfl) rfl (iM k1 rfl) ag ag λt s I O=>?_
 have J:=I.1;have O:=O.tr;have C:g.Ls[1]? =some g.PT:=rfl;have a:∀c,g.PT c->T c/\c≠p:=λc z=>G.t.sub _ (bL C) c z;have a':=r.t.lt p r.t.tb;have k2:=I.aZ r.k λz=>(a p z).2 rfl;have U:∀(g:dK),(g.row f n).length=10+(g.SS.length+2):=λg=>by unfold dK.row;simp[FF];omega
 refine dc k2 (by rw[LU,U,G.ls.1];omega) rfl λE L W=>?_
 have s3:=L.1;have e:(g.row f n).toArray.setIfInBounds 18 (Sl.v t)=(({g with sp:=t,kp:=g.kp++[w],PT:=Tr g.PT u s,KT:=g.KT++[A]}:dK).row f n).toArray:=by
  rw[nZ];unfold dK.row;rw[wK _ _ (by show 10<=18;omega),wK _ _ (by show _<=18-10;rw[cm,G.ls.1];omega),cm,G.ls.1];rfl
 rw[e]at W;have D:Tn (λc=>g.PT c\/c=p) u E:=(I.mono λc z _=>.inl z).trans (L.fr.mono λc z _=>.inr z);have ku:∀c,(g.PT c\/c=p)->T c:=λc z=>z.elim (λz=>(a c z).1) λz=>z▸G.t.tb;have hQ:∀c,Q c->¬(g.PT c\/c=p):=λc z y=>(G.q c z).1 (ku c y);have l:∀{B:aQ}(j:Nat),g.Ls[j]? =some B->j≠1->∀c,B c->¬(g.PT c\/c=p):=λ{B}j H ne c z y=>by
  rcases y with y|y
  ·exact G.t.ne H C ne c z y
  ·exact(G.t.sub _ (bL H) c z).2 y
 have V:∀c,A c->¬(g.PT c\/c=p):=λc z y=>(P c z).1 (ku c y);have tr:iR (λc=>(T c\/Tr g.PT u s c)\/A c) E p ({g with sp:=t,kp:=g.kp++[w],PT:=Tr g.PT u s,KT:=g.KT++[A]}:dK).Ls:=by
  have t1:=(r.t.put C J λc z=>z).grow (h':=E) ag;have:=t1.more λc z=>⟨λy=>?_,by have:=(P c z).2;omega⟩
  ·have e2:g.Ls.set 1 (Tr g.PT u s)++[A]=({g with sp:=t,kp:=g.kp++[w],PT:=Tr g.PT u s,KT:=g.KT++[A]}:dK).Ls:=by
    unfold dK.Ls;simp
   rwa [e2]at this
  ·have Z:=P c z;rcases y with y|y|y
   ·exact Z.1 y
   ·exact Z.1 (a c y).1
   ·omega
 refine hk _ E _ ((bh F).trans (D.mono λc z _=>ku c z)) (λc z=>?_) ⟨tr,λc z=>⟨λy=>?_,?_⟩,W,bY.fr D hQ (λ_ z=>z) _ r.fs,G.ls,λj J B x i b o=>(r.sl j J B x i b o).fr D λc z _=>l _ (g.ic b) ag c z,r.aF.fr D (l 0 rfl ag) hQ,?_,?_,λj N B v i b o=>?_⟩
 ·rcases z with(z|z|z)|z
  ·exact .inl z
  ·exact .inl (a c z).1
  ·exact .inr (.inr ⟨ag,ag⟩)
  ·exact .inr (.inl z)
 ·have q:=G.q c z;rcases y with(y|y|y)|y
  ·exact q.1 y
  ·exact q.1 (a c y).1
  ·omega
  ·exact R.d m c z |>.1 y
 ·have:=(G.q c z).2;omega
 ·have:(g.kp++[w]).map oz=g.kp.map oz++[oz w]:=aA
  show Os (Tr g.PT u s) E t ((g.kp++[w]).map oz) vh
  rw[this];exact O.fr L.fr λc z b' e=>by
   subst e;rcases z with z|z
   ·exact(a _ z).2 rfl
   ·omega
 ·simp[G.lk]
 ·by_cases c:j<KM.length
  ·rw[iQ c]at i;rw[iQ (by rw[G.lk.2];exact c)]at b
   rw[iQ (by rw[G.lk.1];exact c)]at o
   exact(KF N (bL i)).fr (r.aL j N B v i b o) D (l _ (g.fC b) ag) hQ
  ·have H:j=KM.length:=by
    have:=(cU.1 i).1;rw[ij,jw]at this;omega
   subst H;rw[gm (bP _),wM]at i;rw[gm (by rw[G.lk.2];omega),G.lk.2,wM]at b
   rw[gm (by rw[G.lk.1];omega),G.lk.1,wM]at o
   cases i;cases b;cases o;exact R.fr m1 D V hQ
end
def Ih(f:aq):Prop:=∀{Q:aQ}{h:Hp}{s:Sl}{K:Option Addr->HP}{Kp:PK},bY Q h s f.cs->(∀c,Q c->c<h.size)->(∀T' p h',az h h'->(∀c,T' c->h.size<=c)->f.gG Q T' h' p []->K (pB p) h')->Om f.name f.au f.k f.w f.id f.ix s h K Kp
def Uj:Bx:=⟨[],[],[],[],[],[],[]⟩
def Hr(sf:Sl):dK:=⟨sf,List.replicate 7 Sl.nil,Sl.nil,Sl.nil,[],List.replicate 7 No,No,No,[]⟩
theorem gf.new{b:Nat}(k:aN h b ((Hr t).row f ⟨0,0,0⟩).toArray Et)(o:bY D h t f.cs)(n:∀c,D c->c<b):gf f [] D (λc=>c=b) h b (Hr t) ⟨0,0,0⟩ Uj [] λ_=>[]:=by
 have lt:=k.lt;have m:∀L∈(Hr t).Ls,L=No:=λL l=>by
  grind[dK.Ls,Hr]
 refine⟨⟨rfl,λc e=>ag,λL l c z=>bU,?_⟩,λc z=>⟨λe=>bU,bU⟩,k,o,⟨rfl,rfl⟩,λi s A x d r p=>?_,⟨[],rfl,qY _ _ _ _,λc z=>(by obtain⟨a,e,_⟩:=z;cases e),λj z u d=>by simp at d⟩,Os.nil,⟨rfl,rfl⟩,λj M A w d=>by simp at d⟩
 ·grind[List.pairwise_iff_getElem,q,m,List.getElem_mem]
 ·have g:=(cU.1 d).1;have g:i<7:=by simpa[Hr]using g
  have e:s=Sl.nil:=by
   have:=bL d;exact List.eq_of_mem_replicate this
  subst e;have:i=0\/i=1\/i=2\/i=3\/i=4\/i=5\/i=6:=ag;rcases this with rfl|rfl|rfl|rfl|rfl|rfl|rfl <;> (cases p;exact Os.nil)
theorem aqw(a':bC f)(IH:∀c∈f.cs,Ih c):Ih f:=by
 intro Q h s K Kp Y hq hk;have W:=a'.right.1;have j':f.cs.length<=32:=by
  by_cases F:f.k=15\/f.k=16\/f.k=19\/f.k=20
  ·have:=W.2.2.2.2.2.2.2.1 F;omega
  by_cases B:f.k=17
  ·exact W.2.2.2.2.2.2.2.2.1 B
  by_cases h3:f.k=18
  ·exact(W.2.2.2.2.2.2.2.2.2.1 h3).2
  ·have:=W.2.2.2.2.2.2.2.2.2.2 ag;omega
 refine aE2 (aG λa F e1 g1 k1 _=>?_);simp only[bw,cz];refine dZ k1 (aG λb B e2 X k2 _=>?_);have G0:=gf.new k2 (Y.gr (ak g1 X)) λc z=>by have:=hq c z;omega
 refine nk (uQ (k1.ai X) λi v H=>by
  rcases i with _|_|_|_|_|i
  ·exact H
  ·exact H
  ·exact H
  ·exact H
  ·exact H
  ·simp at H) (aG λc h3 e3 g3 k3 _=>pE k3 rfl λh4 o4 k4=>?_)
 have g4:=bE g3 o4 ag;have G4:=G0.fr (λM hM=>by simp at hM) (bh g4) (λ_ _=>id) λ_ _=>id
 have U:∀j,∀M∈(f.cs.take j).map aq.gG,od M:=by grind[tJ]
 refine azU (λy g=>∃(j:Nat)(G:aQ)(L:dK),y=j/\j<=f.cs.length/\az h g/\h4.size<=g.size/\(∀d,G d->h.size<=d/\d≠c)/\aN g c #[ah f.k,ah f.w,ah f.id,ah f.ix,Sl.v s] kG/\gf f ((f.cs.take j).map aq.gG) Q G g b L ⟨0,0,0⟩ Uj [] λ_=>[])
  (λy _=>f.cs.length-y.toNat) ⟨0,_,_,rfl,dN _,ak (ak g1 X) g4,bP _,λd e=>by simp_all,k4,G4⟩ ?_
 rintro y h5 ⟨j,T5,I,rfl,hj,D,s5,hT,r,m⟩ N hN;have k':=Y.n;refine aj r rfl (cL (λO=>?_) λO=>?_)
 ·have R:j<f.cs.length:=ag;have Z:=bx R;have P:=kg R;generalize f.cs[j]=d at Z P;have e':((f.cs.take j).map aq.gG).length=j:=by simp;omega
  refine m.jX (aj r rfl ((Y.gr D).ix rfl Z λq u cu hu=>gK cu (IH d (bL Z) hu (λc z=>by have:=hq c z;have:=D.1;omega) λT6 w h6 C T m6=>bM m.k C ?_)))
  have s6:=C.1;have G6:=m.fr (U j) (bh C) (λ_ _=>id) λ_ _=>id;have r6:∀x,T6 x->x<h6.size:=λx z=>by
   have:=m6;rw[wE]at this;obtain⟨_,_,GG,_⟩:=this;exact GG.t.lt x z
  refine G6.aye (U j) (tJ d) m6 (λx z=>⟨λy=>by have:=m.t.lt x y;have:=T x z;omega,r6 x z⟩) ag λT7 h7 g7 V b' G7=>aW ag ag (hN _ _ ⟨j+1,T7,g7,by omega,by omega,?_,?_,?_,?_,?_⟩ ag)
  ·refine(Tn.Td ((bh (ak D C)).trans' V λx z _=>z) λx z y=>by have:=(hT x z).1;omega)
  ·have:=V.1;omega
  ·intro x z;rcases b' x z with z|z|z
   ·exact hT x z
   ·have:=T x z;have:=r.lt;have:=D.1;exact⟨by omega,by omega⟩
   ·have:=r.lt;have:=D.1;exact⟨by omega,by omega⟩
  ·exact V.aZ (r.ai C) λz=>(hT c z).2 rfl
  ·rw[P,kR];exact G7
 ·have:j=f.cs.length:=ag;subst this;rw[mz]at m;have fin:∀{G g L}{X':Bx},az h g->(∀d,G d->h.size<=d)->gf f (f.cs.map aq.gG) Q G g b L ⟨0,0,0⟩ X' [] (λ_=>[])->(X'.vl=[]/\X'.cd=[]/\X'.fx=[]/\X'.os=(if f.k=12\/f.k=13\/f.k=15 then[0]else[])/\X'.tx=[]/\X'.ix=[]/\X'.en=[])->K (pB b) g:=by
   intro G g L X' gr d' G' hX;apply hk G b g gr d';rw[wE];obtain⟨x1,x2,x3,x4,x5,x6,x7⟩:=hX;have ce:(λj=>cont f j [])=λ_=>[]:=by funext j;exact TN _ _ _ _
   refine⟨L,X',?_,?_⟩
   ·have ve:(aK f.k []).aF=[]:=by rw[PJ];rfl
    rw[ve,ce];exact G'
   ·have ne:=PJ f.k;refine⟨?_,λ_=>x1,λq=>?_,λq=>?_,λq=>?_,λq=>?_,λq=>?_,λq=>by rw[x3];rfl⟩
    ·rw[x1,x2,x3,x4,x5,x6,x7];refine⟨?_,?_,?_,?_,?_,?_,?_⟩ <;> (try split) <;> simp
    ·rw[x4,ne]
    ·rw[x5,ne];rfl
    ·rw[x2,ne];rfl
    ·rw[x6,ne];show _=if _ then _ else _;rw[ay]
    ·rw[x7,ne];show _=if _ then _ else _;rw[ay]
  have KF:=nV f.cs;have gT:=λd z=>(hT d z).1;have two:∀bb:Bool,bb=decide (f.k=12\/f.k=13\/f.k=15)->M1 K Kp (aJ b) bb h5:=by
   intro bb p;refine aBP (aE (λl=>?_) λl=>?_)
   ·have e:f.k=12\/f.k=13\/f.k=15:=by rw[l]at p;simpa using p.symm
    have ls:=m.ls;have F:I.SS[3]? =some (I.SS[3]' ag):=bx _;have B:I.ST[3]? =some (I.ST[3]' ag):=bx _;generalize I.SS[3]' ag=t0 at F;generalize I.ST[3]' ag=A at B;have o:=m.sl 3 t0 A (ints [],Y6) F B rfl;simp only[bw,cz];refine m.dG F (aG λc' h6 e6 C k6 _=>?_);have S6:=(gp.of (E:=λ_=>False) m λ_ z=>z.elim).ai KF C;have on:=o.n;refine(o.gr C).BY rfl (λx hx=>by simp at hx;subst hx;rfl) rfl (iM k6 rfl) (by rw[on];simp[ints]) (by rw[on];simp[ints]) λs' h7 t os=>S6.slot KF F B t (X':={Uj with os:=[0]}) os.tr rfl λh8 t8 S8=>fin ?_ ?_ S8.S ⟨rfl,rfl,rfl,by rw[aI e],rfl,rfl,rfl⟩
    ·exact Tn.Td ((bh D).trans' S8.x.tn λx z _=>z) λx z y=>by have:=gT x z;omega
    ·intro d z;have:=S8.x.t' d z;have i':=D.1;rcases this with z|z
     ·exact gT d z
     ·omega
   ·have e:¬(f.k=12\/f.k=13\/f.k=15):=by rw[l]at p;simpa using p.symm
    exact fin D gT m ⟨rfl,rfl,rfl,by rw[aC e];rfl,rfl,rfl,rfl⟩
  refine aBQ (aj r rfl (aE (λJ=>?_) λJ=>aj r rfl ?_))
  ·have J:=aM J;grind[aid,bO]
  ·have J:=aM J;refine aid (aE (λl=>?_) λl=>aj r rfl (two _ ?_))
   ·have l:=aM l;exact two true (by simp[l])
   ·have l:=aM l;rw[ke];simp;omega
theorem abe:∀f:aq,bC f->Ih f/\True
  | .mk b au k w id ix cs,a=>by
    have e:∀c∈cs,Ih c:=λc d=>(abe c (a.aL d)).1;exact⟨@aqw _ a e,trivial⟩
theorem aqx(f:aq)(a:bC f):Ih f:=(abe f a).1
def nz(b:UInt8):Nat:=if b=0 then 0 else 1
theorem axz{a b:dB}(hl:a.length=b.length)(h:∀i,gI a i=gI b i):a=b:=by
 apply U2 hl;intro i d c;apply UD.1;apply Nat.eq_of_testBit_eq;intro j
 by_cases e:j<8
 ·have:=h (8*i+j);rw[LJ,LJ,show _/8=i by omega,show _%8=j by omega]at this
  grind
 ·have p:2^8<=2^j:=Ee ag ag;have:=a[i].toNat_lt;have:=b[i].toNat_lt;rw[Nat.testBit_lt_two_pow ag,Nat.testBit_lt_two_pow ag]
theorem apw{α:Type}(l:List α)(q:α->Bool):qJ (l.map q)=qU (l.map λx=>if q x then 1 else 0):=by
 grind[axz,P9,aeS,List.length_map,aaK,aeT]
section
variable {K:Sl->HP}
theorem aeV(v:Sv h s (bv l))(hl:l.length<=300000)(hk:∀t h',az h h'->dX (Nw h) h' t (bv (qU (l.map nz)))->K t h'):Oi s h K Kp:=by
 have hn:=v.1;rw[fM]at hn;have e1:Int.tdiv ((s.n:Int)+7) 8=(((l.length+7)/8:Nat):Int):=by rw[hn];rfl
 refine aES (aW ag ag (oP aY ?_));rw[e1];refine aW ag ag (EB ag ag ag λt h1 g1 ot _=>azP (λx h'=>∃i:Nat,x=i/\i<=l.length/\az h h'/\gU h' t h.size (bv (mu (l.map nz) i)) Y8) (λx _=>l.length-x.toNat) ⟨0,rfl,dN _,g1,?_⟩ ?_)
 ·rw[fR]at ot;unfold mu;rw[HQ];simp only[List.zipIdx_nil,List.foldl_nil,cm,bv,UJ];exact ot
 rintro x h2 ⟨i,rfl,hi,g2,o2⟩ N hN;have bl:=LH (l.map nz) i (by rw[cm];exact hi)
 rw[cm]at bl;have tn:t.n=(l.length+7)/8:=by rw[o2.2.1,fM,bl]
 refine cL (λcc=>?_) λcc=>?_
 ·have kK:i<l.length:=ag;have hx:=bx kK;generalize l[i]=y at hx;have hx2:(l.map nz)[i]? =some (nz y):=by rw[fh,hx];rfl
  have hd:i/8<(mu (l.map nz) i).length:=ag;refine(v.ai g2).ix ag ag (by rw[fR,bv,fh,hx];rfl) λa ca=>⟨_,ca,aE (λc2=>?_) λc2=>?_⟩
  ·have c2:=aM c2;have hy:¬y=0:=λe=>c2 (by rw[e];rfl)
   have e1:Int.tdiv (i:Int) 8=((i/8:Nat):Int):=rfl;have e2:Int.tmod (i:Int) 8=((i%8:Nat):Int):=rfl;have ei:(((i/8:Nat):Int)).toNat=i/8:=ag;apply oP aY;rw[e1];refine aW ag ag (o2.vY ag ag (o2.ld ag (by rw[ei];exact aeL hd) (oP aY ?_)))
   rw[e2];refine yS (js ag ?_);have em:min (Int.toNat ((i%8:Nat):Int)) (IntKind.bits .u8)=i%8:=by
    rw[fR];have:=yM i (show 8>0 by decide);show min _ 8=_;omega
   have es:(1:Int)*2^(i%8)=((2^(i%8):Nat):Int):=by push_cast;omega
   have hp:2^(i%8)<2^8:=LZ aY (yM _ aY);have GB:=((mu (l.map nz) i).getD (i/8) 0).toNat_lt;rw[em,es];refine pQ rfl hp (yS ?_);rw[Un _ _ GB hp];refine o2.vY ag ag (o2.st ag rfl λh3 w3 o3=>aW ag ag (hN _ _ ⟨i+1,aA,ag,bE g2 w3 (bP _),?_⟩ ag))
   rw[LG hx2,aI (by unfold nz;rw[aC hy])]
   rw[ei]at o3;have e:(((mu (l.map nz) i).getD (i/8) 0).toNat|||2^(i%8))=(UInt8.ofNat (((mu (l.map nz) i).getD (i/8) 0).toNat|||2^(i%8))).toNat:=by
    rw[tM,uY (HJ GB hp)]
   rw[e,Uk]at o3;exact o3
  ·have c2:=aM c2;refine aW ag ag (hN _ _ ⟨i+1,aA,ag,g2,?_⟩ ag)
   have hy:y=0:=UD.1 (by show y.toNat=0;omega)
   rw[LG hx2,aC (by unfold nz;rw[aI hy];decide)]
   exact o2
 ·have:i=(l.map nz).length:=by rw[cm];omega
  subst this;rw[aeR]at o2;exact hk t h2 g2 ⟨o2.sv,λ_ a ha=>by rw[o2.1]at ha;cases ha;exact bP _⟩
theorem Os.lp{A:aQ}{vs:bg}(o:Os A h s vs el):dX A h s vs:=⟨o.sv,λd a c=>by
 rcases o with⟨rfl,_⟩|⟨b,t,o⟩
 ·cases c
 ·rw[o.1]at c;cases c;exact t⟩
theorem Os.new{b:Nat}{A:aQ}(k:aN h b #[] el)(c:A b):Os A h ⟨some (aJ b),0,0⟩ [] el:=.inr ⟨b,c,rfl,rfl,_,k,bP _,rfl,λi a=>absurd a (Nat.not_lt_zero _)⟩
theorem ars{n w:Nat}(b:w<=8):iU ((n:Int)%2^64).toNat w=iU n w:=by
 unfold iU;refine B4 λi a=>?_;have a:=wO.1 a;rw[aeF ag];grind[yu,UInt8.toNat_inj,UInt8.toNat_ofNat']
theorem Gc{l:cG}{w:Int}(v:Sv h s (ints l))(hl:l.length<=70000)(C:0<=w/\w<=8)(E:∀t d,az h d->dX (Nw h) d t (bv (laidB l w.toNat))->K t d):sK s w h K Kp:=by
 have D:=v.1;rw[ints,cm]at D;refine aER (aG λb M e1 F B _=>azO (λt x d=>∃i:Nat,x=i/\i<=l.length/\az h d/\Os (Nw h) d t (bv (laidB (l.take i) w.toNat)) Y8) (λ_ x _=>l.length-x.toNat) ⟨0,rfl,dN _,F,Os.new B ag⟩ ?_)
 rintro t x n ⟨i,rfl,J,k,m⟩ N hN;refine cL (λf=>?_) λf=>?_
 ·have p:l[i]? =some l[i]:=aA;have g:l.take (i+1)=l.take i++[l[i]]:=aA;generalize l[i]=y at p g;refine(v.ai k).ix ag ag (by rw[fR,ints,fh,p];rfl) λa G=>⟨_,G,?_⟩
  have q:(laidB (l.take i) w.toNat).length<=70000*8:=by rw[Ga,kP];exact tN ag ag
  refine aa9 (A:=λc=>h.size<=c/\c<n.size) (m.imp id λ⟨b,t,o⟩=>⟨b,⟨t,o.lt⟩,o⟩) (λc z=>z.2) ag C λI L r u=>aW ag ag (hN _ _ _ ⟨i+1,aA,ag,((bh k:Tn No h n).trans' r λc z H=>ag).ai,?_⟩ ag)
  rw[g];have e:laidB (l.take i++[y]) w.toNat=laidB (l.take i) w.toNat++iU ((y:Int)%2^64).toNat w.toNat:=by
   rw[ars ag];simp[laidB]
  rw[e];refine u.mono λc z=>?_;have:=k.1;omega
 ·have:i=l.length:=ag;subst this;rw[mz]at m;exact E t n k m.lp
theorem TM{b:Nat}(g:az h0 h)(r:h0.size<=b)(k:aN h b #[] Y8)(v:Sv h s (bv l))(p:s.a≠none\/l=[])(hl:l.length<=300000)(m:∀t d,az h0 d->Tn (λc=>c=b) h d->dX (λc=>c=b\/h.size<=c) d t (bv l)->K t d):Ap h Y8 #[.int .u8 0] 1 1 ⟨some (aJ b),0,0⟩ s.n (rd h s.a (s.n*1)) K:=by
 have j:=v.1;rw[fM]at j;refine(Os.new (A:=λc=>c=b) k rfl).BY rfl (λx i=>?_) (by rw[fM,j]) (v.A7 (p.imp id λe=>by rw[e];rfl)) bU bU λt d f o=>?_
 ·simp only[bv,lU]at i;obtain⟨y,_,rfl⟩:=i;rfl
 ·exact m t d ((bh g:Tn No h0 h).trans' f λc z q=>ag).ai f (o.lp.mo λc z=>z)
end
abbrev KD:=Int->Int->Int->Sl->Sl->Sl->HP
abbrev E9(h0:Hp)(a2 a3:Nat):Nat->Prop:=λc=>h0.size<=c/\c≠a2/\c≠a3
structure D9(h0 h:Hp)(a2 a3:Nat)(n u:Nat)(B:Sl)(ds:jG):Prop where
 g:az h0 h
 k2:aN h a2 cY bX
 k3:aN h a3 #[ah (n:Int),ah 0,ah (u:Int),Sl.v Sl.nil,Sl.v Sl.nil,Sl.v Sl.nil] bX
 l:h0.size<=a2/\h0.size<=a3/\a2≠a3
 ds:dz (E9 h0 a2 a3) (E9 h0 a2 a3) h B ds
section
variable {h':Hp} {a2 a3 n u m:Nat} {B:Sl} {ds:jG} {aX:ig} {a:Addr} {K:KD}
theorem D9.gr(s:D9 h0 h a2 a3 n u B ds)(g:az h h'):D9 h0 h' a2 a3 n u B ds:=⟨ak s.g g,s.k2.ai g,s.k3.ai g,s.l,s.ds.gr g⟩
theorem D9.e(s:D9 h0 h a2 a3 n u B ds){c:Nat}(z:h.size<=c):E9 h0 a2 a3 c:=by
 have:=s.g.1;have:=s.k2.lt;have:=s.k3.lt;omega
theorem D9.end{cs:jG}{k:jG}{b c x:Sl}(s:D9 h0 h a2 a3 n u B ds)(o:eD a3 h h')(r:aN h' a3 #[ah (n:Int),ah 0,ah (u:Int),Sl.v b,Sl.v c,Sl.v x] bX)(H:fc (E9 h0 a2 a3) (E9 h0 a2 a3) h b aX)(G:dz (E9 h0 a2 a3) (E9 h0 a2 a3) h c cs)(F:dz (E9 h0 a2 a3) (E9 h0 a2 a3) h x k)
  (E:∀q h',az h0 h'->eU (Nw h0) (Nw h0) h' q (.mk n 0 u aX cs k)->K n 0 u q.1 q.2.1 q.2.2 h'):cr h' (aJ a3) λb c d e f g=>cV h' (aJ a2) b c d e f g λj=>cr j (aJ a2) λb c d e f g=>K b c d e f g j:=by
 have l:=s.l;refine gl r (jI (o.aZ s.k2 l.2.2) rfl λj i w=>gl w (E (b,c,x) j ?_ ?_))
 ·exact bE (bE s.g o l.2.1) i l.1
 ·have t:Tn (λc=>c=a3\/c=a2) h j:=(o.fr.mono λc z _=>.inl z).trans (i.fr.mono λc z _=>.inr z);have q:∀c,E9 h0 a2 a3 c->¬(c=a3\/c=a2):=ag
  exact⟨H.fr t (λc z _=>q c z) (λc z _=>q c z) (λc z=>z.1) λc z=>z.1,G.fr t (λc z _=>q c z) (λc z _=>q c z) (λc z=>z.1) λc z=>z.1,F.fr t (λc z _=>q c z) (λc z _=>q c z) (λc z=>z.1) λc z=>z.1⟩
theorem D9.b(s:D9 h0 h a2 a3 n u B ds)(I:fc (E9 h0 a2 a3) (E9 h0 a2 a3) h ⟨some a,m,m⟩ aX)(H:∀q h',az h0 h'->eU (Nw h0) (Nw h0) h' q (.mk n 0 u aX [] [])->K n 0 u q.1 q.2.1 q.2.2 h'):St h ⟨a3,3,none⟩ (.slice (some a) m m) λh'=>cr h' (aJ a3) λb c d e f g=>cV h' (aJ a2) b c d e f g λz=>cr z (aJ a2) λb c d e f g=>K b c d e f g z:=
 dc s.k3 aA rfl λh' o k=>s.end o (by simpa[Sl.v,Sl.nil]using k) I (jH _) (jH _) H
theorem D9.k(s:D9 h0 h a2 a3 n u B ds)(H:fc (E9 h0 a2 a3) (E9 h0 a2 a3) h ⟨some a,m,m⟩ aX)(C:∀q h',az h0 h'->eU (Nw h0) (Nw h0) h' q (.mk n 0 u aX ds [])->K n 0 u q.1 q.2.1 q.2.2 h'):St h ⟨a3,3,none⟩ (.slice (some a) m m) λh'=>St h' ⟨a3,4,none⟩ (Sl.v B) λh'=>cr h' (aJ a3) λb c d e f g=>cV h' (aJ a2) b c d e f g λz=>cr z (aJ a2) λb c d e f g=>K b c d e f g z:=
 dc s.k3 aA rfl λh1 i j=>dc j aA rfl λh' o k=>s.end (i.trans o) (by simpa[Sl.v,Sl.nil]using k) H s.ds (jH _) C
theorem D9.d(s:D9 h0 h a2 a3 n u B ds)(J:fc (E9 h0 a2 a3) (E9 h0 a2 a3) h ⟨some a,m,m⟩ aX)(H:∀q h',az h0 h'->eU (Nw h0) (Nw h0) h' q (.mk n 0 u aX [] ds)->K n 0 u q.1 q.2.1 q.2.2 h'):St h ⟨a3,3,none⟩ (.slice (some a) m m) λh'=>St h' ⟨a3,5,none⟩ (Sl.v B) λh'=>cr h' (aJ a3) λb c d e f g=>cV h' (aJ a2) b c d e f g λz=>cr z (aJ a2) λb c d e f g=>K b c d e f g z:=
 dc s.k3 aA rfl λh1 i j=>dc j aA rfl λh' o k=>s.end (i.trans o) (by simpa[Sl.v,Sl.nil]using k) J (jH _) s.ds H
theorem D9.r{cs:jG}(s:D9 h0 h a2 a3 n u B ds)(H:dz (E9 h0 a2 a3) (E9 h0 a2 a3) h t cs)(C:∀q h',az h0 h'->eU (Nw h0) (Nw h0) h' q (.mk n 0 u [] cs [])->K n 0 u q.1 q.2.1 q.2.2 h'):St h ⟨a3,4,none⟩ (Sl.v t) λh'=>cr h' (aJ a3) λb c d e f g=>cV h' (aJ a2) b c d e f g λz=>cr z (aJ a2) λb c d e f g=>K b c d e f g z:=
 dc s.k3 aA rfl λh' o k=>s.end o bU fc.none H (jH _) C
theorem D9.zz(s:D9 h0 h a2 a3 n u B ds)(k:∀q h',az h0 h'->eU (Nw h0) (Nw h0) h' q (.mk n 0 u [] [] [])->K n 0 u q.1 q.2.1 q.2.2 h'):cr h (aJ a3) λb c d e f g=>cV h (aJ a2) b c d e f g λj=>cr j (aJ a2) λb c d e f g=>K b c d e f g j:=
 s.end (eD.refl _ _) s.k3 fc.none (jH _) (jH _) k
end
def IY(f:aq):Prop:=∀{Q T:aQ}{h:Hp}{p:Nat}{vs:aP}{K:KD}{Kp:PK},f.can vs->f.gG Q T h p vs->
 (∀q h',az h h'->eU (Nw h) (Nw h) h' q (f.dn (f.st vs))->K (f.dn (f.st vs)).len (f.dn (f.st vs)).off (f.dn (f.st vs)).au q.1 q.2.1 q.2.2 h')->Ol (pB p) h K Kp
section
variable {Q T:aQ} {h1:Hp} {p a2 a3 n u ao:Nat} {vs:aP} {g:dK} {X:Bx} {B A:Sl} {K:KD}
theorem arU(hn:f.cs.length<=32)(IH:∀c∈f.cs,IY c)(hc:f.can vs)(G:gf f (uc f) Q T h0 p g (yw f vs) X (aK f.k vs).aF (λj=>cont f j vs))(s:D9 h0 h a2 a3 n u Sl.nil [])
  (hk:∀B h',D9 h0 h' a2 a3 n u B (ie f vs)->az h h'->MZ K Kp (pB p) (aJ a2) (aJ ao) (aJ a3) A B h'):Is K Kp (pB p) (aJ a2) (aJ ao) (aJ a3) A h:=by
 have dl:=Ds f vs;have dg:=λ(j:Nat)c(hj:f.cs[j]? =some c)=>uG (vs:=vs) hj;have sp:g.sp.n=f.cs.length:=by rw[G.pt.n,cm,G.lk.1];simp
 generalize c':ie f vs=ds at hk dl dg;refine aBO (aG λab h1 e1 g1 k1 _=>?_);refine azT (λF x t=>∃(i:Nat)(J:List (Sl×Sl×Sl)),x=i/\i<=ds.length/\J.length=i/\az h t/\eT h.size 6 t F (List.zipWith bD.row (ds.take i) J) bX/\
   ∀(j:Nat)(d:bD)(p:Sl×Sl×Sl),ds[j]? =some d->J[j]? =some p->eU (λb=>h.size<=b/\¬F.at b) (λb=>h.size<=b/\¬F.at b) t p d)
  (λ_ x _=>ds.length-x.toNat) ⟨0,[],rfl,ag,rfl,g1,?_,aA⟩ ?_
 ·exact⟨λ_ h=>by simp at h,rfl,.inr ⟨ab,ag,k1.lt,rfl,rfl,_,k1,bP _,rfl,λi hi=>absurd hi aA⟩⟩
 rintro F x t ⟨i,J,rfl,hi,D,N,I,hu⟩ N1 hN;have Y:=I.n;rw[oG,kP]at Y;have s2:=N.1;have G2:=G.fr (nV f.cs) (bh (ak s.g N)) (λ_ _=>id) λ_ _=>id;refine bK ?_;refine G2.jX (aE (λO=>?_) λO=>?_)
 ·have O:=aM O;have y:f.cs[i]? =some f.cs[i]:=aA;generalize f.cs[i]=c at y;have E:=dg i c y;refine G2.Zf y rfl λA' w hA hw m=>IH c (bL y) (fy y hc) m λq h3 g3 v3=>aG λb4 M e4 g4 k4 _=>?_;generalize c.dn _=d at E v3 k4;have P:=ak g3 g4;have s4:=P.1;refine(I.ai P).ap ag rfl (new:=[d.row q]) rfl (λr L=>by simp at L;subst L;rfl) (λr L=>by simp at L;subst L;exact Tz d q) (by simpa[bD.row,xk]using iM k4 rfl) ag ag λH h5 W a' o5=>aW ag ag (hN _ _ _ ⟨i+1,J++[q],aA,ag,by simp[D],?_,?_,?_⟩ ag)
  ·exact(((bh (ak N P):Tn No h M)).trans' W λb hd Z=>by have:=((I.ai P).at hd).1;omega).ai
  ·rw[Jj E D];exact o5
  ·intro j e v V U;have C:∀b,H.at b->b<M.size->F.at b:=λb q o=>(a' b q).resolve_right ag;rcases xu D U with⟨Z,U⟩|⟨rfl,rfl⟩
   ·refine((hu j e v V U).lt.gr P).fr W (λb o _=>o.1.2) (λb o _=>o.1.2) (λb o=>⟨o.1.1,λq=>o.1.2 (C b q ag)⟩) (λb o=>⟨o.1.1,λq=>o.1.2 (C b q ag)⟩)
   ·rw[E]at V;cases V;have R:∀b,F.at b->h.size<=b/\b<t.size:=λb o=>I.at o;refine((v3.gr g4).lt).fr W (λb(o:t.size<=b/\_)_ q=>by have:=R b q;omega) (λb(o:t.size<=b/\_)_ q=>by have:=R b q;omega) (λb(o:t.size<=b/\b<M.size)=>⟨ag,λq=>?_⟩) (λb(o:t.size<=b/\b<M.size)=>⟨ag,λq=>?_⟩)
    ·have:=R b (C b q o.2);omega
    ·have:=R b (C b q o.2);omega
 ·have O:=aM O;have:i=ds.length:=ag;subst this;rw[mz]at I;have d9:=dz.snoc I D (λb(o:h.size<=b)=>o) λj d p h1 t=>(hu j d p h1 t).mo (λb o=>o.1) λb o=>o.1;have H:=s.gr N;exact hk _ _ ⟨H.g,H.k2,H.k3,H.l,dz.fr (iX _ _) (λ_ _ _=>id) (λ_ _ _=>id) (λc z=>s.e z) (λc z=>s.e z) _ d9⟩ N
end
theorem Os.ne{A:aQ}(o:Os A h s (bv l) el):s.a≠none\/l=[]:=by
 rcases o with⟨_,e⟩|⟨b,_,e,_⟩
 ·exact .inr (Vd.1 e)
 simp[*]
section
variable {Q T:aQ} {h1:Hp} {p a2 a3 n u ao:Nat} {vs:aP} {g:dK} {X:Bx} {vl:aP} {nb:Bn} {B A:Sl} {K:KD} {ds:jG}
theorem gf.slot(G:gf f (uc f) Q T h p g nb X vl kc){i:Nat}(a:i<7):∃t,g.SS[i]? =some t:=⟨_,bx (by have:=G.ls.1;omega)⟩
theorem gf.os{y:List Value×TypeId}(G:gf f (uc f) Q T h p g nb X vl kc)(a:g.SS[i]? =some t)(d:X.fj[i]? =some y):∃A,Os A h t y.1 y.2:=by
 have c:=(cU.1 a).1;have b:=G.ls;exact⟨_,G.sl i t _ y a (bx ag) d⟩
theorem auk(i:bC f)(j:f.can vs)(c:f.k=14):∀v∈vs,v.au=true/\v.text=[]\/v.au=false/\v.text.length=f.w.toNat/\v.text≠[]:=by
 intro v d;have l:=i.right.1.2.2.1 c;have a:=((gk f vs).1 j).fit v d;rw[eL]at a;unfold fD at a;grind
theorem auo(e:f.can vs)(d:f.k=2):∀v∈vs,(v.num%2^64).toNat=0\/(v.num%2^64).toNat=1:=by
 intro v c;have a:=((gk f vs).1 e).fit v c;rw[eL]at a;unfold fD at a;grind
theorem acU{α β:Type}(l:List α)(q:α->β):l.flatMap (λx=>[q x])=l.map q:=by induction l <;> simp_all
theorem atZ(c:f.can vs)(a:f.k=2)(ok:nF f vs X):X.fx.map nz=(aK f.k vs).dV:=by
 rw[ok.x (by rw[a];rfl)]
 have:(aK f.k vs).dV=vs.map λv=>(v.num%2^64).toNat:=by simp[aK,a,fH]
 rw[this];have e:vs.flatMap (lR f)=vs.map λv=>UInt8.ofNat (v.num%2^64).toNat:=by
  rw[<-acU];congr 1;funext v;unfold lR;simp[*]
 rw[e,L0];refine B4 λv b=>?_
 show nz (UInt8.ofNat _)=_
 rcases auo c a v b with q|q <;> rw[q] <;> rfl
theorem atY(i:bC f)(j:f.can vs)(a:f.k=14)(ok:nF f vs X):X.fx=mh f.w.toNat (aK f.k vs).texts:=by
 rw[ok.x (by rw[a];rfl)]
 have:(aK f.k vs).texts=vs.map aB.text:=by simp[aK,a,fH]
 rw[this];unfold mh;rw[List.flatMap_map,UC,UC]
 congr 1
 refine B4 λv e=>?_;unfold lR;rw[ay,aI a];grind[auk]
theorem atX(b:3<=f.k/\f.k<=11)(ok:nF f vs X):X.fx=laidB (aK f.k vs).dV (wB f.k):=by
 have a:fH f.k=true:=by unfold fH;simp;omega
 rw[ok.x a];have:(aK f.k vs).dV=vs.map λv=>(v.num%2^64).toNat:=by simp[aK,a]
 rw[this];unfold laidB;rw[List.flatMap_map]
 congr 1
 funext v
 unfold lR;rw[ay,ay,(CP b).1]
theorem avq(F:bC f)(hc:f.can vs)(G:gf f (uc f) Q T h0 p g (yw f vs) X (aK f.k vs).aF (λj=>cont f j vs))(ok:nF f vs X)(s:D9 h0 h a2 a3 vs.length (aK f.k vs).ck B (ie f vs))(R:∃sf,aN h ao #[ah f.k,ah f.w,ah f.id,ah f.ix,Sl.v sf] kG)
  (V:f.k≠18/\f.k≠20->dX (E9 h0 a2 a3) h A (bv (dF (aK f.k vs)))) (c':14<=f.k\/f.k<=11) (nS:f.k≠1/\f.k≠2/\f.k≠15/\f.k≠20)
  (C:∀q Y,az h0 Y->eU (Nw h0) (Nw h0) Y q (f.dn (f.st vs))->K (f.dn (f.st vs)).len (f.dn (f.st vs)).off (f.dn (f.st vs)).au q.1 q.2.1 q.2.2 Y):EI K Kp (pB p) (aJ a2) (aJ ao) (aJ a3) A B f.k (decide (f.k=16\/f.k=17)) h:=by
 have n4:=((gk f vs).1 hc).n4;have b:=ok.b;have ks:=F.right.1.1;have b':=F.right.1.2.1;have KF:=nV f.cs;have x:∀{hx:Hp},az h hx->gf f _ Q T hx p g _ X (aK f.k vs).aF _:=λgx=>G.fr KF (bh (ak s.g gx)) (λ_ _=>id) λ_ _=>id;obtain⟨sf,R⟩:=R;refine aic (cL (λL=>?_) λL=>?_)
 ·have E:=BG (vs:=vs) L;rw[E]at C;exact D2 (V ag) (s.e (bP _)) λb h1 l _ r=>(s.gr l).k r C
 refine aE (λJ=>?_) λJ=>aE (λH=>?_) λH=>aE (λO=>by have O:=aM O;omega) λO=>?_
 ·have J:=aM J;have E:=K0 (vs:=vs) J;rw[E]at C;refine aG λa5 h1 e1 l U _=>?_;have s1:=l.1;refine bK ?_;obtain⟨t1,q1⟩:=G.slot (i:=1) ag;obtain⟨t3,q3⟩:=G.slot (i:=3) ag;obtain⟨_,o1⟩:=(x l).os q1 rfl;refine(x l).dG q1 ((x l).dG q3 (TM l ag U o1.sv o1.ne ag λt W m Z P=>mF (x l).k (x m).k ?_));obtain⟨_,o3⟩:=(x m).os q3 rfl;have s2:=m.1;refine Gc o3.sv ag ag λu N I v3=>oC (D:=E9 h0 a2 a3) ((P.gr I).mo λc z=>s.e ag) (v3.mo λc(z:W.size<=c)=>s.e ag) (((s.gr m).gr I).e (bP _)) λa h4 g4 r=>?_;rw[ok.c J,ok.o ag]at r;exact(((s.gr m).gr I).gr g4).k r C
 ·have H:=aM H;have E:=GR (vs:=vs) H;rw[E]at C;refine bK ?_;obtain⟨t5,q5⟩:=G.slot (i:=5) ag;obtain⟨_,o5⟩:=(x (cK _)).os (y:=(ints X.ix,Y6)) q5 rfl;have e5:X.ix=(aK f.k vs).ends:=ok.i H;have a':=F.right.1.2.2.2.2.2.1 H;have ew:=CP (k:=f.ix) ag;refine(x (cK _)).dG (i:=5) q5 (aj R rfl (Pr (bM (x (cK _)).k (cK _) (Gc o5.sv ag ag λt h1 l v1=>oC (D:=E9 h0 a2 a3) ((V ag).gr l) (v1.mo λc z=>s.e z) ((s.gr l).e (bP _)) λa W m r=>?_))));rw[e5,ew.1]at r;exact((s.gr l).gr m).d r C
 ·simp only[sm,reduceCtorEq]at J H O;refine aG λa5 h1 e1 l U _=>?_;have s1:=l.1;refine bK ?_;obtain⟨Z,q2⟩:=G.slot (i:=2) ag;obtain⟨_,o2⟩:=(x l).os (y:=(bv X.fx,Y8)) q2 rfl;refine(x l).dG (i:=2) q2 (TM l ag U o2.sv o2.ne ag λt W m Z P=>oC (D:=E9 h0 a2 a3) ((V ag).gr m) (P.mo λc z=>s.e ag) ((s.gr m).e (bP _)) λa N I r=>?_)
  by_cases M:f.k=14
  ·have E:=BH (vs:=vs) M;rw[E]at C;rw[atY F hc M ok]at r;exact((s.gr m).gr I).b r C
  ·have N:3<=f.k/\f.k<=11:=ag;have E:=zP (vs:=vs) N;rw[E]at C;rw[atX N ok]at r;exact((s.gr m).gr I).b r C
end
theorem zn{a:Addr}:dX D h ⟨some a,0,0⟩ (bv []):=⟨⟨rfl,bP _,λx hx=>by simp at hx⟩,λq=>absurd rfl q⟩
section
variable {Q T:aQ} {hx:Hp} {p a2 a3 n u m f9 ao:Nat} {vs:aP} {g:dK} {X:Bx} {B A:Sl} {a:Addr} {d:bD} {out:dB} {K:KD}
theorem aoe(s:D9 h0 h a2 a3 n u B [d])(F:az h hx)(x:aN hx f9 cY bX)(w:h.size<=f9)(H:fc (Ex h f9) (Ex h f9) hx ⟨some a,2,2⟩ [[],out])
  (E:∀q k,az h0 k->eU (Nw h0) (Nw h0) k q (.mk n 0 u [] [.mk m 0 0 [[],out] [] [],d] [])->K n 0 u q.1 q.2.1 q.2.2 k):qy (aJ a2) (aJ a3) B K m hx (aJ f9) a:=by
 unfold qy;refine jI x rfl λD v C=>gl C ?_;have j:=bE F v w;refine(s.ds.lt.gr j).ix rfl rfl λM q cs G=>cr.c cs (aG λb J L l y _=>?_);have o:=H.fr v.fr (λc z _ e=>z.2 e) (λc z _ e=>z.2 e) (λc z=>z) λc z=>z;refine((s.gr j).gr l).r (dz.two (p:=(⟨some a,2,2⟩,Sl.nil,Sl.nil)) y ((s.gr j).e ag) ⟨?_,jH _,jH _⟩ ?_) E
 ·exact(o.gr l).mo (λc z=>s.e z.1) λc z=>s.e z.1
 ·exact(G.gr l).mo (λc z=>z.1) λc z=>z.1
theorem avr(hc:f.can vs)(nS:f.k=20)(a':∃d,ie f vs=[d])(G:gf f (uc f) Q T h0 p g (yw f vs) X (aK f.k vs).aF (λj=>cont f j vs))(ok:nF f vs X)(s:D9 h0 h a2 a3 vs.length 0 B (ie f vs))
  (hk:∀q H,az h0 H->eU (Nw h0) (Nw h0) H q (f.dn (f.st vs))->K (f.dn (f.st vs)).len (f.dn (f.st vs)).off (f.dn (f.st vs)).au q.1 q.2.1 q.2.2 H):EI K Kp (pB p) (aJ a2) (aJ ao) (aJ a3) A B f.k false h:=by
 have n4:=((gk f vs).1 hc).n4;have b:=ok.b;have Y:∀{hx:Hp},az h hx->gf f _ Q T hx p g _ X (aK f.k vs).aF _:=λN=>G.fr (nV f.cs) (bh (ak s.g N)) (λ_ _=>id) λ_ _=>id;have ef:=KZ (vs:=vs) nS;rw[ef]at hk;obtain⟨d,hd⟩:=a';rw[hd]at hk s;have e6:=ok.e nS;obtain⟨I,Z⟩:=G.slot (i:=6) ag;have o6:∀{hx:Hp},az h hx->∃A,Os A hx I _ Y6:=λN=>(Y N).os Z rfl;have n6:(I.n:Int)=((aK f.k vs).ends.length:Nat):=by obtain⟨_,o⟩:=o6 (cK _);rw[o.n];show _=_;rw[ints,cm,e6]
 have x:=λ{hx:Hp}(N:az h hx)=>(Y N).k;have TL:∀{hx:Hp}{f9:Nat}{a:Addr},az h hx->aN hx f9 cY bX->h.size<=f9->fc _ _ hx ⟨some a,2,2⟩ [[],laidB (aK f.k vs).ends 4]->qy _ _ B K I.n hx _ a:=λN J O V=>by
  rw[n6];exact aoe s N J O V hk
 have L:∀{w:Hp}{X':Sl->HP},az h w->(∀t H,az w H->dX (Nw w) H t (bv (laidB (aK f.k vs).ends 4))->X' t H)->sK I 4 w X' Kp:=λC hX=>by
  obtain⟨_,o⟩:=o6 C;exact Gc o.sv ag ag λt H F v=>hX t H F bU
 have W:∀{w:Hp}{f9:Nat}{t:Sl}{e:Addr},az h w->aN w f9 cY bX->h.size<=f9->dX _ w t (bv (laidB (aK f.k vs).ends 4))->aH w #[.slice (some e) 0 0,Sl.v t] fN λc d=>aU w d ⟨p,16,none⟩ 1 (qy (aJ a2) (aJ a3) B K I.n d (aJ f9) c):=λ{w f9 t e}C J O v=>
  oC zn v ⟨by have:=C.1;omega,by have:=J.lt;omega⟩ λa H F V=>bM (x C) F (TL (ak C F) (J.ai F) O V)
 have FP:∀{w:Hp}{f9:Nat}{e:Addr},az h w->aN w f9 cY bX->h.size<=f9->sK I 4 w (λc d=>aU w d ⟨p,16,none⟩ 1 (aH d #[.slice (some e) 0 0,Sl.v c] fN λc i=>aU d i ⟨p,16,none⟩ 1 (qy (aJ a2) (aJ a3) B K I.n i (aJ f9) c))) Kp:=λ{w f9 e}C J O=>
  L C λt H F v=>bM (x C) F (W (ak C F) (J.ai F) O (v.mo λc(z:w.size<=c)=>by have:=J.lt;omega))
 have ZP:∀{w:Hp}{t:Sl}{e:Addr},az h w->dX (Nw h) w t (bv (laidB (aK f.k vs).ends 4))->aH w cY bX λa i=>aU w i ⟨p,16,none⟩ 1 (aU w i ⟨p,16,none⟩ 1 (aH i #[.slice (some e) 0 0,Sl.v t] fN λc d=>aU i d ⟨p,16,none⟩ 1 (qy (aJ a2) (aJ a3) B K I.n d a c))):=λ{w t e}C v=>
  aG λb R e1 l k1 _=>bM (x C) l (bM (x C) l (W (ak C l) k1 (by have:=C.1;omega) (v.kN l ag λc z=>z)))
 have PZ:∀{w:Hp}{t:Sl}{e:Addr},az h w->dX (Nw h) w t (bv (laidB (aK f.k vs).ends 4))->aH w #[.slice (some e) 0 0,Sl.v t] fN λc d=>aU w d ⟨p,16,none⟩ 1 (aH d cY bX λa i=>aU d i ⟨p,16,none⟩ 1 (aU d i ⟨p,16,none⟩ 1 (qy (aJ a2) (aJ a3) B K I.n i a c))):=λ{w t e}C v=>
  oC zn v (by have:=C.1;omega) λa H F V=>bM (x C) F (aG λb R e1 l k1 _=>bM (x (ak C F)) l (bM (x (ak C F)) l (TL (ak (ak C F) l) k1 (by have:=C.1;have:=F.1;omega) (V.kN l ag λc z=>z))))
 refine aic (bu rfl (bu cj (bu cj (bO cj ?_))));refine bK ?_;refine(Y (cK _)).dG Z ((Y (cK _)).dG Z ⟨aG λe1 R _ l _ _=>bM (x (cK _)) l (bM (x (cK _)) l ⟨L l λt P r v=>bM (x l) r ⟨PZ (ak l r) ?_,ZP (ak l r) ?_⟩,?_⟩),⟨L (cK _) λt R l v=>bM (x (cK _)) l ⟨aG λe1 P _ r _ _=>bM (x l) r (bM (x l) r ⟨PZ (ak l r) (v.gr r),ZP (ak l r) (v.gr r)⟩),?_⟩,?_⟩⟩)
 ·exact v.mo λc(z:R.size<=c)=>ag
 ·exact v.mo λc(z:R.size<=c)=>ag
 ·exact aG λb P _ r M _=>bM (x l) r (bM (x l) r (FP (ak l r) M ag))
 ·exact aG λb P e2 r M _=>bM (x l) r (bM (x l) r (aG λe1 h3 _ E _ _=>bM (x (ak l r)) E (bM (x (ak l r)) E (W (ak (ak l r) E) (M.ai E) (by have:=l.1;omega) (v.kN (ak r E) ag λc z=>z)))))
 ·refine aG λb P e2 r M _=>bM (x (cK _)) r (bM (x (cK _)) r ⟨aG λe1 h3 _ E _ _=>bM (x r) E (bM (x r) E (FP (ak r E) (M.ai E) ag)),L r λt h3 E v=>bM (x r) E (aG λe1 h4 _ U _ _=>bM (x (ak r E)) U (bM (x (ak r E)) U (W (ak (ak r E) U) ((M.ai E).ai U) ag ((v.gr U).mo λc(z:P.size<=c)=>ag))))⟩)
end
section
variable {Q T:aQ} {hx:Hp} {p a2 a3 n u m f9 ao:Nat} {vs:aP} {g:dK} {X:Bx} {B A:Sl} {K:KD}
theorem avt(V:bC f)(W:f.can vs)(G:gf f (uc f) Q T h0 p g (yw f vs) X (aK f.k vs).aF (λj=>cont f j vs))(ok:nF f vs X)(s:D9 h0 h a2 a3 vs.length (aK f.k vs).ck B (ie f vs))(ko:∃sf,aN h ao #[ah f.k,ah f.w,ah f.id,ah f.ix,Sl.v sf] kG)
  (Y:f.k≠1/\f.k≠18/\f.k≠20->dX (E9 h0 a2 a3) h A (bv (dF (aK f.k vs))))
  (C:∀q h',az h0 h'->eU (Nw h0) (Nw h0) h' q (f.dn (f.st vs))->K (f.dn (f.st vs)).len (f.dn (f.st vs)).off (f.dn (f.st vs)).au q.1 q.2.1 q.2.2 h'):MZ K Kp (pB p) (aJ a2) (aJ ao) (aJ a3) A B h:=by
 have n4:=((gk f vs).1 W).n4;have b:=ok.b;have F:∀{hx:Hp},az h hx->gf f _ Q T hx p g _ X (aK f.k vs).aF _:=λgx=>G.fr (nV f.cs) (bh (ak s.g gx)) (λ_ _=>id) λ_ _=>id;obtain⟨sf,U⟩:=ko;refine aBN (aj U rfl (aE (λE=>?_) λE=>aE (λO=>?_) λO=>?_))
 ·have E:=aM E;have L:=GU (vs:=vs) E;rw[L]at C;exact s.zz C
 ·simp only[sm,reduceCtorEq]at E O;have L:=BE (vs:=vs) O;rw[L]at C;refine bK ?_;obtain⟨t2,q2⟩:=G.slot (i:=2) ag;obtain⟨_,o2⟩:=(F (cK _)).os q2 rfl;refine(F (cK _)).dG q2 (aeV o2.sv ag λt Z d v1=>oC ((Y ag).gr d) (v1.mo λc z=>s.e z) ((s.gr d).e (bP _)) λa h2 x I=>?_);rw[atZ W O ok]at I;exact((s.gr d).gr x).b I C
 simp only[sm,reduceCtorEq]at E O;have r:∀P:Bool,P=decide (f.k=12\/f.k=13)->MY K Kp (pB p) (aJ a2) (aJ ao) (aJ a3) A B f.k P h:=by
  intro P H;refine aBM (aE (λc3=>?_) λc3=>aE (λM=>?_) λM=>?_)
  ·have e:f.k=12\/f.k=13:=by rw[c3]at H;simpa using H.symm
   have L:=wq (vs:=vs) e;rw[L]at C;refine aG λa5 Z e1 d k1 _=>?_;refine bK ?_;obtain⟨t3,R⟩:=G.slot (i:=3) ag;obtain⟨t4,q4⟩:=G.slot (i:=4) ag;obtain⟨_,o3⟩:=(F d).os R rfl;refine(F d).dG R ((F d).dG q4 (Gc o3.sv ag ag λt h2 x v2=>bM (F d).k x ?_));have s2:=x.1;obtain⟨_,o4⟩:=(F (ak d x)).os q4 rfl;refine TM (ak d x) ag (k1.ai x) o4.sv o4.ne ag λw h3 g3 t3 v3=>?_;have a':=v2.fr (E':=E9 h0 a2 a3) t3 (λc(z:Z.size<=c)_ y=>ag) λc(z:Z.size<=c)=>s.e ag
   refine aeP (D:=E9 h0 a2 a3) ((Y ag).gr g3) a' (v3.mo λc z=>s.e ag) ((s.gr g3).e (bP _)) λa h4 g4 I=>?_;rw[ok.o ag,ok.t e]at I;exact((s.gr g3).gr g4).b I C
  ·have M:=aM M;have L:=GS (vs:=vs) M;rw[L]at C;refine bK ?_;obtain⟨t3,R⟩:=G.slot (i:=3) ag;obtain⟨_,o3⟩:=(F (cK _)).os (y:=(ints X.os,Y6)) R rfl;refine(F (cK _)).dG (i:=3) R (Gc o3.sv ag ag λt Z d v1=>oC (D:=E9 h0 a2 a3) ((Y ag).gr d) (v1.mo λc z=>s.e z) ((s.gr d).e (bP _)) λa h2 x I=>?_);rw[ok.o ag]at I;exact((s.gr d).gr x).k I C
  ·have M:=aM M;have c':¬(f.k=12\/f.k=13):=by rw[c3]at H;simpa using H.symm
   have J:∀P:Bool,P=decide (f.k=16\/f.k=17)->EI K Kp (pB p) (aJ a2) (aJ ao) (aJ a3) A B f.k P h:=by
    rintro _ rfl
    by_cases N:f.k=20
    ·obtain⟨c,b',_⟩:=V.one ag;have hl:=Ds f vs;rw[b']at hl;have u0:(aK f.k vs).ck=0:=UN.2 λv _=>by simp_all[eu,aC,aI]
     rw[u0]at s;rw[decide_eq_false (by omega:¬(f.k=16\/f.k=17))]
     exact avr W N (match hq:ie f vs,hl with|[y],_=>⟨y,rfl⟩) G ok s C
    ·exact avq V W G ok s ⟨_,U⟩ (λq=>Y ⟨E,q⟩) ag ⟨E,O,M,N⟩ C
   refine cL (λl=>?_) λl=>?_
   ·exact J _ (by rw[ke];simp;omega)
   ·exact J _ (by rw[ke];simp;omega)
 refine cL (λl=>?_) λl=>?_
 ·exact r _ (by rw[ke];simp;omega)
 ·exact r _ (by rw[ke];simp;omega)
end
theorem avp(r:bC f)(IH:∀c∈f.cs,IY c):IY f:=by
 intro Q T h p vs K Kp N B hk;rw[wE]at B;obtain⟨g,X,G,ok⟩:=B;have E:=r.right.1;have n4:=((gk f vs).1 N).n4;have b:=ok.b;have U:f.cs.length<=32:=by
  by_cases O:f.k=15\/f.k=16\/f.k=19\/f.k=20
  ·have:=E.2.2.2.2.2.2.2.1 O;omega
  by_cases h2:f.k=17
  ·exact E.2.2.2.2.2.2.2.2.1 h2
  by_cases J:f.k=18
  ·exact(E.2.2.2.2.2.2.2.2.2.1 J).2
  ·have:=E.2.2.2.2.2.2.2.2.2.2 ag;omega
 have a:∀{hx:Hp},az h hx->gf f _ Q T hx p g _ X (aK f.k vs).aF _:=λP=>G.fr (nV f.cs) (bh P) (λ_ _=>id) λ_ _=>id;have cells:∀{hx:Hp},az h hx->Cs hx ⟨p,2,none⟩ [ah f.k,ah f.w,ah f.id,ah f.ix,Sl.v g.sf]:=λP=>uQ (a P).k λi v l=>by
  rcases i with _|_|_|_|_|i
  ·exact l
  ·exact l
  ·exact l
  ·exact l
  ·exact l
  ·simp at l
 refine aE0 (aG λa2 O e1 R Y _=>?_);refine bK ?_;refine nk (cells R) (aG λao h2 e2 g2 F _=>pE F rfl λJ o3 F=>?_);have a':=F.lt;have D:=bE g2 o3 ag;have o:=ak R D;refine aj (a o).k rfl (aj (a o).k rfl (aG λa3 h4 e4 L H _=>bM (a o).k L (bM (a o).k L (jI H rfl λh5 o5 H=>aG λa5 Z e6 g6 k5 _=>?_))));have C:=bE L o5 ag;have d:=ak C g6;have M:=ak o d;have s:D9 h Z a2 a3 vs.length (aK f.k vs).ck Sl.nil []:=⟨M,(Y.ai D).ai d,H.ai g6,⟨ag,ag,ag⟩,jH _⟩
 have two:∀{I:Hp}{A:Sl},az Z I->(f.k≠1/\f.k≠18/\f.k≠20->dX _ I A _)->Is K Kp _ _ _ _ A I:=λ{I A}gy hA=>
  arU U IH N G (s.gr gy) λB h' s' g'=>avt r N G ok s' ⟨_,((F.ai d).ai gy).ai g'⟩ (λq=>(hA q).gr g') hk
 refine aj (x:=((aK f.k vs).ck:Int)) (a M).k rfl (cL (λc=>?_) λc=>?_)
 ·obtain⟨t0,W⟩:=G.slot (i:=0) ag;obtain⟨_,o0⟩:=(a M).os W rfl;refine(a M).dG W (aeV o0.sv ag λt h7 g7 V=>two g7 λq=>?_);have e:qU (X.vl.map nz)=dF (aK f.k vs):=by
   unfold dF;rw[ay]
   show _=qJ (vs.map λv=>!eu f.k v)
   rw[apw,ok.v q.2,L0]
   congr 1
   refine B4 λv _=>?_;rw[sW q.1 q.2.1 q.2.2]
   show nz (if v.au then 0 else 1)=_
   cases v.au <;> rfl
  rw[e]at V;exact V.mo λc z=>s.e z
 ·refine two (cK _) λq=>?_;have e:dF (aK f.k vs)=[]:=by unfold dF;rw[dR]
  rw[e];exact zn
theorem ady:∀f:aq,bC f->IY f/\True
  | .mk b au k w id ix cs,a=>by
    have e:∀c∈cs,IY c:=λc d=>(ady c (a.aL d)).1;exact⟨@avp _ a e,trivial⟩
mutual
theorem cH.a{h:Hp}:∀{s:Sl}(fs:cC),cH h s fs->bY Tt h s fs
  |_,[],hh=>by unfold cH at hh;unfold bY;exact hh
  | _,f::fs,hh=>by
    unfold cH at hh;unfold bY
    have⟨a,b,p,e,x,y⟩:=hh
    exact⟨a,b,p,e,trivial,jR.a f x,iu.a fs y⟩
theorem iu.a{h:Hp}:∀{a:Addr}{i:Nat}(fs:cC),iu h a i fs->iw Tt h a i fs
 |_,_,[],_=>by unfold iw;trivial
 |_,_,f::fs,hh=>by unfold iu at hh;unfold iw;exact⟨jR.a f hh.1,iu.a fs hh.2⟩
theorem jR.a{h:Hp}:∀{a:Addr}(f:aq),jR h a f->jt Tt h a f
  | _,.mk n au k w id ix cs,hh=>by
    unfold jR at hh;unfold jt
    have⟨s,c,x⟩:=hh
    exact⟨s,c,cH.a cs x⟩
end
def mU(rows:List (List aB))(k:Nat):List aB:=rows.map λr=>r.getD k v0
def tD(done:List (List aB))(row:aP):Nat->List aq->Int
 |_,[]=>0
 |k,f::fs=>if jy f (mU done k) (row.getD k v0)≠0 then jy f (mU done k) (row.getD k v0)else tD done row (k+1) fs
def pg(fs:cC)(done:List (List aB))(row:aP):Int:=if 4096<=done.length then 3 else if row.length≠fs.length then 110 else tD done row 0 fs
def qK(fs:cC)(done:List (List aB)):List (List aB)->Int×Int
 |[]=>(0,0)
 |row::rest=>if pg fs done row≠0 then(pg fs done row,(done.length:Int))else qK fs (done++[row]) rest
def uP(rows:List (List aB)):Nat->List aq->List bD
 |_,[]=>[]
 |k,f::fs=>f.dn (f.st (mU rows k))::uP rows (k+1) fs
open Classical in
def qq(fs:cC)(ms:List Md)(rows:List (List aB)):Int×List bD×Int×Int:=
 if vk fs ms then(if(qK fs [] rows).1=0 then((rows.length:Int),uP rows 0 fs,0,0)else(0,[],(qK fs [] rows).1,(qK fs [] rows).2))else(0,[],5,0)
theorem adj{done:List (List aB)}{row:aP}{k:Nat}(h:fs[k]? =some f):tD done row k (fs.drop k)=if jy f (mU done k) (row.getD k v0)≠0 then jy f (mU done k) (row.getD k v0)else tD done row (k+1) (fs.drop (k+1)):=by
 have⟨hl,e⟩:=cU.1 h;rw[yI hl,e];rfl
theorem aaO{row:aP}(h:rows[i]? =some row):qK fs (rows.take i) (rows.drop i)=if pg fs (rows.take i) row≠0 then(pg fs (rows.take i) row,(i:Int))else qK fs (rows.take (i+1)) (rows.drop (i+1)):=by
 have⟨hl,e⟩:=cU.1 h;rw[yI hl,e,kg hl,e]
 conv=>lhs;unfold qK
 rw[kP,Ad (Nat.le_of_lt hl)]
theorem TD{rows:List (List aB)}{f:aq}:∀{fs:cC}{j k:Nat},fs[k]? =some f->(uP rows j fs)[k]? =some (f.dn (f.st (mU rows (j+k))))
  |[],_,_,h=>by simp at h
  |g::fs,j,0,h=>by simp at h;subst h;rfl
  | g::fs,j,k+1,h=>by
    have:=TD (rows:=rows) (j:=j+1) (by simpa using h)
    rw[uP,Af,this,show j+1+k=j+(k+1) by omega]
theorem K4{rows:List (List aB)}:∀{fs:cC}{j:Nat},(uP rows j fs).length=fs.length
 |[],_=>rfl
 |_::fs,j=>by rw[uP,iq,K4,iq]
theorem vk.Tp(h:vk fs ms):∀f∈fs,bC f:=λf b=>by
 have⟨n,e,c⟩:=aaG h.2.2.2.2 f b;exact LR (P4 f ⟨bP _,λq=>q⟩ (dN _) (λx a=>by simp at a) c).1
theorem adz:∀{fs:cC}{j:Nat},(∀f∈fs,bC f)->uN (uP rows j fs)
 |[],_,_=>trivial
 |f::fs,j,h=>⟨adu f (h f aA) _,adz λg a=>h g (by simp[a])⟩
def sF(D:aQ)(h:Hp)(s:Sl)(rows:List (List aB)):Prop:=
 s.n=rows.length/\(rows≠[]->∃a,s.a=some a/\D a.block/\∀(j:Nat)r,rows[j]? =some r->∃u,cell h (a.add (j*1))=some (Sl.v u)/\aR D h u r)
section
variable {D' S:aQ} {h':Hp}
theorem sF.fr(v:sF D h s rows)(t:Tn S h h')(G:∀c,D c->¬S c)(B:∀c,D c->D' c):sF D' h' s rows:=by
 have⟨i,g⟩:=v;refine⟨i,λne=>?_⟩;have⟨a,f,b,d⟩:=g ne;refine⟨a,f,B _ b,λj r e=>?_⟩;have⟨u,c,w⟩:=d j r e;exact⟨u,t.cell c (by rw[Ce];exact G _ b),aR.fr t (λc z _=>G c z) B _ w⟩
theorem sF.ix(v:sF D h s rows){x:Int}{i:Nat}(z:x=(i:Int)){r:aP}(g:rows[i]? =some r){K:Addr->Prop}(B:∀a u,cell h a=some (Sl.v u)->aR D h u r->K a):Ix s.a s.n 1 x K:=by
 have b:=(cU.1 g).1;have⟨k,j⟩:=v;have⟨a,f,_,d⟩:=j (by intro e;rw[e]at b;simp at b)
 have⟨u,c,w⟩:=d i r g;subst z;rw[f];exact⟨by omega,by omega,by rw[fR];exact B _ _ c w⟩
end
abbrev AL:=aq->(Nat->Prop)->(Nat->Prop)->Hp->Nat->List aB->Prop
structure vo(P:AL):Prop where
 fr:∀{f:aq}{Q T S:aQ}{h h':Hp}{p:Nat}{vs:aP},bC f->P f Q T h p vs->Tn S h h'->(∀c,T c->¬S c)->(∀c,Q c->¬S c)->P f Q T h' p vs
 d:∀{f:aq}{Q T:aQ}{h:Hp}{p:Nat}{vs:aP},P f Q T h p vs->(∀c,Q c->¬T c/\c<h.size)/\∀c,T c->c<h.size
structure kT(P:AL)(i lo:Nat)(Y:aQ)(h:Hp)(fs:cC)(ps:cG)(Q T:Nat->Nat->Prop)(V:Nat->List aB):Prop where
 m:∀(k:Nat)f p,i<=k->fs[k]? =some f->ps[k]? =some p->bC f/\f.gh/\P f (Q k) (T k) h p (V k)
 l:∀k,i<=k->k<ps.length->(∀c,c<lo->Q k c)/\(∀c,T k c->lo<=c/\¬Y c)/\∀c,Q k c->¬Y c
 ap:∀j k c,i<=j->i<=k->j<ps.length->k<ps.length->j≠k->T j c->¬T k c/\¬Q k c
 y:∀c,Y c->lo<=c/\c<h.size
 n:ps.length<=fs.length
def rJ{α:Type}(g:Nat->α)(k:Nat)(x:α)(j:Nat):α:=if j=k then x else g j
theorem ur{α:Type}{g:Nat->α}{k:Nat}{x:α}:rJ g k x k=x:=aI rfl
theorem qG{α:Type}{g:Nat->α}{k:Nat}{x:α}(h:j≠k):rJ g k x j=g j:=aC h
section
variable {P:AL} {k p:Nat} {Y Y' S:aQ} {h' h2:Hp} {ps:cG} {Q T:Nat->Nat->Prop} {V V':Nat->List aB} {Q' T':aQ}
theorem kT.at(F:kT P i lo Y h fs ps Q T V){k:Nat}(hi:i<=k)(z:k<ps.length):∃f p,fs[k]? =some f/\ps[k]? =some p/\bC f/\f.gh/\P f (Q k) (T k) h p (V k):=by
 have a:=bx z;have h2:fs[k]? =some (fs[k]'(kZ z F.n)):=bx _;exact⟨_,_,h2,a,F.m k _ _ hi h2 a⟩
theorem kT.fr(C:vo P)(F:kT P i lo Y h fs ps Q T V)(t:Tn S h h')(B:∀k,i<=k->k<ps.length->∀c,T k c\/Q k c->¬S c):kT P i lo Y h' fs ps Q T V:=
 ⟨λk f p a o d=>by
  have⟨b,j,g⟩:=F.m k f p a o d;have e:=(cU.1 d).1;exact⟨b,j,C.fr b g t (λc z=>B k a e c (.inl z)) λc z=>B k a e c (.inr z)⟩,F.l,F.ap,λc z=>⟨(F.y c z).1,kZ (F.y c z).2 t.1⟩,F.n⟩
theorem kT.gr(C:vo P)(F:kT P i lo Y h fs ps Q T V)(g:az h h'):kT P i lo Y h' fs ps Q T V:=F.fr C (bh g) λ_ _ _ _ _=>id
theorem kT.fG(C:vo P)(F:kT P i lo Y h fs ps Q T V){k:Nat}(e:i<=k)(a:k<ps.length){c:Nat}(z:T k c\/Q k c):c<h.size:=by
 have⟨f,p,_,_,_,_,q⟩:=F.at e a;exact z.elim ((C.d q).2 c) λz=>((C.d q).1 c z).2
theorem kT.put(C:vo P)(F:kT P i lo Y h fs ps Q T V)(d:i<=k)(D:fs[k]? =some f)(t:ps[k]? =some p)(x:Ext (Q k) Q' (T k) T' h h')(m:P f Q' T' h' p (V' k))(H:∀j,j≠k->V' j=V j):kT P i lo Y h' fs ps (rJ Q k Q') (rJ T k T') V':=by
 have s:=(cU.1 t).1;have q:=F.m k f p d D t;have lk:=F.l k d s;refine⟨λj g w a u r=>?_,λj a hl=>?_,λj l c a hl o b ne=>?_,λc z=>⟨(F.y c z).1,kZ (F.y c z).2 x.tn.1⟩,F.n⟩
 ·by_cases e:j=k
  ·subst e;rw[D]at u;cases u;rw[t]at r;cases r;rw[ur,ur];exact⟨q.1,q.2.1,m⟩
  ·rw[qG e,qG e,H j e];have⟨A,G,E⟩:=F.m j g w a u r;have B:=(cU.1 r).1;exact⟨A,G,C.fr A E x.tn (λc z y=>(F.ap j k c a d B s e z).1 y) λc z y=>(F.ap k j c d a s B (sD e) y).2 z⟩
 ·by_cases e:j=k
  ·subst e;rw[ur,ur];refine⟨λc z=>x.q c (lk.1 c z),λc z=>?_,λc z y=>?_⟩
   ·rcases x.t' c z with z|z
    ·exact lk.2.1 c z
    ·refine⟨?_,λy=>by have:=(F.y c y).2;omega⟩
     by_cases q:c<lo
     ·exact absurd z.1 (by have:=kT.fG C F d s (.inr (lk.1 c q));omega)
     ·omega
   ·rcases x.q' c z with z|z
    ·exact lk.2.2 c z y
    ·have:=(F.y c y).2;omega
  ·rw[qG e,qG e];exact F.l j a hl
 ·by_cases e:j=k
  ·subst e;rw[ur,qG (sD ne),qG (sD ne)];intro z;rcases x.t' c z with z|z
   ·exact F.ap j l c a hl o b ne z
   ·exact⟨λy=>by have:=F.fG C hl b (.inl y);omega,λy=>by have:=F.fG C hl b (.inr y);omega⟩
  ·rw[qG e];intro z
   by_cases v:l=k
   ·subst v;rw[ur,ur];have I:=F.fG C a o (.inl z);have q:=F.ap j l c a hl o b ne z;exact⟨λy=>(x.t' c y).elim q.1 λy=>by omega,λy=>(x.q' c y).elim q.2 λy=>by omega⟩
   ·rw[qG v,qG v];exact F.ap j l c a hl o b ne z
theorem kT.add(C:vo P)(F:kT P 0 lo Y h fs ps (λ_ c=>c<lo) T λ_=>[])(E:fs[ps.length]? =some f)(ok:bC f)(A:f.gh)(g:az h h')(m:P f (λc=>c<lo) T' h' p [])(hT:∀c,T' c->h.size<=c)(L:lo<=h.size)
  (t:Tn Y h' h2) (r:∀c,Y' c->Y c\/h'.size<=c/\c<h2.size):kT P 0 lo Y' h2 fs (ps++[p]) (λ_ c=>c<lo) (rJ T ps.length T') λ_=>[]:=by
 have s:=g.1;have K:=t.1;have len:=(cU.1 E).1;have D:∀c,Y' c->¬c<lo:=λc z q=>(r c z).elim (λz=>by have:=(F.y c z).1;omega) λz=>by omega
 have B:∀{c},c<lo->¬Y c:=λq z=>by have:=(F.y _ z).1;omega
 have key:∀{j:Nat},j<(ps++[p]).length->j≠ps.length->j<ps.length:=λa e=>by simp at a;omega
 refine⟨λj J w a v n=>?_,λj a hl=>⟨λc z=>z,λc=>?_,λc z y=>D c y z⟩,λj l c a hl I o ne=>?_,λc z=>?_,by simp;omega⟩
 ·by_cases e:j=ps.length
  ·subst e;rw[E]at v;cases v;rw[gm (bP _)]at n;simp at n;subst n;rw[ur];exact⟨ok,A,C.fr ok m t (λc z y=>by have:=hT c z;have:=(F.y c y).2;omega) λc z=>B z⟩
  ·rw[qG e];have b:=key (cU.1 n).1 e;rw[iQ b]at n;have⟨u,H,G⟩:=F.m j J w a v n;exact⟨u,H,C.fr u (C.fr (S:=No) u G (bh g) (λ_ _=>id) λ_ _=>id) t (λc z=>((F.l j a b).2.1 c z).2) λc z=>B z⟩
 ·by_cases e:j=ps.length
  ·subst e;rw[ur];intro z;refine⟨by have:=hT c z;omega,λy=>?_⟩
   rcases r c y with y|y
   ·have:=(F.y c y).2;have:=hT c z;omega
   ·have:=(C.d m).2 c z;omega
  ·rw[qG e];intro z;have b:=key hl e;have q:=(F.l j a b).2.1 c z;refine⟨q.1,λy=>?_⟩;rcases r c y with y|y
   ·exact q.2 y
   ·have:=F.fG C a b (.inl z);omega
 ·by_cases e:j=ps.length
  ·subst e;rw[ur,qG (sD ne)];intro z;have:=hT c z;exact⟨λy=>by have:=F.fG C hl (key o (sD ne)) (.inl y);omega,by omega⟩
  ·rw[qG e];intro z;have b:=key I e;refine⟨?_,by have:=((F.l j a b).2.1 c z).1;omega⟩
   by_cases x:l=ps.length
   ·subst x;rw[ur];intro y;have:=F.fG C a b (.inl z);have:=hT c y;omega
   ·rw[qG x];exact(F.ap j l c a hl b (key o x) ne z).1
 ·rcases r c z with z|z
  ·exact⟨(F.y c z).1,by have:=(F.y c z).2;omega⟩
  ·omega
theorem kT.next(C:vo P)(F:kT P i lo Y h fs ps Q T V)(d:i<ps.length)(t:Tn (T i) h h'):kT P (i+1) lo Y h' fs ps Q T V:=
 kT.fr C ⟨λk f p a=>F.m k f p ag,λk a=>F.l k ag,λj k c b a=>F.ap j k c ag ag,F.y,F.n⟩ t λk a hl c z y=>by
  have q:=F.ap i k c (bP _) ag d hl ag y;exact z.elim q.1 q.2
def Ib:AL:=λf Q T h p vs=>pW f f.mP T h p vs false/\∀c,Q c->¬T c/\c<h.size
theorem Df:vo Ib:=⟨λa m t hT _=>⟨m.1.fr (vT _ a) t hT,λc z=>⟨(m.2 c z).1,kZ (m.2 c z).2 t.1⟩⟩,λm=>⟨m.2,m.1.lt⟩⟩
def Ew:AL:=λf Q T h p vs=>f.gG Q T h p vs
theorem FO:vo Ew:=⟨λ{f Q T S h h' p vs}_ m t hT hQ=>(tJ f).fr m t hT hQ,λ{f Q T h p vs}m=>⟨(tJ f).d m,by
 unfold Ew at m;rw[wE]at m;have⟨g,X,G,_⟩:=m;exact G.t.lt⟩⟩
end
abbrev KB:=Int->Sl->Int->Int->HP
def I1(h:Hp)(K:KB)(o:Int×List bD×Int×Int):Prop:=∀q h',az h h'->dz (Nw h) (Nw h) h' q o.2.1->K o.1 q o.2.2.1 o.2.2.2 h'
theorem ayW{z:Value}{bytes n:Nat}{x:Int}{K:Sl->HP}(a:x=(n:Int))(g:bytes*n<=2^48)(h2:n<2^63)
  (c:∀h',az h h'->aN h' h.size (List.replicate n z).toArray el->K ⟨some (aJ h.size),n,n⟩ h'):Go.Sh.dO h el #[z] 1 bytes x x K:=by
 subst a;refine⟨by omega,Ej _,by exact_mod_cast g,by omega,?_⟩
 rw[fR];apply c _ (qW h _);simp only[aN,L7,u7]
 congr 2
 apply Al;intro i;have e:=YH z n;rw[u7]at e;rw[e];simp
theorem eT.frA{m:Nat}{S:aQ}{h':Hp}{rows:List (List Value)}(o:eT lo m h s rows el)(f:Tn S h h')(a:∀c,s.at c->¬S c):eT lo m h' s rows el:=by
 refine⟨o.len,o.n,?_⟩;rcases o.sh with e|⟨b,g,h2,w⟩
 ·exact .inl e
 ·exact .inr ⟨b,g,by have:=f.1;omega,w.fr f (a b ⟨_,w.1,rfl⟩)⟩
def tG(rows:List (List aB))(i:Nat)(row:aP)(c k:Nat):List aB:=mU (rows.take i) k++(if k<c then[row.getD k v0]else[])
theorem adM{k:Nat}{row:aP}:tG rows i row 0 k=mU (rows.take i) k:=by unfold tG;rw[ay,oH]
theorem adK{c k:Nat}{row:aP}(h:rows[i]? =some row)(a:k<c):tG rows i row c k=mU (rows.take (i+1)) k:=by
 have⟨hl,e⟩:=cU.1 h;unfold tG mU;rw[aI a,kg hl,e,kR];rfl
theorem adJ{c:Nat}{row:aP}(h:j≠c):tG rows i row (c+1) j=tG rows i row c j:=by
 unfold tG
 by_cases q:j<c
 ·rw[aI q,dR]
 ·rw[aC q,ay]
theorem adL{c:Nat}{row:aP}:tG rows i row c c=mU (rows.take i) c/\tG rows i row (c+1) c=mU (rows.take i) c++[row.getD c v0]:=by
 unfold tG;rw[ay,dR];simp
theorem sF.lt(v:sF D h s rows):sF (λc=>c<h.size) h s rows:=by
 have⟨x,t⟩:=v;refine⟨x,λne=>?_⟩;have⟨a,m,_,g⟩:=t ne;refine⟨a,m,?_,λj r l=>?_⟩
 ·have⟨u,c,_⟩:=g 0 _ (bx (LX.2 ne));have:=TT c
  rwa [Ce]at this
 ·have⟨u,c,w⟩:=g j r l;exact⟨u,c,(aR.lt _ w).mo λc z=>z.2⟩
structure sI(P:AL)(h h':Hp)(lo:Nat)(Y:aQ)(b:Nat)(L:Sl)(fs:cC)(ps:cG)(Q T:Nat->Nat->Prop)(V:Nat->List aB):Prop where
 g:az h h'
 F:kT P 0 lo Y h' fs ps Q T V
 kb:aN h' b #[ah 0,.slice none 0 0] ry
 b:h.size<=b/\b<lo
 l:dX Y h' L (ps.map oz)
 n:ps.length=fs.length
 c:∀(k:Nat)f,fs[k]? =some f->f.can (V k)
 w:lo<=h'.size
section
variable {P:AL} {h' h2 hb:Hp} {b o k p:Nat} {Y:aQ} {L:Sl} {ps:cG} {Q T:Nat->Nat->Prop} {V V':Nat->List aB} {Q' T':aQ} {K:KB} {e n:Int} {Z:HP} {ds:jG} {qs:List (Sl×Sl×Sl)} {x3:Sl} {q:Sl×Sl×Sl} {d:bD}
theorem LM(k:aN h' b #[ah 0,.slice none 0 0] ry)(s:∀h2,eD b h' h2->K 0 Sl.nil e n h2):St h' (aJ b) (ah 0) λa=>St a ⟨b,1,none⟩ (.slice none 0 0) λg=>Ld g (aJ b) mI λc=>Ld g ⟨b,1,none⟩ Sl.v λd=>K c d e n g:=
 dc k aA rfl λt m r=>dc r aA rfl λh2 l j=>aj j rfl (aj j (x:=Sl.nil) rfl (s h2 (m.trans l)))
theorem sI.gr(C:vo P)(R:sI P h h' lo Y b L fs ps Q T V)(g:az h' h2):sI P h h2 lo Y b L fs ps Q T V:=
 ⟨ak R.g g,R.F.gr C g,R.kb.ai g,R.b,R.l.gr g,R.n,R.c,iY R.w g.1⟩
theorem sI.cg(R:sI P h h' lo Y b L fs ps Q T V)(e:∀k,k<fs.length->V k=V' k):sI P h h' lo Y b L fs ps Q T V':=
 ⟨R.g,⟨λk f p r a j=>by rw[<-e k (cU.1 a).1];exact R.F.m k f p r a j,R.F.l,R.F.ap,R.F.y,R.F.n⟩,R.kb,R.b,R.l,R.n,λk f a=>by rw[<-e k (cU.1 a).1];exact R.c k f a,R.w⟩
theorem sI.put(C:vo P)(R:sI P h h' lo Y b L fs ps Q T V)(t:fs[k]? =some f)(s:ps[k]? =some p)(x:Ext (Q k) Q' (T k) T' h' h2)(m:P f Q' T' h2 p (V' k))(B:f.can (V' k))(u:∀j,j≠k->V' j=V j):sI P h h2 lo Y b L fs ps (rJ Q k Q') (rJ T k T') V':=by
 have v:=(cU.1 s).1;have q:=(R.F.l k (dN _) v).2.1;have r:=R.b;refine⟨((bh R.g:Tn No h h').trans' x.tn λc z A=>by have:=(q c z).1;omega).ai,R.F.put C (dN _) t s x m u,x.tn.aZ R.kb λz=>by have:=(q b z).1;omega,r,R.l.fr x.tn (λc z _ y=>(q c y).2 z) λ_ z=>z,R.n,λj g a=>?_,iY R.w x.tn.1⟩
 by_cases e:j=k
 ·subst e;rw[t]at a;cases a;exact B
 ·rw[u j e];exact R.c j g a
structure CF(P:AL)(h hb h':Hp)(i lo:Nat)(Y:aQ)(b o:Nat)(L:Sl)(fs:cC)(ps:cG)(Q T:Nat->Nat->Prop)(V:Nat->List aB)(N:Int)(x3:Sl)(ds:jG)(qs:List (Sl×Sl×Sl)):Prop where
 g:az h h'
 F:kT P i lo Y h' fs ps Q T V
 kb:aN h' b #[ah 0,.slice none 0 0] ry
 b:h.size<=b/\b<lo
 l:dX Y h' L (ps.map oz)
 ko:aN h' o #[ah N,Sl.v x3] ry
 oo:lo<=o/\o<hb.size/\¬Y o
 r:eT hb.size 6 h' x3 (List.zipWith bD.row (ds.take i) qs) bX
 q:qs.length=i
 u:∀(j:Nat)(d:bD)(p:Sl×Sl×Sl),ds[j]? =some d->qs[j]? =some p->eU (λc=>hb.size<=c/\¬x3.at c) (λc=>hb.size<=c/\¬x3.at c) h' p d
 fG:∀k,i<=k->k<ps.length->∀c,T k c\/Q k c->c<hb.size/\c≠o
 z:hb.size<=h'.size/\∀c,Y c->c<hb.size
theorem CF.step(C:vo P){N:Int}{A:Hp}{a4:Nat}(R:CF P h hb h' i lo Y b o L fs ps Q T V N x3 ds qs)(W:i<ps.length)(c':ds.length<=32)(hd:ds[i]? =some d)(t:Tn (T i) h' h2)(v:eU (Nw h') (Nw h') h2 q d)
  (g:az h2 A) (k4:aN A a4 #[ah d.len,ah d.off,ah d.au,Sl.v q.1,Sl.v q.2.1,Sl.v q.2.2] bX)
  (U:∀s E,CF P h hb E (i+1) lo Y b o L fs ps Q T V N s ds (qs++[q])->Z E):Ap A bX cY 6 96 x3 1 (rd A (bz a4) (1*6)) λd e=>St e ⟨o,1,none⟩ (Sl.v d) λE=>Z E:=by
 have z:=R.z.1;have J:=R.q;have rb:=R.b;have ro:=R.oo;have x:=(R.F.l i (bP _) W).2.1;have a:=R.fG i (bP _) W;have s2:=t.1;have s3:=g.1;have rn:=R.r.n;rw[oG,kP]at rn;have nb:¬T i b:=λy=>by have:=(x b y).1;omega
 have no:¬T i o:=λy=>(a o (.inl y)).2 rfl;have r3:=(eT.frA R.r t λc y w=>by have:=(R.r.at y).1;have:=(a c (.inl w)).1;omega).ai g
 have F3:=(R.F.next C W t).gr C g;refine r3.ap ag rfl (new:=[d.row q]) rfl (λr D=>by simp at D;subst D;rfl) (λr D=>by simp at D;subst D;exact Tz d q) (by simpa[bD.row,xk]using iM k4 rfl) ag ag λs E f4 H o4=>?_
 have s4:=f4.1;have m:∀c,x3.at c->hb.size<=c:=λc y=>(R.r.at y).1;have b':=f4.aZ ((t.aZ R.ko no).ai g) λy=>by have:=m _ y;omega
 refine dc b' aA rfl λh5 M k5=>?_;have s5:=M.1;have B:Tn (λc=>x3.at c\/c=o) A h5:=(f4.mono λc y _=>.inl y).trans (M.fr.mono λc y _=>.inr y);have a':∀c,s.at c->c≠o:=λc y e=>by
  rcases H c y with w|w
  ·have:=m c w;omega
  ·omega
 refine U s h5 ⟨?_,F3.fr C B λk U hl c y w=>?_,B.aZ ((t.aZ R.kb nb).ai g) λy=>?_,rb,((R.l.fr t (λc y _ w=>(x c w).2 y) λ_ y=>y).gr g).fr B (λc y _ w=>?_) λ_ y=>y,by simpa using k5,ro,eT.frA (by rw[Jj hd J];exact o4) M.fr a',by simp[J],λj e w X O=>?_,λk U=>R.fG k ag,⟨by omega,R.z.2⟩⟩
 ·exact((((bh R.g:Tn No h h').trans' t λc y G=>by have:=(x c y).1;omega).trans (bh g)).trans' B λc y G=>by
   rcases y with y|y
   ·have:=m c y;have:=R.g.1;omega
   ·omega).ai
 ·have q:=R.fG k ag hl c y;rcases w with w|w
  ·have:=m c w;omega
  ·exact q.2 w
 ·rcases y with y|y
  ·have:=m _ y;omega
  ·omega
 ·rcases w with w|w
  ·have:=m c w;have:=R.z.2 c y;omega
  ·exact ro.2.2 (w▸y)
 ·have fG:∀c,s.at c->c<A.size->x3.at c:=λc y l=>(H c y).resolve_right ag;rcases xu J O with⟨G,O⟩|⟨rfl,rfl⟩
  ·have v1:=((R.u j e w X O).lt.fr (S:=T i) (D':=λc=>(hb.size<=c/\¬x3.at c)/\c<h'.size) (E':=λc=>(hb.size<=c/\¬x3.at c)/\c<h'.size) t (λc y _ w=>by have:=(a c (.inl w)).1;omega) (λc y _ w=>by have:=(a c (.inl w)).1;omega) (λc y=>y) λc y=>y).gr g
   refine v1.fr B (λc y _ w=>w.elim y.1.2 λw=>by omega) (λc y _ w=>w.elim y.1.2 λw=>by omega) (λc y=>⟨y.1.1,λw=>y.1.2 (fG c w ag)⟩) λc y=>⟨y.1.1,λw=>y.1.2 (fG c w ag)⟩
  ·rw[hd]at X;cases X;have I:∀c,x3.at c->c<h'.size:=λc y=>(R.r.at y).2;refine(v.gr g).lt.fr B (λc(y:h'.size<=c/\_)_ w=>w.elim (λw=>by have:=I c w;omega) λw=>by omega) (λc(y:h'.size<=c/\_)_ w=>w.elim (λw=>by have:=I c w;omega) λw=>by omega) (λc(y:h'.size<=c/\c<A.size)=>⟨by omega,λw=>?_⟩) λc(y:h'.size<=c/\c<A.size)=>⟨by omega,λw=>?_⟩
   ·have:=I c (fG c w y.2);omega
   ·have:=I c (fG c w y.2);omega
theorem CF.end{w:Int}(R:CF P h hb h' i lo Y b o L fs ps Q T V w x3 ds qs)(F:i=ds.length)(E:∀h2,az h h2->dz (Nw h) (Nw h) h2 x3 ds->K w x3 0 0 h2):Ld h' (aJ o) mI λa=>Ld h' ⟨o,1,none⟩ Sl.v λd=>St h' (aJ b) (ah a) λa=>St a ⟨b,1,none⟩ (Sl.v d) λa=>Ld a (aJ b) mI λc=>Ld a ⟨b,1,none⟩ Sl.v λd=>K c d 0 0 a:=by
 have G:=R.b;have D:=R.oo;refine aj R.ko rfl (aj R.ko rfl (dc R.kb aA rfl λs A B=>dc B aA rfl λh2 t m=>aj m rfl (aj m rfl ?_)));have l:=A.trans t;apply E h2 (bE R.g l ag);subst F;have r:=R.r;rw[mz]at r;have C:=dz.snoc r R.q (λc(hb:hb.size<=c)=>hb) λj d p s h2=>(R.u j d p s h2).mo (λc hb=>hb.1) λc hb=>hb.1;have:=R.g.1;exact dz.fr l.fr (λc(y:hb.size<=c)_ e=>by omega) (λc(y:hb.size<=c)_ e=>by omega) (λc(y:hb.size<=c)=>by show h.size<=c;omega) (λc(y:hb.size<=c)=>by show h.size<=c;omega) _ C
end
section
variable {A B C:Sl} {K:KB}
theorem ae6{e n:Int}(ok:vk fs ms)(a:qK fs [] rows=(e,n))(ne:e≠0):qq fs ms rows=(0,[],e,n):=by unfold qq;rw[aI ok,a,aC ne]
theorem I1.bad{e n:Int}{H:Hp}(c:I1 h K (qq fs ms rows))(d:qq fs ms rows=(0,[],e,n))(g:az h H):K 0 Sl.nil e n H:=by
 unfold I1 at c;rw[d]at c;exact c Sl.nil H g (jH _)
theorem axH(f':ia fs)(ht:n8 h)(hu:jz h)(hs:cH h A fs)(hm:tY h B 2 (ms.map xG))(hr:sF Tt h C rows)(rg:∀r∈rows,mL r/\r.length<=9223372036854775807)(rl:rows.length<=9223372036854775807)
  (X:I1 h K (qq fs ms rows)):XL A B C h K Kp:=by
 have an:=hs.n;have cn:=hr.1;have hr:=hr.lt;refine aE9 (aG λa h1 e1 g1 ka _=>aG λb h2 e2 g2 kb _=>?_);have ka:=ka.ai g2;have G2:=ak g1 g2;refine aj ka rfl (aj ka rfl (adQ (ht.k.ai G2) f' (cK _) (hs.gr G2) (hm.ai G2) λe _ _ D g3 _ he=>aE (λc=>?_) λc=>?_))
 ·have c:=aM c;exact LM (kb.ai g3) λh4 o4=>X.bad (by unfold qq;rw[aC λq=>c (he.2 q)]) (bE (ak G2 g3) o4 ag)
 have c:=aM c;have ok:=he.1 c;have fl:fs.length<=32:=ok.1;have s3:=g3.1;have kb:=kb.ai g3;refine aj (ka.ai g3) rfl (ayW (by rw[an.1]) ag ag λh4 g4 I=>aj ((ka.ai g3).ai g4) rfl ?_)
 have l4:=I.lt;refine az1 (λx O=>∃(j:Nat)(t:cG)(T:Nat->Nat->Prop),x=j/\t.length=j/\az D O/\kT Ib 0 D.size (·=D.size) O fs t (λ_ c=>c<D.size) T (λ_=>[])/\aN O D.size (t.map oz++List.replicate (fs.length-j) (Value.pointer none)).toArray afo) (λx _=>fs.length-x.toNat)
  ⟨0,[],λ_=>No,rfl,rfl,g4,⟨λk f p _ _ h=>by simp at h,λk _ h=>by simp at h,λj k c _ _ h=>by simp at h,λc z=>by omega,by simp⟩,by simpa using I⟩ ?_
 rintro x h5 ⟨j,t,T,rfl,hj,g5,F,I⟩ N hN;have G5:=ak (ak G2 g3) g5;have y':=I.lt;refine aE (λcc=>?_) λcc=>?_
 ·have cc:=aM cc;have w:fs[j]? =some fs[j]:=bx ag;generalize fs[j]=f at w;have s:=ok.Tp f (bL w);have G:f.gh:=f'.get f (bL w);refine(hs.gr G5).ix rfl w λa1 ha=>?_;obtain⟨u,cu,L⟩:=ha.row;refine gK cu (aG λb6 h6 e6 g6 k6 _=>oD k6 rfl λh7 o7 k7=>dZ k7 ?_);have P:az h5 h7:=bE g6 o7 ag;have s7:=P.1;refine af0 (vT f s) (RV f s G) s G (ht.k.ai (ak G5 P)) (L.gr P) λp h8 g8 B8=>?_;have s8:=g8.1;refine⟨by omega,by show(j:Int)<fs.length;omega,?_⟩
  rw[fR,u7,bw,cz];refine dc ((I.ai P).ai g8) cj rfl λh9 Z k9=>aW ag ag (hN _ _ ⟨j+1,t++[p],rJ T t.length λc=>h7.size<=c/\c<h8.size,by simp,by simp;omega,bE (ak g5 (ak P g8)) Z (bP _),
   F.add Df (by rw[hj];exact w) s G (ak P g8) ⟨B8,λc z=>⟨λy=>by omega,by omega⟩⟩ (λc z=>by omega) ag Z.fr λc z=>.inl z,?_⟩ ag)
  have Y:List.replicate (fs.length-j) (Value.pointer none)=Value.pointer none::List.replicate (fs.length-(j+1)) (Value.pointer none):=by rw[show fs.length-j=fs.length-(j+1)+1 by omega];rfl
  rw[Y,nZ,wK _ _ cj]at k9
  simpa[hj,oz]using k9
 have cc:=aM cc;have jn:j=fs.length:=by have:=F.n;omega
 rw[jn,wM,List.replicate_zero,oH]at I;have pn:t.length=fs.length:=ag;have bad:∀{w:Hp}{e n:Int},qK fs [] rows=(e,n)->e≠0->aN w b #[.int .i64 0,.slice none 0 0] ry->az h w->St w ⟨b,0,none⟩ (.int .i64 0) λa=>St a ⟨b,1,none⟩ (.slice none 0 0) λb'=>Ld b' ⟨b,0,none⟩ mI λc=>Ld b' ⟨b,1,none⟩ Sl.v λd=>K c d e n b':=
  λeo ne k g=>LM k λh4 o4=>X.bad (ae6 ok eo ne) (bE g o4 ag)
 refine aBU (az3 (λx O=>∃(i:Nat)(Q T:Nat->Nat->Prop),x=i/\i<=rows.length/\sI Ib h O D.size (·=D.size) b ⟨some ⟨D.size,0,none⟩,fs.length,fs.length⟩ fs t Q T (mU (rows.take i))/\qK fs [] rows=qK fs (rows.take i) (rows.drop i)) (λx _=>rows.length-x.toNat)
  ⟨0,_,T,rfl,dN _,⟨G5,F,kb.ai g5,by omega,⟨⟨by rw[cm];exact pn.symm,bP _,λx _=>⟨_,rfl,uQ I λi v hv=>by rw[cz,qZ];exact hv⟩⟩,λ_ a ha=>by cases ha;rfl⟩,pn,λk f _=>Le f,g5.1⟩,rfl⟩ ?_)
 rintro x h6 ⟨i,Q,T,rfl,hi,R,eo⟩ N hN;refine aE (λc=>?_) λc=>?_
 ·have c:=aM c;have w:rows[i]? =some rows[i]:=bx ag;generalize rows[i]=row at w;obtain⟨rr,rn⟩:=rg row (bL w);have oa:=aaO (fs:=fs) w;have tl:(rows.take i).length=i:=by rw[kP];omega
  refine hr.ix rfl w λa1 u cu L=>⟨_,R.g.cell cu,aE (λc3=>?_) λc3=>aE (λc4=>?_) λc4=>?_⟩
  ·have c3:=aM c3;have Y:pg fs (rows.take i) row=3:=by unfold pg;rw[aI ag]
   exact bad (eo.trans (oa.trans (by rw[Y,aI aY]))) aY R.kb R.g
  ·simp only[sm,reduceCtorEq]at c3 c4;have un:=L.n.1;have Y:pg fs (rows.take i) row=110:=by unfold pg;rw[aC ag,aI (by intro q;apply c4;show(u.n:Int)=fs.length;omega)]
   exact bad (eo.trans (oa.trans (by rw[Y,aI aY]))) aY R.kb R.g
  simp only[sm,reduceCtorEq]at c3 c4;have un:=L.n.1;have x':row.length=fs.length:=by have:(u.n:Int)=fs.length:=c4;omega
  have Y:pg fs (rows.take i) row=tD (rows.take i) row 0 fs:=by unfold pg;rw[aC ag,aC ag]
  refine az2 (λy O=>∃(k:Nat)(Q T:Nat->Nat->Prop),y=k/\k<=fs.length/\sI Ib h O D.size (·=D.size) b ⟨some ⟨D.size,0,none⟩,fs.length,fs.length⟩ fs t Q T (tG rows i row k)/\tD (rows.take i) row 0 fs=tD (rows.take i) row k (fs.drop k)) (λy _=>fs.length-y.toNat)
   ⟨0,Q,T,rfl,dN _,R.cg λk _=>adM.symm,rfl⟩ ?_
  rintro y h7 ⟨k,Q,T,rfl,hkn,R,ec⟩ N2 p';refine aE (λS=>?_) λS=>?_
  ·have S:=aM S;have M:fs[k]? =some fs[k]:=bx ag;have V:t[k]? =some t[k]:=bx ag;have hv:row[k]? =some row[k]:=bx ag;have gd:row.getD k v0=row[k]:=by rw[gL,hv];rfl
   generalize row[k]=x at hv gd;generalize fs[k]=f at M;generalize t[k]=p at V;refine(eR L R.g).ix rfl hv λa2 u2 cx o'=>gZ cx (aG λa10 h8 e8 g8 a' _=>lT a' rfl λh9 Z a'=>?_);have g9:az h7 h9:=bE g8 Z ag;have E:=R.gr Df g9;refine E.l.1.ix ag (by show(k:Int)<fs.length;omega) (by rw[fR,fh,V];rfl) λa5 S=>⟨_,S,eY a' ?_⟩
   obtain⟨s,G,Bk,qd⟩:=E.F.m k f p (dN _) M V;have W:=adL (rows:=rows) (i:=i) (c:=k) (row:=row);have cn:=E.c k f M;rw[gd]at W;have I:=E.F.l k (dN _) ag;rw[W.1]at Bk cn;have gb:=E.b;refine ajP (vT f s) (mb f s).1 (ac5 f s) s G (ht.k.ai E.g) (hu.ai E.g) Bk cn (rr.get hv) (eR o' g9) (λc z=>(qd c (I.1 c ag)).1) λc' U j'=>?_;have ea:=adj (done:=rows.take i) (row:=row) M;rw[gd]at ea;have w':=U.1;have u':az h c':=((bh E.g:Tn No h h9).trans' U λc z eW=>by have:=(I.2.1 c z).1;omega).ai
   refine aE (λJ=>?_) λJ=>?_
   ·have J:=aM J;exact bad (eo.trans (oa.trans (by rw[Y,ec,ea,aI J,aI J]))) J (U.aZ E.kb λz=>by have:=(I.2.1 _ z).1;omega) u'
   ·have J:=aM J;rw[aI J]at j';refine aW ag ag (p' _ _ ⟨k+1,rJ Q k (Q k),rJ T k (Tr (T k) h9 c'),by simp,by omega,E.put Df M V ⟨U,λ_ z=>z,λ_ z=>.inl z,λ_ z=>.inl z,λ_ z=>z⟩ ⟨by rw[W.2];exact j',λc z=>⟨λy=>?_,by have:=(qd c z).2;omega⟩⟩ (by rw[W.2];exact(Vg (mb f s).1 cn J).1) (λj e=>adJ e),ec.trans (ea.trans (aC (by simpa using J)))⟩ ag)
    rcases y with y|y
    ·exact(qd c z).1 y
    ·have:=(qd c z).2;omega
  ·have S:=aM S;have:k=fs.length:=ag;subst this;refine aW ag ag (hN _ _ ⟨i+1,Q,T,by simp,by omega,R.cg λk X=>adK w X,eo.trans (oa.trans ?_)⟩ ag)
   rw[Y,ec,wJ];exact aC (by simp[tD])
 ·have c:=aM c;have:i=rows.length:=ag;subst this;rw[mz]at R;have ea:qq fs ms rows=((rows.length:Int),uP rows 0 fs,0,0):=by
   unfold qq;rw[aI ok,aI (by rw[eo,wJ];rfl)]
  rw[ea]at X;have dl:=K4 (rows:=rows) (fs:=fs) (j:=0);refine aBT (aG λo h7 e7 P k7 _=>dc k7 aA rfl λh8 o8 k8=>dc k8 aA rfl λh9 Z k9=>?_);have gb:=R.b;have s6:=R.F.y D.size rfl;have g9:az h6 h9:=bE P (o8.trans Z) ag;have s7:=P.1;have s9:=(o8.trans Z).1;have z':=k7.lt;have E:=R.gr Df g9;refine az4 (λy O=>∃(j:Nat)(x3:Sl)(qs:List (Sl×Sl×Sl)),y=j/\j<=fs.length/\CF Ib h h9 O j D.size (·=D.size) b o ⟨some ⟨D.size,0,none⟩,fs.length,fs.length⟩ fs t Q T (mU rows) C.n x3 (uP rows 0 fs) qs) (λy _=>fs.length-y.toNat)
   ⟨0,Sl.nil,[],rfl,dN _,E.g,E.F,E.kb,gb,E.l,by simpa[Sl.v,Sl.nil]using k9,⟨by omega,by omega,by omega⟩,qY _ _ _ _,rfl,λj d p _ h=>by simp at h,λk X hl c z=>by have:=R.F.fG Df X hl z;omega,bP _,λc z=>by omega⟩ ?_
  rintro y c' ⟨j,x3,qs,rfl,SN,H⟩ N hN;refine aE (λc=>?_) λc=>?_
  ·have c:=aM c;have M:fs[j]? =some fs[j]:=bx ag;have V:t[j]? =some t[j]:=bx ag;generalize fs[j]=f at M;generalize t[j]=p at V;obtain⟨s,G,Bk,qd⟩:=H.F.m j f p (bP _) M V;have pT:T j p:=by obtain⟨_,_,_,_,B⟩:=Bk;exact B.tp
   have hd:=TD (rows:=rows) (j:=0) M;rw[cz]at hd;refine H.l.1.ix ag (by show(j:Int)<fs.length;omega) (by rw[fR,fh,V];rfl) λa5 S=>⟨_,S,ajD (vT f s) Bk (R.c j f M) λq r' d' _ i'=>aG λa12 xV e12 t' n' _=>jI n' rfl λq' l' e'=>?_⟩
   generalize f.dn (f.st (mU rows j))=d at hd i' e';have g':az r' q':=bE t' l' ag;exact aj ((d'.aZ H.ko (sD (H.fG j (bP _) ag p (.inl pT)).2)).ai g') rfl (gl e' (aG λa14 xU DO s' m' _=>H.step Df ag ag hd (d'.mono λc z _=>z▸pT) i' (ak g' s') m' λk' h15 v'=>aW ag ag (hN _ _ ⟨j+1,k',_,by simp,by omega,v'⟩ ag)))
  ·have c:=aM c;refine H.end ag λh2 g2 d2=>?_;have:=X x3 h2 g2 d2;rw[<-cn]at this;exact this
end
section
variable {A B C:Sl} {K:KB}
theorem ape{m:Nat}{N:cG}(o:eT m 1 h s (N.map λp=>[oz p]) vh):dX s.at h s (N.map oz):=by
 have c:=o.n;rw[cm]at c;refine⟨⟨by rw[cm];exact c,o.cap,λx d=>?_⟩,λne a g=>⟨a,g,rfl⟩⟩
 rcases o.cases with⟨e,_⟩|⟨b,j,r⟩
 ·rw[e]at d;cases d
 ·refine⟨_,r.own.1,uQ r.own.2.2.choose_spec.1 λi v f=>?_⟩;have:=r.own.2.2.choose_spec.2.2.2 i (by have:=(cU.1 f).1;simp at this;omega)
  rw[cz,this];have e:(N.map λp=>[oz p]).flatten=N.map oz:=by rw[<-UC];exact acU N _
  rw[e];exact f
theorem axI(e':ia fs)(hs:cH h A fs)(hm:tY h B 2 (ms.map xG))(H:sF Tt h C rows)(rg:∀r∈rows,mL r/\r.length<=9223372036854775807)(rl:rows.length<=9223372036854775807)
  (Z:I1 h K (qq fs ms rows)):XK A B C h K Kp:=by
 have an:=hs.n;have cn:=H.1;have H:=H.lt;refine aE8 (aG λa h1 e1 g1 ka _=>aG λb h2 e2 g2 kb _=>?_);have ka:=ka.ai g2;have G2:=ak g1 g2;refine aj ka rfl (aj ka rfl (aaq (hs.gr G2) (hm.ai G2) e' λe _ _ I g3 _ he=>aE (λc=>?_) λc=>?_))
 ·have c:=aM c;exact LM (kb.ai g3) λh4 o4=>Z.bad (by unfold qq;rw[aC λq=>c (he.2 q)]) (bE (ak G2 g3) o4 ag)
 have c:=aM c;have ok:=he.1 c;have fl:fs.length<=32:=ok.1;have G3:=ak G2 g3;have s3:=g3.1;have kb:=kb.ai g3;have ka:=ka.ai g3;have fa:∀{G},az I G->bY _ G A fs:=λ{G}g=>bY.fr (bh g) (λ_ _=>id) (λc z=>z.2) _ (bY.lt _ (cH.a _ (hs.gr G3)));refine aG λl0 h4 e4 g4 kl _=>?_;refine azX (λL x G=>∃(j:Nat)(s:cG)(T:Nat->Nat->Prop),x=j/\s.length=j/\az I G/\kT Ew 0 I.size L.at G fs s (λ_ c=>c<I.size) T (λ_=>[])/\eT I.size 1 G L (s.map λp=>[oz p]) vh) (λ_ x _=>fs.length-x.toNat)
  ⟨0,[],λ_=>No,rfl,rfl,g4,⟨λk f p _ _ h=>by simp at h,λk _ h=>by simp at h,λj k c _ _ h=>by simp at h,λc z=>(eT.start kl ag:eT I.size 1 h4 _ _ _).at z,by simp⟩,eT.start kl ag⟩ ?_
 rintro L x h5 ⟨j,s,T,rfl,hj,g5,F,o5⟩ N hN;have G5:=ak G3 g5;have s5:=g5.1;have d':=ka.ai g5;have on:=o5.n;rw[cm]at on;refine aj d' rfl (aE (λcc=>?_) λcc=>?_)
 ·have cc:=aM cc;have t:fs[j]? =some fs[j]:=bx ag;generalize fs[j]=f at t;have D:=ok.Tp f (bL t);have X:f.gh:=e'.get f (bL t);refine aj d' rfl ((fa g5).ix rfl t λa1 u cu V=>gK cu (aqx f D V (λc z=>by omega) λT' p h6 g6 m' B6=>aG λb7 h7 e7 g7 k7 _=>?_))
  have s6:=g6.1;have s7:=g7.1;refine(o5.ai (ak g6 g7)).ap ag rfl (new:=[[oz p]]) rfl (λr H=>by simp at H;subst H;rfl) (λr H=>by simp at H;subst H;intro v hv;simp at hv;subst hv;rfl) (iM k7 rfl) ag ag λc' O t8 a8 o8=>?_
  refine aW ag ag (hN _ _ _ ⟨j+1,s++[p],rJ T s.length T',by simp,by simp;omega,((bh (ak g5 (ak g6 g7)):Tn No I h7).trans' t8 λc z l'=>by have:=(o5.at z).1;omega).ai,
   F.add FO (by rw[hj];exact t) D X (ak g6 g7) ((tJ f).fr (S:=No) B6 (bh g7) (λ_ _=>id) λ_ _=>id) m' ag t8 λc z=>(a8 c z).imp id λy=>⟨y,(o8.at z).2⟩,by simpa using o8⟩ ag)
 have cc:=aM cc;have jn:j=fs.length:=by have:=F.n;omega
 have pn:s.length=fs.length:=ag;have bad:∀{t:Hp}{e n:Int},qK fs [] rows=(e,n)->e≠0->aN t b #[.int .i64 0,.slice none 0 0] ry->az h t->St t ⟨b,0,none⟩ (.int .i64 0) λa=>St a ⟨b,1,none⟩ (.slice none 0 0) λU=>Ld U ⟨b,0,none⟩ mI λc=>Ld U ⟨b,1,none⟩ Sl.v λd=>K c d e n U:=
  λeo ne k g=>LM k λh4 o4=>Z.bad (ae6 ok eo ne) (bE g o4 ag)
 refine aBS (azZ (λx G=>∃(i:Nat)(Q T:Nat->Nat->Prop),x=i/\i<=rows.length/\sI Ew h G I.size L.at b L fs s Q T (mU (rows.take i))/\qK fs [] rows=qK fs (rows.take i) (rows.drop i)) (λx _=>rows.length-x.toNat)
  ⟨0,_,T,rfl,dN _,⟨G5,F,kb.ai g5,by omega,ape o5,pn,λk f _=>Le f,s5⟩,rfl⟩ ?_)
 rintro x h6 ⟨i,Q,T,rfl,hi,R,eo⟩ N hN;refine aE (λc=>?_) λc=>?_
 ·have c:=aM c;have t:rows[i]? =some rows[i]:=bx ag;generalize rows[i]=row at t;obtain⟨rr,rn⟩:=rg row (bL t);have oa:=aaO (fs:=fs) t;have tl:(rows.take i).length=i:=by rw[kP];omega
  refine aE (λc3=>?_) λc3=>H.ix rfl t λa1 u cu V=>⟨_,R.g.cell cu,aE (λc4=>?_) λc4=>?_⟩
  ·have c3:=aM c3;have er:pg fs (rows.take i) row=3:=by unfold pg;rw[aI ag]
   exact bad (eo.trans (oa.trans (by rw[er,aI aY]))) aY R.kb R.g
  ·simp only[sm,reduceCtorEq]at c3 c4;have un:=V.n.1;have er:pg fs (rows.take i) row=110:=by unfold pg;rw[aC ag,aI ag]
   exact bad (eo.trans (oa.trans (by rw[er,aI aY]))) aY R.kb R.g
  simp only[sm,reduceCtorEq]at c3 c4;have un:=V.n.1;have q':row.length=fs.length:=ag;have er:pg fs (rows.take i) row=tD (rows.take i) row 0 fs:=by unfold pg;rw[aC ag,aC ag]
  refine azY (λy G=>∃(k:Nat)(Q T:Nat->Nat->Prop),y=k/\k<=fs.length/\sI Ew h G I.size L.at b L fs s Q T (tG rows i row k)/\tD (rows.take i) row 0 fs=tD (rows.take i) row k (fs.drop k)) (λy _=>fs.length-y.toNat)
   ⟨0,Q,T,rfl,dN _,R.cg λk _=>adM.symm,rfl⟩ ?_
  rintro y h7 ⟨k,Q,T,rfl,s',R,ec⟩ N2 n';refine aE (λP=>?_) λP=>?_
  ·have P:=aM P;have M:fs[k]? =some fs[k]:=bx ag;have Y:s[k]? =some s[k]:=bx ag;have hv:row[k]? =some row[k]:=bx ag;have gd:row.getD k v0=row[k]:=by rw[gL,hv];rfl
   generalize row[k]=x at hv gd;generalize fs[k]=f at M;generalize s[k]=p at Y;obtain⟨D,X,Bk⟩:=R.F.m k f p (dN _) M Y;have W:=adL (rows:=rows) (i:=i) (c:=k) (row:=row);have cn:=R.c k f M;rw[gd]at W;have kl:=R.F.l k (dN _) ag;rw[W.1]at Bk cn;have gb:=R.b;have ea:=adj (done:=rows.take i) (row:=row) M;rw[gd]at ea;refine R.l.1.ix ag ag (by rw[fR,fh,Y];rfl) λa5 P=>⟨_,P,H.ix rfl t λa6 u6 o' k'=>⟨_,R.g.cell o',(eR k' R.g).ix rfl hv λa2 u2 cx j'=>gZ cx ?_⟩⟩
   have cont:∀{e:Int}{Q' T':aQ}{O:Hp},jy f (mU (rows.take i) k) x=e->Ext (Q k) Q' (T k) T' h7 O->(e=0->f.gG Q' T' O p (mU (rows.take i) k++[x]))->
     If (e !=0) (St O ⟨b,0,none⟩ (.int .i64 0) λU=>St U ⟨b,1,none⟩ (.slice none 0 0) λU=>Ld U ⟨b,0,none⟩ mI λc=>Ld U ⟨b,1,none⟩ Sl.v λd=>K c d e (i:Int) U) (Wr .i64 ((k:Int)+1) λc=>N2 (JX C ⟨b,0,none⟩ L (i:Int) c) O):=by
    intro e Q' T' O ee x8 m8;subst ee;have g8:az h O:=((bh R.g:Tn No h h7).trans' x8.tn λc z l'=>by have:=(kl.2.1 c z).1;omega).ai
    refine aE (λJ=>?_) λJ=>?_
    ·have J:=aM J;exact bad (eo.trans (oa.trans (by rw[er,ec,ea,aI J,aI J]))) J (x8.tn.aZ R.kb λz=>by have:=(kl.2.1 _ z).1;omega) g8
    ·have J:=aM J;exact aW ag ag (n' _ _ ⟨k+1,rJ Q k Q',rJ T k T',by simp,by omega,R.put FO M Y x8 (by rw[W.2];exact m8 J) (by rw[W.2];exact(Vg (mb f D).1 cn J).1) (λj e=>adJ e),ec.trans (ea.trans (aC (by simpa using J)))⟩ ag)
   refine ayg D X cn Bk (j'.mo λc z=>kl.1 c ag) (rr.get hv) (λq O g8=>cont (by unfold jy;rw[aC q]) ⟨bh g8,λ_ z=>z,λ_ z=>.inl z,λ_ z=>z,λ_ z=>.inl z⟩ λe=>absurd e aY) λq Q' T' O x8 m8=>cont (by unfold jy;rw[aI q]) x8 m8
  ·have P:=aM P;have:k=fs.length:=ag;subst this;refine aW ag ag (hN _ _ ⟨i+1,Q,T,by simp,by omega,R.cg λk Z=>adK t Z,eo.trans (oa.trans ?_)⟩ ag)
   rw[er,ec,wJ];exact aC (by simp[tD])
 ·have c:=aM c;have:i=rows.length:=ag;subst this;rw[mz]at R;have ea:qq fs ms rows=((rows.length:Int),uP rows 0 fs,0,0):=by
   unfold qq;rw[aI ok,aI (by rw[eo,wJ];rfl)]
  rw[ea]at Z;have dl:=K4 (rows:=rows) (fs:=fs) (j:=0);refine aBR (aG λo h7 e7 g7 k7 _=>dc k7 aA rfl λO o8 k8=>dc k8 aA rfl λh9 o9 k9=>?_);have gb:=R.b;have g9:az h6 h9:=bE g7 (o8.trans o9) ag;have s7:=g7.1;have s9:=(o8.trans o9).1;have r':=k7.lt;have R9:=R.gr FO g9;have yl:=R.F.y;have z':=R.kb.lt;have s6:=R.w;refine az0 (λy G=>∃(j:Nat)(z3:Sl)(qs:List (Sl×Sl×Sl)),y=j/\j<=fs.length/\CF Ew h h9 G j I.size L.at b o L fs s Q T (mU rows) C.n z3 (uP rows 0 fs) qs) (λy _=>fs.length-y.toNat)
   ⟨0,Sl.nil,[],rfl,dN _,R9.g,R9.F,R9.kb,gb,R9.l,by simpa[Sl.v,Sl.nil]using k9,⟨by omega,by omega,λz=>by have:=yl o z;omega⟩,qY _ _ _ _,rfl,λj d p _ h=>by simp at h,λk Z hl c z=>by have:=R.F.fG FO Z hl z;omega,bP _,λc z=>by have:=yl c z;omega⟩ ?_
  rintro y x' ⟨j,z3,qs,rfl,t',E⟩ N hN;refine aE (λc=>?_) λc=>?_
  ·have c:=aM c;have M:fs[j]? =some fs[j]:=bx ag;have Y:s[j]? =some s[j]:=bx ag;generalize fs[j]=f at M;generalize s[j]=p at Y;obtain⟨D,X,Bk⟩:=E.F.m j f p (bP _) M Y;have hd:=TD (rows:=rows) (j:=0) M;rw[cz]at hd;refine aj E.ko rfl (E.l.1.ix ag ag (by rw[fR,fh,Y];rfl) λa5 P=>⟨_,P,(ady f D).1 (R.c j f M) Bk λq w' a' g'=>?_⟩)
   generalize f.dn (f.st (mU rows j))=d at hd g';exact bM E.ko a' (aG λa14 v' y' f' i' _=>bM (E.ko.ai a') f' (E.step FO ag ag hd (bh a') g' f' i' λc' u' p'=>aW ag ag (hN _ _ ⟨j+1,c',_,by simp,by omega,p'⟩ ag)))
  ·have c:=aM c;refine E.end ag λh2 g2 d2=>?_;have:=Z z3 h2 g2 d2;rw[<-cn]at this;exact this
end
theorem ax7:uN (qq fs ms rows).2.1/\(qq fs ms rows).2.1.length<=32:=by
 unfold qq;split
 ·rename_i ok
  split
  ·exact⟨adz ok.Tp,by rw[K4];exact ok.1⟩
  ·exact⟨trivial,by simp⟩
 ·exact⟨trivial,by simp⟩
theorem arK{u:Sl}{K:fJ}(o:ia fs)(U:n8 h)(T:jz h)(V:cH h s fs)(W:tY h t 2 (ms.map xG))(hr:sF Tt h u rows)
  (P:∀r∈rows,mL r/\r.length<=9223372036854775807) (O:rows.length<=9223372036854775807) (hk:∀k,az h k->K true k):aju s t u h K Kp:=by
 have F:∀x:Int,(x==x)=true:=λx=>by simp
 have lG:=ax7 (fs:=fs) (ms:=ms) (rows:=rows);have N:∀{k},az h k->sF Tt k u rows:=λ{k}g=>hr.fr (bh g) (λ_ _=>id) λ_ z=>z;refine aFi (aG λa h1 e1 G j _=>ax0 (U.ai G) (T.ai G) λh2 D=>bu rfl (aj (j.ai D) rfl (aj (j.ai D) rfl ?_)));have l:=ak G D;refine axH o (U.ai l) (T.ai l) (V.gr l) (W.ai l) (N l) P O λq h3 g3 d3=>aG λf h4 e4 Z k4 _=>dc k4 aA rfl λh5 R k5=>dc k5 aA rfl λX Q w=>?_;have Y:=ak g3 (bE Z (R.trans Q) ag);have j:=(j.ai D).ai Y;have E:=ak l Y;refine aj j rfl (aj j rfl (axI o (V.gr E) (W.ai E) (N E) P O λq2 h7 g7 d7=>aG λi h8 e8 g8 k8 _=>dc k8 aA rfl λh9 o9 k9=>dc k9 aA rfl λJ H n=>bO (F _) ?_));rw[F];have v:az h7 J:=bE g8 (o9.trans H) ag;have b:=ak g7 v;have w:=w.ai b;refine aB9 (bO rfl (aj w rfl (aj w rfl (aj n rfl (aj n rfl (aE7 (aG λx b' d' M d _=>aG λy a' c' p m _=>?_)))))));have e:=ak M p;have d:=d.ai p;exact aj d rfl (aj m rfl (bO (F _) (aj d rfl (aj m rfl (Tx (λc _=>Ty c) lG.1 ((d3.gr (bE Z (R.trans Q) ag:az h3 X)).gr (ak b e)) (d7.gr (ak v e)) (by have:=lG.2;omega) λI L=>hk I (ak (ak E (ak b e)) L))))))
open Go Go.Sh Go.ChangeShapes Go.WideShapes
theorem Y7:aD.underlying 25=some (.struct (wm 25)):=by kernel_rfl
theorem aln:aD.underlying 23=some (.slice 72):=by kernel_rfl
theorem alm:aD.underlying 72=some (.struct (wm 72)):=by kernel_rfl
theorem Y5:aD.underlying 26=some (.slice 47):=by kernel_rfl
theorem av7:fT 25 0 22 0:=by unfold fT;kernel_rfl
theorem av6:fT 25 1 23 1:=by unfold fT;kernel_rfl
theorem av5:fT 72 0 9 0:=by unfold fT;kernel_rfl
theorem av4:fT 72 1 9 1:=by unfold fT;kernel_rfl
theorem awq:aD.cellsOf 25=2:=by kernel_rfl
theorem awp:aD.cellsOf 23=1:=by kernel_rfl
theorem adA:aD.cellsOf 72=2:=by kernel_rfl
section
variable {H:Type} {enc:TypeId×Value->H} {W:World} {fuel:Nat} {cs:bg} {x:DataW H×List MemPlace}
theorem aoY(h:Rd enc W fuel 72 cs x):∃m:Md,cs=xG m:=by
 obtain⟨i,rfl,b,a⟩:=FK alm h;rw[adA]at b;obtain⟨v0,g,rfl⟩:=abB b;have⟨f,d⟩:=a 0 _ _ av5;have⟨e,c⟩:=a 1 _ _ av4;have⟨k,e0,_⟩:=JF d;have⟨t,e1,_⟩:=JF c;simp[TE]at e0 e1;subst e0 e1;exact⟨(k,t),rfl⟩
theorem aoX(h:Rd enc W fuel 23 cs x):∃(s:Sl)(g:List Md),cs=[s.v]/\tY (aT W) s 2 (g.map xG):=by
 obtain⟨s,n,rfl,rfl,k,t,e⟩:=JG aln h;obtain⟨l,hl,d⟩:=F5 (Q:=λi(m:Md)=>∃a,s.a=some a/\Cs (aT W) (a.add (i*2)) (xG m)) λi d=>by
  have⟨a,q,y,p,u,f,o⟩:=e i d;rw[adA]at f;obtain⟨m,rfl⟩:=aoY o;exact⟨m,a,p,f⟩
 refine⟨s,l,rfl,by rw[cm];exact hl.symm,k,λj r b=>?_⟩
 rw[fh]at b;cases c:l[j]? with
 |none=>rw[c]at b;simp at b
 |some m=>rw[c]at b;simp at b;subst b;exact d j m c
theorem aoV(h:Rd enc W fuel 25 cs x):∃(s t:Sl)(a:cC)(b:List Md),cs=[s.v,t.v]/\cH (aT W) s a/\ia a/\tY (aT W) t 2 (b.map xG):=by
 obtain⟨n,rfl,d,c⟩:=FK Y7 h;rw[awq]at d;obtain⟨v0,m,rfl⟩:=abB d;have⟨l,f⟩:=c 0 _ _ av7;have⟨k,e⟩:=c 1 _ _ av6;have⟨s,a,e0,j,i,_⟩:=aoZ _ f;have⟨t,b,e1,g⟩:=aoX e;simp[adG,awp]at e0 e1;subst e0 e1;exact⟨s,t,a,b,rfl,j,i,g⟩
theorem aoW(h:Rd enc W fuel 26 cs x):∃(s:Sl)(rows:List (List aB)),cs=[s.v]/\sF Tt (aT W) s rows/\(∀r∈rows,mL r/\r.length<=jP)/\rows.length<=jP:=by
 obtain⟨s,n,rfl,rfl,B,A,f⟩:=JG Y5 h;obtain⟨l,hl,b⟩:=F5 (Q:=λi(r:aP)=>(∃a,s.a=some a/\∃u,cell (aT W) (a.add (i*1))=some (Sl.v u)/\aR Tt (aT W) u r)/\mL r/\r.length<=jP) λi b=>by
  have⟨a,z,y,p,C,k,o⟩:=f i b;rw[adE]at k;obtain⟨u,r,rfl,w,t,q⟩:=aoT _ o;exact⟨r,⟨a,p,u,Cs.c0 k,w⟩,t,q⟩
 refine⟨s,l,rfl,⟨hl.symm,λne=>?_⟩,λr d=>?_,by omega⟩
 ·obtain⟨r,d⟩:∃r,l[0]? =some r:=⟨_,bx (LX.2 ne)⟩;have⟨⟨a,g,_⟩,_⟩:=b 0 r d;refine⟨a,g,trivial,λj r e=>?_⟩;have⟨⟨D,c,m⟩,_⟩:=b j r e;rw[g]at c;cases c;exact m
 ·have⟨j,e⟩:=ri.1 d;exact(b j r e).2
end
end
end Go.Proofs.YtmjochipbmgljaaGreatDoor
