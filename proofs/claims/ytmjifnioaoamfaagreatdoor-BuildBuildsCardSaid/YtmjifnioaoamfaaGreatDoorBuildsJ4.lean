import Derived.Test.YtmjifnioaoamfaaGreatDoorBuildsJ3
import Derived.Shelf.Strings.Repeat
import Derived.Test.YtmjifnioaoamfaaGreatDoorBuildsShGlue
import Derived.SizedLaws
import Derived.Test.YtmjifnioaoamfaaGreatDoorCards
import Derived.Test.YtmjifnioaoamfaaGreatDoorTie
set_option linter.all false
set_option maxRecDepth 100000
set_option maxHeartbeats 1000000
namespace Go.Proofs.YtmjifnioaoamfaaGreatDoor
open Go Go.Sh Go.WideShapes
section
variable {C sp':bg} {r:Raw} {Kp:PK} {v Y:aD} {i j b a:Nat} {Z:Array Value} {e el ty:TypeId} {aZ:ie} {s:Sl} {D A E:aR} {G h:Hp} {k:Int} {x':List Value×TypeId} {aH:aQ} {f:ak} {W:World}
def vW(KM:List cO)(KT:List (Nat->Prop))(kv:bg)(r:Raw):lU:=λF l u h=>(one F=true/\F.cells=#[F])/\∃(qj:List Mem)(lo hi:Nat->Nat),qj.length=KM.length/\(∀j,j<KM.length->l<=lo j/\hi j<=u)/\
  (∀i j,i<KM.length->j<KM.length->i≠j->hi i<=lo j\/hi j<=lo i)/\Cn (λc=>l<=c/\c<u/\∀j,j<KM.length->¬(lo j<=c/\c<hi j)) h F (qj.map Mem.F)/\
  ∀(j:Nat)M A w,KM[j]? =some M->KT[j]? =some A->kv[j]? =some w->∃m,qj[j]? =some m/\m.r=r.aN j/\M (λc=>A c\/(lo j<=c/\c<hi j)) h w (r.aN j) (some m)
theorem vW.one{KM:List cO}{d:List (Nat->Prop)}:One (vW KM d C r):=λ_ _ _ _ q=>q.1
theorem vW.pX{KM:List cO}{n:List (Nat->Prop)}{h0:Hp}(KF:∀(j:Nat)M,KM[j]? =some M->gz M)(G:∀(j:Nat)A,n[j]? =some A->∀c,A c->c<h0.size):lV h0 (vW KM n C r):=by
 rintro S F l u h h' ⟨q,d,B,E,v,e,s,p,o⟩ hl I t i;refine⟨q,d,B,E,v,e,s,p.fr t λc a _ b=>(i c b).2 ⟨a.1,a.2.1⟩,λj M A w e1 k H=>?_⟩;obtain⟨m,z,y,x⟩:=o j M A w e1 k H;have D:=(dy.1 e1).1;refine⟨m,z,y,KF j M e1 x t λc a _ b=>?_⟩;have:=i c b;have:=e j D;rcases a with a|a
 ·have:=G j A k c a;omega
 ·omega
section
variable {c:ak} {KM:List cO} {M:cO} {T:aR} {h0 h':Hp} {vs:aQ} {g:dO} {w:Value}
theorem acY{K:de}(G:bU f KM T h0 r none g)(C:kI f.cs KM)(n':f.k=17\/f.k=18)(hn:KM.length<=4096)(hc:∀(j:Nat)c,f.cs[j]? =some c->∃us,c.can us/\r.aN j=c.st us)(gr:aB h0 h)
  (hk:∀F h',aB h h'->vW KM g.KT g.kv r F h.size h'.size h'->K F h'):Gr g.ks h K Kp:=by
 have o':=C.qI;have lk:=G.lk;have kl:=G.kl n';have ns:g.ks.n=KM.length:=by rw[kl.1.1,lk.1]
 have CL:=C.1;refine Gr.of (aJ λy h1 e3 g1 B _=>?_);have s0:=gr.1;refine Qa.bC (λx h'=>∃(i:Nat)(b:List Mem)(o u:Nat->Nat)(s:Sl),x=i/\i<=KM.length/\b.length=i/\aB h h'/\aO h' y #[Sl.v s] Zc/\
   Os (λc=>h.size<=c/\c<h'.size/\c≠y/\∀j,j<i->¬(o j<=c/\c<u j)) h' s (b.map Mem.F) Y4/\(∀j,j<i->y<o j/\u j<=h'.size)/\(∀j k,j<i->k<i->j≠k->u j<=o k\/u k<=o j)/\
   ∀(j:Nat)M A w,j<i->KM[j]? =some M->g.KT[j]? =some A->g.kv[j]? =some w->∃m,b[j]? =some m/\m.r=r.aN j/\M (λc=>A c\/(o j<=c/\c<u j)) h' w (r.aN j) (some m))
  (λx _=>KM.length-x.toNat) ⟨0,[],λ_=>0,λ_=>0,Sl.nil,rfl,eH _,rfl,g1,B,Os.nil,λj d=>ag,λj k d=>ag,λj M A w d=>ag⟩ ?_
 rintro x I ⟨i,b,o,u,s,rfl,z',hm,V,B,os,H,hd,Y⟩ N hN;have f':=B.lt;refine cE (λU=>?_) λU=>?_
 ·have k':i<KM.length:=ag;have l':i<f.cs.length:=ag;have hM:=bL k';have hA:g.KT[i]? =some g.KT[i]:=bL ag;have hw:g.kv[i]? =some g.kv[i]:=bL ag;have L:=bL l';generalize KM[i]=M at hM;generalize g.KT[i]=A at hA;generalize g.kv[i]=w at hw;generalize f.cs[i]=ci at L;have Ci:=C.2 i ci M L hM;obtain⟨us,j',J⟩:=hc i ci L;have m':∀c,A c->c<h0.size:=λc q=>G.t.l (bS (g.fk hA)) q;have aN:=G.aN i M A w hM hA hw;have D:=Ci.fr aN (bx (aq gr V)) λ_ _ _=>id;rw[J]at D;have e':=kl.fr (bx (aq gr V)) (λ_ _ _=>id) λ_ z=>z;refine e'.1.ix ag (by rw[ns];omega) (by rw[gj];exact hw) λp cp=>⟨_,cp,aj B rfl (Ci.mark j' D λmm h3 Q o3 c3 er M3=>bR B Q ⟨c3,aJ λZb h4 e4 P i' _=>bR (B.ai Q) P ?_⟩)⟩
  have s3:=Q.1;have v':s.n=i:=by have:=os.n;rw[cC,hm]at this;exact this
  have d':=(os.gr Q).gr P;refine d'.ap rfl o3 (jn i' rfl) ag ag λs5 h5 t5 c' _=>?_;have s':=t5.1;have g':=t5.bq ((B.ai Q).ai P) λq=>q.2.2.1 rfl;refine dN g' aC rfl λh6 o6 k6=>?_;have s6:=o6.1;have k6:aO h6 y #[Sl.v s5] Zc:=by simpa using k6
  -- of b' q' blocks only p' of b' r',and t' cell,have a'
  have W:Tn (λc=>(h.size<=c/\c<I.size/\c≠y/\∀j,j<i->¬(o j<=c/\c<u j))\/c=y) h4 h6:=(t5.mono λc q _=>.inl q).trans (o6.fr.mono λc q _=>.inr q);have X:=((bx (aq Q P):Tn _ I h4)).trans W;refine aY ag ag (hN _ _ ⟨i+1,b++[mm],λj=>if j=i then I.size else o j,λj=>if j=i then h3.size else u j,s5,aC,ag,by simp[hm],?_,k6,?_,λj d=>?_,λj k d y' ne=>?_,λj M' A' w' d E O R=>?_⟩ ag)
  ·exact((bx V:Tn No h I).trans' X λc q x'=>by rcases q with q|q <;> omega).ai
  ·rw[kY];refine(c'.tr.fr o6.fr λc q _ e=>?_).mono λc q=>?_
   ·rcases q with q|q
    ·exact q.2.2.1 e
    ·omega
   ·rcases q with q|q
    ·refine⟨q.1,ag,q.2.2.1,λj d z=>?_⟩
     by_cases e:j=i
     ·simp only[e,fY]at z;omega
     ·simp only[aE e]at z;exact q.2.2.2 j ag z
    ·refine⟨ag,ag,ag,λj d z=>?_⟩
     by_cases e:j=i
     ·simp only[e,fY]at z;omega
     ·simp only[aE e]at z;have:=H j ag;omega
  ·by_cases e:j=i
   ·simp only[e,fY];exact⟨ag,ag⟩
   ·simp only[aE e];have:=H j ag;exact⟨this.1,ag⟩
  ·by_cases e1:j=i
   ·have e2:k≠i:=λe=>ne (e1.trans e.symm);have:=H k ag;simp only[e1,fY,aE e2];omega
   ·by_cases e2:k=i
    ·have:=H j ag;simp only[e2,fY,aE e1];omega
    ·simp only[aE e1,aE e2];exact hd j k ag ag ne
  ·by_cases e:j=i
   ·subst e;rw[hM]at E;cases E;rw[hA]at O;cases O;rw[hw]at R;cases R;simp only[fY];refine⟨mm,by rw[gv ag,hm];simp,by rw[er,J],?_⟩
    rw[J];refine Ci.fr M3 ((bx P:Tn _ h3 h4).trans W) λc q _ z=>?_;rcases q with q|q
    ·have:=m' c q;rcases z with z|z <;> omega
    ·rcases z with z|z <;> omega
   ·simp only[aE e];obtain⟨m,m1,m2,m3⟩:=Y j M' A' w' ag E O R;refine⟨m,by rw[iX ag];exact m1,m2,o' j M' E m3 X λc q _ z=>?_⟩
    have Z:=G.t.l (bS (g.fk O)) (c:=c);rcases q with q|q
    ·have:=Z q;rcases z with z|z <;> omega
    ·rcases z with z|z
     ·exact z.2.2.2 j ag q
     ·have:=H j ag;omega
 ·have:i=KM.length:=ag;subst this;refine hk _ I V ⟨⟨rfl,rfl⟩,b,o,u,hm,λj d=>by have:=H j d;exact⟨ag,this.2⟩,hd,⟨y,_,s,rfl,⟨ag,f',λj d z=>by have:=H j d;omega⟩,B,os.sv,λu' a ha=>?_⟩,λj M A w E O R=>Y j M A w (dy.1 E).1 E O R⟩
  have:=os.at ⟨a,ha,rfl⟩;exact⟨this.1.1,this.1.2.1,this.1.2.2.2⟩
theorem ae8(d:f.can vs):∀(j:Nat)c,f.cs[j]? =some c->∃a,c.can a/\(f.st vs).aN j=c.st a:=λj c b=>⟨_,fh b d,mM b vs⟩
theorem bU.acZ{N:cV}{cs:List (Array Value)}{v KF:Value}{n u2:Nat}{K:de}(G:bU f KM T h r none g)(C:kI f.cs KM)(Q:tu h h' N cs (sk f g.b g.sf g.sn g.sb r.b) (vW KM g.KT g.kv r) v KF n i j u2)(x:f.k=17\/f.k=18)(d:eI f.k r.b r.b)
  (e:∀F m,jq f.k g.b v KF (.mk F r g.sb m [])=cs) (u:∀a h',aB h h'->one a.F=true->a.F.cells=#[a.F]->a.r=r->cX f KM (Tr T h h') h' (.iface (bI f.k) (bB g.b)) r (some a)->K a.F h'):K (.func (.func (gA f.k)) #[] (N.map pA).toArray) h':=by
 obtain⟨⟨_,qj,lo,hi,t,s,p,o,l⟩,z,y⟩:=Q.k;exact u _ h' Q.g rfl rfl rfl (G.Wu C.qI Q s p l t C.1 ag (λq=>ag) (λ_=>o) d (λq=>ag) (e _ qj))
theorem aos(n:bE f)(a:f.k=17)(C:kI f.cs KM):wj f (cX f KM):=by
 intro T h v vs K J y H x;obtain⟨g,rfl,G⟩:=H;have p:=C.qI;have L:=n.right.1.2.2.2.2.2.2.2.2.1 a;have U:=C.1;have E:bI f.k=nk:=by unfold bI;simp_all
 have I:gA f.k=213:=by unfold gA;simp_all
 have D:∀o:Rb,cF f.k o=[]:=λo=>by simp_all[cF,aE,ag,aI]
 have e:=Uf G.ls (D _);have q:kU (.iface nk (bB g.b)) h K J:=by
  refine atb (SL.mk (λgr u=>(G.fr p (bx gr) λ_ _ _=>id).tX (i:=0) rfl (.inl a) (by simp[e]) u) zK zL (λgr d=>xP G.B gr d) (vW.pX p λj A z c q=>G.t.l (bS (g.fk z)) q) vW.one (λgr d=>acY G C (.inl a) ag (ae8 y) gr d) λs R KF P N O u2 h' Q=>?_)
  have:=G.acZ C Q (.inl a) (by simp_all[eI,aE,ag,aI]) (λF m=>?_) x
  ·rw[I]at this;exact this
  ·simp_all[jq,aE,ag,aI]
 rw[<-E]at q;exact q
theorem aoz(y:bE f)(a:f.k=18)(C:kI f.cs KM):wj f (cX f KM):=by
 intro T h v vs K P J H I;obtain⟨g,rfl,G⟩:=H;have x:=C.qI;have R:=(y.right.1.2.2.2.2.2.2.2.2.2.1 a).2;have Z:=C.1;have N:bI f.k=oJ:=by unfold bI;simp_all
 have O:gA f.k=220:=by unfold gA;simp_all
 have z:∀e:Rb,cF f.k e=[(bv e.all,Y8),(ints e.ends,Y6)]:=λe=>by simp_all[cF,aE,ag,aI]
 obtain⟨o,V,d⟩:=Dl G.ls (z _);have E:o.n=(f.st vs).b.all.length:=by have:=G.oq (i:=0) (s:=o) (by simp[d]) (by rw[z];rfl);rw[this,fH]
 have q:kU (.iface oJ (bB g.b)) h K P:=by
  refine ati (SH.mk (eM:=o) (λgr p=>G.Bc (i:=0) x gr rfl (by simp[d]) p) (λgr p=>(G.fr x (bx gr) λ_ _ _=>id).tX (i:=2) rfl (.inr a) (by simp[d]) p) zK zL (λgr u=>xP G.B gr u) (vW.pX x λj A L c q=>G.t.l (bS (g.fk L)) q) vW.one (λgr u=>acY G C (.inr a) ag (ae8 J) gr u) λD Y KF X U W u2 h' Q=>?_)
  have:=G.acZ C Q (.inr a) (by unfold eI;rw[aA,aA,aA,aI a];exact⟨jF _,jF _,by rw[fC];simp only[aM];simp_all⟩) (λF m=>?_) I
  ·rw[O]at this;exact this
  ·unfold jq;simp only;rw[aA,aA,aA,aI a,E];rfl
 rw[<-N]at q;exact q
end
section
variable {c:ak} {KM:List cO} {M:cO} {T:aR} {h0 h':Hp} {vs:aQ} {m:fN} {g:dO} {w:Value}
theorem agn{K:Sl->HP}(G:bU f KM T h0 (f.st vs) m g)(C:kI f.cs KM)(e':f.k=17\/f.k=18)(hn:KM.length<=4096)(hc:f.can vs)(gr:aB h0 h)
  (hk:∀t h',aB h h'->dD (Nw h) (Nw h) h' t (hY f vs)->K t h'):Gt g.ks h K Kp:=by
 have lk:=G.lk;have kl:=G.kl e';have ns:g.ks.n=KM.length:=by rw[kl.1.1,lk.1]
 have CL:=C.1;have dl:(hY f vs).length=KM.length:=by rw[DQ,CL]
 have Z:=λ(j:Nat)c(D:f.cs[j]? =some c)=>tY (vs:=vs) D;generalize i':hY f vs=ds at hk dl Z;refine Gt.of (Qb.bC (λy x o=>∃(i:Nat)(E:List (Sl×Sl×Sl)),x=i/\i<=ds.length/\E.length=i/\aB h o/\fO h.size 6 o y (List.zipWith bH.row (ds.take i) E) cg/\
   ∀(j:Nat)(d:bH)(p:Sl×Sl×Sl),ds[j]? =some d->E[j]? =some p->eD (λb=>h.size<=b/\¬y.at b) (λb=>h.size<=b/\¬y.at b) o p d)
  (λy x _=>ds.length-x.toNat) ⟨0,[],rfl,ag,rfl,cW _,sU _ _ _ _,aC⟩ ?_)
 rintro y x o ⟨i,E,rfl,hi,u,I,B,hu⟩ N1 hN;have a':=B.n;rw[qn,mP]at a';have s1:=I.1;refine cE (λL=>?_) λL=>?_
 ·have X:KM[i]? =some KM[i]:=aC;have hA:g.KT[i]? =some g.KT[i]:=aC;have U:g.kv[i]? =some g.kv[i]:=aC;have l:f.cs[i]? =some f.cs[i]:=aC;generalize KM[i]=M at X;generalize g.KT[i]=A at hA;generalize g.kv[i]=w at U;generalize f.cs[i]=J at l;have Ci:=C.2 i J M l X;have D:=Z i J l;have aN:=Ci.fr (G.aN i M A w X hA U) (bx (aq gr I)) λ_ _ _=>id;rw[mM l vs]at aN;have b':=kl.fr (bx (aq gr I)) (λ_ _ _=>id) λ_ z=>z;generalize J.dn (J.st (dB f.k f.w (dh f.cs) i vs))=d at D;refine b'.1.ix ag ag (by rw[gj];exact U) λp cp=>⟨_,cp,?_⟩
  have P:=Z i J l;rw[D]at P;refine Ci.done (fh l hc) aN λR h3 g3 v3=>aJ λj' H e4 g4 O _=>?_;rw[<-ur P]at v3 O;have N:=aq g3 g4;have s4:=N.1;have v4:=(v3.gr g4).lt;refine(B.ai N).ap ag rfl (new:=[d.row R]) rfl (λr F=>by simp at F;subst F;rfl) (λr F=>by simp at F;subst F;exact aeJ d R) (by simpa[bH.row,yP]using jn O rfl) ag ag λs' h5 Y f' o5=>aY ag ag (hN _ _ _ ⟨i+1,E++[R],aC,ag,by simp[u],?_,?_,?_⟩ ag)
  ·exact(((bx (aq I N):Tn No h H)).trans' Y λb hd c'=>by have:=((B.ai N).at hd).1;omega).ai
  ·rw[TY D u];exact o5
  ·intro j e v W V;have s:∀b,s'.at b->b<H.size->y.at b:=λb q a=>(f' b q).resolve_right ag;rcases yW u V with⟨c',V⟩|⟨rfl,rfl⟩
   ·refine((hu j e v W V).lt.gr N).fr Y (λb a _=>a.1.2) (λb a _=>a.1.2) (λb a=>⟨a.1.1,λq=>a.1.2 (s b q ag)⟩) (λb a=>⟨a.1.1,λq=>a.1.2 (s b q ag)⟩)
   ·rw[D]at W;cases W;have Q:∀b,y.at b->h.size<=b/\b<o.size:=λb a=>B.at a;refine v4.fr Y (λb(a:o.size<=b/\_)_ q=>by have:=Q b q;omega) (λb(a:o.size<=b/\_)_ q=>by have:=Q b q;omega) (λb(a:o.size<=b/\b<H.size)=>⟨ag,λq=>?_⟩) (λb(a:o.size<=b/\b<H.size)=>⟨ag,λq=>?_⟩)
    ·have:=Q b (s b q a.2);omega
    ·have:=Q b (s b q a.2);omega
 ·have:i=ds.length:=ag;subst this;rw[mO]at B;exact hk _ _ I (dD.snoc B u (λb a=>a) λj d p o h2=>(hu j d p o h2).mo (λb a=>a.1) λb a=>a.1)
theorem UK{K:Int->Int->Int->Sl->Sl->Sl->HP}{n x u:Int}{b t:Sl}(O:aO h i Z e)(Q:Z.size=6)(N:aO h j #[ah n,ah x,ah u,Sl.v b,Sl.v Sl.nil,Sl.v Sl.nil] cg)(ne:i≠j)
  (P:∀h',Tn (λc=>c=j\/c=i) h h'->K n x u b t Sl.nil h'):St h ⟨j,4,none⟩ (Sl.v t) λk=>bY k (aF j) λD C B z y s=>cJ k (aF i) D C B z y s λd=>bY d (aF i) λr0 I H G F E=>K r0 I H G F E d:=by
 refine dN N aC rfl λk p l=>?_;have a:aO k j #[ah n,ah x,ah u,Sl.v b,Sl.v t,Sl.v Sl.nil] cg:=by simpa[Sl.v]using l
 exact fB a (iH (p.bq O ne) Q λd J L=>fB L (P d ((p.fr.mono λc q _=>.inl q).trans (J.fr.mono λc q _=>.inr q))))
theorem amJ{K:Int->Int->Int->Sl->Sl->Sl->HP}{n x u:Int}{b t:Sl}(O:aO h i Z e)(Q:Z.size=6)(N:aO h j #[ah n,ah x,ah u,Sl.v b,Sl.v Sl.nil,Sl.v Sl.nil] cg)(ne:i≠j)
  (P:∀h',Tn (λc=>c=j\/c=i) h h'->K n x u b Sl.nil t h'):St h ⟨j,5,none⟩ (Sl.v t) λk=>bY k (aF j) λD C B z y s=>cJ k (aF i) D C B z y s λd=>bY d (aF i) λr0 I H G F E=>K r0 I H G F E d:=by
 refine dN N aC rfl λk p l=>?_;have a:aO k j #[ah n,ah x,ah u,Sl.v b,Sl.v Sl.nil,Sl.v t] cg:=by simpa[Sl.v]using l
 exact fB a (iH (p.bq O ne) Q λd J L=>fB L (P d ((p.fr.mono λc q _=>.inl q).trans (J.fr.mono λc q _=>.inr q))))
structure AB(h0 h:Hp)(a2 a3:Nat)(n u:Nat)(b:Sl)(aZ:ie):Prop where
 g:aB h0 h
 k2:∃c2 t2,aO h a2 c2 t2/\c2.size=6
 k3:aO h a3 #[ah (n:Int),ah 0,ah (u:Int),Sl.v b,Sl.v Sl.nil,Sl.v Sl.nil] cg
 bf:fu (λc=>h0.size<=c/\c≠a2/\c≠a3) (λc=>h0.size<=c/\c≠a2/\c≠a3) h b aZ
 l:h0.size<=a2/\h0.size<=a3/\a2≠a3
theorem AB.end{n u:Nat}{b:Sl}(B:AB h0 h i j n u b aZ)(gr:aB h h'){a:Hp}(t:Tn (λc=>c=j\/c=i) h' a):aB h0 a/\fu (Nw h0) (Nw h0) a b aZ:=by
 have l:=B.l;refine⟨((bx (aq B.g gr):Tn No h0 h').trans' t λc q d=>ag).ai,(B.bf.gr gr).fr t (λc q _ z=>?_) (λc q _ z=>?_) (λc q=>q.1) λc q=>q.1⟩
 all_goals omega
theorem adt{K:Addr->HP}(x:f.k=15\/f.k=16\/f.k=19\/f.k=20)(j:f.cs=[c])(C:MC c M)(L:f.can vs)(G:bU f [M] T h (f.st vs) m g)(hl:g.SS.length=i)(P:g.b=b)
  (z:∀a h',aB h h'->h.size<=a->dD (Nw h) (Nw h) h' ⟨some (aF a),1,1⟩ (hY f vs)->K (aF a) h'):
  Ld h ⟨b,16+i,none⟩ id λq=>mC q h (λI H F E D B e=>aL e #[ah I,ah H,ah F,Sl.v E,Sl.v D,Sl.v B] cg K) Kp:=by
 obtain⟨A,w,N,t,R⟩:=sM G rfl;have aN:=G.aN 0 M A w rfl N t;have d:f.cs[0]? =some c:=by rw[j];rfl
 rw[mM d vs]at aN;have O:hY f vs=[c.dn (c.st (dB f.k f.w (dh f.cs) 0 vs))]:=by
  have e:=tY (vs:=vs) d;have n:=DQ f vs;rw[j]at n
  match J:hY f vs,n with
  |[y],_=>rw[J]at e;simp at e;rw[e]
 rw[O]at z;refine G.lN P x hl t (C.done (fh d L) aN λp e o Q=>aJ λl n S u s _=>z l n (aq o u) ?_ ?_)
 ·have:=o.1;omega
 ·exact dD.one s (by have:=o.1;omega) (Q.gr u)
end
section
variable {c:ak} {KM:List cO} {M:cO} {T:aR} {h0 h':Hp} {vs:aQ} {m:fN} {g:dO} {w:Value}
abbrev Ex(h1:Hp)(a:Nat):Nat->Prop:=λc=>h1.size<=c/\c≠a
theorem eL.kN{l:bg}{H:Hp}(v:eL D H s l)(gr:aB H G)(e:H.size<=a){b:Hp}(d:∀c,D c->b.size<=c):eL (Ex b a) G s l:=
 (v.lt.gr gr).mo λc q=>⟨d c q.1,ag⟩
theorem fu.kN{l:ie}{H:Hp}(v:fu D D H s l)(gr:aB H G)(e:H.size<=a){b:Hp}(d:∀c,D c->b.size<=c):fu (Ex b a) (Ex b a) G s l:=
 (v.lt.gr gr).mo (λc q=>⟨d c q.1,ag⟩) λc q=>⟨d c q.1,ag⟩
theorem Jl{J:HP}{H:Hp}{k:TypeId}{b:Sl}{n u:Nat}(p:aB h H)(l:aO H i Z k)(z:Z.size=6)(v:h.size<=i)(o:aB H G)(x:aO G j cY cg)(t:H.size<=j)(B:fu (Ex H j) (Ex H j) G b aZ)
  (y:∀h',AB h h' i j n u b aZ->J h'):cJ G (aF j) (n:Int) 0 (u:Int) b Sl.nil Sl.nil J:=by
 have C:=l.lt;refine iH x rfl λs a d=>y s ⟨aq p (bK o a t),⟨Z,k,a.bq (l.ai o) ag,z⟩,d,B.fr a.fr (λc q _ e=>q.2 e) (λc q _ e=>q.2 e) (λc q=>⟨ag,ag,q.2⟩) λc q=>⟨ag,ag,q.2⟩,⟨v,ag,ag⟩⟩
theorem asC(J:f.k=15)(b':f.cs=[c])(C:MC c M):wL f (cX f [M]):=by
 intro T h v vs m K Kp hc H hk;obtain⟨g,rfl,G⟩:=H;have KF:=ng C;have ed:bI f.k=nW:=by unfold bI;rw[aA,aA,aI J]
 have es:∀rb:Rb,cF f.k rb=[(ints rb.ends,Y6)]:=λrb=>by simp_all[cF,aE,ag,aI]
 obtain⟨s0,V⟩:=ri G.ls (es _);obtain⟨A0,d'⟩:∃A,g.ST[0]? =some A:=⟨_,bL (by rw[G.ls.2,es];exact Nat.one_pos)⟩
 have ef:f.dn (f.st vs)=.mk (f.st vs).b.rows 0 (f.st vs).b.cz [dF (f.st vs).b,laidB (f.st vs).b.ends 4] (hY f vs) []:=by rw[I1 J,fC];rfl
 rw[ef]at hk;have el:(f.st vs).b.ends.length<=70000:=by have:=((gh f vs).1 hc).n4;rw[fC];simp only[aM];rw[aA,aI J,Dh];omega
 have eb:∀x∈(f.st vs).b.ends,x<2^63:=by
  rw[fC];simp only[aM];rw[aA,aI J];intro x d;unfold jR at d;simp only[kZ,uz]at d;obtain⟨i,_,rfl⟩:=d;have q1:=MO (λv:aD=>v.items.length) vs i;have q2:(vs.map λv:aD=>v.items.length).sum=(vs.flatMap aD.items).length:=by rw[BX]
  have c':=fh (j:=0) (by rw[b'];rfl) hc
  have Z:=((gh c _).1 c').n4;unfold dB at Z;rw[aI J]at Z;omega
 have q:mC (.iface nW (bB g.b)) h K Kp:=by
  refine atp (SU.of (aJ λa2 o e1 g1 k2 _=>?_));refine bO ?_;have P:∀{d:Hp},aB o d->bU f [M] T d (f.st vs) m g:=λy=>G.fr KF (bx (aq g1 y)) λ_ _ _=>id;have kb:=(P (cW _)).B.k;have o0:∀{d:Hp},aB o d->Os A0 d s0 (ints (f.st vs).b.ends) Y6:=λy=>(P y).sl 0 s0 A0 (ints (f.st vs).b.ends,Y6) (by simp[V]) d' (by rw[es];rfl)
  have fin:∀{d:Hp}{e:Nat}{b:Sl},AB h d a2 e (f.st vs).b.rows (f.st vs).b.cz b [dF (f.st vs).b,laidB (f.st vs).b.ends 4]->wA K Kp (bD g.b) (aF a2) (aF e) d:=by
   intro d e b B;apply wA.of;refine bO ?_;obtain⟨c2,Y,a',e2⟩:=B.k2;have f':=a'.lt;have e':=B.k3.lt;have Gh:=G.fr KF (bx B.g) λ_ _ _=>id;refine adt (i:=1) (.inl J) b' C hc Gh (by simp[V]) rfl λa h' gr la ds=>UK (t:=⟨some (aF a),1,1⟩) (a'.ai gr) e2 (B.k3.ai gr) B.l.2.2 λX Y=>?_
   obtain⟨ge,be⟩:=B.end gr Y;have:=B.g.1;exact hk (b,_,Sl.nil) X ge ⟨be,dD.fr Y (λc(q:d.size<=c)_ z=>ag) (λc(q:d.size<=c)_ z=>ag) (λc(q:d.size<=c)=>ag) (λc(q:d.size<=c)=>ag) _ ds,jv _⟩
  have q5:=λ{d:Hp}{e:Nat}{b:Sl}(y:aB o d)(p:aO d e cY cg)(R:o.size<=e)(O:fu (Ex o e) (Ex o e) d b [dF (f.st vs).b,laidB (f.st vs).b.ends 4])=>Jl g1 k2 rfl ag y p R O λh'=>fin;have q4:∀{d:Hp}{e:Nat}{b:Sl},aB o d->aO d e cY cg->o.size<=e->fu (Ex o e) (Ex o e) d b [dF (f.st vs).b,laidB (f.st vs).b.ends 4]->
    gZ (bD g.b) b d (λt0 t1 Y t3 t4 t5 W=>cJ W (aF e) t0 t1 Y t3 t4 t5 (wA K Kp (bD g.b) (aF a2) (aF e))) Kp:=λy p R O=>ql (P y).B λW E=>q5 (aq y E) (p.ai E) R (O.gr E)
  have Z:=λ{d:Hp}{e:Nat}{u t:Sl}(y:aB o d)(p:aO d e cY cg)(R:o.size<=e)(N:eL (Ex o e) d u (bv (dF (f.st vs).b)))(vt:eL (Ex o e) d t (bv (laidB (f.st vs).b.ends 4)))=>
   oy N vt ⟨y.1,by have:=p.lt;omega⟩ λa W E O=>q4 (aq y E) (p.ai E) R O
  have q2:=λ{d:Hp}{e:Nat}{u:Sl}(y:aB o d)(p:aO d e cY cg)(R:o.size<=e)(N:eL (Ex o e) d u (bv (dF (f.st vs).b)))=>
   xe (Kp:=Kp) (o0 y) el bh eb λt W I=>Z (aq y I.g) (p.ai I.g) R (N.gr I.g) (I.lq.mo λc(q:d.size<=c)=>⟨by have:=y.1;omega,by have:=p.lt;omega⟩)
  have kx:=λ{d:Hp}(y:aB o d)=>(P y).B.k;refine(P (cW _)).dI (i:=0) rfl (by simp[V]) ⟨vJ (P (cW _)).B λu X F N=>bR kb F ⟨xe (o0 F) el bh eb λt h3 I=>⟨?_,?_⟩,aJ λe h3 e3 U p _=>bR (kx F) U ?_⟩,aJ λe X e2 F p _=>bR kb F (vJ (P F).B λu h3 U N=>bR (kx F) U ?_)⟩
  ·have z2:=F.1;have Q:=aq F I.g;have z3:=I.g.1;refine oy ((N.gr I.g).mo λc q=>q) (I.lq.mo λc(q:X.size<=c)=>ag) ag λa h4 L O=>⟨ql (P (aq Q L)).B λW E=>aJ λe h6 e6 g6 p _=>bR (kx (aq (aq Q L) E)) g6 ?_,aJ λe W e5 E p _=>bR (kx (aq Q L)) E ?_⟩
   ·have z4:=L.1;have z5:=E.1;exact q5 (aq (aq (aq Q L) E) g6) p ag (O.kN (aq E g6) ag λc q=>q)
   ·have z4:=L.1;exact q4 (aq (aq Q L) E) p ag (O.kN E ag λc q=>q)
  ·have z2:=F.1;have z3:=I.g.1;have Q:=aq F I.g;refine aJ λe h4 e4 L p _=>bR (kx Q) L (Z (aq Q L) p ag (N.kN (aq I.g L) ag λc q=>q) (I.lq.kN L ag λc(q:X.size<=c)=>ag))
  ·have z2:=F.1;exact q2 (aq F U) p ag (N.kN U ag λc q=>q)
  ·have z2:=F.1;exact q2 (aq F U) (p.ai U) ag (N.mo λc(q:X.size<=c)=>⟨ag,ag⟩)
 rw[<-ed]at q;exact q
end
section
variable {c:ak} {KM:List cO} {M:cO} {T:aR} {h0 h':Hp} {vs:aQ} {m:fN} {g:dO} {w:Value}
theorem asx(b':bE f)(x:f.k=17)(C:kI f.cs KM):wL f (cX f KM):=by
 intro T h v vs m K Kp hc H hk;obtain⟨g,rfl,G⟩:=H;have KF:=C.qI;have e':=b'.right.1.2.2.2.2.2.2.2.2.1 x;have CL:=C.1;have ed:bI f.k=nk:=by unfold bI;simp[*]
 have es:∀rb:Rb,cF f.k rb=[]:=λrb=>by unfold cF;simp[*]
 have a':=Uf G.ls (es _);have ef:f.dn (f.st vs)=.mk (f.st vs).b.rows 0 (f.st vs).b.cz [dF (f.st vs).b] (hY f vs) []:=by rw[Bu (.inr x),fC];rfl
 rw[ef]at hk;have q:mC (.iface nk (bB g.b)) h K Kp:=by
  refine atk (SM.of (aJ λQ o e1 g1 k2 _=>?_));simp only[n9];have R:∀{e:Hp},aB o e->bU f KM T e (f.st vs) m g:=λE=>G.fr KF (bx (aq g1 E)) λ_ _ _=>id;have fin:∀{e:Hp}{d:Nat}{b:Sl},AB h e Q d (f.st vs).b.rows (f.st vs).b.cz b [dF (f.st vs).b]->wv K Kp (bD g.b) (aF Q) (aF d) e:=by
   intro e d b B;apply wv.of;refine bO ?_;obtain⟨c2,J,O,e2⟩:=B.k2;have d':=O.lt;have c':=B.k3.lt;have Gh:=G.fr KF (bx B.g) λ_ _ _=>id;refine Gh.tX (i:=0) rfl (.inl x) (by simp[a']) (agn G C (.inl x) ag hc B.g λt h' gr ds=>UK (O.ai gr) e2 (B.k3.ai gr) B.l.2.2 λP J=>?_)
   obtain⟨ge,be⟩:=B.end gr J;have:=B.g.1;exact hk (b,t,Sl.nil) P ge ⟨be,dD.fr J (λc(q:e.size<=c)_ z=>ag) (λc(q:e.size<=c)_ z=>ag) (λc(q:e.size<=c)=>ag) (λc(q:e.size<=c)=>ag) _ ds,jv _⟩
  have q5:=λ{e:Hp}{d:Nat}{b:Sl}(E:aB o e)(j:aO e d cY cg)(N:o.size<=d)(I:fu (Ex o d) (Ex o d) e b [dF (f.st vs).b])=>Jl g1 k2 rfl ag E j N I λh'=>fin;have q4:∀{e:Hp}{d:Nat}{b:Sl},aB o e->aO e d cY cg->o.size<=d->fu (Ex o d) (Ex o d) e b [dF (f.st vs).b]->
    gZ (bD g.b) b e (λZ Y J X W V y=>cJ y (aF d) Z Y J X W V (wv K Kp (bD g.b) (aF Q) (aF d))) Kp:=λE j N I=>ql (R E).B λy p=>q5 (aq E p) (j.ai p) N (I.gr p)
  have q3:∀{e:Hp}{d:Nat}{u:Sl},aB o e->aO e d cY cg->o.size<=d->eL (Ex o d) e u (bv (dF (f.st vs).b))->aL e #[Sl.v u] fI λa y=>
    gZ (bD g.b) ⟨some a,1,1⟩ y (λZ Y J X W V y=>cJ y (aF d) Z Y J X W V (wv K Kp (bD g.b) (aF Q) (aF d))) Kp:=
   λ{e d u}E j N L=>Ev L ⟨E.1,by have:=j.lt;omega⟩ λa y p _ I=>q4 (aq E p) (j.ai p) N I
  refine⟨vJ (R (cW _)).B λu P s L=>⟨Ev (L.mo λc q=>q) s.1 λa h4 F e4 I=>⟨ql (R (aq s F)).B λy p=>aJ λd h6 e6 g6 j _=>?_,aJ λd y e5 p j _=>?_⟩,aJ λd h4 e4 F j _=>?_⟩,aJ λd P e2 s j _=>vJ (R s).B λu h3 g3 L=>?_⟩
  ·have U:=s.1;have z4:=F.1;have z5:=p.1;exact q5 (aq (aq (aq s F) p) g6) j ag (I.kN (aq p g6) ag λc q=>q)
  ·have U:=s.1;have z4:=F.1;exact q4 (aq (aq s F) p) j ag (I.kN p ag λc q=>q)
  ·have U:=s.1;exact q3 (aq s F) j ag (L.kN F ag λc q=>q)
  ·exact q3 (aq s g3) (j.ai g3) ag (L.mo λc(q:P.size<=c)=>⟨ag,ag⟩)
 grind
theorem asE(b':bE f)(y:f.k=18)(C:kI f.cs KM):wL f (cX f KM):=by
 intro T h v vs m K Kp hc H hk;obtain⟨g,rfl,G⟩:=H;have KF:=C.qI;have g':=(b'.right.1.2.2.2.2.2.2.2.2.2.1 y).2;have CL:=C.1;have ed:bI f.k=oJ:=by unfold bI;simp[*]
 have es:∀rb:Rb,cF f.k rb=[(bv rb.all,Y8),(ints rb.ends,Y6)]:=λrb=>by unfold cF;simp[*]
 obtain⟨s1,s0,N⟩:=Dl G.ls (es _);obtain⟨A1,c'⟩:∃A,g.ST[0]? =some A:=⟨_,bL (by rw[G.ls.2,es];simp)⟩
 obtain⟨A0,d'⟩:∃A,g.ST[1]? =some A:=⟨_,bL (by rw[G.ls.2,es];simp)⟩
 have ef:f.dn (f.st vs)=.mk (f.st vs).b.rows 0 (f.st vs).b.cz [(f.st vs).b.all,laidB (f.st vs).b.ends 4] (hY f vs) []:=by rw[Oz y,fC];rfl
 rw[ef]at hk;have W:=(gh f vs).1 hc;have al:(f.st vs).b.all.length<=70000:=by have:=W.n4;rw[fC];simp only[aM];rw[aA,aI y,cC];omega
 have el:(f.st vs).b.ends.length<=70000:=by have:=W.n4;rw[fC];simp only[aM];rw[aA,aA,aI y,cC,Jq];omega
 have eb:∀x∈(f.st vs).b.ends,x<2^63:=by
  rw[fC];simp only[aM];rw[aA,aA,aI y];intro x d;simp only[kZ,uz]at d;obtain⟨i,hi,rfl⟩:=d;have:=YF (λv=>decide (fG v=fG (vs.getD i v0))) (vs.take i);have:=W.n4;rw[mP]at *;omega
 have q:mC (.iface oJ (bB g.b)) h K Kp:=by
  refine atr (SI.of (aJ λa2 j e1 g1 k2 _=>?_));refine bO ?_;have U:∀{d:Hp},aB j d->bU f KM T d (f.st vs) m g:=λp=>G.fr KF (bx (aq g1 p)) λ_ _ _=>id;have kb:=(U (cW _)).B.k;have o0:∀{d:Hp},aB j d->Os A0 d s0 (ints (f.st vs).b.ends) Y6:=λp=>(U p).sl 1 s0 A0 (ints (f.st vs).b.ends,Y6) (by simp[N]) d' (by rw[es];rfl)
  have o1:∀{d:Hp},aB j d->Os A1 d s1 (bv (f.st vs).b.all) Y8:=λp=>(U p).sl 0 s1 A1 (bv (f.st vs).b.all,Y8) (by simp[N]) c' (by rw[es];rfl)
  have fin:∀{d:Hp}{e:Nat}{b:Sl},AB h d a2 e (f.st vs).b.rows (f.st vs).b.cz b [(f.st vs).b.all,laidB (f.st vs).b.ends 4]->wu K Kp (bD g.b) (aF a2) (aF e) d:=by
   intro d e b B;apply wu.of;refine bO ?_;obtain⟨c2,Z,a',e2⟩:=B.k2;have f':=a'.lt;have e':=B.k3.lt;have Gh:=G.fr KF (bx B.g) λ_ _ _=>id;refine Gh.tX (i:=2) rfl (.inr y) (by simp[N]) (agn G C (.inr y) ag hc B.g λt h' gr ds=>UK (a'.ai gr) e2 (B.k3.ai gr) B.l.2.2 λY Z=>?_)
   obtain⟨ge,be⟩:=B.end gr Z;have:=B.g.1;exact hk (b,t,Sl.nil) Y ge ⟨be,dD.fr Z (λc(q:d.size<=c)_ z=>ag) (λc(q:d.size<=c)_ z=>ag) (λc(q:d.size<=c)=>ag) (λc(q:d.size<=c)=>ag) _ ds,jv _⟩
  have q5:=λ{d:Hp}{e:Nat}{b:Sl}(p:aB j d)(o:aO d e cY cg)(V:j.size<=e)(R:fu (Ex j e) (Ex j e) d b [(f.st vs).b.all,laidB (f.st vs).b.ends 4])=>Jl g1 k2 rfl ag p o V R λh'=>fin;have q4:∀{d:Hp}{e:Nat}{b:Sl},aB j d->aO d e cY cg->j.size<=e->fu (Ex j e) (Ex j e) d b [(f.st vs).b.all,laidB (f.st vs).b.ends 4]->
    gZ (bD g.b) b d (λt0 t1 Z t3 t4 t5 X=>cJ X (aF e) t0 t1 Z t3 t4 t5 (wu K Kp (bD g.b) (aF a2) (aF e))) Kp:=λp o V R=>ql (U p).B λX E=>q5 (aq p E) (o.ai E) V (R.gr E)
  have q3:=λ{d:Hp}{e:Nat}{u t:Sl}(p:aB j d)(o:aO d e cY cg)(V:j.size<=e)(O:eL (Ex j e) d u (bv ((f.st vs).b.all)))(vt:eL (Ex j e) d t (bv (laidB (f.st vs).b.ends 4)))=>
   oy O vt ⟨p.1,by have:=o.lt;omega⟩ λa X E R=>q4 (aq p E) (o.ai E) V R
  have q2:=λ{d:Hp}{e:Nat}{u:Sl}(p:aB j d)(o:aO d e cY cg)(V:j.size<=e)(O:eL (Ex j e) d u (bv ((f.st vs).b.all)))=>
   xe (Kp:=Kp) (o0 p) el bh eb λt X J=>q3 (aq p J.g) (o.ai J.g) V (O.gr J.g) (J.lq.mo λc(q:d.size<=c)=>⟨by have:=p.1;omega,by have:=o.lt;omega⟩)
  have P:=λ{d:Hp}(p:aB j d)=>(U p).B.k;refine(U (cW _)).dI (i:=0) rfl (by simp[N]) ((U (cW _)).dI (i:=1) rfl (by simp[N]) ⟨Pb (o1 (cW _)) al λu Y F O=>bR kb F ⟨xe (o0 F) el bh eb λt h3 J=>⟨?_,?_⟩,aJ λe h3 e3 Q o _=>bR (P F) Q (bR (P F) Q ?_)⟩,aJ λe Y e2 F o _=>bR kb F (bR kb F (Pb (o1 F) al λu h3 Q O=>bR (P F) Q ?_))⟩)
  ·have z2:=F.1;have L:=aq F J.g;have z3:=J.g.1;refine oy ((O.gr J.g).mo λc q=>q) (J.lq.mo λc(q:Y.size<=c)=>ag) ag λa h4 I R=>⟨ql (U (aq L I)).B λX E=>aJ λe h6 e6 g6 o _=>bR (P (aq (aq L I) E)) g6 (bR (P (aq (aq L I) E)) g6 ?_),aJ λe X e5 E o _=>bR (P (aq L I)) E (bR (P (aq L I)) E ?_)⟩
   ·have z4:=I.1;have z5:=E.1;exact q5 (aq (aq (aq L I) E) g6) o ag (R.kN (aq E g6) ag λc q=>q)
   ·have z4:=I.1;exact q4 (aq (aq L I) E) o ag (R.kN E ag λc q=>q)
  ·have z2:=F.1;have z3:=J.g.1;have L:=aq F J.g;refine aJ λe h4 e4 I o _=>bR (P L) I (bR (P L) I<|q3 (aq L I) o ag (O.kN (aq J.g I) ag λc q=>q) (J.lq.kN I ag λc(q:Y.size<=c)=>ag))
  ·have z2:=F.1;exact q2 (aq F Q) o ag (O.kN Q ag λc q=>q)
  ·have z2:=F.1;exact q2 (aq F Q) (o.ai Q) ag (O.mo λc(q:Y.size<=c)=>⟨ag,ag⟩)
 rw[<-ed]at q;exact q
end
def mh(l:cV)(i:Nat):List UInt8:=(l.take i).zipIdx.foldl (λb x=>if x.1%2=1 then oZ b x.2 else b) (List.replicate ((l.length+7)/8) 0)
theorem O6{l:cV}{n:Nat}(a:l[i]? =some n):mh l (i+1)=if n%2=1 then oZ (mh l i) i else mh l i:=by
 grind[List.getElem?_eq_some_iff,List.take_succ_eq_append_getElem,List.getElem?_eq_getElem,mh]
theorem af7(l:cV):mh l l.length=qM l:=by unfold mh qM;simp
theorem O7(l:cV):∀i,i<=l.length->(mh l i).length=(l.length+7)/8
  |0,_=>by simp[mh]
  | i+1,h=>by
    rw[O6 (bL ag)];split
    ·rw[Dn];exact O7 l i ag
    ·exact O7 l i ag
theorem af1{l:dw}(h:i<l.length):(bv l)[i]? =some (.int .u8 ((l.getD i 0).toNat:Int)):=by
 unfold bv;simp[*]
theorem Yg{l:dw}{y:UInt8}:(bv l).set i (.int .u8 (y.toNat:Int))=bv (l.set i y):=by simp only[bv,Pt]
section
variable {c:ak} {T:aR} {h0 h':Hp} {vs:aQ} {m:fN} {g:dO}
theorem auX{a2:Nat}{t:Sl}{bb:Nat}{l:cV}{K:Int->Int->Int->Sl->Sl->Sl->HP}(os:Os A h0 s (lp l) oK)(hb:∀x∈l,x<=1)(hl:l.length<=70000)(gr:aB h0 h)(o:gR h t bb (bv (mh l 0)) Y8)(lb:h0.size<=bb)
  (hk:∀h',aB h0 h'->gR h' t bb (bv (qM l)) Y8->yA K Kp (bD b) (aF a2) t h'):JZ K Kp (bD b) (aF a2) t s (s.n:Int) 0 h:=by
 have hn:=os.n;rw[lp,cC]at hn;apply JZ.bC (λx h'=>∃i:Nat,x=i/\i<=l.length/\aB h0 h'/\gR h' t bb (bv (mh l i)) Y8) (λx _=>l.length-x.toNat) ⟨0,rfl,eH _,gr,o⟩;rintro x h1 ⟨i,rfl,hi,g1,o1⟩ N hN;refine aK (λcc=>?_) λcc=>?_
 ·have cc:=aU cc;have pq:i<l.length:=ag;have hx:=bL pq;generalize l[i]=y at hx;have hy:=hb y (bS hx);have bl:=O7 l i hi;have tn:t.n=(l.length+7)/8:=by rw[o1.2.1,fH,bl]
  have hd:i/8<(mh l i).length:=ag;have sv:=(os.gr g1).sv;refine sv.ix ag ag (by rw[gj,lp,fy,hx];rfl) λa ca=>⟨_,ca,oT bh ?_⟩
  have e1:Int.tdiv (i:Int) 8=((i/8:Nat):Int):=rfl;have e2:Int.tmod (i:Int) 8=((i%8:Nat):Int):=rfl;rw[e1];refine aY ag ag (o1.vr ag ag ?_);have ei:(((i/8:Nat):Int)).toNat=i/8:=ag;refine o1.ld ag (by rw[ei];exact af1 hd) (pO rfl (by omega:y<2^8) (oT bh ?_))
  rw[e2];refine yx (js ag ?_);have em:min (Int.toNat ((i%8:Nat):Int)) (IntKind.bits .u8)=i%8:=by
   rw[gj];have:=ym i (show 8>0 by decide);show min (i%8) 8=_;omega
  rw[em];have hp:2^(i%8)<2^8:=Pm bh (ym _ bh);have IM:=((mh l i).getD (i/8) 0).toNat_lt;have hle:y*2^(i%8)<2^8:=by
   have:y=0\/y=1:=ag;rcases this with rfl|rfl
   ·simp
   ·omega
  have es:(y:Int)*2^(i%8)=((y*2^(i%8):Nat):Int):=by push_cast;rfl
  rw[es];refine pO rfl hle (yx ?_);rw[Yj _ _ IM hle];refine o1.vr ag ag (o1.st ag rfl λh2 w2 o2=>aY ag ag (hN _ _ ⟨i+1,aC,ag,bK g1 w2 lb,?_⟩ ag))
  rw[O6 hx];rw[ei]at o2;have:y=0\/y=1:=ag;rcases this with rfl|rfl
  ·rw[aE bh];simp_all[EH,Nat.or_zero,Yg,gB,bL,List.set_getElem_self]
  ·rw[aI bh];rw[Nat.one_mul]at o2;have e:(((mh l i).getD (i/8) 0).toNat|||2^(i%8))=(UInt8.ofNat (((mh l i).getD (i/8) 0).toNat|||2^(i%8))).toNat:=by
    rw[sW,uv (Jy IM hp)]
   rw[e,Yg]at o2;exact o2
 ·have cc:=aU cc;have:i=l.length:=ag;grind[af7]
theorem arI(w:Nat)(l:ie)(t:dw):mb w (l++[t])=mb w l++(if t=[]then List.replicate w 0 else t):=by simp[mb]
theorem arG{a2 a4 w:Nat}{t:Sl}{bb:Nat}{l:ie}{K:Int->Int->Int->Sl->Sl->Sl->HP}{c4:Array Value}{t4:TypeId}(os:Os A h0 s (strs l) qo)(hb:∀x∈l,x=[]\/x.length=w)(hl:l.length<=70000)(hw:1<=w/\w<=16)(gr:aB h0 h)
  (o:gR h t bb (bv (List.replicate (l.length*w) 0)) Y8) (lb:h0.size<=bb) (k4:aO h a4 c4 t4) (e4:c4[1]? =some (ah (w:Int))) (ne:a4≠bb) (hk:∀h',aB h0 h'->gR h' t bb (bv (mb w l)) Y8->yA K Kp (bD b) (aF a2) t h'):
  JY K Kp (bD b) (aF a2) t (aF a4) s (s.n:Int) 0 h:=by
 have hn:=os.n;rw[strs,cC]at hn;apply JY.bC (λx h'=>∃i:Nat,x=i/\i<=l.length/\aB h0 h'/\aO h' a4 c4 t4/\gR h' t bb (bv (mb w (l.take i)++List.replicate ((l.length-i)*w) 0)) Y8) (λx _=>l.length-x.toNat) ⟨0,rfl,eH _,gr,k4,by simpa[mb]using o⟩
 rintro x h1 ⟨i,rfl,hi,g1,k4,o1⟩ N hN;have fl:(mb w (l.take i)).length=i*w:=by rw[Oa λx hx=>hb x (List.mem_of_mem_take hx),mP,BU hi]
 refine cE (λcc=>?_) λcc=>?_
 ·have pq:i<l.length:=ag;have hx:=bL pq;have ov:=kP pq;generalize l[i]=y at hx ov;have hy:=hb y (bS hx);have hyl:y.length<=w:=by rcases hy with rfl|e;simp;omega
  have sv:=(os.gr g1).sv;have tn:t.n=l.length*w:=by
   have:=o1.2.1;rw[fH,ij,fl,Jt,<-JG]at this;rw[this];congr 1;omega
  obtain⟨q1,q2,cs,q3,q4,q5,q6⟩:=o1;have hm1:i*w+w<=l.length*w:=by rw[<-qP];exact pL _ pq
  have IF:l.length*w<=70000*16:=sX hl hw.2;have em:(i:Int)*(w:Int)=((i*w:Nat):Int):=by push_cast;rfl
  refine sv.ix ag ag (by rw[gj,strs,fy,hx];rfl) λa ca=>⟨_,ca,?_⟩
  simp only[bz,bX];apply aj k4 e4;rw[em];refine aY ag ag ⟨by simp only[oG];omega,by simp only[oG,uB];omega,by simp only[uB];omega,JH _,?_⟩
  simp only[oG,uB,gj];have ea:lY t.a (i*w) t.c 1=some ⟨bb,i*w,none⟩:=by
   unfold lY;rw[aA,q1,oD,bz];simp
  rw[ea];have ex:((bs y).extract 0 (Nat.min (bs y).size (t.n-i*w))).data.toList.map (λb=>Value.int .u8 b.toNat)=bv y:=by
   have:Nat.min (bs y).size (t.n-i*w)=y.length:=by rw[iU,tn];show min _ _=_;omega
   rw[this];have e2:(bs y).extract 0 y.length=bs y:=by
    have:y.length=(bs y).size:=by rw[iU]
    rw[this,ByteArray.extract_zero_size]
   rw[e2];rfl
  refine⟨bv y,ex.symm,vZ (bv y) q3 (by rw[fH];omega) (λv hv=>by simp only[bv,kZ]at hv;obtain⟨z,_,rfl⟩:=hv;rfl) λh2 OC w2 k2 s2 c2=>aY ag ag (hN _ _ ⟨i+1,aC,ag,bK g1 w2 lb,w2.bq k4 ne,q1,?_,OC,k2,q4,by rw[s2,q5],λj hj=>?_⟩ ag)⟩
  ·have:(mb w (l.take (i+1))).length=(i+1)*w:=by rw[Oa λx hx=>hb x (List.mem_of_mem_take hx),mP,BU ag]
   rw[fH,ij,this,Jt,<-JG,tn];congr 1;omega
  ·rw[c2 j,q6 j hj,ov,arI,fH];have er:(List.replicate ((l.length-i)*w) (0:UInt8))=List.replicate w 0++List.replicate ((l.length-(i+1))*w) 0:=by
    rw[List.replicate_append_replicate];congr 1;rw[show l.length-i=(l.length-(i+1))+1 by omega,qP,Pj]
   by_cases ey:y=[]
   ·subst ey;rw[aE (by simp_all),aI rfl,er,oC]
   ·have hyw:=hy.resolve_left ey;rw[aE ey,er];simp only[BP,hyw];unfold bv
    by_cases hj1:j<i*w
    ·rw[aA,fy,fy,oC,iX ag,iX ag]
    ·by_cases hj2:j<i*w+w
     ·rw[dU,fy,fy,oC,gv ag,iX ag,fl]
     ·rw[aA,fy,fy,oC,gv ag,gv (by rw[Jt];omega),gv ag,gv ag,Jt,hyw]
 ·have:i=l.length:=ag;simp_all
end
section
variable {c:ak} {T:aR} {h0 h' hx:Hp} {vs:aQ} {m:fN} {mm:Mem} {g:dO}
theorem UP{K:Int->Int->Int->Sl->Sl->Sl->HP}{n:Nat}{y:TypeId}{t:Sl}{out:dw}(G:bU f [] T h r m g)(gr:aB h hx)(l:aO hx n Z y)(I:Z.size=6)(z:h.size<=n)(x:eL (λc=>h.size<=c/\c≠n) hx t (bv out))
  (E:∀p h',aB h h'->eD (Nw h) (Nw h) h' p (.mk r.b.rows 0 r.b.cz [dF r.b,out] [] [])->K r.b.rows 0 r.b.cz p.1 p.2.1 p.2.2 h'):yA K Kp (bD g.b) (aF n) t hx:=by
 have Bx:∀{o:Hp},aB h o->mD g.T0 o g.b (iz f.k) f g.sf g.sn g.sb r.b (ia f.k g.SS g.kv g.ks g.sp):=λH=>G.B.fr (bx H) id λ_ _ _=>id;have L:=l.lt;apply yA.of;simp only[n9];refine vJ (Bx gr) λu Q d w=>?_;have M:=d.1;refine oy (w.mo λc(q:hx.size<=c)=>⟨ag,ag⟩) (x.gr d) ⟨ag,ag⟩ λa P s J=>?_
 have v:=aq gr (aq d s);refine ql (Bx v) λO i=>iH (((l.ai d).ai s).ai i) I λF j C=>fB C (E (_,Sl.nil,Sl.nil) F (bK (aq v i) j z) ⟨(J.gr i).fr j.fr (λc q _ e=>q.2 e) (λc q _ e=>q.2 e) (λc q=>q.1) λc q=>q.1,jv _,jv _⟩)
theorem asA(f':bE f)(hp:fE f.k=true):wL f (cX f []):=by
 intro T h v vs m K Kp hc H M;obtain⟨g,rfl,G⟩:=H;obtain⟨k1,n',m',e',d',c',X,b',a'⟩:=zb hp;have ed:bI f.k=oH:=by unfold bI;simp[*]
 have V:∀Y:Rb,cF f.k Y=[(lp Y.dQ,oK),(strs Y.texts,qo)]:=λY=>by unfold cF;simp[*]
 obtain⟨J,O,j⟩:=Dl G.ls (V _);obtain⟨A0,j'⟩:∃A,g.ST[0]? =some A:=⟨_,bL (by rw[G.ls.2,V];simp)⟩
 obtain⟨A1,i'⟩:∃A,g.ST[1]? =some A:=⟨_,bL (by rw[G.ls.2,V];simp)⟩
 have F:=(gh f vs).1 hc;have n4:=F.n4;have m9:=f'.right.1;have N:(f.st vs).b.dQ=vs.map λv=>(v.num%2^64).toNat:=by rw[fC];simp only[aM,hp,fY]
 have et:(f.st vs).b.texts=vs.map aD.text:=by rw[fC];simp only[aM,hp,fY]
 have q:mC (.iface oH (bB g.b)) h K Kp:=by
  refine atn (Sx.of (aJ λa2 h1 e1 g1 L _=>?_));refine bO ?_;have u:∀{hx:Hp},aB h hx->bU f [] T hx (f.st vs) m g:=λU=>G.fr qu (bx U) λ_ _ _=>id;have o0:∀{hx:Hp},aB h hx->Os A0 hx J (lp (f.st vs).b.dQ) oK:=λU=>(u U).sl 0 J A0 (lp (f.st vs).b.dQ,oK) (by simp[j]) j' (by rw[V];rfl)
  have o1:∀{hx:Hp},aB h hx->Os A1 hx O (strs (f.st vs).b.texts) qo:=λU=>(u U).sl 1 O A1 (strs (f.st vs).b.texts,qo) (by simp[j]) i' (by rw[V];rfl)
  refine nh (BV.OC (u g1).B.k) (aJ λa4 h2 e2 g2 C _=>pH C rfl λy w3 C=>aj C rfl ?_);have k':=C.lt;have I:=bK g2 w3 ag;have l:=aq g1 I;have L:=L.ai I;refine aK (λE=>?_) λE=>?_
  ·have E:=aU E;have W:f.dn (f.st vs)=.mk (f.st vs).b.rows 0 (f.st vs).b.cz [dF (f.st vs).b,qM (f.st vs).b.dQ] [] []:=by rw[Bt E,fC];rfl
   rw[W]at M;have n0:=(o0 l).n;rw[lp,cC,N,cC]at n0;refine(u l).dI (i:=0) (s:=J) rfl (by simp[j]) (aY ag ag (oT bh ?_))
   have e1:Int.tdiv ((J.n:Int)+7) 8=(((vs.length+7)/8:Nat):Int):=by rw[n0];rfl
   rw[e1];refine aY ag ag (E7 ag ag ag λt h4 z P _=>?_);have z4:=z.1;have G4:=aq l z;refine(u G4).dI (i:=0) rfl (by simp[j]) (auX (o0 l) (λx hx=>?_) (by rw[N,cC];omega) z ?_ (cr _) λh' D Q=>?_)
   ·rw[N,kZ]at hx;obtain⟨v,Z,rfl⟩:=hx;have d:=F.fit v Z;rw[eG]at d;unfold fm at d;simp only[dr]at d;have q:=d.2
    by_cases o:v.au=true
    ·rw[aI o]at q;simp only[dr,dP]at q;have:=q.1.1.1;omega
    ·rw[aE o,aA,aA,aA,aA,aA,aA,aI E]at q;simp only[dr,dP]at q;have:=q.2.2;omega
   ·rw[gj]at P;unfold mh;rw[JF];simp only[List.zipIdx_nil,YK,N,cC,bv,YD];exact P
   ·have z5:=D.1;exact UP G (aq l D) (L.ai D) rfl ag ⟨Q.sv,λ_ a R=>by rw[Q.1]at R;cases R;exact⟨by show h.size<=y.size;omega,by show y.size≠a2;omega⟩⟩ M
  ·have E:=aU E;refine cE (λp=>?_) λp=>?_
   ·have hw:=m9.2.2.1 p;have W:f.dn (f.st vs)=.mk (f.st vs).b.rows 0 (f.st vs).b.cz [dF (f.st vs).b,mb f.w.toNat (f.st vs).b.texts] [] []:=by rw[Bv p,fC];rfl
    rw[W]at M;have n1:=(o1 l).n;rw[strs,cC,et,cC]at n1;refine(u l).dI (i:=1) (s:=O) rfl (by simp[j]) (aj C rfl ?_)
    have hm:vs.length*f.w.toNat<=4096*16:=sX n4 ag;have em:(O.n:Int)*f.w=((vs.length*f.w.toNat:Nat):Int):=by rw[n1];push_cast;rw[xZ ag]
    rw[em];refine aY ag ag (E7 ag ag ag λt h4 z P _=>?_);have z4:=z.1;have G4:=aq l z;refine(u G4).dI (i:=1) rfl (by simp[j]) (arG (w:=f.w.toNat) (o1 l) (λx hx=>?_) (by rw[et,cC];omega) ⟨ag,ag⟩ z ?_ (cr _) (C.ai z) ?_ ag λh' D Q=>?_)
    ·rw[et,kZ]at hx;obtain⟨v,Z,rfl⟩:=hx;have d:=F.fit v Z;rw[eG]at d;unfold fm at d;simp only[dr]at d;have q:=d.2
     by_cases o:v.au=true
     ·rw[aI o]at q;simp only[dr,dP]at q;exact .inl (jw.1 q.1.1.2)
     ·rw[aE o,aA,aA,aA,aA,aA,aI (.inr (.inr p))]at q;simp only[dr,EK,dP]at q;exact .inr (q.2.2.2.resolve_left λe=>e p)
    ·rw[gj]at P;simp only[et,cC,bv,YD];exact P
    ·rw[xZ ag];rfl
    ·have z5:=D.1;exact UP G (aq l D) (L.ai D) rfl ag ⟨Q.sv,λ_ a R=>by rw[Q.1]at R;cases R;exact⟨by show h.size<=y.size;omega,by show y.size≠a2;omega⟩⟩ M
   ·have hf:3<=f.k/\f.k<=11:=by have:=m9.1;have:=m9.2.1;omega
    have W:f.dn (f.st vs)=.mk (f.st vs).b.rows 0 (f.st vs).b.cz [dF (f.st vs).b,laidB (f.st vs).b.dQ (wB f.k)] [] []:=by rw[zB hf,fC];rfl
    rw[W]at M;refine(u l).dI (i:=0) (s:=J) rfl (by simp[j]) (aj C rfl (auQ (bR (u l).B.k (cW _) (apg (w:=wB f.k) (o0 l) (by rw[N,cC];omega) (by grind[wB]) (λx hx=>?_) λt h4 gb=>?_))))
    ·rw[N,kZ]at hx;obtain⟨v,Z,rfl⟩:=hx;omega
    ·have z4:=gb.g.1;exact UP G (aq l gb.g) (L.ai gb.g) rfl ag (gb.lq.mo λc(q:y.size<=c)=>⟨ag,ag⟩) M
 simp[*]
theorem aeY{α:Type}{a b:List α}(p:a <+: b):b.take a.length=a:=(YC.1 p).symm
theorem avc{K:HP}(hp:fE f.k=true)(e':f.cs=[])(G:bU f [] T h r (some mm) g)(hk:∀h',Tn T h h'->cX f [] T h' (.iface (bI f.k) (bB g.b)) mm.r (some mm)->K h'):
  c8 aG mm.F [] h (λr h1=>r=.tuple #[]/\K h1) Kp:=by
 obtain⟨p,k',j',H,d',c',o,E,D⟩:=zb hp;have KF:=qu;obtain⟨⟨F0,i',bm,c1,c2,c3,c4⟩,y,ks⟩:=G.mm mm rfl;obtain⟨x,eF,mc⟩:=c4 p;have f':jq f.k g.b F0 i' mm=[#[F0],#[bB g.b],pI mm.r.b.dQ.length]:=by unfold jq;simp only;simp[*]
 rw[f']at mc;obtain⟨a0,t0,e0,r0,k0⟩:=mc.2 0 _ rfl;obtain⟨a1,t1,e1,r1,Q⟩:=mc.2 1 _ rfl;obtain⟨a2,t2,I,r2,z⟩:=mc.2 2 _ rfl;have ec:x=[bB a0,bB a1,bB a2]:=by
  match x,mc.1,e0,e1,I with
  |[u,v,w],_,e0,e1,I=>simp at e0 e1 I;subst e0 e1 I;rfl
 have g':gA f.k=248:=by unfold gA;simp[*]
 have l:∀U:Rb,cF f.k U=[(lp U.dQ,oK),(strs U.texts,qo)]:=λU=>by unfold cF;simp[*]
 have V:∀a b:Rb,eI f.k a b↔b.dQ <+: a.dQ/\b.texts <+: a.texts/\b.dQ.length=b.texts.length:=λa b=>by unfold eI;simp[*]
 rw[V]at y;obtain⟨s0,Z,d⟩:=Dl G.ls (l _);obtain⟨X,W,j⟩:∃X W,g.ST=[X,W]:=by
  have:=G.ls.2;rw[l]at this
  match hg:g.ST,this with
  |[a,b],_=>simp
 rw[eF,ec,g'];have hS:∀c,(c=g.b\/g.T0 c)->c<h.size->c=g.b\/g.T0 c:=λc q _=>q;have S:=G.av g.gq hS g.fF ag;have nR:∀{c:Nat},g.R c->c≠g.b:=λq e=>G.t.kW g.fF (e▸q);refine aus (Ss.of (aj k0 rfl ?_))
 show c8 aG F0 [] h _ _
 refine xK G KF bm λh1 Y C=>?_;have p:=Y.bq Q (S _ r1 Q.lt);have z:=Y.bq z (S _ r2 z.lt);have o0:=C.sl 0 s0 X (lp r.b.dQ,oK) (by simp[d]) (by simp[j]) (by rw[l];rfl)
 have o1:=C.sl 1 Z W (strs r.b.texts,qo) (by simp[d]) (by simp[j]) (by rw[l];rfl)
 have n0:=o0.n;have n1:=o1.n;have p0:=y.1.length_le;have p1:=y.2.1.length_le;simp only[lp,cC]at n0;simp only[strs,cC]at n1;refine aj p rfl (aj p rfl (aj p rfl ?_));refine bO ?_;refine C.dI (i:=0) rfl (by simp[d]) (aj z rfl (o0.cut ag rfl λM e0 O=>aj p rfl ?_))
 refine bO ?_;refine C.dI (i:=1) rfl (by simp[d]) (aj z rfl (o1.cut ag rfl λL e1 N=>?_))
 have q0:(lp r.b.dQ).take mm.r.b.dQ.length=lp mm.r.b.dQ:=by unfold lp;rw[<-Jv,aeY y.1]
 have q1:(strs r.b.texts).take mm.r.b.dQ.length=strs mm.r.b.texts:=by unfold strs;rw[<-Jv,y.2.2,aeY y.2.1]
 rw[q0]at O;rw[q1]at N;refine C.uW (i:=0) (s:=s0) (by simp[d]) C.B.k λh2 J b'=>?_
 have G2:=C.wR (x':=(lp mm.r.b.dQ,oK)) (r':=(r.qA mm.r).up λb=>{b with dQ:=mm.r.b.dQ}) KF (by simp[j]) O J b' ⟨rfl,rfl,rfl,rfl⟩ (by rw[l,l];rfl) rfl rfl λP e q=>by rw[V]at q ⊢;cases e;exact⟨jF _,q.2⟩
 refine mw z (J.bq z (nR r2)) (mw p (J.bq p (nR r1)) (G2.uW (i:=1) (s:=Z) (by simp[d]) G2.B.k λh3 w3 a'=>?_))
 have G3:=G2.wR (i:=1) (s':=L) (A:=W) (x':=(strs mm.r.b.texts,qo)) (r':=(r.qA mm.r).up λb=>{b with dQ:=mm.r.b.dQ,texts:=mm.r.b.texts}) KF (by simp[j]) (N.fr J.fr λc q _ e=>G.t.kW (g.hO (i:=1) (by simp[j])) (e▸q)) w3 a' ⟨rfl,rfl,rfl,rfl⟩ (by rw[l,l];rfl) rfl rfl λP e q=>by rw[V]at q ⊢;cases e;exact⟨q.1,jF _,q.2.2⟩
 refine hk h3 ?_ ⟨_,by rfl,G3.conv (r':=mm.r) ⟨rfl,rfl,rfl,rfl⟩ (by rw[l,l];rfl) ?_ (λq=>ag) λP e q=>?_⟩
 ·exact((Y.mono λc q _=>q.elim (λe=>e▸G.t.tb) λq=>G.kr g.gq q).trans (J.fr.mono λc q _=>q▸G.t.tb)).trans (w3.fr.mono λc q _=>q▸G.t.tb)
 ·have e1:mm.r.kids=[]:=by
   rw[ks.1];have:=ks.2;rw[e']at this;rw[jw.1 this];rfl
  have I:r.kids=[]:=jw.1 G.lk.2.2;rw[e1];exact I.symm
 ·cases e;rw[V];exact⟨jF _,jF _,y.2.2⟩
end
theorem Iv(v:aD):v.items.length*16<=bJ v.items:=by
 have:∀l:List aD,l.length*16<=bJ l:=by
  intro l
  induction l with
  |nil=>simp
  |cons z l a=>have:=gS z;simp only[bJ,iq];omega
 simp[*]
def Zp(v:aD):Prop:=∀{D:aR}{h:Hp}{s:Sl}{K:cL}{Kp:PK},aS D h s v.items->v.bw<=2^50->(∀h',aB h h'->K (v.bw:Int) h')->Au v.au v.num (bs v.text) s h K Kp
theorem aiH(J:∀x∈v.items,Zp x):Zp v:=by
 intro D h s K Z p Q A;have m:=gS v;have O:=Iv v;have R:=p.n;refine Au.of (aJ λY V e1 G o _=>?_);simp only[bz,bX];refine aj o rfl (aY (by rw[iU];omega) (by rw[iU];omega) (aj o rfl ?_))
 rw[iU];apply QA.bC (λy x C=>∃i:Nat,x=i/\i<=v.items.length/\y=((16+v.text.length+bJ (v.items.take i):Nat):Int)/\aB h C) (λ_ x _=>v.items.length-x.toNat) ⟨0,rfl,eH _,by simp[bJ],G⟩
 rintro y x q ⟨i,rfl,S,rfl,j⟩ N hN;refine cE (λe=>?_) λe=>?_
 ·have g:i<v.items.length:=ag;have l:=bL g;have f:=kP g;generalize v.items[i]=z at l f;have d:=bS l;have M:bJ (v.items.take (i+1))<=bJ v.items:=by
   have:=oV (v.items.take (i+1)) (v.items.drop (i+1));rw[EI]at this;omega
  have H:bJ (v.items.take (i+1))=bJ (v.items.take i)+z.bw:=by rw[f,oV];simp[bJ]
  refine(eO p j).ix rfl l λa u I w=>ig I (aJ λX U W F k _=>mj k rfl λB t k=>eW k ?_);have r:=bK F t ag;refine J z d (eO w r) ag λT E=>aY ag ag (aY ag ag (hN _ _ _ ⟨i+1,aC,ag,?_,aq j (aq r E)⟩ ag))
  rw[H];push_cast;omega
 ·have:i=v.items.length:=ag;simp_all
theorem ME:∀v:aD,Zp v
 |.mk a b c items=>aiH (v:=.mk a b c items) λx(_:x∈items)=>ME x
def Zy(x:aD):Prop:=∀{y:aD}{D E:aR}{h:Hp}{s t:Sl}{K:fD}{Kp:PK},aS D h s x.items->aS E h t y.items->x.bw<=2^50->(∀b h',aB h h'->(b=true↔x=y)->K b h')->
 CS x.au x.num (bs x.text) s y.au y.num (bs y.text) t h K Kp
theorem aas{x:aD}:x=Y↔x.au=Y.au/\x.num=Y.num/\x.text=Y.text/\x.items=Y.items:=by
 cases x;cases Y;simp[aD.au,aD.num,aD.text,aD.items]
theorem alG{x:aD}(IH:∀z∈x.items,Zy z):Zy x:=by
 intro y D E h s t K V O M hw P;have b':=gS x;have c':=Iv x;have Z:=O.n;have hm:=M.n;refine CS.of (aJ λU h1 e1 g1 d _=>aJ λT I e2 S k _=>?_);have d:=d.ai S;have G:=aq g1 S;have A:∀{B:Hp},aB h B->x≠y->K false B:=λg ne=>P false _ g ⟨λe=>(by cases e),λe=>absurd e ne⟩
 have L:x≠y->Cq K V (aF U) (aF T) true I:=λne=>Cq.of (bQ rfl (A G ne));have W:x≠y->Cr K V (aF U) (aF T) true I:=λne=>Cr.of (bQ rfl (L ne));refine aj d rfl (aj k rfl (aK (λc=>?_) λc=>?_))
 ·exact W λe=>by subst e;simp at c
 have c1:x.au=y.au:=by simpa using c
 simp only[bz,bX];refine aj d rfl (aj k rfl (Cr.of (aK (λc=>?_) λc=>?_)))
 ·exact L λe=>by subst e;simp at c
 have c2:x.num=y.num:=by simpa using c
 simp only[bz,bX];refine aj d rfl (aj k rfl ?_);rw[BJ];refine Cq.of (aK (λc=>A G λe=>by subst e;simp at c) λc=>?_)
 have c3:x.text=y.text:=by simpa using c
 simp only[bz,bX];refine aj d rfl (aj k rfl (aK (λJ=>A G λe=>?_) λc=>?_))
 ·simp_all
 have c:=aU c;apply Rq.of;simp only[bz,bX];refine aj d rfl (P2.bC (λz B=>∃i:Nat,z=i/\i<=x.items.length/\aB I B/\x.items.take i=y.items.take i) (λz _=>x.items.length-z.toNat) ⟨0,rfl,eH _,cW _,rfl⟩ ?_);rintro z h3 ⟨i,rfl,hi,C,v⟩ N hN;have H:=aq G C;refine aK (λl=>?_) λl=>?_
 ·have l:=aU l;have r:i<x.items.length:=ag;have a:=bL r;have j:y.items[i]? =some y.items[i]:=bL ag;have o:=kP r;have m:y.items.take (i+1)=y.items.take i++[y.items[i]]:=kP ag;generalize x.items[i]=u at a o;generalize y.items[i]=w at j m;have f:=bS a;have a':=oe f;simp only[bz,bX];refine aj (d.ai C) rfl ((eO O H).ix rfl a λp p' cp Y=>ig cp (aj (k.ai C) rfl ((eO M H).ix rfl j λq q' cq X=>ig cq (IH u f Y X ag λb h4 R Q=>aK (λF=>?_) λF=>?_))))
  ·refine A (aq H R) λe=>?_;have:u=w:=by rw[e,j]at a;cases a;rfl
   rw[Q.2 this]at F;cases F
  ·have:u=w:=Q.1 (by simpa using F)
   exact aY ag ag (hN _ _ ⟨i+1,aC,ag,aq C R,by rw[o,m,v,this]⟩ ag)
 ·have l:=aU l;have:i=x.items.length:=ag;grind[aas,List.take_length]
theorem Um:∀x:aD,Zy x
 |.mk a b c items=>alG (x:=.mk a b c items) λx(_:x∈items)=>Um x
def Zq(v:aD):Prop:=∀{D:aR}{h:Hp}{s:Sl}{K:Bool->Int->ByteArray->Sl->HP}{Kp:PK},aS D h s v.items->v.bw<=2^40->(∀t h',aB h h'->aS (Nw h) h' t v.items->K v.au v.num (bs v.text) t h')->wG v.au v.num (bs v.text) s h K Kp
theorem ang(IH:∀x∈v.items,Zq x):Zq v:=by
 intro D h s K Kp hv hw hk;have i':=gS v;have j':=Iv v;have hn:=hv.n;refine wG.of (aJ λa1 h1 e1 g1 F _=>aJ λa2 g e2 X k2 _=>?_);have F:=F.ai X;have G:=aq g1 X;simp only[bz,bX];refine aj F rfl (P5.bC (λl x V=>∃(i:Nat)(E:List Sl),x=i/\i<=v.items.length/\E.length=i/\aB g V/\fO g.size 4 V l (List.zipWith aD.row (v.items.take i) E) di/\
   ∀(j:Nat)(z:aD)(t:Sl),v.items[j]? =some z->E[j]? =some t->aS (λb=>g.size<=b/\¬l.at b) V t z.items)
  (λ_ x _=>v.items.length-x.toNat) ⟨0,[],rfl,eH _,rfl,cW _,sU _ _ _ _,aC⟩ ?_)
 rintro l x J ⟨i,E,rfl,hi,k,C,A,hu⟩ N hN;have on:=A.n;rw[qn,mP]at on;have s3:=C.1;refine cE (λL=>?_) λL=>?_
 ·have c':i<v.items.length:=ag;have I:=bL c';generalize v.items[i]=z at I;have m:=bS I;have g':=oe m;refine(eO hv (aq G C)).ix rfl I λa u cx hz=>ig cx (aJ λa5 h4 e4 g4 T _=>mj T rfl λB P T=>eW T ?_);have W:=bK g4 P ag;have s5:=W.1;refine IH z m (eO hz W) ag λt h6 g6 R=>aJ λk' Q e7 g7 a' _=>?_;have M:=aq W (aq g6 g7);have s7:=M.1;refine(A.ai M).ap ag rfl (new:=[z.row t]) rfl (λr H=>by simp at H;subst H;rfl) (λr H=>by simp at H;subst H;exact AG z t) (by simpa[aD.row,wO]using jn a' rfl) ag ag λs' h8 Y d' o8=>aY ag ag (hN _ _ _ ⟨i+1,E++[t],aC,ag,by simp[k],?_,?_,?_⟩ ag)
  ·exact(((bx (aq C M):Tn No g Q)).trans' Y λb hd b'=>by have:=((A.ai M).at hd).1;omega).ai
  ·rw[TY I k];exact o8
  ·intro j e w U y;have O:∀b,s'.at b->b<Q.size->l.at b:=λb q f=>(d' b q).resolve_right ag;rcases yW k y with⟨b',y⟩|⟨rfl,rfl⟩
   ·exact aS.fr Y (λb f _=>f.1.2) (λb f=>⟨f.1.1,λq=>f.1.2 (O b q ag)⟩) _ (eO (aS.lt _ (hu j e w U y)) M)
   ·rw[I]at U;cases U;have ax:∀b,l.at b->g.size<=b/\b<J.size:=λb f=>A.at f;refine aS.fr Y (λb(f:B.size<=b/\_)_ q=>by have:=ax b q;omega) (λb(f:B.size<=b/\b<Q.size)=>⟨ag,λq=>?_⟩) _ (aS.lt _ (eO R g7))
    have:=ax b (O b q f.2);omega
 ·have:i=v.items.length:=ag;subst this;rw[mO]at A;have R:=aS.snoc A k (λb f=>f) λj d p h1 g=>rY (hu j d p h1 g) λb f=>f.1;simp only[bz,bX];refine dN (F.ai C) aC rfl λh4 S o=>?_;have o:aO h4 a1 #[.bool v.au,ah v.num,.string (bs v.text),Sl.v l] di:=by simpa using o
  refine eW o (mj (S.bq (k2.ai C) ag) rfl λB P Z=>eW Z (hk l B (bK (bK (aq G C) S ag) P ag) ?_));have t5:Tn (λc=>c=a1\/c=a2) J B:=(S.fr.mono λc q _=>.inl q).trans (P.fr.mono λc q _=>.inr q);exact aS.fr t5 (λc(q:g.size<=c)_ z=>ag) (λc(q:g.size<=c)=>by show h.size<=c;omega) _ R
theorem MF:∀v:aD,Zq v
 |.mk a b c items=>ang (v:=.mk a b c items) λx(_:x∈items)=>MF x
section
variable {c:ak} {KM:List cO} {M:cO} {T:aR} {h0 h':Hp} {r':Raw} {vs:aQ} {m:fN} {g:dO} {x:aD}
theorem bU.MY(G:bU f KM T h r m g)(KF:∀(j:Nat)M,KM[j]? =some M->gz M)(t:Tn (λc=>c=g.b\/g.X c) h h')
  (H:aO h' g.b (cj f g.sf g.sn g.sb r.b.rows r.b.cz r.b.bF (ia f.k g.SS g.kv g.ks sp')).toArray (iz f.k)) (a:r'.b.rows=r.b.rows/\r'.b.cz=r.b.cz/\r'.b.bits=r.b.bits/\r'.b.bF=r.b.bF) (e1:cF f.k r'.b=cF f.k r.b) (e0:r'.kids=r.kids)
  (C:iJ f.k (Tr g.X h h') h' sp' r'.b) (L:∀d,m=some d->eI f.k r.b d.r.b->eI f.k r'.b d.r.b) (nM:f.k=20->Tn (λc=>c=g.b) h h'):bU f KM (Tr T h h') h' r' m {g with sp:=sp',X:=Tr g.X h h'}:=by
 have K:∀c,(c=g.b\/g.X c)->c<h.size->c=g.b\/g.X c:=λc q _=>q;have av:∀{j:Nat}{B:aR},g.Ls[j]? =some B->2≠j->∀c,B c->c<h.size->¬(c=g.b\/g.X c):=λI ne=>G.av g.iM K I ne;have n:=av g.fF ag;refine⟨G.t.step 2 t.1,⟨dH,by rw[a.2.2.1];exact G.B.o.fr t (av g.gq ag),G.B.nT,by rw[a.2.2.1,a.1];exact G.B.len,by rw[a.2.1,a.1];exact G.B.nl,by rw[a.1];exact G.B.rl⟩,by rw[e1];exact G.ls,λi s A x u l v=>(G.sl i s A x u l (e1▸v)).fr t (av (g.hO l) ag),by rw[e0];exact G.lk,λj M A w u l v=>?_,
  aS.fr t n (λ_ z=>z) _ G.no,λz=>(G.kl z).fr t n λ_ z=>z,C,λd e=>?_⟩
 ·have:=KF j M u (G.aN j M A w u l v) t (av (g.fk l) ag);unfold Raw.aN at this ⊢;grind
 ·obtain⟨⟨S,y,R,Q,P,O,N⟩,F,ks,sp⟩:=G.mm d e;exact⟨⟨S,y,R.fr t n (av g.gq ag),Q,λz=>(P z).fr t n,O,λz=>by obtain⟨p,e,mc⟩:=N z;exact⟨p,e,mc.fr t n⟩⟩,L d e F,ks,λz=>((sp z).fr (nM z) λc J hl e=>G.t.kW g.iM (e▸J)).mono λc q=>.inl q⟩
theorem eT.MY(KF:∀(j:Nat)M,KM[j]? =some M->gz M)(S:eT f KM T h0 h r m g E)(t:Tn (λc=>c=g.b\/g.X c) h h')
  (e:aO h' g.b (cj f g.sf g.sn g.sb r.b.rows r.b.cz r.b.bF (ia f.k g.SS g.kv g.ks sp')).toArray (iz f.k)) (o:r'.b.rows=r.b.rows/\r'.b.cz=r.b.cz/\r'.b.bits=r.b.bits/\r'.b.bF=r.b.bF) (e1:cF f.k r'.b=cF f.k r.b) (e0:r'.kids=r.kids)
  (d:iJ f.k (Tr g.X h h') h' sp' r'.b) (p:∀a,m=some a->eI f.k r.b a.r.b->eI f.k r'.b a.r.b) (nM:f.k=20->Tn (λc=>c=g.b) h h'):eT f KM T h0 h' r' m {g with sp:=sp',X:=Tr g.X h h'} E/\Tn (λc=>¬E c) h h':=by
 exact S.next (S.G.MY KF t e o e1 e0 d p nM) t (λc q _ z=>q.elim z.1 (z.2 2 _ g.iM bh)) λc l z=>z.set rfl rfl g.iM l
theorem bU.MZ(G:bU f KM T h r m g)(KF:∀(j:Nat)M,KM[j]? =some M->gz M)(u:g.ST[i]? =some A)(C:g.SS[i]? =some s)(t:Tn A h h')(os:Os A h' s x'.1 x'.2)
  (a:r'.b.rows=r.b.rows/\r'.b.cz=r.b.cz/\r'.b.bits=r.b.bits/\r'.b.bF=r.b.bF) (e1:cF f.k r'.b=(cF f.k r.b).set i x') (e0:r'.kids=r.kids) (J:r'.b.aH=r.b.aH) (I:∀p,m=some p->eI f.k r.b p.r.b->eI f.k r'.b p.r.b):
  bU f KM T h' r' m g:=by
 have K:=(dy.1 u).1;have H:∀c,A c->c<h.size->c=g.b\/A c:=λc q _=>.inr q;have v:=g.hO u;have nb:=G.t.kW v;have av:∀{j:Nat}{B:aR},g.Ls[j]? =some B->3+i≠j->∀c,B c->c<h.size->¬A c:=λF ne=>G.av v H F ne;refine⟨G.t.grow t.1,⟨by rw[a.1,a.2.1,a.2.2.2];exact t.bq G.B.k nb,by rw[a.2.2.1];exact G.B.o.fr t (av g.gq ag),G.B.nT,by rw[a.2.2.1,a.1];exact G.B.len,by rw[a.2.1,a.1];exact G.B.nl,by rw[a.1];exact G.B.rl⟩,?_,λj y B x n l d=>?_,by rw[e0];exact G.lk,λj M B w n l d=>?_,
  aS.fr t (av g.fF ag) (λ_ z=>z) _ G.no,λz=>(G.kl z).fr t (av g.fF ag) λ_ z=>z,(G.sp.fr t (av g.iM ag)).eq J,λp e=>?_⟩
 ·simp only[B7,e1];exact G.ls
 ·rw[e1,x9]at d
  by_cases e:i=j
  ·grind
  ·rw[aE e]at d;exact(G.sl j y B x n l d).fr t (av (g.hO l) ag)
 ·have:=KF j M n (G.aN j M B w n l d) t (av (g.fk l) ag);unfold Raw.aN at this ⊢;grind
 ·have M:=(G.mm p e).fr t (av g.fF ag) (av g.gq ag) (av g.iM ag);exact⟨M.c,I p e M.pr,M.ks,M.sp⟩
theorem eT.MZ(KF:∀(j:Nat)M,KM[j]? =some M->gz M)(S:eT f KM T h0 h r m g E)(d:g.ST[i]? =some A)(l:g.SS[i]? =some s)(t:Tn A h h')(os:Os A h' s x'.1 x'.2)
  (p:r'.b.rows=r.b.rows/\r'.b.cz=r.b.cz/\r'.b.bits=r.b.bits/\r'.b.bF=r.b.bF) (e1:cF f.k r'.b=(cF f.k r.b).set i x') (e0:r'.kids=r.kids) (v:r'.b.aH=r.b.aH) (u:∀a,m=some a->eI f.k r.b a.r.b->eI f.k r'.b a.r.b):
  eT f KM T h0 h' r' m g E/\Tn (λc=>¬E c) h h':=by
 have e:=S.G.MZ KF d l t os p e1 e0 v u;exact S.next (e.mono (λc q=>.inl q) λc q=>q.elim (λq=>e.t.lt c q) λq=>q.2) t (λc q _ z=>z.2 (3+i) A (g.hO d) ag q) λc _ o=>o
theorem bU.XR(G:bU f [M] T h r m g)(l:f.k=19\/f.k=20)(hl:g.SS.length=1):Cs h ⟨g.b,18,none⟩ g.sp:=by
 intro i v j;rw[bz,gU G.B.k,r7];have e:∀d,cj f g.sf g.sn g.sb r.b.rows r.b.cz r.b.bF d=cj f g.sf g.sn g.sb r.b.rows r.b.cz r.b.bF []++d:=λ_=>rfl;rw[e,gv (by show 16<=_;omega)]
 show(List.map Sl.v g.SS++_)[18+i-16]? =_
 rw[gv cy,cC,hl];unfold nG;have a:=G.lk.1;grind
theorem bU.aa3{K:HP}{H:Hp}{V U y u o n b2 j:Value}(G:bU f [M] T h r m g)(L:f.k=19\/f.k=20)(hl:g.SS.length=1)(q:g.sp=[V,U,y,u])(F:∀v∈[o,n,b2,j],one v=true)
  (k:aO H g.b (cj f g.sf g.sn g.sb r.b.rows r.b.cz r.b.bF (ia f.k g.SS g.kv g.ks g.sp)).toArray (iz f.k)) (I:∀h',eJ g.b H h'->aO h' g.b (cj f g.sf g.sn g.sb r.b.rows r.b.cz r.b.bF (ia f.k g.SS g.kv g.ks [o,n,b2,j])).toArray (iz f.k)->K h'):iZ H ⟨g.b,18,none⟩ 0 [o,n,b2,j] K:=by
 obtain⟨d,p⟩:∃d,g.SS=[d]:=by
  match J:g.SS,hl with
  |[a],_=>simp
 obtain⟨w,C⟩:∃w,g.kv=[w]:=by
  match J:g.kv,G.lk.1 with
  |[a],_=>simp
 have t:∀sp,ia f.k g.SS g.kv g.ks sp=Sl.v d::w::sp:=λsp=>by unfold ia nG;simp[*]
 rw[t,q]at k;refine vZ _ k (by simp[cj]) F λh' cs B A O z=>I h' B ?_
 rw[t];have:cs=(cj f g.sf g.sn g.sb r.b.rows r.b.cz r.b.bF (Sl.v d::w::[o,n,b2,j])).toArray:=by
  apply BS;intro i;rw[z i,r7,r7];have e:∀x,cj f g.sf g.sn g.sb r.b.rows r.b.cz r.b.bF (Sl.v d::w::x)=cj f g.sf g.sn g.sb r.b.rows r.b.cz r.b.bF [Sl.v d,w]++x:=λ_=>rfl;rw[e [V,U,y,u],e [o,n,b2,j]];have l:(cj f g.sf g.sn g.sb r.b.rows r.b.cz r.b.bF [Sl.v d,w]).length=18:=rfl
  by_cases P:i<18
  ·grind
  ·grind
 grind
end
section
variable {c:ak} {KM:List cO} {M:cO} {T:aR} {h0 h':Hp} {r':Raw} {vs:aQ} {m:fN} {g:dO} {x:aD} {K:cL}
open Classical in
theorem ajn(Xh:f.k=20)(vA:f.cs=[c])(r:Raw)(v:aD):f.tk r v=cQ (eN false r) λr1=>if r1.b.aH.getLast? =some v then fj v.bw (r1.up λb=>{b with ends:=b.ends.dropLast++[b.rows]})
  else cQ (dc 0 (λq=>c.tk q v) r1) λr2=>fj v.bw (r2.up λb=>{b with ends:=b.ends++[b.rows],aH:=b.aH++[v]}):=by
 rw[kD];unfold iD;simp[*]
theorem aep(b:f.k=19\/f.k=20)(d:f.cs=[c])(a:f.fit x=true)(e:x.au=false):c.fit x=true:=by
 rw[eG]at a;simp_all[fm,dr,aE,aI]
theorem aem(i:bE f)(b:f.k=20)(d:f.cs=[c])(a:f.fit x=true):c.fit x=true:=by
  cases e:x.au with
  |false=>exact aep (.inr b) d a e
  | true=>
    rw[eG]at a;unfold fm at a;simp only[dr]at a;have q:=a.2;rw[aI e]at q;simp only[dr,dP]at q;have el:f.lets=c.lets:=by rw[xS];unfold m8;rw[d,aI ⟨b,rfl⟩];rfl
    rw[eG];unfold fm;grind
theorem aaK(fX:bE f)(j:f.k=20)(k':f.cs=[c])(C:MC c M)(PC:jj c)(hc:f.can vs)(aqH:f.fit x=true)(hw:x.bw<=4194304)(G:bU f [M] T h (f.st vs) m g)(hv:aS D h s x.items)(hD:∀c,D c->c<h.size->Out g c)
  (H:∀h',Tn T h h'->cX f [M] (Tr T h h') h' (.iface (bI f.k) (bB g.b)) (f.tk (f.st vs) x).2 m->K (f.tk (f.st vs) x).1 h'):Gk (bD g.b) x.au x.num (bs x.text) s h K Kp:=by
 have KF:=ng C;have ed:bI f.k=nV:=by unfold bI;rw[aA,aA,aA,aA,aA,aA,aA,aI j]
 rw[ed]at H;rw[ajn j k']at H;have P:∀W:Rb,cF f.k W=[(ints W.ends,Y6)]:=λW=>by unfold cF;rw[aA,dU]
 have ep:∀a b:Rb,eI f.k a b↔b.ends.length<=a.ends.length/\b.ends.dropLast <+: a.ends/\b.ends.length<=4096:=λa b=>by unfold eI;rw[aA,aA,aA,aA,aA,aI j]
 have eS:∀X h sp(W:Rb),iJ f.k X h sp W↔∃t,sp=[.bool (kq W).au,ah (kq W).num,.string (bs (kq W).text),Sl.v t]/\aS X h t (kq W).items:=λX h sp W=>by unfold iJ;rw[aA,aI j]
 obtain⟨O,p⟩:=ri G.ls (P _);obtain⟨A,w,hA,f',hkv⟩:=sM G rfl;obtain⟨A0,v'⟩:∃A,g.ST[0]? =some A:=⟨_,bL (by rw[G.ls.2,P];exact Nat.one_pos)⟩
 have s':f.cs[0]? =some c:=by rw[k'];rfl
 have ev:(f.st vs).b.aH=(cR vs).1:=by rw[fC];simp only[aM];rw[aA,aI j]
 have ee:(f.st vs).b.ends=(cR vs).2:=by rw[fC];simp only[aM];rw[aA,aA,aA,aA,aI j]
 have I:(f.st vs).b.aH.length=(f.st vs).b.ends.length:=by rw[ev,ee];exact(AR _ vs rfl).2
 have U:(f.st vs).aN 0=c.st (f.st vs).b.aH:=by rw[mM s' vs,ev,j,El]
 have c':c.can (f.st vs).b.aH:=by have:=fh s' hc;rw[j,El,<-ev]at this;exact this
 have hkn:=((gh c _).1 c').n4;have hh:=(iG hc).1;generalize hrv:f.st vs=J at G H I U c' hkn hh;refine Gk.of (aJ λa h1 ea g1 F _=>?_);refine bO ?_;have S1:=(eT.of (E:=λc=>D c/\c<h.size) G λc q=>⟨q.2,hD c q.1 q.2⟩).ai KF g1;generalize hE:(λc=>(D c/\c<h.size)\/(h.size<=c/\c<h1.size))=E at S1;have E1:E a:=by rw[<-hE];exact .inr ⟨ag,F.lt⟩
 have u':∀c,D c/\c<h.size->E c:=λc q=>by rw[<-hE];exact .inl q
 have xk:=eO (aS.lt _ hv) g1;have Q:∀{ha hb:Hp},Tn (λc=>¬E c) ha hb->aS (λc=>D c/\c<h.size) ha s x.items->aS (λc=>D c/\c<h.size) hb s x.items:=λt v=>aS.fr t (λc q _ z=>z (u' c q)) (λ_ z=>z) _ v;refine S1.row KF rfl (λq=>bQ rfl ?_) λq qB A' h2 t2 S2=>bu rfl ?_
 ·rw[rz q]at H;exact H h1 S1.t ⟨g,by rw[ed],S1.G⟩
 rw[ry q]at H;have F:=lG t2 F E1;have i':=Q t2 xk;generalize W6:J.up (Rb.row false)=d at H S2;have L:d.b.aH=J.b.aH/\d.b.ends=J.b.ends/\d.b.bF=J.b.bF/\d.aN 0=J.aN 0/\d.b.rows=J.b.rows+1:=by rw[<-W6];exact⟨rfl,rfl,rfl,rfl,rfl⟩
 have n0:O.n=J.b.ends.length:=by have:=S2.G.oq (i:=0) (s:=O) (by simp[p]) (by rw[P];rfl);rw[this,ints,cC,L.2.1]
 have m':d.b.aH.length=d.b.ends.length:=by rw[L.1,L.2.1];exact I
 -- another value than the last
 have V:∀{h3:Hp},aB h2 h3->d.b.aH.getLast? ≠some x->Ka K Kp (bD g.b) (aF a) h3:=by
  intro h3 g3 j';rw[aE j']at H;have Z:=S2.ai KF g3;have F:=F.ai g3;have a':=eO i' g3;have R:=Z.G.aN 0 M A w rfl hA f';rw[L.2.2.2.1,U]at R;apply Ka.of;refine bO ?_;obtain⟨kk,bb,rfl⟩:=C.na R;refine Z.G.lN (i:=1) rfl (.inr (.inr (.inr j))) (by simp[p]) f' (eW F ?_)
  have hgo:dc 0 (λq=>c.tk q x) d=((c.tk (c.st J.b.aH) x).1,d.eZ 0 (c.tk (c.st J.b.aH) x).2):=by unfold dc;rw[L.2.2.2.1,U]
  rw[hgo]at H;refine C.take c' (aem fX j k' aqH) hw R a' (λY q z=>(Z.e Y (.inl (u' Y q))).2.2 _ A (dO.fk _ hA) ag z) λh4 t4 M4=>?_;obtain⟨S4,e'⟩:=Z.aN KF hA t4 λM' w' q1 q2=>by
   simp at q1;subst q1;have q2:=q2;rw[f']at q2;cases q2;exact M4
  have N:=e'.mono λc q _ z=>q (.inl z);refine cE (λc2=>?_) λc2=>?_
  ·unfold cQ at H;rw[aE c2]at H;exact H h4 S4.t ⟨_,by rw[ed],S4.G⟩
  unfold cQ at H;rw[aI c2]at H;have F:=lG N F E1;have q':=S4.G.B.k;refine S4.G.dI (i:=0) (s:=O) rfl (by simp[p]) (vK q' (aJ λa5 h5 e5 g5 k5 _=>bR q' g5 ?_))
  have S5:=S4.ai KF g5;refine S5.app (i:=0) (x:=(ints d.b.ends,Y6)) (x':=(ints (d.b.ends++[d.b.rows]),Y6)) (r':=(d.eZ 0 (c.tk (c.st J.b.aH) x).2).up λb=>{b with ends:=b.ends++[b.rows]}) (news:=[ah (d.b.rows:Int)]) KF rfl (by simp[p]) (by rw[P];rfl) rfl ?_ rfl (jn k5 rfl) ag ag (by simp[ints])
   ⟨rfl,rfl,rfl,rfl⟩ (by rw[P,P];rfl) rfl rfl (λmm _ q=>?_) λs0' A0' h6 t6 S6=>?_
  ·intro v hv;simp only[mR]at hv;subst hv;rfl
  ·rw[ep]at q ⊢;exact⟨jH q.1 (by show _<=(d.b.ends++[d.b.rows]).length;rw[ij];exact Nat.le_add_right _ _),q.2.1.trans (sV _ _),q.2.2⟩
  have d':Tn (λc=>¬E c) h5 h6:=t6.mono λc q _ z=>q (.inl (.inl z));have F:=lG d' (F.ai g5) E1;have g':=Q d' (eO (Q N a') g5);refine Rp.of (eW F (MF x g' ag λt h7 g7 vt=>?_));refine bO ?_;have S7:=S6.ai KF g7;have F:=F.ai g7;have hv7:=eO g' g7;have sp7:=(eS _ _ _ _).1 S6.G.sp;obtain⟨t0,l',_⟩:=sp7;refine xU (S7.G.aa3 (.inr j) (by simp[p]) l' (by simp[one,Sl.v]) S7.G.B.k λh8 o8 k8=>?_)
  have s7:=g7.1;have hgl:g.b<h6.size:=S6.G.t.lt _ S6.G.t.tb;have o':Tn (λc=>c=g.b) h6 h8:=(bx g7:Tn _ h6 h7).trans o8.fr;have S68:=S6.MY (r':=(d.eZ 0 (c.tk (c.st J.b.aH) x).2).up λb=>{b with ends:=b.ends++[b.rows],aH:=b.aH++[x]}) KF (o'.mono λc q _=>.inl q) k8 ⟨rfl,rfl,rfl,rfl⟩ (by rw[P,P];rfl) rfl ((eS _ _ _ _).2 ?_) (λmm _ q=>?_) λ_=>o'
  rotate_left
  ·have el:kq ((d.eZ 0 (c.tk (c.st J.b.aH) x).2).up λb=>{b with ends:=b.ends++[b.rows],aH:=b.aH++[x]}).b=x:=by
    show((d.b.aH++[x]).getLast?).getD AH=x
    simp
   rw[el];refine⟨t,rfl,aS.fr o8.fr (λc(q:h6.size<=c/\c<h7.size)_(e:c=g.b)=>ag) (λc q=>.inr ⟨q.1,by have:=o8.1;omega⟩) _ (rY (aS.lt _ vt) λc q=>⟨q.1,q.2⟩)⟩
  ·rw[ep]at q ⊢;exact q
  obtain⟨S8,t8⟩:=S68;have n':Tn (λc=>¬E c) h6 h8:=t8.mono λc q _ z=>q (.inl (.inl z));exact eW (lG n' (lG d' ((lG N ‹aO h3 a _ _› E1).ai g5) E1) E1) (ME x (Q n' g') ag λh9 g9=>(S8.ai KF g9).pU KF rfl (n:=x.bw) rfl (by show d.b.bF+x.bw<2^62;rw[L.2.2.1];omega) λxq t10 z'=>H xq z'.t ⟨_,by rw[ed],z'.G⟩)
 refine S2.G.dI (i:=0) (s:=O) rfl (by simp[p]) (cE (λY=>?_) λY=>?_)
 ·obtain⟨t0,l',IA⟩:=(eS _ _ _ _).1 S2.G.sp;have y':=S2.G.XR (.inr j) (by simp[p])
  rw[l']at y';have j':d.b.aH≠[]:=λe=>by rw[L.1]at e;rw[e]at I;simp at I;omega
  have u:d.b.aH.getLast? =some (kq d.b):=by
   unfold kq;rw[YB j'];rfl
  have hlw:(kq d.b).bw<=4194304:=by
   have hm:=List.mem_of_getLast? u;rw[L.1]at hm;have h1:=oe hm;have h2:=(iG c');omega
  refine ig y' (eW F (Um (kq d.b) IA i' ag λb h3 g3 hb=>Fb.of (aK (λcb=>?_) λcb=>V g3 λe=>?_)))
  ·have hx:kq d.b=x:=hb.1 cb;rw[hx]at u;rw[aI u]at H;have Z:=S2.ai KF g3;have F:=F.ai g3;have a':=eO i' g3;refine bO ?_;refine Z.G.dI (i:=0) (s:=O) rfl (by simp[p]) (Z.G.dI (i:=0) (s:=O) rfl (by simp[p]) (aY ag ag (vK Z.G.B.k ?_)))
   have os:=Z.G.sl 0 O A0 (ints d.b.ends,Y6) (by simp[p]) v' (by rw[P];rfl)
   obtain⟨bb,t'⟩:∃bb,O.a=some (aF bb):=by
    rcases os with⟨e,_⟩|⟨bb,_,o⟩
    ·rw[e]at Y;simp[Sl.nil]at Y
    ·exact⟨bb,o.1⟩
   unfold Ix;rw[t'];refine⟨ag,ag,?_⟩
   rw[bz];refine os.M0 ag ⟨bb,t',by congr 1;omega⟩ rfl λh4 t4 p' _=>?_
   have e4:(ints d.b.ends).set (O.n-1) (ah (d.b.rows:Int))=ints (d.b.ends.dropLast++[d.b.rows]):=by
    have S:d.b.ends≠[]:=λe=>by rw[<-L.2.1,e]at n0;simp at n0;omega
    obtain⟨l,y,b'⟩:∃l y,d.b.ends=l++[y]:=⟨_,_,(zO S).symm⟩;have hn:O.n-1=l.length:=by rw[n0,<-L.2.1,b'];simp
    rw[hn,b'];simp[ints]
   rw[e4]at p';obtain⟨S4,e'⟩:=Z.MZ (r':=d.up λb=>{b with ends:=b.ends.dropLast++[b.rows]}) KF v' (by simp[p]) t4 (x':=(ints (d.b.ends.dropLast++[d.b.rows]),Y6)) p' ⟨rfl,rfl,rfl,rfl⟩ (by rw[P,P];rfl) rfl rfl λmm _ q=>by
    rw[ep]at q ⊢;have S:d.b.ends≠[]:=λe=>by rw[<-L.2.1,e]at n0;simp at n0;omega
    obtain⟨l,y,b'⟩:∃l y,d.b.ends=l++[y]:=⟨_,_,(zO S).symm⟩
    show mm.r.b.ends.length<=(d.b.ends.dropLast++[d.b.rows]).length/\mm.r.b.ends.dropLast <+: d.b.ends.dropLast++[d.b.rows]/\mm.r.b.ends.length<=4096
    rw[b']at q ⊢;rw[List.dropLast_concat];refine⟨by simp at q ⊢;omega,?_,q.2.2⟩
    have hq2:mm.r.b.ends.dropLast.length<=l.length:=by have:=q.1;simp at this ⊢;omega
    exact(ags q.2.1 (sV l [y]) hq2).trans (sV _ _)
   have N:Tn (λc=>¬E c) h3 h4:=e'.mono λc q _ z=>q (.inl z);refine eW (lG N F E1) (ME x (Q N a') ag λh5 g5=>?_);have S5:=S4.ai KF g5;exact S5.pU KF rfl (n:=x.bw) rfl (by show d.b.bF+x.bw<2^62;rw[L.2.2.1];omega) λh6 t6 S6=>H h6 S6.t ⟨_,by rw[ed],S6.G⟩
  ·rw[u]at e;rw[hb.2 (ur e)]at cb;cases cb
 ·refine Fb.of (bu rfl (V (cW _) λe=>?_));have:d.b.aH=[]:=jw.1 (by rw[m',L.2.1];omega)
  rw[this]at e;simp at e
theorem ahK(e:¬f.small=true)(j:f.k=20)(a:f.cs=[c])(r:Raw):f.zk r=cQ (eN false r) λd=>cQ (dc 0 c.zk d) λb=>(3,b):=by
 rw[rX];unfold nE;simp[*]
theorem ahT(u:bE f)(n:f.k=20)(o:f.cs=[c])(C:MC c M)(W:jj c)(P:f.can vs)(G:bU f [M] T h (f.st vs) m g)
  (a:∀h',Tn T h h'->cX f [M] (Tr T h h') h' (.iface (bI f.k) (bB g.b)) (f.zk (f.st vs)).2 m->K (f.zk (f.st vs)).1 h'):KZ (bD g.b) h K Kp:=by
 apply KZ.of;refine bO ?_;refine aj G.B.k (by simp[cj];rfl) ?_
 by_cases p:f.small=true
 ·rw[uP (.inl p)]at a;obtain⟨_,R,h3,H⟩:=sD u p;exact bQ p (ig G.uj (aaK u n o C W P R ag G G.no (λc q _=>G.DF q) a))
 rw[ahK p n o]at a;apply bu (by simpa using p)
 have KF:=ng C;have V:∀F:Rb,cF f.k F=[(ints F.ends,Y6)]:=λF=>by simp_all[cF,aE,ag,aI]
 obtain⟨s0,L⟩:=ri G.ls (V _);obtain⟨A,w,Q,l,Z⟩:=sM G rfl;have v:f.cs[0]? =some c:=by rw[o];rfl
 have e:=mM v vs;have J:=eT.of (E:=λ_=>False) G λ_ q=>q.elim;refine J.row KF rfl (λq=>bQ rfl ?_) λq Y A' R t2 I=>bu rfl ?_
 ·rw[rz q]at a;exact a h J.t ⟨g,rfl,J.G⟩
 rw[ry q]at a;have d:=I.G.aN 0 M A w rfl Q l;rw[iQ,e]at d;have N:dc 0 c.zk ((f.st vs).up (Rb.row false))=((c.zk (c.st (dB f.k f.w (dh f.cs) 0 vs))).1,((f.st vs).up (Rb.row false)).eZ 0 (c.zk (c.st (dB f.k f.w (dh f.cs) 0 vs))).2):=by unfold dc;rw[iQ,e]
 rw[N]at a;refine I.G.lN (i:=1) rfl (.inr (.inr (.inr n))) (by simp[L]) l (C.zero (fh v P) d λH U X=>?_)
 obtain⟨z,_⟩:=I.aN KF Q U λM' S O y=>by
  simp at O;subst O;have y:=y;rw[l]at y;cases y;exact X
 refine cE (λj=>?_) λj=>?_
 ·unfold cQ at a;rw[aE j]at a;exact a H z.t ⟨_,by rfl,z.G⟩
 ·unfold cQ at a;rw[aI j]at a;exact a H z.t ⟨_,by rfl,z.G⟩
end
theorem aut{c0 p q d b a:Addr}{K:HP}(H:Sy c0 p q d b a h K Kp):c8 aG (.func (.func 242) #[] #[cU c0,cU p,cU q,cU d,cU b,cU a]) [] h (λr e=>r=.tuple #[]/\K e) Kp:=by
 unfold c8;exact cast aX H
section
variable {c:ak} {KM:List cO} {M:cO} {T R:aR} {h0 h':Hp} {r':Raw} {vs:aQ} {m:fN} {mm:Mem} {g:dO} {caps:bg}
theorem aom{p o n l k:Array Value}(mc:Ac R h caps [Z,p,o,n,l,k]):∃j i e d b a C B A t s q,caps=[bB j,bB i,bB e,bB d,bB b,bB a]/\
    (R j/\aO h j Z C)/\(R i/\aO h i p B)/\(R e/\aO h e o A)/\(R d/\aO h d n t)/\(R b/\aO h b l s)/\(R a/\aO h a k q):=by
  obtain⟨j,C,e0,P⟩:=mc.2 0 Z rfl;obtain⟨i,B,e1,O⟩:=mc.2 1 p rfl;obtain⟨e,A,I,N⟩:=mc.2 2 o rfl;obtain⟨d,t,H,L⟩:=mc.2 3 n rfl;obtain⟨b,s,G,K⟩:=mc.2 4 l rfl;obtain⟨a,q,F,J⟩:=mc.2 5 k rfl
  match caps,mc.1 with
  | [u,v,w,z,y,x],_=>
    simp at e0 e1 I H G F;grind
theorem bU.spB(G:bU f KM T h r m g)(KF:∀(j:Nat)M,KM[j]? =some M->gz M)(t:Tn (λc=>c=g.b\/g.X c) h h')
  (C:aO h' g.b (cj f g.sf g.sn g.sb r.b.rows r.b.cz r.b.bF (ia f.k g.SS g.kv g.ks sp')).toArray (iz f.k)) (a:r'.b.rows=r.b.rows/\r'.b.cz=r.b.cz/\r'.b.bits=r.b.bits/\r'.b.bF=r.b.bF) (e1:cF f.k r'.b=cF f.k r.b) (e0:r'.kids=r.kids)
  (v:iJ f.k g.X h' sp' r'.b) (J:∀mm,m=some mm->eI f.k r.b mm.r.b->eI f.k r'.b mm.r.b) (nM:f.k=20->Tn (λc=>c=g.b) h h'):bU f KM T h' r' m {g with sp:=sp'}:=by
 have I:∀c,(c=g.b\/g.X c)->c<h.size->c=g.b\/g.X c:=λc q _=>q;have av:∀{j:Nat}{B:aR},g.Ls[j]? =some B->2≠j->∀c,B c->c<h.size->¬(c=g.b\/g.X c):=λF ne=>G.av g.iM I F ne;have l:=av g.fF ag;refine⟨G.t.grow t.1,⟨dH,by rw[a.2.2.1];exact G.B.o.fr t (av g.gq ag),G.B.nT,by rw[a.2.2.1,a.1];exact G.B.len,by rw[a.2.1,a.1];exact G.B.nl,by rw[a.1];exact G.B.rl⟩,by rw[e1];exact G.ls,λi s A x n d p=>(G.sl i s A x n d (e1▸p)).fr t (av (g.hO d) ag),by rw[e0];exact G.lk,λj M A w n d p=>?_,
  aS.fr t l (λ_ z=>z) _ G.no,λz=>(G.kl z).fr t l λ_ z=>z,v,λmm e=>?_⟩
 ·have:=KF j M n (G.aN j M A w n d p) t (av (g.fk d) ag);unfold Raw.aN at this ⊢;grind
 ·obtain⟨⟨Q,u,P,O,N,L,K⟩,y,ks,sp⟩:=G.mm mm e;exact⟨⟨Q,u,P.fr t l (av g.gq ag),O,λz=>(N z).fr t l,L,λz=>by obtain⟨caps,e,mc⟩:=K z;exact⟨caps,e,mc.fr t l⟩⟩,J mm e y,ks,λz=>(sp z).fr (nM z) λc H hl e=>G.t.kW g.iM (e▸H)⟩
theorem avb{K:HP}(x:f.k=20)(z':f.cs=[c])(C:MC c M)(G:bU f [M] T h r (some mm) g)(hk:∀h',Tn T h h'->cX f [M] T h' (.iface (bI f.k) (bB g.b)) mm.r (some mm)->K h'):
    c8 aG mm.F [] h (λr h1=>r=.tuple #[]/\K h1) Kp:=by
  have KF:=ng C;obtain⟨⟨F0,KF',bm,c1,c2,c3,c4⟩,pr,ks,d⟩:=G.mm mm rfl;obtain⟨caps,eF,mc⟩:=c4 ag;obtain⟨P,em,rfl⟩:=c1 ag;have q':jq f.k g.b F0 P.F mm=[#[F0],#[P.F],#[bB g.b],pI mm.r.b.ends.length,mm.sp.toArray,pI (mm.r.b.ends.getLastD 0)]:=by unfold jq;simp only;simp_all
  rw[q']at mc;obtain⟨a0,a1,a2,a3,a4,a5,t0,t1,t2,t3,t4,t5,ec,⟨r0,k0⟩,⟨r1,k1⟩,⟨r2,H⟩,⟨r3,J⟩,⟨r4,S⟩,⟨r5,Q⟩⟩:=aom mc;have t':gA f.k=242:=by unfold gA;rw[aA,aA,aA,aA,aA,aA,aI x]
  have I:∀O:Rb,cF f.k O=[(ints O.ends,Y6)]:=λO=>by simp_all[cF,aE,ag,aI]
  have ep:∀a b:Rb,eI f.k a b↔b.ends.length<=a.ends.length/\b.ends.dropLast <+: a.ends/\b.ends.length<=4096:=λa b=>by simp_all[eI,aE,ag,aI]
  have eS:∀X h sp(O:Rb),iJ f.k X h sp O↔∃t,sp=[.bool (kq O).au,ah (kq O).num,.string (bs (kq O).text),Sl.v t]/\aS X h t (kq O).items:=λX h sp O=>by unfold iJ;rw[aA,aI x]
  have d:=d x;rw[<-x]at d;rw[ep]at pr;obtain⟨s0,p⟩:=ri G.ls (I _);obtain⟨A0,L⟩:∃A0,g.ST=[A0]:=by
    have:=G.ls.2;rw[I]at this
    match hg:g.ST,this with
    |[a],_=>exact⟨a,rfl⟩
  obtain⟨A,w,hA,hw,y'⟩:=sM G rfl;rw[eF,ec,t'];have hS:∀c,(c=g.b\/g.T0 c)->c<h.size->c=g.b\/g.T0 c:=λc q _=>q;have N:=G.av g.gq hS g.fF ag;have nA:∀c,g.R c->¬A c:=λc q=>G.t.ne g.fF (g.fk hA) ag c q;have nR:∀{c:Nat},g.R c->c≠g.b:=λq e=>G.t.kW g.fF (e▸q);have nX:=G.av g.gq hS g.iM ag;have j':∀c,g.X c->¬A c:=λc q=>G.t.ne g.iM (g.fk hA) ag c q;have d':∀c,g.X c->c≠g.b:=λc q e=>G.t.kW g.iM (e▸q);refine aut (Sy.of (aj k0 rfl ?_))
  show c8 aG F0 [] h _ _
  refine xK G KF bm λh1 u1 G1=>?_;have k1:=u1.bq k1 (N _ r1 k1.lt);have H:=u1.bq H (N _ r2 H.lt);have J:=u1.bq J (N _ r3 J.lt);have S:=u1.bq S (N _ r4 S.lt);have Q:=u1.bq Q (N _ r5 Q.lt);have d:=d.fr u1 nX;have W:=G1.aN 0 M A w rfl hA hw;have e0:((some mm).bind λmm=>mm.ks[0]?)=some P:=by show mm.ks[0]? =some P;rw[em];rfl
  rw[e0]at W;apply aj k1 rfl
  show c8 aG P.F [] h1 _ _
  refine C.back W λh2 u2 M2=>?_;have G2:=G1.Iu KF hA u2 λM' w' q1 q2=>by
    simp at q1;subst q1;have q2:=q2;rw[hw]at q2;cases q2;rw[e0];exact M2
  have H:=u2.bq H (nA _ r2);have J:=u2.bq J (nA _ r3);have S:=u2.bq S (nA _ r4);have Q:=u2.bq Q (nA _ r5);have d:=d.fr u2 λc q _=>j' c q;have o0:=G2.sl 0 s0 A0 (ints r.b.ends,Y6) (by simp[p]) (by simp[L]) (by rw[I];rfl)
  have n0:=o0.n;have p1:=pr.2.2;simp only[ints,cC]at n0;refine aj H rfl (aj H rfl (aj H rfl ?_));refine bO ?_;obtain⟨t,g',v'⟩:=(eS _ _ _ _).1 d;rw[g']at S;refine G2.dI (i:=0) rfl (by simp[p]) (aj J rfl (o0.cut ag rfl λj u' c'=>eW S ?_))
  have p':(ints r.b.ends).take mm.r.b.ends.length=ints (r.b.ends.take mm.r.b.ends.length):=by unfold ints;rw[<-Jv]
  rw[p']at c';have a':(r.b.ends.take mm.r.b.ends.length).length=mm.r.b.ends.length:=by rw[mP];omega
  have U:mm.r.b.ends.dropLast <+: r.b.ends.take mm.r.b.ends.length:=ags pr.2.1 (List.take_prefix _ _) (by rw[a'];simp)
  refine G2.uW (i:=0) (s:=s0) (by simp[p]) G2.B.k λh3 Z m'=>?_
  have G3:=G2.wR (x':=(ints (r.b.ends.take mm.r.b.ends.length),Y6)) (r':=((r.qA mm.r).eZ 0 P.r).up λb=>{b with ends:=r.b.ends.take mm.r.b.ends.length}) KF (by simp[L]) c' Z m' ⟨rfl,rfl,rfl,rfl⟩ (by rw[I,I];rfl) rfl rfl λV e _=>by rw[ep];cases e;exact⟨by show _<=(r.b.ends.take mm.r.b.ends.length).length;omega,U,p1⟩
  have H:=Z.bq H (nR r2);have J:=Z.bq J (nR r3);have Q:=Z.bq Q (nR r5);have d:=d.fr Z.fr λc q _ e=>d' c q e;refine mw S (Z.bq S (nR r4)) (mw (by assumption) H ?_)
  obtain⟨t6,i',_⟩:=(eS _ _ _ _).1 G3.sp;refine xU (G3.aa3 (.inr x) (by simp[p]) i' (by simp[one,Sl.v]) G3.B.k λh4 Y l'=>?_)
  have d:=d.fr Y.fr λc q _ e=>d' c q e;rw[g']at d;have G4:=G3.spB (r':=((r.qA mm.r).eZ 0 P.r).up λb=>{b with ends:=r.b.ends.take mm.r.b.ends.length,aH:=mm.r.b.aH}) KF (Y.fr.mono λc q _=>.inl q) l' ⟨rfl,rfl,rfl,rfl⟩ (by rw[I,I];rfl) rfl (d.eq rfl) (λV e q=>by rw[ep]at q ⊢;exact q) λ_=>Y.fr
  have H:=Y.bq H (nR r2);have J:=Y.bq J (nR r3);have Q:=Y.bq Q (nR r5);have tf:=(((u1.mono λc q _=>q.elim (λe=>e▸G.t.tb) λq=>G.kr g.gq q).trans (u2.mono λc q _=>G.kr (g.fk hA) q)).trans (Z.fr.mono λc q _=>q▸G.t.tb)).trans (Y.fr.mono λc q _=>q▸G.t.tb);have eK:∀(r9:Raw),r9.kids=r.kids->(r9.eZ 0 P.r).kids=mm.r.kids:=by
    intro r9 e9;rw[ks.1,em];obtain⟨b9,k'⟩:=r9;have hl:=G.lk.2.2;rw[<-e9]at hl
    match k',hl with
    |[y],_=>rfl
  refine Ro.of (aj J rfl (cE (λcc=>?_) λcc=>?_))
  · apply aj H rfl;refine bO ?_;refine G4.dI (i:=0) (s:=j) rfl (by simp[p]) (aj J rfl (aY ag ag (aj Q rfl ?_)))
    have os:=G4.sl 0 j A0 (ints (r.b.ends.take mm.r.b.ends.length),Y6) (by simp[p]) (by simp[L]) (by rw[I];rfl)
    have sn:=u';obtain⟨bb,f'⟩:∃bb,j.a=some (aF bb):=by
      rcases os with⟨e,_⟩|⟨bb,_,o⟩
      ·rw[e]at sn;simp[Sl.nil]at sn;omega
      ·exact⟨bb,o.1⟩
    unfold Ix;rw[f'];refine⟨ag,ag,?_⟩
    rw[bz];refine os.M0 ag ⟨bb,f',by congr 1;omega⟩ rfl λh5 t5 b' _=>?_
    have o':mm.r.b.ends≠[]:=λe=>by rw[e]at cc;simp at cc
    have e4:(ints (r.b.ends.take mm.r.b.ends.length)).set (j.n-1) (ah ((mm.r.b.ends.getLastD 0:Nat):Int))=ints mm.r.b.ends:=by
      obtain⟨l,y,e'⟩:∃l y,mm.r.b.ends=l++[y]:=⟨_,_,(zO o').symm⟩;rw[e']at U a' ⊢;rw[List.dropLast_concat]at U;obtain⟨z,hz⟩:=U;have n':z.length=1:=by have:=sY List.length hz;rw[ij,a']at this;simp at this;exact this
      rw[<-hz]
      match z,n' with
      | [u],_=>
        have hn:j.n-1=l.length:=by rw[sn,e'];simp
        rw[hn];simp[ints]
    rw[e4]at b';have G5:=G4.MZ (r':=((r.qA mm.r).eZ 0 P.r).up λb=>{b with ends:=mm.r.b.ends,aH:=mm.r.b.aH}) (i:=0) (s:=j) (A:=A0) (x':=(ints mm.r.b.ends,Y6)) KF (by simp[L]) (by simp[p]) t5 b' ⟨rfl,rfl,rfl,rfl⟩ (by rw[I,I];rfl) rfl rfl λV e _=>by rw[ep];cases e;exact⟨cr _,Ph _,p1⟩
    refine hk h5 (tf.trans (t5.mono λc q _=>G.kr (g.hO (i:=0) (by simp[L])) q)) ⟨_,by rfl,G5.conv (r':=mm.r) ⟨rfl,rfl,rfl,rfl⟩ (by rw[I,I];rfl) (eK _ rfl).symm (λ_=>rfl) λV e _=>by cases e;rw[ep];exact⟨cr _,Ph _,p1⟩⟩
  ·have he:mm.r.b.ends=[]:=jw.1 ag;refine hk h4 tf ⟨_,by rfl,G4.conv (r':=mm.r) ⟨rfl,rfl,rfl,rfl⟩ (by rw[I,I,he];rfl) (eK _ rfl).symm (λ_=>rfl) λV e _=>by cases e;rw[ep];exact⟨cr _,Ph _,p1⟩⟩
end
section
variable {c:ak} {M:cO} {T:aR} {h0 h':Hp} {vs:aQ} {m:fN} {g:dO} {w:Value}
abbrev Ow(d:bH)(p:Sl×Sl×Sl):List Value:=[ah d.len,ah d.off,ah d.au,Sl.v p.1,Sl.v p.2.1,Sl.v p.2.2]
theorem iB.at{n:Nat}{cs:Array Value}{d:bH}{p:Sl×Sl×Sl}(k:aO h a cs el)(z:∀i v,(Ow d p)[i]? =some v->cs[n+i]? =some v)(v:eD D E h p d):iB D E h ⟨a,n,none⟩ d:=by
 obtain⟨x,o,u,aZ,j,ds⟩:=d;unfold iB;refine⟨p.1,p.2.1,p.2.2,λi w e=>?_,v.b,v.c,v.x⟩;rw[bz,gU k];exact z i w (by simpa[Ow,yP,bH.len,bH.off,bH.au]using e)
theorem dD.two{d e:bH}{p q:Sl×Sl×Sl}(k:aO h a (Ow d p++Ow e q).toArray el)(j:D a)(v:eD D E h p d)(w:eD D E h q e):dD D E h ⟨some (aF a),2,2⟩ [d,e]:=by
 unfold dD;refine⟨rfl,cr _,_,rfl,j,iB.at k (λi v b=>?_) v,?_⟩
 ·grind
 ·unfold ju;refine⟨?_,by unfold ju;trivial⟩
  rw[bz];grind[iB.at]
theorem HR:∀(n:Nat)(a:aQ),a.length=n->(cR a).2.length<=a.length/\∀x∈(cR a).2,x<=a.length:=by
  intro n
  induction n with
  |zero=>intro a i;rw[jw.1 i];exact⟨cr _,λx d=>by simp[cR]at d⟩
  | succ n o=>
    intro j i;obtain⟨a,v,rfl⟩:∃a v,j=a++[v]:=by
      rcases List.eq_nil_or_concat j with e|⟨l,b,e⟩
      all_goals grind
    have k:=o a (by simpa using i)
    rw[AQ];unfold wU;have hl:=(AR a.length a rfl).1;have s:=(AR a.length a rfl).2;split
    · rename_i q
      have p:(cR a).2≠[]:=bZ
      grind[List.mem_singleton,List.dropLast_subset]
    grind
theorem asz(N:f.k=20)(a':f.cs=[c])(C:MC c M):wL f (cX f [M]):=by
 intro T h v vs m K Kp hc H hk;obtain⟨g,rfl,G⟩:=H;have KF:=ng C;have ed:bI f.k=nV:=by unfold bI;simp[*]
 have es:∀rb:Rb,cF f.k rb=[(ints rb.ends,Y6)]:=λrb=>by unfold cF;simp[*]
 obtain⟨W,L⟩:=ri G.ls (es _);obtain⟨A0,e'⟩:∃A,g.ST[0]? =some A:=⟨_,bL (by rw[G.ls.2,es];simp)⟩
 have ef:f.dn (f.st vs)=.mk (f.st vs).b.rows 0 0 [] (.mk (f.st vs).b.ends.length 0 0 [[],laidB (f.st vs).b.ends 4] [] []::hY f vs) []:=by rw[Oy N,fC];rfl
 rw[ef]at hk;have ee:(f.st vs).b.ends=(cR vs).2:=by rw[fC];simp only[aM];simp[*]
 have n4:=((gh f vs).1 hc).n4;have el:(f.st vs).b.ends.length<=70000:=by have:=(HR _ vs rfl).1;rw[ee];omega
 have eb:∀x∈(f.st vs).b.ends,x<2^63:=λx d=>by rw[ee]at d;have:=(HR _ vs rfl).2 x d;omega
 have q:mC (.iface nV (bB g.b)) h K Kp:=by
  refine atm (SB.of (aJ λY F e1 g1 k2 _=>?_));refine bO ?_;have d':=k2.lt;have Gx:∀{d:Hp},aB F d->bU f [M] T d (f.st vs) m g:=λO=>G.fr KF (bx (aq g1 O)) λ_ _ _=>id;have o0:∀{d:Hp},aB F d->Os A0 d W (ints (f.st vs).b.ends) Y6:=λO=>(Gx O).sl 0 W A0 (ints (f.st vs).b.ends,Y6) (by simp[L]) e' (by rw[es];rfl)
  have n0:=(o0 (cW _)).n;rw[ints,cC]at n0;have fin:∀{d:Hp}{E:Nat}{b:Sl},AB h d Y E (f.st vs).b.ends.length 0 b [[],laidB (f.st vs).b.ends 4]->Ad K Kp (bD g.b) (aF Y) (aF E) d:=by
   intro d E b B;apply Ad.of;refine bO ?_;obtain⟨c2,t2,Z,e2⟩:=B.k2;have d':=Z.lt;have c':=B.k3.lt;have V:=G.fr KF (bx B.g) λ_ _ _=>id;obtain⟨A,w,hA,hw,f'⟩:=sM V rfl;have aN:=V.aN 0 M A w rfl hA hw;have R:f.cs[0]? =some c:=by rw[a'];rfl
   rw[mM R vs]at aN;have ek:hY f vs=[c.dn (c.st (dB f.k f.w (dh f.cs) 0 vs))]:=by
    have F:=tY (vs:=vs) R;have X:=DQ f vs;rw[a']at X
    match hq:hY f vs,X with
    |[y],_=>rw[hq]at F;simp at F;rw[F]
   rw[ek]at hk;refine vK V.B.k (fB B.k3 (V.lN (i:=1) rfl (.inr (.inr (.inr N))) (by simp[L]) hw (C.done (fh R hc) aN λp h3 o D3=>bR B.k3 o (bR V.B.k o (aJ λb' h4 e4 z k4 _=>bR (V.B.k.ai o) z ?_)))))
   have z3:=o.1;have U:=aq o z;refine iH (Z.ai U) e2 λh5 o5 k5=>fB k5 (hk (Sl.nil,⟨some (aF b'),2,2⟩,Sl.nil) h5 (bK (aq B.g U) o5 B.l.1) ⟨Jn,?_,jv _⟩);have d2:dD (λc=>h.size<=c/\c≠Y) (λc=>h.size<=c/\c≠Y) h4 ⟨some (aF b'),2,2⟩ [.mk (f.st vs).b.ends.length 0 0 [[],laidB (f.st vs).b.ends 4] [] [],c.dn (c.st (dB f.k f.w (dh f.cs) 0 vs))]:=
    dD.two (p:=(b,Sl.nil,Sl.nil)) k4 ⟨ag,ag⟩ ⟨(B.bf.gr U).mo (λc q=>⟨q.1,q.2.1⟩) λc q=>⟨q.1,q.2.1⟩,jv _,jv _⟩ ((D3.gr z).fr (iW _ _) (λ_ _ _=>id) (λ_ _ _=>id) (λc(q:d.size<=c)=>⟨ag,ag⟩) λc(q:d.size<=c)=>⟨ag,ag⟩)
   exact dD.fr o5.fr (λc q _ e=>q.2 e) (λc q _ e=>q.2 e) (λc q=>q.1) (λc q=>q.1) _ d2
  have q5:∀{d:Hp}{E:Nat}{b:Sl},aB F d->aO d E cY cg->F.size<=E->fu (Ex F E) (Ex F E) d b [[],laidB (f.st vs).b.ends 4]->cJ d (aF E) (W.n:Int) 0 0 b Sl.nil Sl.nil (Ad K Kp (bD g.b) (aF Y) (aF E)):=
   λO J l3 Q=>by rw[n0];exact Jl g1 k2 rfl ag O J l3 Q λh'=>fin
  have I:=λ{d:Hp}(O:aB F d)=>(Gx O).B.k;have vn:∀{d:Hp}{D:aR},eL D d Sl.nil (bv []):=λ{d D}=>⟨xW d,λq=>absurd rfl q⟩;refine(Gx (cW _)).dI (i:=0) (s:=W) rfl (by simp[L]) ((Gx (cW _)).dI (i:=0) (s:=W) rfl (by simp[L]) ⟨xe (w:=4) (o0 (cW _)) el bh eb λt X j=>bR (I (cW _)) j.g ⟨?_,?_⟩,aJ λE X e2 P J _=>bR (I (cW _)) P (bR (I (cW _)) P (xe (w:=4) (o0 P) el bh eb λt h3 j=>bR (I P) j.g ?_))⟩)
  ·have z2:=j.g.1;refine oy (D:=λc=>F.size<=c) (s:=Sl.nil) vn (j.lq.mo λc q=>q) z2 λa h3 o Q=>bR (I j.g) o (aJ λE h4 e4 z J _=>bR (I (aq j.g o)) z (bR (I (aq j.g o)) z ?_));have z3:=o.1;exact q5 (aq (aq j.g o) z) J ag (Q.kN z ag λc q=>q)
  ·have z2:=j.g.1;exact aJ λE h3 e3 o J _=>bR (I j.g) o (bR (I j.g) o (oy (D:=Ex F E) (s:=Sl.nil) vn (j.lq.kN o ag λc q=>q) ⟨ag,ag⟩ λa h4 z Q=>bR (I (aq j.g o)) z (q5 (aq (aq j.g o) z) (J.ai z) ag Q)))
  ·have z2:=P.1;have z3:=j.g.1;have c':=J.lt;exact oy (D:=Ex F E) (s:=Sl.nil) vn (j.lq.mo λc(q:X.size<=c)=>⟨ag,ag⟩) ⟨ag,ag⟩ λa h4 z Q=>bR (I (aq P j.g)) z (q5 (aq (aq P j.g) z) ((J.ai j.g).ai z) ag Q)
 rw[<-ed]at q;exact q
end
noncomputable def afh:Code:=Tryz.f239.body.getD .skip
noncomputable abbrev UE:Code:=sub [1,0] afh
def pS(VB V2:lU)(b a1:Nat)(eM:Sl)(w:Value)(q0:Bool)(q1:Int)(q2:eU)(q3:Sl):List Cl:=[vb 8 b,vb 9 b,vc 10 (bB b),.vl 11 VB,vb 12 b,vb 13 b,vc 14 (.pointer (some ⟨b,16,none⟩)),vc 15 (Sl.v eM),vc 16 (ah (eM.n:Int)),vb 17 b,vb 18 b,vc 19 (.pointer (some ⟨b,18,none⟩)),vc 20 (.agg #[.bool q0,ah q1,.string q2,Sl.v q3]),vb 21 b,vb 22 b,vc 23 (.pointer (some ⟨b,17,none⟩)),vc 24 (w),.vl 25 V2,.al 3 #[.nilFunc] 1 22 3,.al 4 #[ah 0] 3 23 8,.al 5 gl 43 24 12,.al 6 #[.nilFunc] 1 25 17,.st 18 3,.st 19 8,.st 20 12,.st 21 17]
abbrev ayp(b a1:Nat):Fr:=([some (pA b),some (pA a1),some .nilFunc]++nn 34)
def acm:List (Nat×OT):=[(4,OT.l (List.range 9) .fin)]
theorem SA.mk{K:de}{eM:Sl}{w:Value}{q0:Bool}{q1:Int}{q2:eU}{q3:Sl}{T V2:lU}{HE:Int->Prop}(f':∀{r:Hp}{X:Sl->Prop},aB h r->X eM->Ld r ⟨b,16,none⟩ Sl.v X)(l17:∀{r:Hp}{X:Value->Prop},aB h r->X w->Ld r ⟨b,17,none⟩ id X)(l18:∀{r:Hp}{X:Bool->Int->ByteArray->Sl->Prop},aB h r->X q0 q1 q2 q3->bN r ⟨b,18,none⟩ X)(sB:lV h T)(cB:One T)(HB:∀{E:Hp}{X:de},aB h E->(∀v r,aB E r->T v E.size r.size r->X v r)->qY (bD b) E X Kp)(s2:lV h V2)(c2:One V2)(H2:∀{E:Hp}{X:de},aB h E->(∀v r,aB E r->V2 v E.size r.size r->X v r)->kU w E X Kp)
  (o':∀{r:Hp}{X:Int->Prop},aB h r->0<eM.n->(∀e:Int,HE e->X e)->Ix eM.a eM.n 1 ((eM.n:Int)-1) λa=>Ld r a mI X)
  (hn:eM.n<2^62) (B:∀caps(e:Int)F0 KF l0 u0 l2 u2 r,(0<eM.n->HE e)->(eM.n=0->e=0)->tu h r caps [#[F0],#[KF],#[pA b],#[ah (eM.n:Int)],#[.bool q0,ah q1,.string q2,Sl.v q3],#[ah e]] T V2 F0 KF l0 u0 l2 u2->K (.func (.func 242) #[] (caps.map pA).toArray) r):SA (bD b) h K Kp:=by
 refine arz (bW:=[]) (o:=acm) (zs:=[.nilFunc]) (Kv:=K) Tryz.func239 aX (S:=aL h #[pA b] 109 λj E=>yZ aG (pe UE) (λfr h=>fT aG [] (GY aG acm) none (sub [1,1] afh) (mF aG [.tmp 2] [.nilFunc] K) Kp fr h) Kp (pe UE).size (List.range (pe UE).size) ([some (pA b),some (.pointer (some j)),some .nilFunc]++nn 34) E) ?_ aX aX;refine aJ λj E e1 u Q _=>zh (C:=pS T V2 b j eM w q0 q1 q2 q3) aX aX aX ⟨
  o0 1 (pA j) λK h g B=>jV (Q.ai g) B,
  oE 0,
  oE 1,
  oF 2 (sB.mo u.1) λK h g B=>HB (aq u g) B,
  o0 1 (pA j) λK h g B=>jV (Q.ai g) B,
  oE 4,
  oE 5,
  oX 6 λK h g B=>f' (X:=λs=>K (some s.v) h) (aq u g) B,
  oE 7,
  o0 1 (pA j) λK h g B=>jV (Q.ai g) B,
  oE 9,
  oE 10,
  oX 11 λK h g B=>l18 (X:=λx0 x1 x2 x3=>K (some (.agg #[.bool x0,.int .i64 x1,.string x2,Sl.v x3])) h) (aq u g) B,
  o0 1 (pA j) λK h g B=>jV (Q.ai g) B,
  oE 13,
  oE 14,
  oX 15 λK h g B=>l17 (X:=λs=>K (some s) h) (aq u g) B,
  oF 16 (s2.mo u.1) λK h g B=>H2 (aq u g) B,
  oA,
  oA,
  oA,
  oA,
  oS true cB,
  oS false (ze _),
  okS (raw:=false) aX rfl rfl (λv lo L h q=>by rw[show v=_ from q];exact⟨rfl,λy hy=>by simp[Value.cells,Sl.v]at hy;rcases hy with rfl|rfl|rfl|rfl <;> rfl,λe=>by cases e⟩),
  oS true c2,
  trivial⟩ λfr h2 F A lo L M=>?_
 have d:∀{i:Nat},i∉([]:cV):=nS;obtain⟨p0,q0',y0,z0⟩:_/\_/\_/\_:=M.c 0 _ rfl d;rw[(q0':F 0=_)]at p0;obtain⟨p1,q1',y1,z1⟩:_/\_/\_/\_:=M.c 1 _ rfl d;rw[(q1':F 1=_)]at p1;obtain⟨p2,z',y2,z2⟩:_/\_/\_/\_:=M.c 2 _ rfl d;rw[(z':F 2=_)]at p2;obtain⟨p3,W,y3,z3⟩:_/\_/\_/\_:=M.c 3 _ rfl d;obtain⟨p4,y',y4,z4⟩:_/\_/\_/\_:=M.c 4 _ rfl d;rw[(y':F 4=_)]at p4;obtain⟨p5,x',y5,z5⟩:_/\_/\_/\_:=M.c 5 _ rfl d;rw[(x':F 5=_)]at p5;obtain⟨p6,w',y6,z6⟩:_/\_/\_/\_:=M.c 6 _ rfl d;rw[(w':F 6=_)]at p6;obtain⟨p7,v',y7,z7⟩:_/\_/\_/\_:=M.c 7 _ rfl d;rw[(v':F 7=_)]at p7;obtain⟨p8,V,y8,z8⟩:_/\_/\_/\_:=M.c 8 _ rfl d;rw[(V:F 8=_)]at p8;obtain⟨p9,u',y9,z9⟩:_/\_/\_/\_:=M.c 9 _ rfl d;rw[(u':F 9=_)]at p9;obtain⟨e',n',y10,z10⟩:_/\_/\_/\_:=M.c 10 _ rfl d;rw[(n':F 10=_)]at e';obtain⟨d',m',y11,z11⟩:_/\_/\_/\_:=M.c 11 _ rfl d;rw[(m':F 11=_)]at d';obtain⟨c',D,y12,z12⟩:_/\_/\_/\_:=M.c 12 _ rfl d;rw[(D:F 12=_)]at c';obtain⟨b',l',y13,z13⟩:_/\_/\_/\_:=M.c 13 _ rfl d;rw[(l':F 13=_)]at b';obtain⟨a',k',y14,z14⟩:_/\_/\_/\_:=M.c 14 _ rfl d;rw[(k':F 14=_)]at a';obtain⟨Z,j',y15,z15⟩:_/\_/\_/\_:=M.c 15 _ rfl d;rw[(j':F 15=_)]at Z;obtain⟨Y,i',y16,z16⟩:_/\_/\_/\_:=M.c 16 _ rfl d;rw[(i':F 16=_)]at Y;obtain⟨p17,x,y17,p'⟩:_/\_/\_/\_:=M.c 17 _ rfl d;obtain⟨p18,y18,I⟩:_/\_/\_:=M.c 18 _ rfl d;obtain⟨p19,y19,p⟩:_/\_/\_:=M.c 19 _ rfl d;obtain⟨p20,y20,H⟩:_/\_/\_:=M.c 20 _ rfl d;obtain⟨p21,y21,G⟩:_/\_/\_:=M.c 21 _ rfl d;rw[aE d,(cB _ _ _ _ W).2]at I;rw[aE d,(V:F 8=_)]at p;rw[aE d,(D:F 12=_)]at H;rw[aE d,(c2 _ _ _ _ x).2]at G;have p_0:=M.o.2 0 (by simp[pS,Cl.dst])
 have p_1:=M.o.2 1 (by simp[pS,Cl.dst])
 have p_2:=M.o.2 2 (by simp[pS,Cl.dst])
 have efr:fr=([some (pA b),some (pA j),some .nilFunc,some (pA (A 18)),some (pA (A 19)),some (pA (A 20)),some (pA (A 21)),none,some (pA b),some (pA b),some (bB b),some (F 3),some (pA b),some (pA b),some (.pointer (some ⟨b,16,none⟩)),some (Sl.v eM),some (ah (eM.n:Int)),some (pA b),some (pA b),some (.pointer (some ⟨b,18,none⟩)),some (.agg #[.bool q0,ah q1,.string q2,Sl.v q3]),some (pA b),some (pA b),some (.pointer (some ⟨b,17,none⟩)),some (w),some (F 17)]++nn 11):=aru (by rw[M.o.1];rfl) λi L=>by
  match i,L with
  |0,_=>exact p_0
  |1,_=>exact p_1
  |2,_=>exact p_2
  |3,_=>exact p18
  |4,_=>exact p19
  |5,_=>exact p20
  |6,_=>exact p21
  |7,_=>exact M.o.2 7 (by simp[pS,Cl.dst])
  |8,_=>exact p0
  |9,_=>exact p1
  |10,_=>exact p2
  |11,_=>exact p3
  |12,_=>exact p4
  |13,_=>exact p5
  |14,_=>exact p6
  |15,_=>exact p7
  |16,_=>exact p8
  |17,_=>exact p9
  |18,_=>exact e'
  |19,_=>exact d'
  |20,_=>exact c'
  |21,_=>exact b'
  |22,_=>exact a'
  |23,_=>exact Z
  |24,_=>exact Y
  |25,_=>exact p17
  |26,_=>exact M.o.2 26 (by simp[pS,Cl.dst])
  |27,_=>exact M.o.2 27 (by simp[pS,Cl.dst])
  |28,_=>exact M.o.2 28 (by simp[pS,Cl.dst])
  |29,_=>exact M.o.2 29 (by simp[pS,Cl.dst])
  |30,_=>exact M.o.2 30 (by simp[pS,Cl.dst])
  |31,_=>exact M.o.2 31 (by simp[pS,Cl.dst])
  |32,_=>exact M.o.2 32 (by simp[pS,Cl.dst])
  |33,_=>exact M.o.2 33 (by simp[pS,Cl.dst])
  |34,_=>exact M.o.2 34 (by simp[pS,Cl.dst])
  |35,_=>exact M.o.2 35 (by simp[pS,Cl.dst])
  |36,_=>exact M.o.2 36 (by simp[pS,Cl.dst])
  |i+37,L=>exact absurd L (by simp[nn])
 subst efr;have g':=Q.ai M.g;have gM:=aq u M.g;refine cast aX (show aL h2 #[ah 0] 3 λk h3=>St h3 k (ah 0) λf=>Ld f ⟨A 19,0,none⟩ mI λt'=>aW (t'>0) (Ld f (aF j) Value.pointer λs'=>NN s' λp29=>Ld f (p29.add 16) Sl.v λU=>Ld f ⟨A 19,0,none⟩ mI λr'=>aP (r'-1) λq'=>Ix U.a U.n 1 q' λa34=>Ld f a34 mI λO=>St f k (ah O) λm=>K (.func (.func 242) #[] #[pA (A 18),pA (A 21),pA (j),pA (A 19),pA (A 20),cU k]) m) (K (.func (.func 242) #[] #[pA (A 18),pA (A 21),pA (j),pA (A 19),pA (A 20),cU k]) f)from(aJ λk h3 e7 g3 J _=>dN J aC rfl λf o4 J=>?_));have gM1:=gM.1;have t:aB h2 f:=bK g3 o4 ag;have J:aO f k #[.int .i64 0] 3:=by simpa using J
 have a7l:=J.lt;have fin:∀(e:Int)m,eJ k f m\/m=f->(0<eM.n->HE e)->(eM.n=0->e=0)->aO m k #[.int .i64 e] 3->K (.func (.func 242) #[] #[pA (A 18),pA (A 21),pA (j),pA (A 19),pA (A 20),.pointer (some ⟨k,0,none⟩)]) m:=by
  intro e m o5 he he0 k5;have P:Tn (λc=>c=k) f m:=by rcases o5 with o|rfl;exact o.fr;exact iW _ _
  have N:aB h2 m:=((bx t:Tn No h2 f).trans' P λc q fR=>by omega).ai
  have z5:=N.1;refine B [A 18,A 21,j,A 19,A 20,k] e (F 3) (F 17) (lo 3) (L 3) (lo 17) (L 17) m he he0 ⟨aq gM N,rfl,λi a l=>?_,⟨?_,by omega,by omega⟩,⟨?_,by omega,by omega⟩,M.vv 3 17 _ _ _ _ rfl rfl d d bh⟩
  ·rcases i with _|_|_|_|_|_|i
   ·cases l;exact⟨by omega,M.av 18 17 _ _ _ _ _ _ _ rfl rfl d d,_,_,rfl,I.ai N⟩
   ·cases l;exact⟨by omega,M.av 21 17 _ _ _ _ _ _ _ rfl rfl d d,_,_,rfl,G.ai N⟩
   ·cases l;exact⟨by omega,λq=>by have:=Q.lt;omega,_,_,rfl,g'.ai N⟩
   ·cases l;exact⟨by omega,M.av 19 17 _ _ _ _ _ _ _ rfl rfl d d,_,_,rfl,p.ai N⟩
   ·cases l;exact⟨by omega,M.av 20 17 _ _ _ _ _ _ _ rfl rfl d d,_,_,rfl,H.ai N⟩
   ·cases l;exact⟨by omega,λq=>by omega,_,_,rfl,k5⟩
   ·simp at l
  ·exact sB (λc=>c=k) _ _ _ _ _ (sB No _ _ _ _ _ W ag z3 (bx t) λ_ q=>q.elim) ag (by have:=t.1;omega) P λc q=>⟨by omega,by omega⟩
  ·exact s2 (λc=>c=k) _ _ _ _ _ (s2 No _ _ _ _ _ x ag p' (bx t) λ_ q=>q.elim) ag (by have:=t.1;omega) P λc q=>⟨by omega,by omega⟩
 refine aj (p.ai t) rfl (aK (λR=>?_) λR=>?_)
 ·have R:=aU R;refine aj (g'.ai t) rfl ?_;refine bO ?_;refine f' (aq gM t) (aj (p.ai t) rfl (aY ag ag ?_));have q:=o' (X:=λO=>St f ⟨k,0,none⟩ (.int .i64 O) λm=>K (.func (.func 242) #[] #[pA (A 18),pA (A 21),pA (j),pA (A 19),pA (A 20),.pointer (some ⟨k,0,none⟩)]) m) (aq gM t) ag λe he=>dN J aC rfl λm o5 k5=>fin e m (.inl o5) (λ_=>he) (λz=>by omega) (by simpa using k5)
  exact q
 ·have R:=aU R;exact fin 0 f (.inr rfl) (λq=>by omega) (λ_=>rfl) J
section
variable {c:ak} {KM:List cO} {M:cO}
theorem aou(d:f.k=20)(E:f.cs=[c])(C:MC c M):wj f (cX f [M]):=by
 intro T h v vs K Kp hc H hk;obtain⟨g,rfl,G⟩:=H;have R:=ng C;have ed:bI f.k=nV:=by unfold bI;rw[aA,aA,aA,aA,aA,aA,aA,aI d]
 have eb:gA f.k=242:=by unfold gA;rw[aA,aA,aA,aA,aA,aA,aI d]
 have N:∀o:Rb,cF f.k o=[(ints o.ends,Y6)]:=λo=>by unfold cF;rw[aA,dU]
 have eS:∀X h sp(o:Rb),iJ f.k X h sp o↔∃t,sp=[.bool (kq o).au,ah (kq o).num,.string (bs (kq o).text),Sl.v t]/\aS X h t (kq o).items:=λX h sp o=>by unfold iJ;rw[aA,aI d]
 obtain⟨u,j⟩:=ri G.ls (N _);obtain⟨A,w,U,P,c'⟩:=sM G rfl;obtain⟨A0,Y⟩:∃A,g.ST[0]? =some A:=⟨_,bL (by rw[G.ls.2,N];exact Nat.one_pos)⟩
 have I:f.cs[0]? =some c:=by rw[E];rfl
 have O:u.n=(f.st vs).b.ends.length:=by have:=G.oq (i:=0) (s:=u) (by simp[j]) (by rw[N];rfl);rw[this,ints,cC]
 have aN:=G.aN 0 M A w rfl U P;have r:=mM I vs;have Z:∀c,A c->c<h.size:=λc q=>G.t.l (bS (g.fk U)) q;obtain⟨t,J,b'⟩:=(eS _ _ _ _).1 G.sp;have n4:=((gh f vs).1 hc).n4;have ee:(f.st vs).b.ends=(cR vs).2:=by rw[fC];simp only[aM];rw[aA,aA,aA,aA,aI d]
 have el:(f.st vs).b.ends.length<=4096:=by have:=(HR _ vs rfl).1;rw[ee];omega
 have p:∀{V:Hp},aB h V->bU f [M] T V (f.st vs) none g:=λgr=>G.fr R (bx gr) λ_ _ _=>id;have q:kU (.iface nV (bB g.b)) h K Kp:=by
  rw[r]at aN;refine atd (SA.mk (eM:=u) (q0:=(kq (f.st vs).b).au) (q1:=(kq (f.st vs).b).num) (q2:=bs (kq (f.st vs).b).text) (q3:=t) (V2:=lI M A w ((f.st vs).aN 0)) (HE:=λe=>e=(((f.st vs).b.ends.getLastD 0:Nat):Int)) (λgr y=>G.Bc (i:=0) R gr rfl (by simp[j]) y) (λgr y=>(p gr).lN (i:=1) rfl (.inr (.inr (.inr d))) (by simp[j]) P y) (λgr y=>?_) zK zL (λgr x=>xP G.B gr x) (lI.pX C.fr Z) lI.one (λgr x=>?_) (λgr hp x=>?_) ag λa' e F0 KF l0 u0 l2 u2 V he W Q=>?_)
  ·have L:=(p gr).XR (.inr d) (by simp[j])
   rw[J]at L;exact ig L y
  ·rw[r]at x;exact lI.call C (fh I hc) aN gr x
  ·have os:=(p gr).sl 0 u A0 (ints (f.st vs).b.ends,Y6) (by simp[j]) Y (by rw[N];rfl)
   have D:(f.st vs).b.ends≠[]:=λe=>by rw[e]at O;simp at O;omega
   refine os.sv.ix ag ag ?_ λa ha=>yz ha (x _ rfl);have e1:((u.n:Int)-1).toNat=(f.st vs).b.ends.length-1:=ag;rw[e1]
   show(ints (f.st vs).b.ends)[_]? =_
   unfold ints;rw[fy,<-YG,YB D,agt,YB D];rfl
  ·have ev:e=(((f.st vs).b.ends.getLastD 0:Nat):Int):=by
    by_cases z:u.n=0
    ·have:(f.st vs).b.ends=[]:=jw.1 ag;rw[W z,this];rfl
    ·exact he ag
   have:=G.NG R E U P Q (.inr (.inr (.inr d))) (by unfold eI;rw[aA,aA,aA,aA,aA,aI d];exact⟨cr _,Ph _,el⟩) (λ_=>by have:=(p Q.g).sp;rw[d]at this;exact this) (λF m=>?_) hk
   ·rw[eb]at this;exact this
   ·unfold jq;simp only;rw[aA,aA,aA,aA,aA,aI d];have e2:=J;rw[e2,O,ev];rfl
 rw[<-ed]at q;exact q
theorem ajK(e:bE f)(a:f.k=20)(i:f.cs=[c])(C:MC c M)(t:jj c):vX f (cX f [M]):=by
 intro T D h v vs m x s K u o d j H l p n;obtain⟨g,rfl,G⟩:=H;have r:bI f.k=nV:=by unfold bI;rw[aA,aA,aA,aA,aA,aA,aA,aI a]
 have q:mU (.iface nV (bB g.b)) x.au x.num (bs x.text) s h K u:=as4 (aaK e a i C t o d j G l (λc q _=>G.out (p c q)) n);rw[<-r]at q;exact q
theorem ah2(d:bE f)(a:f.k=20)(e:f.cs=[c])(C:MC c M)(n:jj c):vU f (cX f [M]):=by
 intro T h v vs m K o j H i;obtain⟨g,rfl,G⟩:=H;have l:bI f.k=nV:=by unfold bI;rw[aA,aA,aA,aA,aA,aA,aA,aI a]
 have q:mB (.iface nV (bB g.b)) h K o:=asV (ahT d a e C n j G i);rw[<-l]at q;exact q
theorem Np(a:fE f.k=true){vs:aQ}(d:f.can vs):(f.st vs).b.dQ.length<=70000/\(f.st vs).b.texts.length<=70000:=by
 have e:=((gh f vs).1 d).n4;rw[fC];simp only[aM,a,fY,cC];omega
theorem ajL(a:fE f.k=true):vX f (cX f []):=by
 intro T D h v vs m x s K w d p A H B C t;obtain⟨g,rfl,G⟩:=H;obtain⟨r,z,y,o,n,l,j,i,e⟩:=zb a;have u:bI f.k=oH:=by unfold bI;rw[aE r,aA,aE o,aE n,aE l,aE j,aE i,aE e]
 have q:mU (.iface oH (bB g.b)) x.au x.num (bs x.text) s h K w:=as5 (aaL a qu G (Np a d).1 (Np a d).2 (by have:=(iG d).1;omega) (by have:=aal x;omega) t)
 rw[<-u]at q;exact q
theorem ah3(p:bE f)(a:fE f.k=true):vU f (cX f []):=by
 intro T h v vs m K w d H r;obtain⟨g,rfl,G⟩:=H;obtain⟨s,y,x,o,n,l,j,i,e⟩:=zb a;have u:bI f.k=oH:=by unfold bI;rw[aE s,aA,aE o,aE n,aE l,aE j,aE i,aE e]
 have q:mB (.iface oH (bB g.b)) h K w:=by
  have t:¬(16<=f.k/\f.k<=20):=ag;rw[uP (.inr t)]at r;refine asW (Su.of ?_);refine bO ?_;exact ig G.uj (aaL a qu G (Np a d).1 (Np a d).2 (by have:=(iG d).1;omega) (by have:=acL p;omega) r)
 rw[<-u]at q;exact q
end
theorem awl{α:Type}{x:α}{K:α->Prop}(h:K x):Lt x K:=h
abbrev ZW(a:Nat)(t:TypeId)(h:Hp)(x:Int)(K:HP):Prop:=∀h',Tn (λc=>c=a) h h'->aO h' a #[.int .u64 x] t->K h'
section
variable {t:TypeId} {x:Int} {K:HP}
theorem Xr{c:Int}(k:aO h a #[.int .u64 x] t)(d:ZW a t h (hB x c) K):CR (bD a) c h K Kp:=by
 apply CR.of;simp only[n9];exact aj k rfl (dN k aC rfl λe o b=>d e o.fr (by simpa[hB]using b))
theorem Xa{n:Int}(k:aO h a #[.int .u64 x] t)(m:ZW a t h (hN 8 x n) K):CQ (bD a) n h K Kp:=by
 refine CQ.of (P1.bC (λy i f=>∃j:Nat,i=j/\j<=8/\Tn (λc=>c=a) h f/\∃z,aO f a #[.int .u64 z] t/\hN (8-j) z y=hN 8 x n) (λ_ i _=>8-i.toNat) ⟨0,rfl,ag,iW _ _,x,k,rfl⟩ ?_)
 rintro y i p ⟨j,rfl,r,b,z,d,e⟩ N o;refine cE (λc=>?_) λc=>?_
 ·refine Xr d λs g l=>js ag (awl (aY ag ag (o _ _ _ ⟨j+1,aC,ag,b.trans g,_,l,?_⟩ ag)))
  rw[<-e,show 8-j=8-(j+1)+1 by omega];rfl
 ·have:j=8:=ag;subst this;have q:z=hN 8 x n:=e;grind
def ZV(v:aD):Prop:=∀{D:aR}{a:Nat}{t:TypeId}{h:Hp}{s:Sl}{x:Int}{K:HP}{Kp:PK},aS D h s v.items->¬D a->v.bw<=2^40->aO h a #[.int .u64 x] t->ZW a t h (v.m9 x) K->Gl (bD a) v.au v.num (bs v.text) s h K Kp
theorem adL:∀(l m:aQ)(x:Int),ue (l++m) x=ue m (ue l x)
 |[],_,_=>by simp[ue]
 |v::l,m,x=>by simp only[uw,ue];exact adL l m _
theorem ap8(IH:∀x∈v.items,ZV x):ZV v:=by
 intro D a t h s x K Kp E W hw k hk;have c':=gS v;have d':=Iv v;have hn:=E.n;have a':=k.lt;refine Gl.of (aJ λY o e1 H V _=>?_);have k:=k.ai H;have E:=eO (aS.lt _ E) H;have l:∀{F:Hp},Tn (λc=>c=a) o F->aS (λc=>D c/\c<h.size) F s v.items/\aO F Y #[.bool v.au,ah v.num,.string (bs v.text),Sl.v s] di:=λtn=>⟨aS.fr tn (λc q _ e=>W (e▸q.1)) (λ_ q=>q) _ E,tn.bq V ag⟩;have J:∀{b:Int},b=(if v.au then 1 else 0)->Fe K Kp (bD a) (aF Y) b o:=by
  intro b hb;refine Fe.of (Xr k λF C k=>?_);simp only[bz,bX];refine aj (l C).2 rfl (Xa k λh3 I k=>aj (l (C.trans I)).2 rfl (Xa k λh4 U k=>aj (l ((C.trans I).trans U)).2 rfl ?_));rw[iU]at k ⊢;generalize R:hN 8 _ _=T at k;apply P3.bC (λi r=>∃j:Nat,i=j/\j<=v.text.length/\Tn (λc=>c=a) o r/\aO r a #[.int .u64 (hT T (v.text.take j))] t) (λi _=>v.text.length-i.toNat) ⟨0,rfl,eH _,((C.trans I).trans U),k⟩;rintro i h5 ⟨j,rfl,hj,m,k⟩ N M;refine aK (λc=>?_) λc=>?_
  ·have c:=aU c;have f:j<v.text.length:=ag;refine aj (l m).2 rfl (yG (b:=v.text[j]) rfl (by grind[MM,List.getElem?_eq_getElem]) (Xr k λh6 B k=>aY ag ag (M _ _ ⟨j+1,aC,ag,m.trans B,?_⟩ ag)))
   grind[List.take_succ_eq_append_getElem,hT]
  ·have c:=aU c;have:j=v.text.length:=ag;subst this;rw[mO]at k;apply Rr.of;simp only[bz,bX];refine aj (l m).2 rfl (Xa k λh6 B k=>aj (l (m.trans B)).2 rfl ?_);have en:(s.n:Int)=(v.items.length:Int):=by rw[hn.1]
   rw[en]at k ⊢;generalize Q:hN 8 (hT T v.text) _=S at k;have y:v.m9 x=ue v.items S:=by
    rw[<-Q,<-R,hb];obtain⟨a,b,c,d⟩:=v;rfl
   apply P4.bC (λi r=>∃j:Nat,i=j/\j<=v.items.length/\Tn (λc=>c=a) o r/\aO r a #[.int .u64 (ue (v.items.take j) S)] t) (λi _=>v.items.length-i.toNat) ⟨0,rfl,eH _,(m.trans B),by simpa[ue]using k⟩
   rintro i O ⟨j,rfl,hj,A,k⟩ N M;refine cE (λc=>?_) λc=>?_
   ·have f:j<v.items.length:=ag;have L:=bL f;have w:=kP f;generalize v.items[j]=z at L w;have g:=bS L;have b':=oe g;refine(l A).1.ix rfl L λp u cx hz=>ig cx (aJ λa7 h8 e8 g8 k8 _=>mj k8 rfl λX Z k9=>eW k9 ?_);have G:=bK g8 Z ag;refine IH z g (eO hz G) (λq=>W q.1) ag (k.ai G) λe' P k=>aY ag ag (M _ _ ⟨j+1,aC,ag,A.trans ((bx G:Tn _ O X).trans P),?_⟩ ag)
    rw[w,adL];simpa[ue]using k
   ·have:j=v.items.length:=ag;subst this;rw[mO,<-y]at k;exact hk O ((bx H:Tn _ h o).trans A) k
 exact aj V rfl (aK (λc=>J (by rw[aI c])) λc=>J (by rw[c];rfl))
theorem adK:∀v:aD,ZV v
 |.mk a b c items=>ap8 (v:=.mk a b c items) λx(_:x∈items)=>adK x
theorem Xs(v:aD){D:aR}{s:Sl}{K:cL}(o:aS D h s v.items)(n:v.bw<=2^40)(p:∀i,aB h i->K v.hash i):CT v.au v.num (bs v.text) s h K Kp:=by
 refine CT.of (aJ λF B e1 k g _=>aJ λE A C e d _=>dN d aC rfl λu f d=>eW (f.bq (g.ai e) ag) ?_)
 have j:=bK (aq k e) f ag;exact adK v (eO (aS.lt _ o) j) (λq=>ag) n (by simpa using d) λr l m=>aj m rfl (p r (((bx j:Tn No h u).trans' l λc q w=>ag).ai))
end
theorem NY(aH:aQ)(n:Nat)(u:Int):hl aH (n+1) u=hl aH n u++if(aH.getD n v0).hash=u then[n]else[]:=by
 grind[hl,List.range_succ]
theorem Xc(aH:aQ)(n:Nat)(u:Int):(hl aH n u).length<=n:=by
 have:=YF (λi=>decide ((aH.getD i v0).hash=u)) (List.range n);rw[Jq]at this;exact this
theorem Wp{n:Nat}{u:Int}:i∈hl aH n u↔i<n/\(aH.getD i v0).hash=u:=by
 unfold hl;simp
theorem aqx{v w:aQ}{n:Nat}(h:∀i,i<n->v.getD i v0=w.getD i v0)(u:Int):hl v n u=hl w n u:=by
 grind[hl,List.filter_congr]
theorem XC{α:Type}{f:α->α}{l:List α}:(l.modify j f)[i]? =if j=i then(l[i]?).map f else l[i]? :=by
 grind
section
variable {es:List MapEntry} {P P':Int->Prop} {S S':Int->Sl} {mr c:Nat} {ea:Array MapEntry}
theorem ny.key(E:ny es P S):∀x∈es,MapKept.IsKey (.int .u64) x.key:=λx b=>by obtain⟨u,e,_⟩:=E.a x b;rw[e];rfl
theorem ny.congr(E:ny es P S)(f:∀u,P u↔P' u)(p:∀u,P u->S u=S' u):ny es P' S':=
 ⟨λe i=>by obtain⟨u,e1,j,d⟩:=E.a e i;grind,λu g=>E.b u ((f u).2 g),E.c⟩
theorem ny.find(E:ny es P S)(u:Int):(P u/\∃j e,Instr.findNow (.int .u64) (.int .u64 u) es 0=some (some (j,Sl.v (S u)))/\es[j]? =some e/\e.key=.int .u64 u)\/(¬P u/\Instr.findNow (.int .u64) (.int .u64 u) es 0=some none/\∀x∈es,x.key≠.int .u64 u):=by
 rcases MapKept.findNow_spec (d:=.int .u64) (k:=.int .u64 u) rfl es 0 E.key with⟨g,f⟩|⟨j,e,g,f,i⟩
 ·refine .inr ⟨λp=>?_,g,f⟩;obtain⟨e,m,l⟩:=E.b u p;exact f e m l
 ·obtain⟨w,e1,q,o⟩:=E.a e (bS f);grind
theorem ny.ne(E:ny es P S){i j:Nat}{x y:MapEntry}(o:es[i]? =some x)(l:es[j]? =some y)(e:x.key=y.key):i=j:=by
 have d:=ux.1 E.c;grind
theorem ny.lk{K:Sl->Bool->Prop}{u:Int}(E:ny ea.toList P S)(k:h[mr]? =some (.map ea c)){a:Sl}(f:P u->S u=a)(d:¬P u->a=Sl.nil)(b:∀ok,K a ok):Lk h (some mr) (.int .u64) (.int .u64 u) (.slice none 0 0) Sl.v K:=by
 unfold Lk;rcases E.find u with⟨p,j,e,q,_⟩|⟨p,q,_⟩
 ·exact⟨ea,c,_,k,q,S u,rfl,by rw[f p];exact b _⟩
 ·exact⟨ea,c,_,k,q,Sl.nil,rfl,by rw[<-d p];exact b _⟩
theorem yY{o:Obj}(a:mr<h.size):eJ mr h (h.setIfInBounds mr o)/\(h.setIfInBounds mr o)[mr]? =some o:=
 ⟨⟨aC,λd b=>bZ⟩,dH⟩
open Classical in
theorem ny.put{K:HP}{u:Int}(E:ny ea.toList P S)(k:h[mr]? =some (.map ea c))(hk:∀h' Ok c',eJ mr h h'->h'[mr]? =some (.map Ok c')->ny Ok.toList (λw=>P w\/w=u) (λw=>if w=u then s else S w)->K h'):
  Up h (some mr) (.int .u64) (.int .u64 u) (Sl.v s) K:=by
 have hm:=(mq.1 k).1
 unfold Up
 rcases E.find u with⟨p,j,e,q,hj,ek⟩|⟨p,q,hx⟩
 ·refine⟨ea,c,_,k,q,hk _ _ _ (yY hm).1 (yY hm).2 ?_⟩
  have tl:(ea.modify j λe=>{e with key:=.int .u64 u,val:=Sl.v s}).toList=ea.toList.modify j λe=>{e with key:=.int .u64 u,val:=Sl.v s}:=aC
  have get:∀(i:Nat)x,(ea.toList.modify j λe=>{e with key:=.int .u64 u,val:=Sl.v s})[i]? =some x->(i=j/\x.key=.int .u64 u/\x.val=Sl.v s)\/(i≠j/\ea.toList[i]? =some x):=by
   intro i x hi
   rw[XC]at hi
   by_cases e0:j=i
   ·subst e0
    rw[aI rfl,hj]at hi
    cases hi;exact .inl ⟨rfl,rfl,rfl⟩
   ·rw[aE e0]at hi
    exact .inr ⟨λz=>e0 z.symm,by simpa using hi⟩
  refine⟨λx hx=>?_,λw hw=>?_,?_⟩
  ·rw[tl]at hx
   obtain⟨i,hi⟩:=uy.1 hx
   rcases get i x hi with⟨_,e1,e2⟩|⟨ne,pq⟩
   ·simp[*]
   ·obtain⟨w,e1,e2,e3⟩:=E.a x (bS pq)
    grind[ne]
  ·rw[tl]
   by_cases e0:w=u
   ·subst e0
    exact⟨_,uy.2 ⟨j,by rw[XC,aI rfl,hj];rfl⟩,rfl⟩
   ·obtain⟨x,hx,e1⟩:=E.b w (hw.resolve_right e0)
    obtain⟨i,hi⟩:=uy.1 hx
    have:j≠i:=λz=>by simp_all
    exact⟨x,uy.2 ⟨i,by rw[XC,aE this,hi]⟩,e1⟩
  ·have:=MapKept.modify_keys (es:=ea) j (λe=>{e with key:=.int .u64 u,val:=Sl.v s}) λx hx=>by
    simp_all
   have hc:=E.c
   rw[<-List.pairwise_map (R:=λx y=>x≠y)]at hc⊢
   rw[this];exact hc
 ·refine⟨ea,c,_,k,q,hk _ _ _ (yY hm).1 (yY hm).2 ?_⟩
  refine⟨λx hx'=>?_,λw hw=>?_,?_⟩
  ·rw[Pp]at hx'
   rcases ni.1 hx' with q1|q1
   ·obtain⟨w,e1,e2,e3⟩:=E.a x q1
    have:w≠u:=λz=>hx x q1 (by rw[e1,z])
    simp_all
   simp_all
  ·rw[Pp]
   by_cases e0:w=u
   ·simp[*]
   ·obtain⟨x,q1,e1⟩:=E.b w (hw.resolve_right e0)
    grind[List.mem_append_left]
  ·rw[Pp,Pg]
   exact⟨E.c,zN _ _,λx q1 y q2=>by simp_all⟩
theorem ny.del{K:HP}{u:Int}(E:ny ea.toList P S)(k:h[mr]? =some (.map ea c))(r:∀m f B,eJ mr h m->m[mr]? =some (.map f B)->ny f.toList (λw=>P w/\w≠u) S->K m):yK h (some mr) (.int .u64) (.int .u64 u) K:=by
 have l:=(mq.1 k).1;unfold yK;rcases E.find u with⟨p,j,e,q,s,t⟩|⟨p,q,g⟩
 ·refine⟨ea,c,_,k,q,r _ _ _ (yY l).1 (yY l).2 ?_⟩;have v:(ea.eraseIdxIfInBounds j).toList=ea.toList.eraseIdx j:=aC
  rw[v];refine⟨λx g=>?_,λw o=>?_,E.c.sublist (List.eraseIdx_sublist ..)⟩
  ·obtain⟨i,ne,d⟩:=List.mem_eraseIdx_iff_getElem?.1 g;obtain⟨w,e1,A,y⟩:=E.a x (bS d);grind[ne]
  ·obtain⟨x,g,e1⟩:=E.b w o.1;grind[List.mem_iff_getElem?,List.mem_eraseIdx_iff_getElem?]
 ·refine⟨ea,c,_,k,q,r _ _ _ (yY l).1 (yY l).2 (E.congr (λw=>⟨λz=>⟨z,λe=>p (e▸z)⟩,λz=>z.1⟩) λ_ _=>rfl)⟩
end
section
variable {X:aR} {sv:Sl} {mr n:Nat} {u:Int}
open Classical in
theorem fZ.add(d:fZ X h sv mr aH n)(Xu:∀c,X c->c<h.size)(hn:n<=5000)(hu:(aH.getD n v0).hash=u):∃s0:Sl,
  (∀{h1:Hp}{K:Sl->Bool->Prop},aB h h1->(∀ok,K s0 ok)->Lk h1 (some mr) (.int .u64) (.int .u64 u) (.slice none 0 0) Sl.v K)/\
  ∀{h1:Hp}{a:Nat}{t:TypeId}{K:HP}{b:Nat}{cs:Array Value}{el:TypeId},aB h h1->aO h1 a #[ah (n:Int)] t->aO h1 b cs el->¬X b->(∀h3,Tn X h1 h3->fZ (Tr X h1 h3) h3 sv mr aH (n+1)->K h3)->
   Ap h1 Y6 #[ah 0] 1 8 s0 1 (rd h1 (bD a) (1*1)) λt83 h2=>aT h1 h2 ⟨b,19,none⟩ 1 (Up h2 (some mr) (.int .u64) (.int .u64 u) (Sl.v t83) K):=by
 obtain⟨Xi,ts,S,bk,⟨q1,q2,q3,q4,q5⟩,⟨p1,p2,p3⟩,es,c,e1,E⟩:=d
 have hm:=(mq.1 e1).1
 refine⟨if hl aH n u≠[]then S u else Sl.nil,λ{h1 K}g hk=>E.lk ((g.2 mr hm).trans e1) (λp=>dH) (λp=>dH) hk,?_⟩
 intro h1 a t K b cs el g ka kb hb hk
 have s1:=g.1
 have o:Os (λc=>hl aH n u≠[]/\c=bk u) h1 (if hl aH n u≠[]then S u else Sl.nil) (ints (hl aH n u)) Y6:=by
  by_cases p:hl aH n u≠[]
  ·rw[aI p];exact .inr ⟨bk u,⟨p,rfl⟩,(q4 u p).2.2.ai g⟩
  ·rw[aE p];exact .inl ⟨rfl,by rw[not_not.1 p];rfl⟩
 have on:=o.n
 rw[ints,cC]at on
 have hlen:=Xc aH n u
 refine o.BM (news:=[ah (n:Int)]) rfl (λx hx=>by rw[mR]at hx;subst hx;rfl) rfl (jn ka rfl) ag ag λs' h2 t2 os=>mw kb (t2.bq kb λq=>hb (q.2▸(q4 u q.1).1)) ?_
 obtain⟨b',Bl,own⟩:∃b',Or (λc=>hl aH n u≠[]/\c=bk u) h1 b'/\gR h2 s' b' (ints (hl aH n u)++[ah (n:Int)]) Y6:=by
  rcases os with⟨_,e⟩|⟨b',q,o⟩
  ·simp at e
  ·exact⟨b',q,o⟩
 have s2:=t2.1
 have em:h2[mr]? =some (.map es c):=(t2.2 mr ag λq=>(q4 u q.1).2.1 q.2.symm).trans ((g.2 mr hm).trans e1)
 refine E.put em λh3 Ok c' o3 e3 E3=>hk h3 ?_ ?_
 ·exact(t2.mono λc q _=>q.2▸(q4 u q.1).1).trans (o3.fr.mono λc q _=>q▸q3)
 have s3:=o3.1
 have T3:Tn (λc=>(hl aH n u≠[]/\c=bk u)\/c=mr) h h3:=(bx g:Tn _ h h1).trans ((t2.mono λc q _=>.inl q).trans (o3.fr.mono λc q _=>.inr q))
 have eP:∀w,hl aH (n+1) w≠[]↔hl aH n w≠[]\/w=u:=λw=>by
  rw[NY,hu]
  by_cases e:u=w
  all_goals simp_all[aE,BT]
 have bl:b'<h2.size:=own.lt
 have ne:∀c,X c->(∀w,hl aH n w≠[]->c≠bk w)->∀w,hl aH (n+1) w≠[]->c≠if w=u then b' else bk w:=λc hc hw w pw=>by
  by_cases e:w=u
  ·rw[aI e]
   rcases Bl with q|q
   ·rw[q.2];exact hw u q.1
   ·have:=Xu c hc;omega
  simp_all
 refine⟨Xi,ts,λw=>if w=u then s' else S w,λw=>if w=u then b' else bk w,⟨λc hc=>⟨.inl (q1 c hc).1,(q1 c hc).2.1,(q1 c hc).2.2.1,ne c (q1 c hc).1 (q1 c hc).2.2.2⟩,λc hc=>⟨.inl (q2 c hc).1,(q2 c hc).2.1,ne c (q2 c hc).1 (q2 c hc).2.2⟩,.inl q3,λw pw=>?_,λv w pv pw vw=>?_⟩,⟨p1,?_,λj v t h1 h2=>?_⟩,Ok,c',e3,E3.congr (λw=>(eP w).symm) λ_ _=>rfl⟩
 ·dsimp only
  by_cases e:w=u
  ·rw[aI e]
   have nm:b'≠mr:=by
    rcases Bl with q|q
    ·rw[q.2];exact(q4 u q.1).2.1
    ·omega
   refine⟨?_,nm,?_⟩
   ·rcases Bl with q|q
    ·rw[q.2];exact .inl (q4 u q.1).1
    ·exact .inr ⟨q,ag⟩
   ·have ei:ints (hl aH (n+1) w)=ints (hl aH n u)++[ah (n:Int)]:=by rw[NY,e,aI hu];simp[ints]
    simp only[aI e]
    rw[ei]
    exact own.only o3 nm
  ·have H6:=((eP w).1 pw).resolve_right e
   simp only[aE e]
   obtain⟨r1,r2,r3⟩:=q4 w H6
   refine⟨.inl r1,r2,?_⟩
   have ei:hl aH (n+1) w=hl aH n w:=by rw[NY,hu,aE (BT e),pM]
   rw[ei]
   exact r3.fr T3 λq=>q.elim (λq=>q5 w u H6 q.1 e q.2) r2
 ·dsimp only
  by_cases e:v=u
  ·have ew:w≠u:=λz=>vw (e.trans z.symm)
   have H6:=((eP w).1 pw).resolve_right ew
   rw[aI e,aE ew]
   rcases Bl with q|q
   ·rw[q.2];exact q5 u w q.1 H6 (e▸vw)
   ·have:=Xu _ (q4 w H6).1;omega
  ·have UJ:=((eP v).1 pv).resolve_right e
   rw[aE e]
   by_cases ew:w=u
   ·rw[aI ew]
    rcases Bl with q|q
    ·rw[q.2];exact q5 v u UJ q.1 e
    ·have:=Xu _ (q4 v UJ).1;omega
   ·rw[aE ew];exact q5 v w UJ (((eP w).1 pw).resolve_right ew) vw
 ·exact Uy p2 T3 λc hc q=>q.elim (λq=>(q2 c hc).2.2 u q.1 q.2) (q2 c hc).2.1
 ·exact aS.fr T3 (λc hc _ q=>q.elim (λq=>(q1 c hc).2.2.2 u q.1 q.2) (q1 c hc).2.2.1) (λ_ z=>z) _ (p3 j v t h1 h2)
open Classical in
theorem fZ.sub(d:fZ X h sv mr aH (n+1))(hu:(aH.getD n v0).hash=u):∃s0:Sl,(∀{K:Sl->Bool->Prop},(∀ok,K s0 ok)->Lk h (some mr) (.int .u64) (.int .u64 u) (.slice none 0 0) Sl.v K)/\s0.n=(hl aH n u).length+1/\
  ∀{K:Sl->Prop},(∀s1,(∀{K:HP},(∀h2,eJ mr h h2->(hl aH n u≠[]->fZ X h2 sv mr aH n)->(hl aH n u=[]->∀{K:HP},(∀h3,eJ mr h h3->fZ X h3 sv mr aH n->K h3)->yK h2 (some mr) (.int .u64) (.int .u64 u) K)->K h2)->Up h (some mr) (.int .u64) (.int .u64 u) (Sl.v s1) K)->K s1)->
   jA s0 1 none (some ((hl aH n u).length:Int)) none K:=by
 obtain⟨Xi,ts,S,bk,⟨q1,q2,q3,q4,q5⟩,⟨p1,p2,p3⟩,es,c,e1,E⟩:=d
 have hm:=(mq.1 e1).1
 have eh:∀w,hl aH (n+1) w=hl aH n w++if u=w then[n]else[]:=λw=>by rw[NY,hu]
 have pu:hl aH (n+1) u≠[]:=by rw[eh,aI rfl];simp
 have eP:∀w,hl aH n w≠[]->hl aH (n+1) w≠[]:=λw q=>by rw[eh];simp[q]
 have eP':∀w,hl aH (n+1) w≠[]->w≠u->hl aH n w≠[]:=λw q ne=>by simp_all[aE,BT,pM]
 have own:=(q4 u pu).2.2
 have o:Os (λc=>c=bk u) h (S u) (ints (hl aH (n+1) u)) Y6:=.inr ⟨bk u,rfl,own⟩
 have on:=o.n
 rw[ints,cC,eh,aI rfl,ij,jy]at on
 refine⟨S u,λhk=>E.lk e1 (λ_=>rfl) (λp=>absurd pu p) hk,on,λ{K}hK=>o.cut ag rfl λs1 n1 o1=>hK s1 λ{K}hk=>?_⟩
 refine E.put e1 λh2 es2 c2 o2 k2 E2=>?_
 have IF:mr<h2.size:=by rw[o2.1];exact hm
 have etk:(ints (hl aH (n+1) u)).take (hl aH n u).length=ints (hl aH n u):=by
  rw[eh,aI rfl];unfold ints;rw[kY,Pk aC,pK aC]
 rw[etk]at o1
 have fin:∀{h3:Hp}{IV c3},eJ mr h h3->h3[mr]? =some (.map IV c3)->ny IV.toList (λw=>hl aH n w≠[]) (λw=>if w=u then s1 else S w)->fZ X h3 sv mr aH n:=by
  intro h3 IV c3 o3 k3 E3
  refine⟨Xi,ts,λw=>if w=u then s1 else S w,bk,⟨λc hc=>⟨(q1 c hc).1,(q1 c hc).2.1,(q1 c hc).2.2.1,λw pw=>(q1 c hc).2.2.2 w (eP w pw)⟩,λc hc=>⟨(q2 c hc).1,(q2 c hc).2.1,λw pw=>(q2 c hc).2.2 w (eP w pw)⟩,q3,λw pw=>?_,λv w pv pw=>q5 v w (eP v pv) (eP w pw)⟩,⟨p1,?_,λj v t h1 h2=>?_⟩,IV,c3,k3,E3⟩
  ·obtain⟨r1,r2,r3⟩:=q4 w (eP w pw)
   refine⟨r1,r2,?_⟩
   by_cases e:w=u
   ·simp only[aI e]
    subst e
    rcases o1 with⟨_,e⟩|⟨b,rfl,o1⟩
    ·exact absurd (Y9.1 e) pw
    ·exact o1.only o3 r2
   ·simp only[aE e]
    rw[eh,aE (BT e),pM]at r3
    exact r3.only o3 r2
  ·exact Uy p2 o3.fr λc hc q=>(q2 c hc).2.1 q
  ·exact aS.fr o3.fr (λc hc _ q=>(q1 c hc).2.2.1 q) (λ_ z=>z) _ (p3 j v t h1 h2)
 refine hk h2 o2 (λne=>fin o2 k2 (E2.congr (λw=>⟨λq=>?_,λq=>.inl (eP w q)⟩) λ_ _=>rfl)) λem K hk=>E2.del k2 λh3 IV c3 o3 k3 E3=>hk h3 (o2.trans o3) (fin (o2.trans o3) k3 (E3.congr (λw=>⟨λq=>?_,λq=>⟨.inl (eP w q),λz=>q (z▸em)⟩⟩) λ_ _=>rfl))
 ·rcases q with q|rfl
  ·by_cases e:w=u
   ·exact e▸ne
   ·exact eP' w q e
  ·exact ne
 ·exact eP' w (q.1.resolve_right q.2) q.2
end
section
variable {X:aR} {sv:Sl} {mr n:Nat} {u:Int} {x y:aD} {t:Sl}
theorem zn{m:aQ}(a:n<=aH.length)(u:Int):hl (aH++m) n u=hl aH n u:=
 aqx (λi b=>bZ) u
theorem Hg{a:List Sl}(hl:a.length=aH.length):List.zipWith aD.row (aH++[x]) (a++[t])=List.zipWith aD.row aH a++[x.row t]:=by
 simp_all[JC]
theorem fZ.push{K:Sl->HP}(d:fZ X h sv mr aH n)(w:∀c,X c->c<h.size)(e:n<=aH.length)(hn:aH.length<=5000)(W:aO h a #[.bool false,ah 0,.string (bs []),.slice none 0 0] ty)
  (Z:∀k g,Tn X h g->fZ (Tr X h g) g k mr (aH++[AH]) n->K k g):Ap h di gl 4 56 sv 1 (rd h (bD a) (1*4)) K:=by
 obtain⟨Xi,O,S,bk,⟨J,i,R,I,Q⟩,⟨F,L,U⟩,es,c,e1,E⟩:=d;have Y:=(mq.1 e1).1;have V:=L.n;rw[qn]at V;refine L.ap (eH _) rfl (new:=[AH.row Sl.nil]) rfl (λr l=>by simp at l;subst l;rfl) (λr l=>by grind[AG]) (jn W rfl) ag ag λk g f H M=>Z k g (f.mono λc q _=>(i c q).1) ?_
 have p:∀c,k.at c->sv.at c\/(h.size<=c/\c<g.size):=λc q=>(H c q).imp id λT=>⟨T,(M.at q).2⟩;refine⟨Xi,O++[Sl.nil],S,bk,⟨λc m=>?_,λc m=>?_,.inl R,λu b=>?_,λu v b N=>?_⟩,⟨by simp[F],by rw[Hg F];exact M,λj v t o G=>?_⟩,es,c,(f.2 mr Y λq=>(i mr q).2.1 rfl).trans e1,E.congr (λu=>by rw[zn e]) λ_ _=>rfl⟩
 ·obtain⟨A,C,B,P⟩:=J c m;have:=w c A;exact⟨.inl A,λq=>(p c q).elim C λq=>ag,B,λu b=>P u (by rw[zn e]at b;exact b)⟩
 ·rcases p c m with q|q
  ·grind[zn]
  ·exact⟨.inr q,ag,λu b=>by rw[zn e]at b;grind⟩
 ·rw[zn e]at b ⊢;obtain⟨A,C,B⟩:=I u b;exact⟨.inl A,C,B.fr f λq=>(i _ q).2.2 u b rfl⟩
 ·rw[zn e]at b N;grind
 ·rcases yW F G with⟨a',G⟩|⟨rfl,rfl⟩
  ·rw[iX ag]at o;exact aS.fr f (λc m _ q=>(J c m).2.1 q) (λ_ z=>z) _ (U j v t o G)
  ·rw[gv (cr _)]at o;simp at o;subst o;exact oz g
theorem fZ.len(d:fZ X h sv mr aH n):sv.n=aH.length:=by
 obtain⟨i,c,S,g,_,⟨f,a,e⟩,_⟩:=d;have b:=a.n;simp[*]
theorem fZ.set(d:fZ X h sv mr (aH++[y]) n):∃m,X m/\sv.a=some (aF m)/\(∀{K:Addr->Prop},K ⟨m,aH.length*4,none⟩->Ix sv.a sv.n 4 (aH.length:Int) K)/\
  ∀{X:aR}{h:Hp}{K:HP}{t:Sl},fZ X h sv mr (aH++[y]) n->n<=aH.length->aS D h t x.items->(∀c,D c->¬X c)->(∀h',Tn X h h'->fZ (λc=>X c\/D c) h' sv mr (aH++[x]) n->K h')->iZ h ⟨m,aH.length*4,none⟩ 0 (x.row t) K:=by
 have dn:=d.len;rw[ij,jy]at dn;obtain⟨m,G,hX⟩:∃m,sv.a=some (aF m)/\X m:=by
  obtain⟨Xi,O,S,bk,⟨T,A,R,Q,q5⟩,⟨M,U,p3⟩,_⟩:=d;rcases U.cases with⟨p,_⟩|⟨m,_,r⟩
  ·rw[p]at dn;simp[Sl.nil]at dn
  ·exact⟨m,r.a,(A m ⟨_,r.a,rfl⟩).1⟩
 refine⟨m,hX,G,λ{K}W=>?_,?_⟩
 ·unfold Ix;rw[G];refine⟨ag,ag,?_⟩
  rw[bz]
  simpa using W
 intro X h K t d Z N hD W;obtain⟨Xi,O,S,bk,⟨T,A,R,Q,q5⟩,⟨M,U,p3⟩,es,c,e1,E⟩:=d;rcases U.cases with⟨p,_⟩|⟨I,_,r⟩
 ·rw[p]at dn;simp[Sl.nil]at dn
 have eb:I=m:=by have:=r.a;rw[G]at this;cases this;rfl
 subst eb;obtain⟨k,t',rfl⟩:∃l z,O=l++[z]:=by
  rcases List.eq_nil_or_concat O with e|⟨l,z,e⟩
  all_goals simp_all
 have C:k.length=aH.length:=by simpa using M
 have zl:(List.zipWith aD.row aH k).length=aH.length:=by rw[qn,C,JD]
 rw[Hg C]at r;refine r.set (by simp[zl]) rfl (AG x t) λh' F B=>?_
 have J:∀c,sv.at c↔c=I:=λc=>⟨λ⟨a,ha,e⟩=>by rw[G]at ha;cases ha;exact e.symm,λe=>⟨_,G,e.symm⟩⟩
 have a':(List.zipWith aD.row aH k++[y.row t']).set aH.length (x.row t)=List.zipWith aD.row (aH++[x]) (k++[t]):=by
  rw[Hg C,xY _ _ ag,zl];simp
 rw[a']at B;have o:=A I ((J I).2 rfl);apply W h' (F.fr.mono λc q _=>q▸o.1);have b:∀(z:aD)u,hl (aH++[z]) n u=hl aH n u:=λz u=>zn Z u;refine⟨λc=>Xi c\/D c,k++[t],S,bk,⟨λc g=>?_,λc g=>⟨.inl (A c g).1,(A c g).2.1,λu f=>(A c g).2.2 u (by rw[b]at f ⊢;exact f)⟩,.inl R,λu f=>?_,λu v f N=>?_⟩,⟨by simp[C],⟨B.len,B.n,.inr ⟨I,eH _,B.lt,B.own⟩⟩,λj v w H Y=>?_⟩,es,c,(F.2 mr (λq=>o.2.1 q.symm)).trans e1,E.congr (λu=>by rw[b,b]) λ_ _=>rfl⟩
 ·rcases g with g|g
  ·obtain⟨p,P,L,r4⟩:=T c g;exact⟨.inl p,P,L,λu f=>r4 u (by rw[b]at f ⊢;exact f)⟩
  ·have V:=hD c g;exact⟨.inr g,λq=>V (A c q).1,λq=>V (q▸R),λu f q=>V (q▸(Q u (by rw[b]at f ⊢;exact f)).1)⟩
 ·rw[b]at f;obtain⟨p,P,L⟩:=Q u (by rw[b];exact f)
  rw[b]at L ⊢;exact⟨.inl p,P,L.only F λq=>o.2.2 u (by rw[b];exact f) q.symm⟩
 ·rw[b]at f N;exact q5 u v (by rw[b];exact f) (by rw[b];exact N)
 ·rcases yW C Y with⟨b',Y⟩|⟨rfl,rfl⟩
  ·rw[iX ag]at H;exact aS.fr F.fr (λc g _ q=>(T c g).2.1 ((J c).2 q)) (λ_ z=>.inl z) _ (p3 j v w (by rw[iX ag];exact H) (by rw[iX ag];exact Y))
  ·rw[gv (cr _)]at H;simp at H;subst H;exact aS.fr F.fr (λc g _ q=>hD c g (q▸o.1)) (λ_ z=>.inr z) _ N
theorem fZ.cut{m:Nat}{K:Sl->Prop}(d:fZ X h sv mr aH n)(z:n<=m)(C:m<=aH.length)(e:k=m)(R:∀s',fZ X h s' mr (aH.take m) n->K s'):jA sv 4 none (some k) none K:=by
 subst e;have dn:=d.len;obtain⟨Xi,l,S,bk,⟨q1,Z,Y,W,V⟩,⟨O,N,p3⟩,L,c,e1,E⟩:=d;have cap:=N.cap;refine⟨JH _,aC,by simp;omega,aC,?_⟩
 simp only[uB,oG,JE,gj,EN];have g:∀u,hl (aH.take m) n u=hl aH n u:=by grind[zn,List.length_take,List.take_append_drop]
 have fin:∀s':Sl,(∀c,s'.at c->sv.at c)->fO 0 4 h s' (List.zipWith aD.row (aH.take m) (l.take m)) di->fZ X h s' mr (aH.take m) n:=by
  intro s' w o;refine⟨Xi,l.take m,S,bk,⟨λc I=>?_,λc I=>?_,Y,λu f=>?_,λu v f Q=>?_⟩,⟨by simp[O],o,λj v t z C=>?_⟩,L,c,e1,E.congr (λu=>by rw[g]) λ_ _=>rfl⟩
  ·obtain⟨p,B,G,U⟩:=q1 c I;exact⟨p,λq=>B (w c q),G,λu f=>U u (by rw[g]at f;exact f)⟩
  ·simp_all
  ·rw[g]at f ⊢;exact W u f
  ·rw[g]at f Q;exact V u v f Q
  ·rw[YL]at z C;split at z
   ·rename_i q;rw[aI q]at C;exact p3 j v t z C
   ·cases z
 rcases N.cases with⟨p,B⟩|⟨b,hb,r⟩
 ·have:aH.length=0:=by rw[p]at dn;exact dn.symm
  have:m=0:=ag;subst this;rw[p];refine R _ (fin _ (λc⟨a,J,_⟩=>by simp[lY,Sl.nil]at J) ?_)
  have L:(⟨lY Sl.nil.a 0 Sl.nil.c 4,0,Sl.nil.c⟩:Sl)=Sl.nil:=by simp[lY,Sl.nil]
  rw[L];exact sU _ _ _ _
 ·obtain⟨M,a2,cs,T,a4,a5,a6⟩:=r.own;have ea:lY sv.a 0 sv.c 4=some (aF b):=by
   simp only[lY];split
   ·exact M
   ·rw[M];simp[bz]
  rw[ea];have A:List.zipWith aD.row (aH.take m) (l.take m)=(List.zipWith aD.row aH l).take m:=by rw[List.take_zipWith]
  have H:wo 4 (List.zipWith aD.row (aH.take m) (l.take m)):=λx P=>r.len x (by grind[List.mem_of_mem_take])
  have F:(List.zipWith aD.row (aH.take m) (l.take m)).length=m:=by simp[O];omega
  refine R _ (fin _ (λc⟨a,J,e⟩=>⟨a,by rw[M];exact J,e⟩) ⟨H,F.symm,.inr ⟨b,eH _,T.lt,rfl,by rw[H.flat,F],cs,T,jH (by show m<=sv.n;omega) a4,a5,λi k=>?_⟩⟩)
  have k:i<m*4:=k;rw[a6 i ag];have:=EI m (List.zipWith aD.row aH l);rw[<-A]at this
  conv=>lhs;rw[<-this]
  rw[List.flatten_append,iX (by rw[H.flat,F];exact k)]
theorem fZ.vs(d:fZ X h sv mr aH n):aS (λ_=>True) h sv aH:=by
 obtain⟨k,g,S,i,_,⟨c,b,a⟩,_⟩:=d;exact aS.snoc b c (λ_ _=>trivial) λj d p f e=>rY (a j d p f e) λ_ _=>trivial
theorem fZ.look(d:fZ X h sv mr aH n)(u:Int):∃b:Sl,Sv h b (ints (hl aH n u))/\∀{a:Hp}{K:Sl->Bool->Prop},aB h a->(∀ok,K b ok)->Lk a (some mr) (.int .u64) (.int .u64 u) (.slice none 0 0) Sl.v K:=by
 classical
 obtain⟨w,j,S,r,⟨o,m,l,e,k⟩,_,q,c,e1,E⟩:=d;have f:=(mq.1 e1).1;refine⟨if hl aH n u≠[]then S u else Sl.nil,?_,λ{a K}g i=>E.lk ((g.2 mr f).trans e1) (λp=>dH) (λp=>dH) i⟩
 by_cases p:hl aH n u≠[]
 ·rw[aI p];exact(e u p).2.2.sv
 ·rw[aE p,Classical.not_not.1 p];exact xW h
noncomputable def Nl(x:aD)(aH:aQ):Int:=match gf x aH with|some i=>(i:Int)|none=> -1
theorem amX{cs:Array Value}{K:cL}(d:fZ X h sv mr aH aH.length)(M:aO h b cs el)(fM:cs[18]? =some (Sl.v sv))(W:cs[19]? =some (.map (some mr)))(hn:aH.length<=5000)(S:∀v∈aH,v.bw<=2^50)(hv:aS D h s x.items)(hw:x.bw<=2^40)
    (hk:∀I,aB h I->K (Nl x aH) I):K0 (bD b) x.au x.num (bs x.text) s h K Kp:=by
  refine K0.of (aJ λa H e1 J E _=>?_);refine bO ?_;refine aj (M.ai J) W (eW E (Xs x (eO hv J) hw λO Q=>bR (M.ai J) Q ?_));have E:=E.ai Q;have G:=aq J Q;obtain⟨s0,yV,lk⟩:=d.look x.hash;refine lk G λok=>?_;have n0:s0.n=(hl aH aH.length x.hash).length:=by have:=yV.1;rw[ints,cC]at this;exact this
  have a':=Xc aH aH.length x.hash;apply P6.bC (λz I=>∃j:Nat,z=j/\j<=(hl aH aH.length x.hash).length/\aB O I/\∀(i p:Nat),i<j->(hl aH aH.length x.hash)[i]? =some p->aH[p]? ≠some x) (λz _=>(hl aH aH.length x.hash).length-z.toNat) ⟨0,rfl,eH _,cW _,λi p k=>ag⟩
  rintro z h3 ⟨j,rfl,hj,P,m⟩ N hN;have w:=aq G P;refine cE (λA=>?_) λA=>?_
  · have B:j<(hl aH aH.length x.hash).length:=ag;have g:=bL B;generalize(hl aH aH.length x.hash)[j]=p at g;have T:=Wp.1 (bS g);have f:=bL T.1;generalize Z:aH[p]=y at f;have l:=bS f;refine(yV.ai w).ix ag ag (by rw[gj,ints,fy,g];rfl) λq F=>yz F ?_
    refine bO ?_;refine aj (M.ai w) fM ((eO d.vs w).ix rfl f λq t cq Z=>ig cq (eW (E.ai P) (Um y Z (eO hv w) (S y l) λb h4 g4 hb=>aK (λL=>?_) λL=>?_)))
    · have C:=hb.1 L;have R:gf x aH=some p:=by
        cases F:gf x aH with
        |none=>grind[vh]
        | some r=>
          obtain⟨H,O⟩:=DB F
          by_cases e:r=p
          ·rw[e]
          · exfalso
            have b':¬p<r:=λq=>O p q (by rw[f,C])
            have V:r∈hl aH aH.length x.hash:=Wp.2 ⟨(dy.1 H).1,by rw[gB,H];rfl⟩
            obtain⟨i,k⟩:=uy.1 V;have Y:(hl aH aH.length x.hash).Pairwise (·< ·):=List.pairwise_lt_range.filter _;have c':¬j<=i:=λq=>by
              have:=ux.1 Y j i B (dy.1 k).1;rw[(dy.1 k).2,(dy.1 g).2]at this;rcases Nat.lt_or_eq_of_le q with q|q
              ·have:=this q;omega
              ·subst q;rw[g]at k;cases k;exact e rfl
            exact m i r ag k H
      grind[aB.trans,Nl]
    · refine aY ag ag (hN _ _ ⟨j+1,aC,ag,aq P g4,λi r k o=>?_⟩ ag)
      by_cases e:i=j
      ·rw[e,g]at o;cases o;intro z;rw[f]at z;cases z;rw[hb.2 rfl]at L;cases L
      ·exact m i r ag o
  · have R:gf x aH=none:=vh.2 λhm=>by
      obtain⟨p,g⟩:=uy.1 hm;have U:p∈hl aH aH.length x.hash:=by grind[Wp,List.getElem?_eq_some_iff]
      grind[List.mem_iff_getElem?,List.getElem?_eq_some_iff]
    grind[Nl]
end
section
variable {c:ak} {KM:List cO} {M:cO} {T:aR} {h0 h':Hp} {r':Raw} {vs:aQ} {m:fN} {g:dO} {x:aD} {K:cL}
theorem ajt(d:f.k=19)(e:f.cs=[c])(r:Raw)(v:aD):f.tk r v=cQ (eN v.au r) λa=>if v.au then fj 16 (a.up λb=>{b with ends:=b.ends++[0]})else match gf v a.b.aH with
  |some i=>fj v.bw (a.up λb=>{b with ends:=b.ends++[i]})
  |none=>if ou f.ix<=a.b.aH.length then(102,a)else cQ (dc 0 (λq=>c.tk q v) a) λj=>fj v.bw (j.up λb=>{b with aH:=b.aH++[v],ends:=b.ends++[b.aH.length]}):=by
 rw[kD];unfold iD;rw[aA,aA,aA,aA,aA,aA,aI d,e];rfl
theorem acF{K:cL}(G:bU f KM T h r m g)(e:g.b=b)(a:K (ou f.ix:Int) h):Gm (bD b) h K Kp:=by
 subst e;apply Gm.of;refine bO ?_;refine aj G.B.k (by simp[cj];rfl) ?_
 unfold ou at a;refine aK (λc=>?_) λc=>aK (λd=>?_) λd=>?_
 ·rw[aI (by simpa using c)]at a;exact a
 ·rw[aE (by simpa using c),aI (by simpa using d)]at a;exact a
 ·rw[aE (by simpa using c),aE (by simpa using d)]at a;exact a
theorem Bq(b:f.k=19)(a:Rb):cF f.k a=[(ints a.ends,Y6)]:=by unfold cF;simp[*]
theorem On(d:f.k=19)(a b:Rb):eI f.k a b↔b.ends <+: a.ends/\b.aH <+: a.aH/\a.aH.length<=5000/\∀v∈a.aH,v.bw<=4194304:=by unfold eI;simp[*]
theorem IX(b:f.k=19)(X:aR)(h:Hp)(sp:bg)(a:Rb):iJ f.k X h sp a↔∃sv d,sp=[Sl.v sv,.map (some d)]/\fZ X h sv d a.aH a.aH.length:=by unfold iJ;simp[*]
theorem aeQ{K:HP}(e:f.k=19)(KF:∀(j:Nat)M,KM[j]? =some M->gz M)(S:eT f KM T h0 h r m g E)(O:g.b=b)(W:r.b.ends.length<=70000)
  (H:∀h' A B,eT f KM T h0 h' (r.up λb=>{b with ends:=b.ends++[i]}) m A B->A.b=b->Tn (λc=>¬E c) h h'->(∀c,E c->B c)->K h'):
  Ld h ⟨b,16,none⟩ Sl.v λp=>aL h #[ah (i:Int)] Y6 λt w=>Ap w Y6 #[ah 0] 1 8 p 1 (rd w (some t) (1*1)) λo L=>St L ⟨b,16,none⟩ (Sl.v o) K:=by
 subst O;have d:=Bq e;have N:=On e;obtain⟨l,a⟩:=ri S.G.ls (d _);have U:l.n=r.b.ends.length:=by have:=S.G.oq (i:=0) (s:=l) (by simp[a]) (by rw[d];rfl);rw[this,ints,cC]
 refine S.G.dI (i:=0) (s:=l) rfl (by simp[a]) (aJ λY J X y F _=>?_)
 refine(S.ai KF y).app (i:=0) (x:=(ints r.b.ends,Y6)) (x':=(ints (r.b.ends++[i]),Y6)) (r':=r.up λb=>{b with ends:=b.ends++[i]}) KF rfl (by simp[a]) (by rw[d];rfl) rfl ?_ rfl (jn F rfl) ag ag (by simp[ints])
  ⟨rfl,rfl,rfl,rfl⟩ (by rw[d,d];rfl) rfl rfl (λV _ q=>?_) λQ R I C P=>H I _ _ P rfl ((bx y:Tn _ h J).trans (C.mono λc q _ z=>q (.inl z))) (λc q=>.inl q)
 ·intro v u;simp only[mR]at u;subst u;rfl
 ·rw[N]at q ⊢;exact⟨q.1.trans (sV _ _),q.2⟩
theorem aeP(l:f.k=19)(KF:∀(j:Nat)M,KM[j]? =some M->gz M)(S:eT f KM T h0 h r m g E)(e:g.b=b)(A:r.b.ends.length<=70000)(L:r.b.bF<=2^50)(J:x.bw<=4194304)
  (w:aO h a #[.bool x.au,ah x.num,.string (bs x.text),Sl.v s] di) (F:E a) (y:aS D h s x.items) (o:∀c,D c->E c)
  (B:∀h',Tn T h0 h'->cX f KM (Tr T h0 h') h' (.iface (bI f.k) (bB b)) (fj x.bw (r.up λb=>{b with ends:=b.ends++[i]})).2 m->K (fj x.bw (r.up λb=>{b with ends:=b.ends++[i]})).1 h'):
  Ae K Kp (bD b) (aF a) (i:Int) h:=by
 subst e;apply Ae.of;refine bO ?_;exact aeQ l KF S rfl A λP Q R H e u N=>eW (lG u w F) (ME x (aS.fr u (λc q _ z=>z (o c q)) (λ_ z=>z) _ y) ag λO C=>(H.ai KF C).pU KF e rfl (by show r.b.bF+x.bw<2^62;omega) λp I d=>B p d.t ⟨_,by rw[e],d.G⟩)
theorem Ua{H:Hp}{t S a d e yV:Sl}{n wt:Nat}{w V:Value}{K:HP}(k:aO H b (cj f t S a n i wt [Sl.v d,w,Sl.v yV,V]).toArray ty)
  (l:∀h',eJ b H h'->aO h' b (cj f t S a n i wt [Sl.v d,w,Sl.v e,V]).toArray ty->K h'):St H ⟨b,18,none⟩ (Sl.v e) K:=dN k (by simp[cj]) rfl λh' o j=>l h' o (by simpa[cj]using j)
theorem asJ{s0 sv:Sl}{w:Value}(a':f.k=19)(KF:∀(j:Nat)M,KM[j]? =some M->gz M)(S:eT f KM T h0 h r m g E)(eb:g.b=b)(hn:r.b.ends.length<=70000)(hh:r.b.bF<=2^50)(hw:x.bw<=4194304)
  (ka:aO h a #[.bool x.au,ah x.num,.string (bs x.text),Sl.v s] di) (ea:E a) (hv:aS D h s x.items) (k':∀c,D c->E c) (q':g.SS=[s0]) (v':g.kv=[w]) (t':g.sp=[Sl.v sv,.map (some i)]) (g':r.b.aH=aH) (z':aH.length<=4999) (d:fZ g.X h sv i aH aH.length)
  (hk:∀h',Tn T h0 h'->cX f KM (Tr T h0 h') h' (.iface (bI f.k) (bB b)) (fj x.bw (r.up λb=>{b with aH:=b.aH++[x],ends:=b.ends++[b.aH.length]})).2 m->K (fj x.bw (r.up λb=>{b with aH:=b.aH++[x],ends:=b.ends++[b.aH.length]})).1 h'):
  (wG x.au x.num (bs x.text) s h (λF C A y h5=>aT h h5 ⟨b,18,none⟩ 1<|aL h5 #[(.bool false),(ah 0),(.string (bs [])),(.slice none 0 0)] di λO V=>aT h5 V (aF a) 4<|aT h5 V ⟨b,18,none⟩ 1 <|
   Ap V di gl 4 56 sv 1 (rd V (some O) (1*4)) λo p=>Ix o.a o.n 4 (sv.n:Int) λL=>NN (bD b) λJ=>(dK p L F C A y λH=>St H (J.add 18) (Sl.v o) λU=>qU K Kp (bD b) (aF a) (sv.n:Int) x.hash U)/\
    (St p (J.add 18) (Sl.v o) λH=>dK H L F C A y λU=>qU K Kp (bD b) (aF a) (sv.n:Int) x.hash U)) Kp)/\
  (aL h #[(.bool false),(ah 0),(.string (bs [])),(.slice none 0 0)] di λO h5=>aT h h5 (aF a) 4<|aT h h5 ⟨b,18,none⟩ 1<|wG x.au x.num (bs x.text) s h5 (λF C A y V=>aT h5 V ⟨b,18,none⟩ 1 <|
   Ap V di gl 4 56 sv 1 (rd V (some O) (1*4)) λo p=>Ix o.a o.n 4 (sv.n:Int) λL=>NN (bD b) λJ=>(dK p L F C A y λH=>St H (J.add 18) (Sl.v o) λU=>qU K Kp (bD b) (aF a) (sv.n:Int) x.hash U)/\
    (St p (J.add 18) (Sl.v o) λH=>dK H L F C A y λU=>qU K Kp (bD b) (aF a) (sv.n:Int) x.hash U)) Kp):=by
 subst eb;have es:=Bq a';have ep:=On a';have eS:=IX a';have p':=d.len;rw[p'];have ex:∀q:Sl,ia f.k g.SS g.kv g.ks [Sl.v q,.map (some i)]=[Sl.v s0,w,Sl.v q,.map (some i)]:=λq=>by unfold ia nG;simp[*]
 have kb:=S.G.B.k;rw[t',ex]at kb;have b':∀c,g.X c->c<h.size:=λc q=>S.G.t.l (bS g.iM) q;have f':=S.G.t.kW g.iM;have bl:=kb.lt;have fin:∀{Z:Hp}{s':Sl},Tn (λc=>c=g.b\/g.X c) h Z->aO Z g.b (cj f g.sf g.sn g.sb r.b.rows r.b.cz r.b.bF [Sl.v s0,w,Sl.v s',.map (some i)]).toArray (iz f.k)->fZ (Tr g.X h Z) Z s' i (aH++[x]) aH.length->qU K Kp (bD g.b) (aF a) (aH.length:Int) x.hash Z:=by
  intro Z s' tx R dx;have zx:=tx.1;have nb:¬Tr g.X h Z g.b:=bZ
  have d':∀{h1 h3:Hp},aB Z h1->Tn (Tr g.X h Z) h1 h3->fZ (Tr (Tr g.X h Z) h1 h3) h3 s' i (aH++[x]) (aH.length+1)->Ae K Kp (bD g.b) (aF a) (aH.length:Int) h3:=by
   intro h1 h3 I t3 d3;have z1:=I.1;have z3:=t3.1;have tt:=(tx.trans (bx I)).trans' t3 λc q u'=>q.elim .inr λq=>ag
   have x':=S.MY (r':=r.up λb=>{b with aH:=b.aH++[x]}) KF tt (by rw[ex];exact t3.bq (R.ai I) nb) ⟨rfl,rfl,rfl,rfl⟩ (by rw[es,es];rfl) rfl ((eS _ _ _ _).2 ⟨s',i,rfl,?_⟩) (λmm _ q=>?_) λq=>ag
   rotate_left
   ·show fZ _ h3 s' i (r.b.aH++[x]) (r.b.aH++[x]).length
    rw[g',ij,jy];exact d3.mono λc q=>by
     grind
   ·rw[ep]at q ⊢;refine⟨q.1,q.2.1.trans (sV _ _),?_,λv hv=>?_⟩
    ·show(r.b.aH++[x]).length<=5000
     simp[*]
    ·have hv:v∈r.b.aH++[x]:=hv;grind
   obtain⟨S6,t6⟩:=x';subst g';obtain⟨rb,rk⟩:=r;exact aeP a' KF S6 rfl hn hh hw (lG t6 ka ea) ea (aS.fr t6 (λc q _ z=>z (k' c q)) (λ_ z=>z) _ hv) k' hk
  obtain⟨sq,lk,l'⟩:=dx.add (u:=x.hash) (λc q=>q.elim (λq=>bZ) λq=>q.2) ag aC
  apply qU.of;refine bO ?_;refine aj R (by simp[cj]) (aj R (by simp[cj]) ⟨lk (cW _) λok=>mw R R (aJ λa8 h1 e1 I k1 _=>bR R I (bR R I (l' I k1 (R.ai I) nb λh3 t3 d3=>d' I t3 d3))),aJ λa8 h1 e1 I k1 _=>bR R I (bR R I (lk I λok=>mw (R.ai I) (R.ai I) (l' I k1 (R.ai I) nb λh3 t3 d3=>d' I t3 d3)))⟩)
 have Q:∀{p:Hp}{O:Nat}{ty:TypeId}{t:Sl},aB h p->aO p O #[(.bool false),(ah 0),(.string (bs [])),(.slice none 0 0)] ty->aS (λc=>h.size<=c/\c<p.size) p t x.items->
   Ap p di gl 4 56 sv 1 (rd p (bD O) (1*4)) λo p=>Ix o.a o.n 4 (aH.length:Int) λL=>NN (bD g.b) λJ=>(dK p L x.au x.num (bs x.text) t λH=>St H (J.add 18) (Sl.v o) λU=>qU K Kp (bD g.b) (aF a) (aH.length:Int) x.hash U)/\
    (St p (J.add 18) (Sl.v o) λH=>dK H L x.au x.num (bs x.text) t λU=>qU K Kp (bD g.b) (aF a) (aH.length:Int) x.hash U):=by
  intro p O ty t P n' vt;have z7:=P.1;refine(d.fr (bx P) λ_ _ _=>id).push (λc q=>bZ) (cr _) ag n' λs' H t8 d8=>?_
  have z8:=t8.1;obtain⟨bb,y',hbb,ix,c'⟩:=d8.set;have nb:¬Tr g.X p H g.b:=bZ
  have j':=t8.bq (kb.ai P) f';have nD:∀c,(h.size<=c/\c<p.size)->¬Tr g.X p H c:=bZ
  have i':=aS.fr t8 (λc q _ z=>bZ) (λ_ z=>z) _ vt
  have mo:∀{N:Hp},H.size<=N.size->∀c,(Tr g.X p H c\/(h.size<=c/\c<p.size))->Tr g.X h N c:=bZ
  have tt:∀{N:Hp},Tn (λc=>c=g.b\/Tr g.X p H c) H N->Tn (λc=>c=g.b\/g.X c) h N:=λY=>((bx P:Tn _ h p).trans (t8.mono λc q _=>.inr q)).trans' Y λc q u'=>q.elim .inl λq=>q.elim .inr λq=>ag
  refine ix ?_;refine bO ?_;refine⟨xU (c' d8 (cr _) i' nD λU t9 d9=>Ua (t9.bq j' nb) λN e' o'=>?_),Ua j' λU o9 k9=>xU (c' (d8.fr o9.fr λc q _ e=>nb (e▸q)) (cr _) (aS.fr o9.fr (λc q _(e:c=g.b)=>ag) (λ_ z=>z) _ i') nD λN Y w'=>?_)⟩
  ·have z9:=t9.1;have m':=e'.1;exact fin (tt ((t9.mono λc q _=>.inr q).trans (e'.fr.mono λc q _=>.inl q))) o' ((d9.fr e'.fr λc q _ e=>by
    grind).mono (mo ag))
  ·have z9:=o9.1;have m':=Y.1;exact fin (tt ((o9.fr.mono λc q _=>.inl q).trans (Y.mono λc q _=>.inr q))) (Y.bq k9 nb) (w'.mono (mo ag))
 refine⟨MF x hv ag λt V W vt=>bR kb W (aJ λa7 p e7 P k7 _=>bR (ka.ai W) P (bR (kb.ai W) P ?_)),aJ λa6 V e6 W k6 _=>bR ka W (bR kb W (MF x (eO hv W) ag λt p P vt=>bR (kb.ai W) P ?_))⟩
 ·have z7:=P.1;exact Q (aq W P) k7 (eO (rY (aS.lt _ vt) λc q=>⟨q.1,ag⟩) P)
 ·have z6:=W.1;exact Q (aq W P) (k6.ai P) (rY (aS.lt _ vt) λc(q:V.size<=c/\c<p.size)=>⟨ag,q.2⟩)
end
section
variable {c:ak} {M:cO} {T:aR} {vs:aQ} {m:fN} {g:dO} {x:aD} {K:cL}
theorem akL{a b:Sl}{n q:Nat}(e:([Sl.v a,.map (some n)]:bg)=[Sl.v b,.map (some q)]):a=b/\n=q:=by
 obtain⟨l,k,j⟩:=a;obtain⟨i,b2,d⟩:=b
 simpa[Sl.v,and_assoc]using e
theorem XN(a:f.k=19)(e:f.can vs):(f.st vs).b.aH=dR vs/\(dR vs).length<=4097/\(f.st vs).b.ends.length<=70000:=by
 have d:=(gh f vs).1 e;have i:=d.n4;refine⟨by rw[fC];simp only[aM];simp[*],jH (d.ds a) (by unfold ou;grind),?_⟩
 rw[fC];simp only[aM];grind
theorem aaO(l:f.k=19)(S:f.cs=[c])(C:MC c M)(hc:f.can vs)(i':f.fit x=true)(hw:x.bw<=4194304)(G:bU f [M] T h (f.st vs) m g)(hv:aS D h s x.items)(hD:∀c,D c->c<h.size->Out g c)
    (j:∀h',Tn T h h'->cX f [M] (Tr T h h') h' (.iface (bI f.k) (bB g.b)) (f.tk (f.st vs) x).2 m->K (f.tk (f.st vs) x).1 h'):Gn (bD g.b) x.au x.num (bs x.text) s h K Kp:=by
  have KF:=ng C;rw[ajt l S]at j;have eS:=IX l;obtain⟨s0,Q⟩:=ri G.ls ((Bq l) _);obtain⟨A,w,hA,O,b'⟩:=sM G rfl;have c':f.cs[0]? =some c:=by rw[S];rfl
  obtain⟨ev,a',q'⟩:=XN l hc;have y:(f.st vs).aN 0=c.st (f.st vs).b.aH:=by rw[mM c' vs,ev,l,By]
  have R:c.can (f.st vs).b.aH:=by have:=fh c' hc;rw[l,By,<-ev]at this;exact this
  rw[<-ev]at a';have o':=iG R;have hh:=(iG hc).1;generalize v':f.st vs=p at G j y R o' hh a' q';refine Gn.of (aJ λa h1 ea g1 o _=>?_);refine bO ?_;have S1:=(eT.of (E:=λc=>D c/\c<h.size) G λc q=>⟨q.2,hD c q.1 q.2⟩).ai KF g1;generalize hE:(λc=>(D c/\c<h.size)\/(h.size<=c/\c<h1.size))=E at S1;have E1:E a:=by rw[<-hE];exact .inr ⟨ag,o.lt⟩
  have I:∀c,D c/\c<h.size->E c:=λc q=>by rw[<-hE];exact .inl q
  have m':=eO (aS.lt _ hv) g1;have V:∀{ha hb:Hp},Tn (λc=>¬E c) ha hb->aS (λc=>D c/\c<h.size) ha s x.items->aS (λc=>D c/\c<h.size) hb s x.items:=λt v=>aS.fr t (λc q _ z=>z (I c q)) (λ_ z=>z) _ v;refine aj o rfl (S1.row KF rfl (λq=>bQ rfl ?_) λq t' A' h2 t2 U=>bu rfl ?_)
  ·rw[rz q]at j;exact j h1 S1.t ⟨g,rfl,S1.G⟩
  rw[ry q]at j;have o:=lG t2 o E1;have Z:=V t2 m';generalize n':p.up (Rb.row x.au)=F at j U;have r:F.b.aH=p.b.aH/\F.b.ends=p.b.ends/\F.b.bF=p.b.bF/\F.aN 0=p.aN 0:=by rw[<-n'];exact⟨rfl,rfl,rfl,rfl⟩
  apply aj o rfl;cases hn:x.au with
  | true=>
    rw[hn,aI rfl]at j;exact bQ rfl (aeQ l KF U rfl (by rw[r.2.1];omega) λh6 g' E' S6 eb t6 x'=>S6.pU KF eb rfl (by show F.b.bF+16<2^62;omega) λr' s' d'=>j r' d'.t ⟨_,by rw[eb],d'.G⟩)
  |false=>
  rw[hn]at j o;rw[aE bh]at j;rw[<-hn]at o;obtain⟨sv,mr,H,d⟩:=(eS _ _ _ _).1 U.G.sp;rw[r.1]at d;have ex:ia f.k g.SS g.kv g.ks [Sl.v sv,.map (some mr)]=[Sl.v s0,w,Sl.v sv,.map (some mr)]:=by unfold ia nG;rw[dU,Q,b'];rfl
  have kb:=U.G.B.k;rw[H,ex]at kb;have u':=d.len;refine bu rfl (Rv.of (eW o (amX d kb (by simp[cj]) (by simp[cj]) ag (λv hm=>by have:=oe hm;omega) Z ag λh3 g3=>?_)))
  have L:=U.ai KF g3;have o:=o.ai g3;have P:=eO Z g3;unfold Nl;rw[r.1]at j;cases hp:gf x p.b.aH with
  | some i=>
    rw[hp]at j;exact bu aC (aeP l KF L rfl (by rw[r.2.1];omega) ag hw o (.inl E1) P (λc q=>.inl (I c q)) j)
  |none=>
  rw[hp]at j;apply bQ rfl;refine bO ?_;refine aj (kb.ai g3) (by simp[cj];rfl) (acF L.G rfl (aK (λJ=>?_) λJ=>?_))
  ·have J:=aU J;simp only at j;rw[dU]at j;exact j h3 L.t ⟨_,by rfl,L.G⟩
  have J:=aU J;simp only at j;rw[aA]at j;have u:=L.G.aN 0 M A w rfl hA O;rw[r.2.2.2,y]at u;obtain⟨kk,bb,rfl⟩:=C.na u;refine L.G.lN (i:=1) rfl (.inr (.inr (.inl l))) (by simp[Q]) O (eW o ?_)
  have p':dc 0 (λq=>c.tk q x) F=((c.tk (c.st p.b.aH) x).1,F.eZ 0 (c.tk (c.st p.b.aH) x).2):=by unfold dc;rw[r.2.2.2,y]
  rw[p']at j;refine C.take R (aep (.inl l) S i' hn) hw u P (λJ q z=>(L.e J (.inl (I J q))).2.2 _ A (dO.fk _ hA) ag z) λh4 t4 M4=>?_;obtain⟨S4,j'⟩:=L.aN KF hA t4 λM' w' q1 q2=>by
    simp at q1;subst q1;have q2:=q2;rw[O]at q2;cases q2;exact M4
  have W:=j'.mono λc q _ z=>q (.inl z);refine cE (λN=>?_) λN=>?_
  ·unfold cQ at j;rw[aE N]at j;exact j h4 S4.t ⟨_,by rfl,S4.G⟩
  unfold cQ at j;rw[aI N]at j;have o:=lG W o E1;have Y:=V W P;refine eW o (Xs x Y ag λh5 g5=>?_);have S5:=S4.ai KF g5;obtain⟨k',l',f',d5⟩:=(eS _ _ _ _).1 S5.G.sp;have e':=f';obtain⟨rfl,rfl⟩:=akL (H.symm.trans e');have d5:fZ g.X h5 sv mr p.b.aH p.b.aH.length:=by
    have e:(F.eZ 0 (c.tk (c.st p.b.aH) x).2).b.aH=p.b.aH:=r.1;rw[e]at d5;exact d5
  refine aj S5.G.B.k ?_ (eW (o.ai g5) (asJ l KF S5 rfl (by show F.b.ends.length<=_;rw[r.2.1];omega) (by show F.b.bF<=_;omega) hw (o.ai g5) (.inl (.inl E1)) (eO Y g5) (λc q=>.inl (.inl (I c q))) Q b' H r.1 ag d5 j))
  show(cj _ _ _ _ _ _ _ (ia f.k g.SS g.kv g.ks g.sp)).toArray[18]? =_
  rw[H,ex];simp[cj]
theorem ahN(j:¬f.small=true)(d:f.k=19)(e:f.cs=[c])(r:Raw):f.zk r=cQ (eN false r) λa=>if ou f.ix<=a.b.aH.length then(102,a)else cQ (dc 0 c.zk a) λi=>(3,i):=by
 rw[rX];unfold nE;simp[*]
theorem ahW(R:bE f)(e:f.k=19)(r:f.cs=[c])(C:MC c M)(X:f.can vs)(G:bU f [M] T h (f.st vs) m g)
  (a:∀J,Tn T h J->cX f [M] (Tr T h J) J (.iface (bI f.k) (bB g.b)) (f.zk (f.st vs)).2 m->K (f.zk (f.st vs)).1 J):K1 (bD g.b) h K Kp:=by
 apply K1.of;refine bO ?_;refine aj G.B.k (by simp[cj];rfl) ?_
 by_cases u:f.small=true
 ·rw[uP (.inl u)]at a;obtain⟨_,O,h3,N⟩:=sD R u;exact bQ u (ig G.uj (aaO e r C X O ag G G.no (λc q _=>G.DF q) a))
 rw[ahN u e r]at a;apply bu (by simpa using u)
 have KF:=ng C;obtain⟨s0,z⟩:=ri G.ls ((Bq e) _);obtain⟨A,w,Y,p,S⟩:=sM G rfl;have F:f.cs[0]? =some c:=by rw[r];rfl
 have n:=mM F vs;have P:=eT.of (E:=λ_=>False) G λ_ q=>q.elim;refine P.row KF rfl (λq=>bQ rfl ?_) λq a' A' O t2 j=>bu rfl ?_
 ·rw[rz q]at a;exact a h P.t ⟨g,rfl,P.G⟩
 rw[ry q]at a;obtain⟨sv,W,Q,d⟩:=(IX e _ _ _ _).1 j.G.sp;have ex:ia f.k g.SS g.kv g.ks [Sl.v sv,.map (some W)]=[Sl.v s0,w,Sl.v sv,.map (some W)]:=by unfold ia nG;rw[dU,z,S];rfl
 have I:=j.G.B.k;rw[Q,ex]at I;have b':=d.len;refine aj I (by simp[cj];rfl) (acF j.G rfl (mw I I (cE (λy=>?_) λy=>?_)))
 ·rw[dU]at a;exact a O j.t ⟨_,by rfl,j.G⟩
 rw[aA]at a;have l:=j.G.aN 0 M A w rfl Y p;rw[iQ,n]at l;have U:dc 0 c.zk ((f.st vs).up (Rb.row false))=((c.zk (c.st (dB f.k f.w (dh f.cs) 0 vs))).1,((f.st vs).up (Rb.row false)).eZ 0 (c.zk (c.st (dB f.k f.w (dh f.cs) 0 vs))).2):=by unfold dc;rw[iQ,n]
 rw[U]at a;refine j.G.lN (i:=1) rfl (.inr (.inr (.inl e))) (by simp[z]) p (C.zero (fh F X) l λN t4 M4=>?_)
 obtain⟨L,_⟩:=j.aN KF Y t4 λM' Z V H=>by
  simp at V;subst V;have H:=H;rw[p]at H;cases H;exact M4
 refine cE (λo=>?_) λo=>?_
 ·unfold cQ at a;rw[aE o]at a;exact a N L.t ⟨_,by rfl,L.G⟩
 ·unfold cQ at a;rw[aI o]at a;exact a N L.t ⟨_,by rfl,L.G⟩
theorem ajO(a:f.k=19)(e:f.cs=[c])(C:MC c M):vX f (cX f [M]):=by
 intro T D h v vs m x s K Kp n d i H j o l;obtain⟨g,rfl,G⟩:=H;have p:bI f.k=oI:=by unfold bI;simp[*]
 have q:mU (.iface oI (bB g.b)) x.au x.num (bs x.text) s h K Kp:=as8 (aaO a e C n d i G j (λc q _=>G.out (o c q)) l);grind
theorem ah6(d:bE f)(a:f.k=19)(e:f.cs=[c])(C:MC c M):vU f (cX f [M]):=by
 intro T h v vs m K Kp j H i;obtain⟨g,rfl,G⟩:=H;have l:bI f.k=oI:=by unfold bI;simp[*]
 have q:mB (.iface oI (bB g.b)) h K Kp:=asZ (ahW d a e C j G i);grind
end
theorem auu{c0 p q b a:Addr}{K:HP}(H:SC c0 p q b a h K Kp):c8 aG (.func (.func 228) #[] #[cU c0,cU p,cU q,cU b,cU a]) [] h (λr d=>r=.tuple #[]/\K d) Kp:=by
 unfold c8;exact cast aX H
section
variable {c:ak} {KM:List cO} {M:cO} {T R:aR} {h0 h':Hp} {r':Raw} {vs:aQ} {m:fN} {mm:Mem} {g:dO} {caps:bg}
theorem aon{n l k j:Array Value}(mc:Ac R h caps [Z,n,l,k,j]):∃i e d b a t s q p o,caps=[bB i,bB e,bB d,bB b,bB a]/\
    (R i/\aO h i Z t)/\(R e/\aO h e n s)/\(R d/\aO h d l q)/\(R b/\aO h b k p)/\(R a/\aO h a j o):=by
  obtain⟨i,t,e0,I⟩:=mc.2 0 Z rfl;obtain⟨e,s,e1,H⟩:=mc.2 1 n rfl;obtain⟨d,q,B,G⟩:=mc.2 2 l rfl;obtain⟨b,p,A,F⟩:=mc.2 3 k rfl;obtain⟨a,o,x,C⟩:=mc.2 4 j rfl
  match caps,mc.1 with
  | [u,v,w,z,y],_=>
    simp at e0 e1 B A x;subst e0 e1 B A x;exact⟨i,e,d,b,a,t,s,q,p,o,rfl,I,H,G,F,C⟩
theorem fZ.xm{sv:Sl}{n:Nat}{a:aQ}(d:fZ A h sv i a n):A i:=by obtain⟨_,_,_,_,⟨_,_,q,_⟩,_⟩:=d;exact q
theorem aoy(a:f.k=19)(u:f.cs=[c])(C:MC c M):wj f (cX f [M]):=by
 intro T h v vs K Kp L H Z;obtain⟨g,rfl,G⟩:=H;have N:=ng C;have ed:bI f.k=oI:=by unfold bI;rw[aA,aA,aA,aA,aA,aA,aI a]
 have eb:gA f.k=228:=by unfold gA;rw[aA,aA,aA,aA,aA,aI a]
 have W:=Bq a;obtain⟨I,e⟩:=ri G.ls (W _);obtain⟨A,w,O,J,c'⟩:=sM G rfl;have o:f.cs[0]? =some c:=by rw[u];rfl
 have X:I.n=(f.st vs).b.ends.length:=by have:=G.oq (i:=0) (s:=I) (by simp[e]) (by rw[W];rfl);rw[this,ints,cC]
 have aN:=G.aN 0 M A w rfl O J;have j:=mM o vs;have U:∀c,A c->c<h.size:=λc q=>G.t.l (bS (g.fk O)) q;obtain⟨sv,mr,V,d⟩:=(IX a _ _ _ _).1 G.sp;obtain⟨ev,a',d'⟩:=XN a L;have P:c.can (f.st vs).b.aH:=by have:=fh o L;rw[a,By,<-ev]at this;exact this
 have b':=iG P;have x:∀{h':Hp},aB h h'->bU f [M] T h' (f.st vs) none g:=λgr=>G.fr N (bx gr) λ_ _ _=>id;have q:kU (.iface oI (bB g.b)) h K Kp:=by
  rw[j]at aN;refine ath (SD.mk (eM:=I) (ru:=sv) (V2:=lI M A w ((f.st vs).aN 0)) (λgr p=>G.Bc (i:=0) N gr rfl (by simp[e]) p) (λgr p=>(x gr).lN (i:=1) rfl (.inr (.inr (.inl a))) (by simp[e]) J p) (λgr p=>?_) zK zL (λgr z=>xP G.B gr z) (lI.pX C.fr U) lI.one (λgr z=>?_) λcaps F0 KF l0 u0 l2 u2 h' Q=>?_)
  ·have y:=(x gr).XR (.inl a) (by simp[e])
   rw[V]at y;exact yz (y 0 _ rfl) p
  ·rw[j]at z;exact lI.call C (fh o L) aN gr z
  ·have:=G.NG (sp:=[]) N u O J Q (.inr (.inr (.inl a))) ((On a _ _).2 ⟨jF _,jF _,by rw[ev];omega,λv Y=>by have:=oe Y;omega⟩) (λq=>ag) (λF m=>?_) Z
   ·rw[eb]at this;exact this
   ·unfold jq;simp only;rw[aA,aA,aA,aA,aI a,X,d.len];rfl
 rw[<-ed]at q;exact q
theorem avf{K:HP}(o:f.k=19)(vA:f.cs=[c])(C:MC c M)(G:bU f [M] T h r (some mm) g)(hk:∀h',Tn T h h'->cX f [M] T h' (.iface (bI f.k) (bB g.b)) mm.r (some mm)->K h'):
  c8 aG mm.F [] h (λr h1=>r=.tuple #[]/\K h1) Kp:=by
 have KF:=ng C;obtain⟨⟨F0,KF',bm,c1,c2,c3,c4⟩,pr,ks,spm⟩:=G.mm mm rfl;obtain⟨caps,eF,mc⟩:=c4 ag;obtain⟨H,em,rfl⟩:=c1 ag;have ecl:jq f.k g.b F0 H.F mm=[#[F0],#[H.F],#[bB g.b],pI mm.r.b.ends.length,pI mm.r.b.aH.length]:=by unfold jq;simp only;rw[aA,aA,aA,aA,aI o]
 rw[ecl]at mc;obtain⟨a0,a1,a2,a3,a4,t0,t1,t2,t3,W,ec,⟨r0,k0⟩,⟨r1,k1⟩,⟨r2,j⟩,⟨r3,k3⟩,⟨r4,Z⟩⟩:=aon mc;have ebk:gA f.k=228:=by unfold gA;rw[aA,aA,aA,aA,aA,aI o]
 have I:=Bq o;have ep:=On o;have eS:=IX o;rw[ep]at pr;obtain⟨j',l,b',L⟩:=pr;obtain⟨s0,Q⟩:=ri G.ls (I _);obtain⟨A0,n'⟩:∃A0,g.ST=[A0]:=by
  have:=G.ls.2;rw[I]at this
  match hg:g.ST,this with
  |[a],_=>exact⟨a,rfl⟩
 obtain⟨A,w,hA,hw,u'⟩:=sM G rfl;rw[eF,ec,ebk];have hS:∀c,(c=g.b\/g.T0 c)->c<h.size->c=g.b\/g.T0 c:=λc q _=>q;have V:=G.av g.gq hS g.fF ag;have nA:∀c,g.R c->¬A c:=λc q=>G.t.ne g.fF (g.fk hA) ag c q;have nR:∀{c:Nat},g.R c->c≠g.b:=λq e=>G.t.kW g.fF (e▸q);have e':∀{c:Nat},g.R c->¬g.X c:=λq=>G.t.ne g.fF g.iM ag _ q;have c':=G.t.kW g.iM;refine auu (SC.of (aj k0 rfl ?_))
 show c8 aG F0 [] h _ _
 refine xK G KF bm λh1 u1 G1=>?_;have k1:=u1.bq k1 (V _ r1 k1.lt);have j:=u1.bq j (V _ r2 j.lt);have k3:=u1.bq k3 (V _ r3 k3.lt);have Z:=u1.bq Z (V _ r4 Z.lt);have a':=G1.aN 0 M A w rfl hA hw;have e0:((some mm).bind λmm=>mm.ks[0]?)=some H:=by show mm.ks[0]? =some H;rw[em];rfl
 rw[e0]at a';apply aj k1 rfl
 show c8 aG H.F [] h1 _ _
 refine C.back a' λh2 u2 M2=>?_;have G2:=G1.Iu KF hA u2 λM' w' q1 q2=>by
  simp at q1;subst q1;have q2:=q2;rw[hw]at q2;cases q2;rw[e0];exact M2
 have j:=u2.bq j (nA _ r2);have k3:=u2.bq k3 (nA _ r3);have Z:=u2.bq Z (nA _ r4);have o0:=G2.sl 0 s0 A0 (ints r.b.ends,Y6) (by simp[Q]) (by simp[n']) (by rw[I];rfl)
 have n0:=o0.n;have p0:=j'.length_le;simp only[ints,cC]at n0;refine aj j rfl (aj j rfl ?_);refine bO ?_;refine G2.dI (i:=0) rfl (by simp[Q]) (aj k3 rfl (o0.cut ag rfl λJ e0' k'=>?_))
 have z':(ints r.b.ends).take mm.r.b.ends.length=ints mm.r.b.ends:=by
  conv=>rhs;rw[YC.1 j']
  unfold ints;rw[<-Jv]
 rw[z']at k';refine G2.uW (i:=0) (s:=s0) (by simp[Q]) G2.B.k λh3 w3 p'=>?_
 have G3:=G2.wR (x':=(ints mm.r.b.ends,Y6)) (r':=((r.qA mm.r).eZ 0 H.r).up λb=>{b with ends:=mm.r.b.ends}) KF (by simp[n']) k' w3 p' ⟨rfl,rfl,rfl,rfl⟩ (by rw[I,I];rfl) rfl rfl λl' e _=>by rw[ep];cases e;exact⟨jF _,l,b',L⟩
 have j:=w3.bq j (nR r2);have Z:=w3.bq Z (nR r4);obtain⟨sv,Y,i',d⟩:=(eS _ _ _ _).1 G3.sp;have i':=i';have d:fZ g.X h3 sv Y r.b.aH r.b.aH.length:=d;have dl:=d.len;have xm:=d.xm;have ex:∀q:Sl,ia f.k (g.SS.set 0 J) g.kv g.ks [Sl.v q,.map (some Y)]=[Sl.v J,w,Sl.v q,.map (some Y)]:=λq=>by unfold ia nG;rw[dU,Q,u'];rfl
 have kb:=G3.B.k;dsimp only at kb;rw[i',ex]at kb;refine Ru.of (aj j rfl ?_);refine bO ?_;refine aj kb (by simp[cj] <;> rfl) (aY ag ag ?_)
 have U:=l.length_le;apply P7.bC (λz hx=>∃n:Nat,z=(n:Int)-1/\mm.r.b.aH.length<=n/\n<=r.b.aH.length/\Tn g.X h3 hx/\fZ g.X hx sv Y r.b.aH n) (λz _=>(z+1).toNat) ⟨r.b.aH.length,by rw[dl],U,cr _,iW _ _,d⟩
 rintro z h4 ⟨n,rfl,hn1,hn2,W,d4⟩ N hZ;have O:=W.bq kb c';have P:=W.bq j (e' r2);have m':=W.bq Z (e' r4);refine aj m' rfl (cE (λcc=>?_) λcc=>?_)
 ·obtain⟨n,rfl⟩:∃k,n=k+1:=⟨n-1,ag⟩
  have hx:r.b.aH[n]? =some r.b.aH[n]:=bL ag;generalize r.b.aH[n]=x at hx;have hu:(r.b.aH.getD n v0).hash=x.hash:=by rw[gB,hx];rfl
  apply aj P rfl;refine bO ?_;refine aj O (by simp[cj] <;> rfl) (d4.vs.ix (i:=n) ag hx λp u cp q'=>ig cp (Xs x q' (by have:=L x (bS hx);omega) λh5 g5=>?_))
  have d5:=d4.fr (S:=No) (bx g5) λ_ _ _=>id;obtain⟨sq,lk,nq,Ug⟩:=d5.sub hu;have f':=O.ai g5;have g':=P.ai g5;have hlen:=Xc r.b.aH n x.hash;refine aj g' rfl ?_;refine bO ?_;refine aj f' (by simp[cj] <;> rfl) (lk λok=>aj g' rfl ?_)
  refine bO ?_;refine aj f' (by simp[cj] <;> rfl) (aY ag ag ?_)
  rw[show((sq.n:Int)-1)=((hl r.b.aH n x.hash).length:Int) by omega]
  refine Ug λs1 up=>up λh6 o6 t' v'=>cE (λc1=>?_) λc1=>?_
  ·have nm:g.b≠Y:=λe=>c' (e▸xm);refine aj (o6.bq g' λe=>e' r2 (e▸xm)) rfl ?_;refine bO ?_;refine aj (o6.bq f' nm) (by simp[cj] <;> rfl) (v' (jw.1 ag) λh7 o7 d7=>aY ag ag (hZ _ _ ⟨n,ag,ag,ag,W.trans ((bx g5:Tn _ h4 h5).trans (o7.fr.mono λc q _=>q▸xm)),d7⟩ ag))
  ·exact aY ag ag (hZ _ _ ⟨n,ag,ag,ag,W.trans ((bx g5:Tn _ h4 h5).trans (o6.fr.mono λc q _=>q▸xm)),t' λe=>by rw[e]at nq;simp at nq;omega⟩ ag)
 ·have en:n=mm.r.b.aH.length:=ag;subst en;refine Rt.of (aj P rfl (aj P rfl ?_));refine bO ?_;refine aj O (by simp[cj] <;> rfl) (aj m' rfl (d4.cut (cr _) U rfl λs' d'=>Ua O λh5 o5 k5=>?_))
  have y':r.b.aH.take mm.r.b.aH.length=mm.r.b.aH:=(YC.1 l).symm;rw[y']at d';have d':=d'.fr o5.fr λc q _ e=>c' (e▸q);have G4:=G3.spB (sp':=[Sl.v s',.map (some Y)]) (r':=((r.qA mm.r).eZ 0 H.r).up λb=>{b with ends:=mm.r.b.ends,aH:=mm.r.b.aH}) KF ((W.mono λc q _=>.inr q).trans (o5.fr.mono λc q _=>.inl q)) (by dsimp only;rw[ex];exact k5) ⟨rfl,rfl,rfl,rfl⟩ (by rw[I,I];rfl) rfl ((eS _ _ _ _).2 ⟨s',Y,rfl,d'⟩) (λl' e q=>by
   cases e;rw[ep];exact⟨jF _,jF _,jH U b',λv hv=>L v (l.subset hv)⟩) λq=>ag
  have tf:Tn T h h5:=((((u1.mono λc q _=>q.elim (λe=>e▸G.t.tb) λq=>G.kr g.gq q).trans (u2.mono λc q _=>G.kr (g.fk hA) q)).trans (w3.fr.mono λc q _=>q▸G.t.tb)).trans (W.mono λc q _=>G.kr g.iM q)).trans (o5.fr.mono λc q _=>q▸G.t.tb);have eK:∀(r9:Raw),r9.kids=r.kids->(r9.eZ 0 H.r).kids=mm.r.kids:=by
   intro r9 e9;rw[ks.1,em];obtain⟨b9,o'⟩:=r9;have hl:=G.lk.2.2;rw[<-e9]at hl
   match o',hl with
   |[y],_=>rfl
  exact hk h5 tf ⟨_,by rfl,G4.conv (r':=mm.r) ⟨rfl,rfl,rfl,rfl⟩ (by rw[I,I];rfl) (eK _ rfl).symm (λ_=>rfl) λl' e _=>by cases e;rw[ep];exact⟨jF _,jF _,jH U b',λv hv=>L v (l.subset hv)⟩⟩
end
section
variable {c:ak} {M:cO} {vs:aQ}
theorem TE{ix:Int}{K:cL}(b:3<=ix/\ix<=10)(a:K (wB ix:Int) h):wH ix h K Kp:=by
 have:ix=3\/ix=4\/ix=5\/ix=6\/ix=7\/ix=8\/ix=9\/ix=10:=ag;rcases this with rfl|rfl|rfl|rfl|rfl|rfl|rfl|rfl <;> exact wH.of a
theorem asD(c':bE f)(L:f.k=19)(d':f.cs=[c])(C:MC c M):wL f (cX f [M]):=by
 intro T h v vs m K Kp hc H hk;obtain⟨g,rfl,G⟩:=H;have KF:=ng C;have W:=(c'.right.1.2.2.2.2.2.1 L).2.2;have ed:bI f.k=oI:=by unfold bI;simp[*]
 have es:=Bq L;obtain⟨s0,V⟩:=ri G.ls (es _);obtain⟨A0,e'⟩:∃A,g.ST[0]? =some A:=⟨_,bL (by rw[G.ls.2,es];simp)⟩
 have ef:f.dn (f.st vs)=.mk (f.st vs).b.rows 0 (f.st vs).b.cz [dF (f.st vs).b,laidB (f.st vs).b.ends (wB f.ix)] [] (hY f vs):=by rw[I0 L,fC];rfl
 rw[ef]at hk;obtain⟨ev,i',el⟩:=XN L hc;have eb:∀x∈(f.st vs).b.ends,x<2^63:=by
  rw[fC];simp only[aM];rw[aA,aA,aA,aI L];intro x d;obtain⟨v,_,rfl⟩:=kZ.1 d;split
  ·omega
  ·cases hp:gf v (dR vs)with
   |none=>simp
   |some p=>have:=(dy.1 (DB hp).1).1;grind
 have b':wB f.ix<=8:=by unfold wB;split;omega;split;omega;grind
 have q:mC (.iface oI (bB g.b)) h K Kp:=by
  refine atq (SE.of (aJ λa2 r e1 g1 k2 _=>?_));refine bO ?_;have R:∀{d:Hp},aB r d->bU f [M] T d (f.st vs) m g:=λF=>G.fr KF (bx (aq g1 F)) λ_ _ _=>id;have kb:=(R (cW _)).B.k;have o0:∀{d:Hp},aB r d->Os A0 d s0 (ints (f.st vs).b.ends) Y6:=λF=>(R F).sl 0 s0 A0 (ints (f.st vs).b.ends,Y6) (by simp[V]) e' (by rw[es];rfl)
  have fin:∀{d:Hp}{e:Nat}{b:Sl},AB h d a2 e (f.st vs).b.rows (f.st vs).b.cz b [dF (f.st vs).b,laidB (f.st vs).b.ends (wB f.ix)]->uI K Kp (bD g.b) (aF a2) (aF e) d:=by
   intro d e b B;apply uI.of;refine bO ?_;obtain⟨c2,Z,a',e2⟩:=B.k2;have g':=a'.lt;have f':=B.k3.lt;have Gh:=G.fr KF (bx B.g) λ_ _ _=>id;refine adt (i:=1) (.inr (.inr (.inl L))) d' C hc Gh (by simp[V]) rfl λa h' gr la ds=>amJ (t:=⟨some (aF a),1,1⟩) (a'.ai gr) e2 (B.k3.ai gr) B.l.2.2 λY Z=>?_
   obtain⟨ge,be⟩:=B.end gr Z;have:=B.g.1;exact hk (b,Sl.nil,_) Y ge ⟨be,jv _,dD.fr Z (λc(q:d.size<=c)_ z=>ag) (λc(q:d.size<=c)_ z=>ag) (λc(q:d.size<=c)=>ag) (λc(q:d.size<=c)=>ag) _ ds⟩
  have q5:=λ{d:Hp}{e:Nat}{b:Sl}(F:aB r d)(o:aO d e cY cg)(U:r.size<=e)(Q:fu (Ex r e) (Ex r e) d b [dF (f.st vs).b,laidB (f.st vs).b.ends (wB f.ix)])=>Jl g1 k2 rfl ag F o U Q λh'=>fin;have q4:∀{d:Hp}{e:Nat}{b:Sl},aB r d->aO d e cY cg->r.size<=e->fu (Ex r e) (Ex r e) d b [dF (f.st vs).b,laidB (f.st vs).b.ends (wB f.ix)]->
    gZ (bD g.b) b d (λt0 t1 Z t3 t4 t5 X=>cJ X (aF e) t0 t1 Z t3 t4 t5 (uI K Kp (bD g.b) (aF a2) (aF e))) Kp:=λF o U Q=>ql (R F).B λX I=>q5 (aq F I) (o.ai I) U (Q.gr I)
  have q3:=λ{d:Hp}{e:Nat}{u t:Sl}(F:aB r d)(o:aO d e cY cg)(U:r.size<=e)(P:eL (Ex r e) d u (bv (dF (f.st vs).b)))(vt:eL (Ex r e) d t (bv (laidB (f.st vs).b.ends (wB f.ix))))=>
   oy P vt ⟨F.1,by have:=o.lt;omega⟩ λa X I Q=>q4 (aq F I) (o.ai I) U Q
  have q2:=λ{d:Hp}{e:Nat}{u:Sl}(F:aB r d)(o:aO d e cY cg)(U:r.size<=e)(P:eL (Ex r e) d u (bv (dF (f.st vs).b)))=>
   xe (Kp:=Kp) (o0 F) el b' eb λt X N=>q3 (aq F N.g) (o.ai N.g) U (P.gr N.g) (N.lq.mo λc(q:d.size<=c)=>⟨by have:=F.1;omega,by have:=o.lt;omega⟩)
  have y:=λ{d:Hp}(F:aB r d)=>(R F).B.k;refine(R (cW _)).dI (i:=0) rfl (by simp[V]) (aj kb (by simp[cj] <;> rfl) ⟨vJ (R (cW _)).B λu Y j P=>bR kb j (bR kb j ⟨TE W (mw (y j) (y j) ⟨xe (o0 j) el b' eb λt h3 N=>⟨?_,?_⟩,aJ λe h3 e3 E o _=>bR (y j) E (bR (y j) E ?_)⟩),aJ λe h3 e3 E o _=>bR (y j) E (bR (y j) E (TE W (mw (y (aq j E)) (y (aq j E)) ?_)))⟩),aJ λe Y e2 j o _=>bR kb j (bR kb j (vJ (R j).B λu h3 E P=>bR (y j) E (bR (y j) E (TE W (mw (y (aq j E)) (y (aq j E)) ?_)))))⟩)
  ·have z2:=j.1;have O:=aq j N.g;have z3:=N.g.1;refine oy ((P.gr N.g).mo λc q=>q) (N.lq.mo λc(q:Y.size<=c)=>ag) ag λa h4 J Q=>⟨ql (R (aq O J)).B λX I=>aJ λe h6 e6 g6 o _=>bR (y (aq (aq O J) I)) g6 (bR (y (aq (aq O J) I)) g6 ?_),aJ λe X e5 I o _=>bR (y (aq O J)) I (bR (y (aq O J)) I ?_)⟩
   ·have z4:=J.1;have z5:=I.1;exact q5 (aq (aq (aq O J) I) g6) o ag (Q.kN (aq I g6) ag λc q=>q)
   ·have z4:=J.1;exact q4 (aq (aq O J) I) o ag (Q.kN I ag λc q=>q)
  ·have z2:=j.1;have z3:=N.g.1;have O:=aq j N.g;refine aJ λe h4 e4 J o _=>bR (y O) J (bR (y O) J (q3 (aq O J) o ag (P.kN (aq N.g J) ag λc q=>q) (N.lq.kN J ag λc(q:Y.size<=c)=>ag)))
  ·have z2:=j.1;exact q2 (aq j E) o ag (P.kN E ag λc q=>q)
  ·have z2:=j.1;exact q2 (aq j E) o ag (P.kN E ag λc q=>q)
  ·have z2:=j.1;exact q2 (aq j E) (o.ai E) ag (P.mo λc(q:Y.size<=c)=>⟨ag,ag⟩)
 grind
end
mutual
def ak.m7:ak->cO
 |.mk nm au k w id ix cs=>cX (.mk nm au k w id ix cs) (Ie cs)
def Ie:List ak->List cO
 |[]=>[]
 |f::fs=>f.m7::Ie fs
end
theorem acR:∀cs:List ak,Ie cs=cs.map ak.m7
 |[]=>by simp[Ie]
 |f::a=>by simp[Ie,acR a]
theorem ak.acS(f:ak):f.m7=cX f (f.cs.map ak.m7):=by
 obtain⟨a,au,k,w,id,ix,cs⟩:=f;rw[<-acR];simp only[ak.m7];rfl
def awM(f:ak)(M:cO):Prop:=∀{T:aR}{h:Hp}{v:Value}{r:Raw}{mm:Mem}{K:HP}{Kp:PK},M T h v r (some mm)->
  (∀h',Tn T h h'->M T h' v mm.r (some mm)->K h')->c8 aG mm.F [] h (λr h1=>r=.tuple #[]/\K h1) Kp
section
variable {KM:List cO}
theorem kI.drop(C:kI f.cs KM):∀(j:Nat)M,KM[j]? =some M->∀{T:aR}{h:Hp}{v:Value}{r:Raw}{m:fN},M T h v r m->M T h v r none:=by
 intro j M a T h v r m;have c:=(dy.1 a).1;have b:j<f.cs.length:=by have:=C.1;omega
 exact(C.2 j _ M (bL b) a).drop
theorem w8(C:kI f.cs KM)(t:vX f (cX f KM))(z:vU f (cX f KM))(k:wj f (cX f KM))(b:awM f (cX f KM))(d:wL f (cX f KM)):MC f (cX f KM):=
 ⟨cX.fr (v:=.bool false) C.qI,cX.lt,cX.na,cX.mono,cX.drop C.drop,t,z,k,b,d,cX.count,cX.weight⟩
theorem aoh(b:bE f)(D:∀c∈f.cs,MC c c.m7):MC f f.m7:=by
 have C:kI f.cs (f.cs.map ak.m7):=⟨cC ..,λj c M u B=>by
  grind⟩
 have z:∀c∈f.cs,jj c/\dV c c.zk c.cm:=λc u=>⟨(mE c (b.aN u)).1,(mE c (b.aN u)).2.1⟩;rw[ak.acS];have flat:f.k≠15/\f.k≠16/\f.k≠19/\f.k≠20/\f.k≠17/\f.k≠18->f.cs=[]:=λq=>jw.1 (b.right.1.2.2.2.2.2.2.2.2.2.2 q);have one:f.k=15\/f.k=16\/f.k=19\/f.k=20->∃c,f.cs=[c]/\MC c c.m7/\jj c/\dV c c.zk c.cm:=λq=>by
  obtain⟨c,u,_⟩:=b.one q;simp[*]
 by_cases x:f.k=1
 ·have a:=flat ag;exact w8 C (by rw[a];exact ajM x) (by rw[a];exact ah4 x) (by rw[a];exact aow x a) (by rw[a];rintro T h v r t K w ⟨g,rfl,G⟩ e;exact avd x a G e) (by rw[a];exact asB x)
 by_cases s:f.k=12\/f.k=13
 ·have a:=flat ag;exact w8 C (by rw[a];exact ajH b s) (by rw[a];exact ahZ b s) (by rw[a];exact aor s a) (by rw[a];rintro T h v r t K w ⟨g,rfl,G⟩ e;exact au8 s a G e) (by rw[a];exact asw s)
 by_cases p:f.k=15
 ·obtain⟨c,a,d,P,_⟩:=one ag;exact w8 C (by rw[a];exact ajN b p a d P) (by rw[a];exact ah5 b p a d P) (by rw[a];exact aox p a d) (by rw[a];rintro T h v r t K w ⟨g,rfl,G⟩ e;exact ave p a d G e) (by rw[a];exact asC p a d)
 by_cases o:f.k=16
 ·obtain⟨c,a,d,P,Z⟩:=one ag;exact w8 C (by grind[ajJ]) (by grind[ah1]) (by rw[a];exact aot o a d) (by rw[a];rintro T h v r t K w ⟨g,rfl,G⟩ e;exact ava o a d G e) (by rw[a];exact asy o a d)
 by_cases n:f.k=17
 ·exact w8 C (ajI b n C z) (ah0 b n C z) (aos b n C) (by rintro T h v r t K w ⟨g,rfl,G⟩ e;exact au9 b n C G e) (asx b n C)
 by_cases m:f.k=18
 ·exact w8 C (ajP b m C z) (ah7 b m C z) (aoz b m C) (by rintro T h v r t K w ⟨g,rfl,G⟩ e;exact avg b m C G e) (asE b m C)
 by_cases l:f.k=19
 ·obtain⟨c,a,d,P,_⟩:=one ag;exact w8 C (by rw[a];exact ajO l a d) (by rw[a];exact ah6 b l a d) (by rw[a];exact aoy l a d) (by rw[a];rintro T h v r t K w ⟨g,rfl,G⟩ e;exact avf l a d G e) (by rw[a];exact asD b l a d)
 by_cases i:f.k=20
 ·obtain⟨c,a,d,P,_⟩:=one ag;exact w8 C (by rw[a];exact ajK b i a d P) (by rw[a];exact ah2 b i a d P) (by rw[a];exact aou i a d) (by rw[a];rintro T h v r t K w ⟨g,rfl,G⟩ e;exact avb i a d G e) (by rw[a];exact asz i a d)
 have y:fE f.k=true:=by simp[fE];omega
 have a:=flat ag;exact w8 C (by rw[a];exact ajL y) (by rw[a];exact ah3 b y) (by rw[a];exact aov y a) (by rw[a];rintro T h v r t K w ⟨g,rfl,G⟩ e;exact avc y a G e) (by rw[a];exact asA b y)
end
theorem A8:∀f:ak,bE f->MC f f.m7
  | .mk e au k w id ix cs,a=>by
    have b:∀c∈cs,MC c c.m7:=λc d=>A8 c (a.aN d);exact aoh a b
theorem qz(f:ak):f.wz<=4194305:=by
 rw[zM];unfold yN;grind
theorem AT(k:aO h a (f.row s).toArray iI):Cs h ⟨a,2,none⟩ [ah f.k,ah f.w,ah f.id,ah f.ix,Sl.v s]:=by
 intro i v b;rw[bz,gU k];rcases i with _|_|_|_|_|i
 ·simpa[ak.row,oh]using b
 ·simpa[ak.row,oh]using b
 ·simpa[ak.row,oh]using b
 ·simpa[ak.row,oh]using b
 ·simpa[ak.row,oh]using b
 ·simp at b
theorem aiw(fX:bE f)(IH:∀c∈f.cs,Ca c):Ca f:=by
  cases hl:f.lets with
  |true=>exact aix hl
  |false=>
  intro h s K Kp hs hk;have m9:=fX.right.1;obtain⟨_,_,zp,D0,_,_,_,h1,Xx,Bm,_⟩:=m9;refine tH.of (aJ λa1 h1' e1 g1 k1 _=>dM k1 (Im (hs.gr g1) λh2 g2=>bu hl ?_));have s2:=g2.1;have G2:=aq g1 g2;have k1:=k1.ai g2;simp only[bz,bX];refine nh (AT k1) (aJ λa3 h3 e3 g3 k3 _=>pH k3 rfl λh4 o4 k3=>aj k3 rfl ?_);have G4:=bK (aq G2 g3) o4 ag;have zm:=hs.gr G4;have fin:∀{h':Hp}(n:Nat){x:Int},aB h4 h'->f.wz=min 4194305 n->x=(n:Int)->Lt (if 4194305<x then 4194305 else x) λt63=>K t63 h':=by
    rintro h' n x g e rfl;have:=hk h' (aq G4 g);have e2:(if 4194305<(n:Int)then(4194305:Int)else(n:Int))=(f.wz:Int):=by rw[e];split <;> omega
    unfold Lt;rw[e2];exact this
  have ew:f.wz=min 4194305 (if f.k=14 then 16+f.w.toNat else if f.k=16 then 16+f.w.toNat*(f.cs.map ak.wz).getD 0 0 else if f.k=17 then 16+(f.cs.map ak.wz).sum else if f.k=18 then 16+(f.cs.map ak.wz).getD 0 0 else if f.k=19\/f.k=20 then(f.cs.map ak.wz).getD 0 0 else 16):=by
    rw[zM,hl];rfl
  have aN:∀{c:ak},f.cs[0]? =some c->(f.cs.map ak.wz).getD 0 0=c.wz:=by grind
  simp only[bz,bX];refine aK (λgW=>?_) λgW=>aK (λkA=>?_) λkA=>aK (λmL=>?_) λmL=>aK (λfM=>?_) λfM=>?_
  ·have gW:=aU gW;have hw:=zp gW;rw[aI gW]at ew;exact aj k3 rfl (aY ag ag (fin (16+f.w.toNat) (cW _) ew (by push_cast;omega)))
  · simp only[sm,reduceCtorEq]at gW kA;rw[aE gW,aI kA]at ew;have hc:=h1 ag;have eB:f.cs[0]? =some f.cs[0]:=bL ag;generalize f.cs[0]=c at eB;rw[aN eB]at ew;have wl:=qz c;refine aj k3 rfl (aj k3 rfl (zm.ix rfl eB λp hp=>?_));obtain⟨u,cp,hu⟩:=hp.row;refine gQ cp (IH c (bS eB) hu λh5 g5=>bR k3 g5 ?_);have e1:f.w*(c.wz:Int)=((f.w.toNat*c.wz:Nat):Int):=by push_cast;rw[xZ ag]
    have e2:f.w.toNat*c.wz<=64*4194305:=sX ag wl;rw[e1];exact aY ag ag (aY ag ag (fin (16+f.w.toNat*c.wz) g5 ew (by push_cast;rfl)))
  · simp only[sm,reduceCtorEq]at gW kA mL;rw[aE gW,aE kA,aI mL]at ew;have hn:=zm.n;have ap4:∀i,((f.cs.map ak.wz).take i).sum<=i*4194305:=by
      intro i
      induction i with
      |zero=>simp
      | succ i ih=>
        by_cases hi:i<(f.cs.map ak.wz).length
        ·grind[List.take_succ_eq_append_getElem,qz]
        ·have q1:(f.cs.map ak.wz).take (i+1)=f.cs.map ak.wz:=pK ag;have q2:(f.cs.map ak.wz).take i=f.cs.map ak.wz:=pK ag;rw[q1];rw[q2]at ih;exact jH ih (pL _ (Nat.le_succ i))
    refine aj k3 rfl (Qr.bC (λy z h'=>∃i:Nat,z=i/\i<=f.cs.length/\y=((16+((f.cs.map ak.wz).take i).sum:Nat):Int)/\aB h4 h') (λ_ z _=>f.cs.length-z.toNat) ⟨0,rfl,eH _,aC,cW _⟩ ?_)
    rintro y z h5 ⟨i,rfl,hi,ey,g5⟩ N hN;subst ey;have hb:=ap4 i;refine cE (λcc=>?_) λcc=>?_
    · have fR:i<f.cs.length:=ag;have eB:=bL fR;have ov:(f.cs.map ak.wz).take (i+1)=(f.cs.map ak.wz).take i++[f.cs[i].wz]:=by rw[kP (by simpa using fR)];simp
      generalize f.cs[i]=c at eB ov;have wl:=qz c;refine(zm.gr g5).ix rfl eB λp hp=>?_;obtain⟨u,cp,hu⟩:=hp.row;refine gQ cp (aJ λa6 h6 e6 g6 k6 _=>pG k6 rfl λh7 o7 k7=>dM k7 ?_);have g7:=bK g6 o7 ag;refine IH c (bS eB) (hu.gr g7) λh8 g8=>aY ag ag (aY ag ag (hN _ _ _ ⟨i+1,aC,ag,?_,aq g5 (aq g7 g8)⟩ ag))
      rw[ov,Jr];simp;omega
    ·have:i=f.cs.length:=ag;subst this;rw[pK aC];exact fin (16+(f.cs.map ak.wz).sum) g5 ew (by push_cast;rfl)
  ·simp only[sm,reduceCtorEq]at gW kA mL fM;rw[aE gW,aE kA,aE mL,aI fM]at ew;have hc:=(Bm fM).1;have eB:f.cs[0]? =some f.cs[0]:=bL ag;generalize f.cs[0]=c at eB;rw[aN eB]at ew;have wl:=qz c;refine aj k3 rfl (zm.ix rfl eB λp hp=>?_);obtain⟨u,cp,hu⟩:=hp.row;exact gQ cp (IH c (bS eB) hu λh5 g5=>aY ag ag (fin (16+c.wz) g5 ew (by push_cast;rfl)))
  · simp only[sm,reduceCtorEq]at gW kA mL fM;rw[aE gW,aE kA,aE mL,aE fM]at ew;have deep:f.k=19\/f.k=20->Ld h4 ⟨a3,4,none⟩ Sl.v λt58=>Ix t58.a t58.n 7 0 λa59=>bP h4 a59 λajY ajX ajW ajV ajU ajT ajS=>tH ajY ajX ajW ajV ajU ajT ajS h4 (λt61 h5=>Lt (if 4194305<t61 then 4194305 else t61) λt63=>K t63 h5) Kp:=by
      intro q;rw[aI q]at ew;have hc:=h1 ag;have eB:f.cs[0]? =some f.cs[0]:=bL ag;generalize f.cs[0]=c at eB;rw[aN eB]at ew;refine aj k3 rfl (zm.ix (x:=0) (i:=0) rfl eB λp hp=>?_);obtain⟨u,cp,hu⟩:=hp.row;exact gQ cp (IH c (bS eB) hu λh5 g5=>fin c.wz g5 ew rfl)
    refine aK (λnN=>bQ nN ?_) λnN=>aK (λzH=>?_) λzH=>?_
    ·have nN:=aU nN;exact deep (.inl nN)
    ·have zH:=aU zH;exact deep (.inr zH)
    ·simp only[sm,reduceCtorEq]at nN zH;rw[aA]at ew;exact fin 16 (cW _) ew rfl
theorem aai:∀f:ak,bE f->Ca f
  | .mk e au k w id ix cs,a=>by
    have b:∀c∈cs,Ca c:=λc d=>aai c (a.aN d);exact aiw a b
open Go Go.Sh Go.Shelf
def abK:Ren where
 f:=λx=>match x with|99=>123|105=>104|165=>124|166=>125|169=>127|170=>126|206=>144|212=>122|240=>145|241=>146|263=>142|264=>143|276=>153|277=>154|n=>n
 t:=λx=>match x with|37=>44|46=>147|51=>237|53=>231|70=>222|72=>224|75=>227|76=>228|109=>219|127=>246|146=>242|148=>244|164=>255|80=>230|n=>n
 g:=λn=>n
theorem HW:Lays.n105 aG abK where
 mixed:=by kernel_rfl
 f99:=by kernel_rfl
 f105:=by kernel_rfl
 f165:=by kernel_rfl
 f166:=by kernel_rfl
 f169:=by kernel_rfl
 f170:=by kernel_rfl
 f206:=by kernel_rfl
 f212:=by kernel_rfl
 f240:=by kernel_rfl
 f241:=by kernel_rfl
 f263:=by kernel_rfl
 f264:=by kernel_rfl
 f276:=by kernel_rfl
 f277:=by kernel_rfl
 t0:=Tryz.underlying0
 a0:=Tryz.isAgg0
 z0:=Tryz.sizeOf0
 v0:=Tryz.zeroValue0
 t3:=Tryz.underlying3
 a3:=Tryz.isAgg3
 z3:=Tryz.sizeOf3
 v3:=Tryz.zeroValue3
 t4:=Tryz.underlying4
 a4:=Tryz.isAgg4
 z4:=Tryz.sizeOf4
 v4:=Tryz.zeroValue4
 t5:=Tryz.underlying5
 a5:=Tryz.isAgg5
 z5:=Tryz.sizeOf5
 v5:=Tryz.zeroValue5
 t9:=Tryz.underlying9
 a9:=Tryz.isAgg9
 z9:=Tryz.sizeOf9
 v9:=Tryz.zeroValue9
 t20:=Tryz.underlying20
 a20:=Tryz.isAgg20
 z20:=Tryz.sizeOf20
 v20:=Tryz.zeroValue20
 t37:=Tryz.underlying44
 a37:=Tryz.isAgg44
 z37:=Tryz.sizeOf44
 v37:=Tryz.zeroValue44
 t46:=Tryz.underlying147
 a46:=Tryz.isAgg147
 z46:=Tryz.sizeOf147
 v46:=Tryz.zeroValue147
 t51:=Tryz.underlying237
 a51:=Tryz.isAgg237
 z51:=Tryz.sizeOf237
 v51:=Tryz.zeroValue237
 t53:=Tryz.underlying231
 a53:=Tryz.isAgg231
 z53:=Tryz.sizeOf231
 v53:=Tryz.zeroValue231
 t70:=Tryz.underlying222
 a70:=Tryz.isAgg222
 z70:=Tryz.sizeOf222
 v70:=Tryz.zeroValue222
 t72:=Tryz.underlying224
 a72:=Tryz.isAgg224
 z72:=Tryz.sizeOf224
 v72:=Tryz.zeroValue224
 t75:=Tryz.underlying227
 a75:=Tryz.isAgg227
 z75:=Tryz.sizeOf227
 v75:=Tryz.zeroValue227
 t76:=Tryz.underlying228
 a76:=Tryz.isAgg228
 z76:=Tryz.sizeOf228
 v76:=Tryz.zeroValue228
 t109:=Tryz.underlying219
 a109:=Tryz.isAgg219
 z109:=Tryz.sizeOf219
 v109:=Tryz.zeroValue219
 t127:=Tryz.underlying246
 a127:=Tryz.isAgg246
 z127:=Tryz.sizeOf246
 v127:=Tryz.zeroValue246
 t146:=Tryz.underlying242
 a146:=Tryz.isAgg242
 z146:=Tryz.sizeOf242
 v146:=Tryz.zeroValue242
 t148:=Tryz.underlying244
 a148:=Tryz.isAgg244
 z148:=Tryz.sizeOf244
 v148:=Tryz.zeroValue244
 t164:=Tryz.underlying255
 a164:=Tryz.isAgg255
 z164:=Tryz.sizeOf255
 v164:=Tryz.zeroValue255
theorem ams:Builder.Extra aG abK where
 sizeBuilder:=by kernel_rfl
 liesBuilder:=by kernel_rfl
 t5:=HW.t5
 a5:=HW.a5
 z5:=HW.z5
 v5:=HW.v5
 infoByte:=by kernel_rfl
 cellsByte:=by kernel_rfl
 sizeByte:=by kernel_rfl
 neB5:=by decide
theorem abJ:∀n:Nat,Lib.repeatL [0] n=List.replicate n 0
 |0=>rfl
 |n+1=>by simp[Lib.repeatL,abJ n,Ju]
theorem amr{n:Int}{K:ByteArray->HP}(h0:0<=n/\n<=1000)(hk:∀h',aB h h'->K (bs (List.replicate n.toNat 0)) h'):ahm (bs [0]) n h K Kp:=by
 intro w hw;obtain⟨m,rfl⟩:∃m:Nat,n=m:=⟨n.toNat,ag⟩
 refine(Any.strings_Repeat HW ams (bs [0]) m w ag (by show 1*m<=_;omega)).mono ?_
 rintro e w' ⟨rfl,b⟩;have lt:∀{k:Nat}{d:Obj},w.heap[k]? =some d->k<w.heap.size:=λq=>(mq.1 q).1;refine⟨⟨b.tape,b.os,b.output,b.size,λk ds q=>by rw[b.block k (lt q)];exact q⟩,_,rfl,?_⟩
 have e:(Lib.repeatL (bs [0]).data.toList m).toArray=(List.replicate m 0).toArray:=by rw[show(bs [0]).data.toList=[0]from rfl,abJ]
 rw[e];apply hk _;rw[<-hw];refine⟨by unfold aV;simp only[Px];exact b.size,λk IG=>?_⟩
 unfold aV at IG ⊢;simp only[Px]at IG;rw[BR,BR,b.block k IG]
def nv(lo:Nat)(h:Hp)(t:Sl)(aH:aQ):Prop:=
 ∃ss:List Sl,ss.length=aH.length/\fO lo 4 h t (List.zipWith aD.row aH ss) di/\∀(j:Nat)(z:aD)(u:Sl),aH[j]? =some z->ss[j]? =some u->aS (λb=>lo<=b/\¬t.at b) h u z.items
section
variable {lo:Nat} {h':Hp} {t u:Sl} {z:aD}
theorem nv.nil:nv lo h Sl.nil []:=⟨[],rfl,sU _ _ _ _,aC⟩
theorem nv.fr{S:aR}(o:nv lo h t aH)(f:Tn S h h')(B:∀c,lo<=c->c<h.size->¬S c):nv lo h' t aH:=by
 obtain⟨a,e,r,v⟩:=o;exact⟨a,e,r.fr f B,λj z u h1 d=>aS.fr f (λc b hl=>B c b.1 hl) (λ_ q=>q) _ (v j z u h1 d)⟩
theorem nv.ai(o:nv lo h t aH)(g:aB h h'):nv lo h' t aH:=o.fr (bx g) λ_ _ _=>id
theorem nv.at(o:nv lo h t aH){c:Nat}(H:t.at c):lo<=c/\c<h.size:=by obtain⟨a,e,r,v⟩:=o;exact r.at H
theorem nv.app{K:Sl->HP}(o:nv lo h t aH)(m:lo<=h.size)(G:aH.length<=5000)(k:aO h a (z.row u).toArray ty)(v:aS (λb=>lo<=b/\¬t.at b) h u z.items)
  (D:∀y h',Tn t.at h h'->nv lo h' y (aH++[z])->K y h'):Ap h di gl 4 56 t 1 (rd h (bD a) (1*4)) K:=by
 obtain⟨A,e,r,w⟩:=o;have B:=r.n;rw[qn]at B;refine r.ap m rfl (new:=[z.row u]) rfl (λr f=>by simp at f;subst f;rfl) (λr f=>by grind[AG]) (by simpa[aD.row,wO]using jn k rfl) ag ag λs E l p C=>D s E l ⟨A++[u],by simp[e],by rw[Hg e];exact C,λj x q g d=>?_⟩
 have i:∀b,s.at b->b<h.size->t.at b:=bZ;rcases yW e d with⟨F,d⟩|⟨rfl,rfl⟩
 ·rw[iX ag]at g;exact aS.fr l (λb c _=>c.1.2) (λb c=>⟨c.1.1,λq=>c.1.2 (i b q c.2)⟩) _ (aS.lt _ (w j x q g d))
 ·rw[gv (cr _)]at g;simp at g;subst g;exact aS.fr l (λb c _=>c.1.2) (λb c=>⟨c.1.1,λq=>c.1.2 (i b q c.2)⟩) _ (aS.lt _ v)
theorem nv.vs(o:nv lo h t aH):aS (λb=>lo<=b) h t aH:=by
 obtain⟨f,e,r,v⟩:=o;exact aS.snoc r e (λb a=>a) λj d p h1 c=>rY (v j d p h1 c) λb a=>a.1
theorem aS.one(k:aO h a (z.row u).toArray ty)(g:D a)(v:aS D h u z.items):aS D h ⟨some (aF a),1,1⟩ [z]:=by
 refine aS.acD (ss:=[u]) ⟨λr c=>by simp at c;subst c;rfl,rfl,rfl,rfl,_,k,cr _,rfl,λi f=>?_⟩ rfl g λj d p h1 e=>?_
 ·simp
 grind
end
structure ZL(h:Hp)(lo a2 a3 a4:Nat):Prop where
 l:h.size<=lo
 q2:h.size<=a2/\a2<lo
 q3:h.size<=a3/\a3<lo
 q4:a4<lo
 n:a2≠a3/\a4≠a3
structure ZS(h:Hp)(lo a2 a3 a4:Nat)(c4:Array Value)(hx:Hp)(t:Sl)(aH:aQ):Prop where
 g:aB h hx
 l:lo<=hx.size
 k2:aO hx a2 gl di
 k4:aO hx a4 c4 kH
 k3:aO hx a3 #[.bool false,ah 0,.string (bs []),Sl.v t] di
 o:nv lo hx t aH
section
variable {hx h1:Hp} {lo a2 a3 a4:Nat} {c4 c2:Array Value} {t u:Sl} {xs:aQ} {z:aD} {K:Bool->Int->ByteArray->Sl->HP}
theorem ZS.ai(S:ZS h lo a2 a3 a4 c4 hx t aH)(g:aB hx h1):ZS h lo a2 a3 a4 c4 h1 t aH:=⟨aq S.g g,by have:=S.l;have:=g.1;omega,S.k2.ai g,S.k4.ai g,S.k3.ai g,S.o.ai g⟩
theorem ZL.more{X:HP}(L:ZL h lo a2 a3 a4)(S:ZS h lo a2 a3 a4 c4 hx t aH)(G:aH.length<=5000)(B:aB hx h1)(C:aS (Nw hx) h1 u z.items)(H:∀y j,ZS h lo a2 a3 a4 c4 y j (aH++[z])->X y):
  aL h1 #[.bool z.au,ah z.num,.string (bs z.text),Sl.v u] di λs k=>aT h1 k ⟨a3,3,none⟩ 1 (Ap k di gl 4 56 t 1 (rd k (some s) (1*4)) λn J=>St J ⟨a3,3,none⟩ (Sl.v n) X):=by
 obtain⟨l,T,R,Q,V,U⟩:=L;obtain⟨M,W,F,E,w,o⟩:=S;refine aJ λa8 I Z m D _=>bR (w.ai B) m ?_;have d:=aq B m;have P:=d.1;have b:∀c,t.at c->lo<=c/\c<hx.size:=λc x=>o.at x;refine(o.ai d).app ag G D (rY (eO C m) λc(q:hx.size<=c)=>⟨ag,λz=>bZ⟩) λj Y f A=>?_
 have i:∀{c:Nat},c<lo->¬t.at c:=bZ
 have O:=f.1;refine dN (f.bq (w.ai d) (i ag)) aC rfl λg a p=>?_;have r:=bK (((bx (aq M d):Tn No h I).trans' f λc q N=>bZ).ai) a ag
 exact H g j ⟨r,by have:=a.1;omega,a.bq (f.bq (F.ai d) (i ag)) ag,a.bq (f.bq (E.ai d) (i ag)) ag,by simpa using p,A.fr a.fr λc q _(e:c=a3)=>ag⟩
theorem ZL.IT(L:ZL h lo a2 a3 a4)(m:∀t h',aB h h'->aS (Nw h) h' t v.items->K v.au v.num (bs v.text) t h')(n:aB h hx)(k:aO hx a2 c2 di)(o:c2.size=4)(j:aS (λb=>lo<=b) hx t v.items):
  dK hx (aF a2) v.au v.num (bs v.text) t λg=>bN g (aF a2) λa b c d=>K a b c d g:=by
 obtain⟨l,s,r,p,x,w⟩:=L;exact mj k o λg f i=>eW i (m t g (bK n f ag) (aS.fr f.fr (λc(q:lo<=c)_(e:c=a2)=>ag) (λc(q:lo<=c)=>ag) _ j))
theorem ZL.fin{tx:dw}(L:ZL h lo a2 a3 a4)(y:∀t h',aB h h'->aS (Nw h) h' t v.items->K v.au v.num (bs v.text) t h')(A:aB h hx)(q:aO hx a2 c2 di)(B:c2.size=4)(m:aO hx a3 #[.bool false,ah 0,.string (bs tx),Sl.v t] di)(e:v=.mk false 0 tx xs)(l:aS (λb=>lo<=b) hx t xs):
  bN hx (aF a3) λa b c d=>dK hx (aF a2) a b c d λj=>bN j (aF a2) λa b c d=>K a b c d j:=by
 subst e;exact eW m (L.IT y A q B l)
end
theorem Tq(hl:f.lets=false):f.zv=if f.k=14 then .mk false 0 (List.replicate f.w.toNat 0) []else if f.k=16 then .mk false 0 [] (List.replicate f.w.toNat ((f.cs.map ak.zv).getD 0 v0))else if f.k=17 then .mk false 0 [] (f.cs.map ak.zv)
   else if f.k=18 then .mk false 0 [] [(f.cs.map ak.zv).getD 0 v0]else if f.k=19\/f.k=20 then(f.cs.map ak.zv).getD 0 v0 else .mk false 0 [] []:=by
 rw[ak.Mz,hl];rfl
theorem My{c:ak}(a:f.cs[0]? =some c):(f.cs.map ak.zv).getD 0 v0=c.zv:=dH
theorem ahD(o':bE f)(IH:∀c∈f.cs,B9 c):B9 f:=by
 cases hl:f.lets with
 |true=>exact ahF hl
 |false=>
 intro h s K Kp hs hk;have m9:=o'.right.1;obtain⟨_,_,s',r',_,_,_,h1,q',p',_⟩:=m9;refine tG.of (aJ λa1 h1' e1 g1 k1 _=>aJ λa2 h2 e2 g2 A _=>dM (k1.ai g2) (Im ((hs.gr g1).gr g2) λh3 g3=>bu hl (aJ λa3 h4 e4 g4 C _=>?_)));have s3:=g3.1;have k1:=((k1.ai g2).ai g3).ai g4;have A:=(A.ai g3).ai g4;simp only[bz,bX];refine nh (AT k1) (aJ λa4 h5 e5 g5 D _=>pH D rfl λI o6 D=>aj D rfl ?_);have v':=D.lt;have U:=bK g5 o6 ag;have A:=A.ai U;have C:=C.ai U;have R:=aq (aq (aq (aq g1 g2) g3) g4) U;have T:=hs.gr R;have m:=Tq hl;have aN:∀{c:ak},f.cs[0]? =some c->(f.cs.map ak.zv).getD 0 v0=c.zv:=My;have L:ZL h I.size a2 a3 a4:=⟨ag,ag,ag,ag,ag⟩
 have IT:=λ{hx c2 t}=>ZL.IT (hx:=hx) (c2:=c2) (t:=t) L hk;have fin:=λ{hx c2 t tx xs}=>ZL.fin (hx:=hx) (c2:=c2) (t:=t) (tx:=tx) (xs:=xs) L hk;have G:aO I a3 #[.bool false,ah 0,.string (bs []),Sl.v Sl.nil] di:=C;simp only[bz,bX];refine aK (λj=>?_) λj=>aK (λl=>?_) λl=>aK (λr=>?_) λr=>aK (λfM=>?_) λfM=>?_
 ·have j:=aU j;have hw:=s' j;rw[aI j]at m;exact aj D rfl (amr ag λh7 y=>dN (G.ai y) aC rfl λh8 o8 k8=>fin (t:=Sl.nil) (tx:=List.replicate f.w.toNat 0) (bK (aq R y) o8 ag) (o8.bq (A.ai y) ag) rfl (by simpa using k8) m (oz _))
 ·simp only[sm,reduceCtorEq]at j l;have hw:=r' l;rw[aE j,aI l]at m;have hc:=h1 ag;have d:f.cs[0]? =some f.cs[0]:=aC;generalize f.cs[0]=c at d;rw[aN d]at m;refine aj D rfl (Qq.bC (λz hx=>∃(i:Nat)(t:Sl),z=i/\(i:Int)<=f.w/\ZS h I.size a2 a3 a4 #[ah f.k,ah f.w,ah f.id,ah f.ix,Sl.v s] hx t (List.replicate i c.zv)) (λz _=>(f.w-z).toNat) ⟨0,Sl.nil,rfl,ag,R,cr _,A,D,G,nv.nil⟩ ?_)
  rintro z hx ⟨i,t,rfl,hi,S⟩ N hN;have gx:=S.g;have A:=S.k2;have C:=S.k3;have o:=S.o;simp only[bz,bX];refine cE (λF=>?_) λF=>?_
  ·refine aj C rfl (aj S.k4 rfl ((hs.gr gx).ix (x:=0) (i:=0) rfl d λp P=>?_));obtain⟨u,Q,O⟩:=P.row;refine gQ Q (IH c (bS d) O λt' h7 y M=>bR C y (L.more S cy y M λhy t' S=>aY ag ag (hN _ _ ⟨i+1,t',aC,ag,?_⟩ ag)))
   rw[Ey];exact S
  ·have:i=f.w.toNat:=ag;subst this;exact fin gx A rfl C m o.vs
 ·simp only[sm,reduceCtorEq]at j l r;rw[aE j,aE l,aI r]at m;have hn:=T.n;have z':=q' r;refine aj D rfl (Qp.bC (λz hx=>∃(i:Nat)(t:Sl),z=i/\i<=f.cs.length/\ZS h I.size a2 a3 a4 #[ah f.k,ah f.w,ah f.id,ah f.ix,Sl.v s] hx t ((f.cs.map ak.zv).take i)) (λz _=>f.cs.length-z.toNat) ⟨0,Sl.nil,rfl,eH _,R,cr _,A,D,G,nv.nil⟩ ?_);rintro z hx ⟨i,t,rfl,hi,S⟩ N hN;have gx:=S.g;have A:=S.k2;have C:=S.k3;have o:=S.o;refine aK (λF=>?_) λF=>?_
  ·have F:=aU F;have j':i<f.cs.length:=ag;have d:f.cs[i]? =some f.cs[i]:=aC;have i':(f.cs.map ak.zv).take (i+1)=(f.cs.map ak.zv).take i++[f.cs[i].zv]:=by rw[kP dH];simp
   generalize f.cs[i]=c at d i';refine(hs.gr gx).ix rfl d λp P=>?_;obtain⟨u,Q,O⟩:=P.row;refine gQ Q (aJ λa6 h7 e7 y k6 _=>pG k6 rfl λh8 o8 k8=>?_);have zx:=gx.1;have E:aB hx h8:=bK y o8 ag;have z8:=E.1;simp only[bz,bX];refine aj (C.ai E) rfl (dM k8 (IH c (bS d) (O.gr E) λt' h9 g9 M=>bR (C.ai E) g9 (L.more (S.ai E) cy g9 M λhy t' S=>aY ag ag (hN _ _ ⟨i+1,t',aC,ag,?_⟩ ag))))
   rw[i'];exact S
  ·have F:=aU F;have:i=f.cs.length:=ag;subst this;rw[pK aC]at o;exact fin gx A rfl C m o.vs
 ·simp only[sm,reduceCtorEq]at j l r fM;rw[aE j,aE l,aE r,aI fM]at m;have hc:=(p' fM).1;have d:f.cs[0]? =some f.cs[0]:=aC;generalize f.cs[0]=c at d;rw[aN d]at m;refine aj D rfl (T.ix (x:=0) (i:=0) rfl d λp P=>?_);obtain⟨u,Q,O⟩:=P.row;refine gQ Q (IH c (bS d) O λt h7 y M=>aJ λa8 h8 e8 E k8 _=>dN (G.ai (aq y E)) aC rfl λh9 o9 k9=>?_);have z7:=y.1;have z8:=E.1;exact fin (t:=⟨some (aF a8),1,1⟩) (tx:=[]) (bK (aq R (aq y E)) o9 ag) (o9.bq (A.ai (aq y E)) ag) rfl (by simpa[Sl.v]using k9) m (aS.one (o9.bq k8 ag) ag (aS.fr o9.fr (λc(q:I.size<=c)_(e:c=a3)=>ag) (λ_ q=>q) _ (eO M E)))
 ·simp only[sm,reduceCtorEq]at j l r fM;rw[aE j,aE l,aE r,aE fM]at m;have J:f.k=19\/f.k=20->Ld I ⟨a4,4,none⟩ Sl.v λg'=>Ix g'.a g'.n 7 0 λu'=>bP I u' λf' e' d' c' b' a' Z=>tG f' e' d' c' b' a' Z I (λY X W V h7=>dK h7 (aF a2) Y X W V λh8=>bN h8 (aF a2) λn' m' l' k'=>K n' m' l' k' h8) Kp:=by
   intro q;rw[aI q]at m;have hc:=h1 ag;have d:f.cs[0]? =some f.cs[0]:=aC;generalize f.cs[0]=c at d;rw[aN d]at m;refine aj D rfl (T.ix (x:=0) (i:=0) rfl d λp P=>?_);obtain⟨u,Q,O⟩:=P.row;refine gQ Q (IH c (bS d) O λt h7 y M=>?_);have:=IT (aq R y) (A.ai y) rfl (t:=t) (by rw[m];exact M)
   rw[m]at this;exact this
  refine aK (λB=>bQ B ?_) λB=>aK (λH=>?_) λH=>?_
  ·have B:=aU B;grind
  ·have H:=aU H;grind
  ·simp only[sm,reduceCtorEq]at B H;rw[aA]at m;exact fin R A rfl G m (oz _)
theorem Z9:∀f:ak,bE f->B9 f
  | .mk e au k w id ix cs,a=>by
    have b:∀c∈cs,B9 c:=λc d=>Z9 c (a.aN d);exact ahD a b
theorem HU:∀{l:aQ},m5 l->∀y∈l,y.nH
  |[],_,y,a=>by simp at a
  | x::b,h,y,a=>by
    rcases lT.1 a with e|e
    ·rw[e];exact h.1
    ·exact HU h.2 y e
theorem aD.nH.items(h:v.nH):m5 v.items:=by obtain⟨_,n,_,a⟩:=v;exact h.2
section
variable {x left:Nat} {t:Sl} {K:fD}
theorem jz.tn{g:Hp}(u:jz h){c:Value}{ty:TypeId}(k:aO h x #[c] ty)(d:∀n,c≠.int .u8 n)(tn:Tn (·=x) h g):jz g:=by
 have e:∀(b:Nat)(n:Int),cell h (aF b)=some (.int .u8 n)->b≠x:=by
  rintro b n q rfl;rw[gU k]at q;simp at q;exact d n q
 exact u.fr tn (e 0 _ (u.f 0 bh)) (e 1 _ (u.a 0 bh).1)
theorem Ob(k:aO h x #[ah (left:Int)] qS)(hl:left<=4194304)(I:ck D h s f.cs)(B:¬D x)(H:aS D h t v.items)
  (p:∀b a,Tn (·=x) h a->(b=true↔v.bw<=left/\f.fit v=true)->(b=true->aO a x #[ah ((left-v.bw:Nat):Int)] qS)->K b a)
  (d:∀a l j,Tn (·=x) h a->aO a x #[ah ((left-16-v.text.length:Nat):Int)] qS->16+v.text.length<=left->v.items.length<=4096->v.au=false->
   aO a l #[.bool v.au,ah v.num,.string (bs v.text),Sl.v t] di->aO a j #[ah f.k,ah f.w,ah f.id,ah f.ix,Sl.v s] kH->h.size<=l->h.size<=j->wC K Kp (bD x) (aF l) (aF j) f.k (f.k==19||f.k==20) a):
  wI (bD x) f.name f.au f.k f.w f.id f.ix s v.au v.num (bs v.text) t h K Kp:=by
 refine aek k hl I B H (λa i q=>p false a i (by simpa using q) (λe=>by cases e)) (λa i F z y=>p true a i (by simp[z,y]) λ_=>F) λJ V l m E L b2 gJ o n S C=>Fu.of ?_
 simp only[bz,bX];refine nh (AT o) (aJ λj T U u g _=>pH g rfl λr A g=>aj g rfl ?_);have N:=n.lt;have G:=bK u A ag;have:=d r l j (m.trans (bx G)) (E.ai G) L b2 gJ (n.ai G) g C ag;refine aK (λc=>?_) λc=>?_
 ·rw[c]at this ⊢;exact this
 ·rw[c]at this;exact this
theorem arR(N:f.k=12\/f.k=13\/f.k=14)(E:f.k=14->1<=f.w/\f.w<=16):mT f:=by
  intro D h x left v s t K Kp L k hl M H J U I;have o:=gS v;refine Ob k hl M J H I λm C B G y V b2 gJ u z T S=>?_;have p:f.fit v=(decide (v.num=0)&&(decide (v.items.length=0)&&((decide (f.k≠12)||iC v.text)&&(decide (f.k≠14)||decide (v.text.length=f.w.toNat))))):=by
    rw[eG];unfold fm;rw[aE (by simp[gJ]),aA,aA,aA,aA,aA,aI N]
    simp[b2]
  have fin:∀b d,aB m d->b=f.fit v->K b d:=λb d g e=>by
    have y:=y.ai g;refine I b d (G.trans (bx g)) ⟨λq=>?_,λq=>by rw[e];exact q.2⟩ λq=>?_
    ·have i:=e▸q;rw[p]at i;simp only[dr,dP]at i;have:v.items=[]:=jw.1 i.2.1;rw[this]at o;exact⟨by rw[o];simp[bJ];omega,by rw[<-e];exact q⟩
    · have i:=e▸q;rw[p]at i;simp only[dr,dP]at i;have:v.items=[]:=jw.1 i.2.1;rw[this]at o;have R:left-v.bw=left-16-v.text.length:=by rw[o];simp[bJ];omega
      rw[R];exact y
  have F:(f.k==19||f.k==20)=false:=by simp;omega
  rw[F];have l:Ag K Kp (aF C) (aF B) true m:=by
    refine Ag.of (bQ rfl ?_);simp only[bz,bX];have j:∀b d,aB m d->b=(decide (v.num=0)&&(decide (v.items.length=0)&&(decide (f.k≠12)||iC v.text)))->Cz K Kp (aF C) (aF B) b d:=by
      intro b d g e;refine Cz.of (aK (λc=>aj (z.ai g) rfl (aK (λa=>fin _ _ g ?_) λa=>?_)) λc=>fin _ _ g ?_)
      ·simp_all
      ·have a:=aU a;simp only[bz,bX];refine aj (u.ai g) rfl (aj (z.ai g) rfl (fin _ _ g ?_));rw[e]at c;rw[p];simp only[dr]at c;rw[iU,c.1,c.2.1,c.2.2,j0];simp[a];omega
      ·simp_all
    have r:∀b,b=(decide (v.num=0)&&decide (v.items.length=0))->Fx K Kp (aF C) (aF B) b m:=by
      intro b e;refine Fx.of (aK (λc=>aj z rfl (aK (λa=>?_) λa=>?_)) λc=>?_)
      ·have a:=aU a;simp_all[cW,dr]
      ·have a:=aU a;simp only[bz,bX];refine aj u rfl (aiQ (L.tn k aC G) (MM _) ag λO Q=>j _ O Q ?_);simp_all
      ·exact(j false m (cW _) (by
          simp_all))
    refine aj u rfl (aK (λc=>?_) λc=>r _ ?_)
    · have c:v.num=0:=by simpa using c
      refine aj u rfl (r _ ?_);have:=H.n.1;rw[j0];simp_all
    ·simp_all
  refine wC.of (bu rfl (bu cy (bu cy (bu cy (yC.of (bu cy (aK (λc=>?_) λc=>aK (λc=>?_) λa=>?_)))))))
  ·rw[c];exact l
  ·rw[c];exact l
  · simp only[sm,reduceCtorEq]at c a;have e:(f.k==14)=true:=by simp;omega
    rw[e];exact l
end
section
variable {x left:Nat} {t:Sl} {K:fD}
def ua(f:ak)(j:Nat):Nat:=if f.k=17 then j else 0
def F9(f:ak)(l:aQ)(n:Nat):Prop:=∀(j:Nat)y,j<n->l[j]? =some y->∃c,f.cs[ua f j]? =some c/\c.fit y=true
theorem arP{l:aQ}(IH:∀c∈f.cs,mT c)(h1:f.k≠17->f.cs.length=1)(m':f.k=16->1<=f.w)(hu:jz h)(k:aO h x #[ah (left:Int)] qS)(hl:left<=4194304)(hs:ck D h s f.cs)(hv:aS D h t l)(X:¬D x)(hr:m5 l)(u':l.length<=4096)
  (hk:∀b a,Tn (·=x) h a->(b=true↔bJ l<=left/\(f.k=16->l.length=f.w.toNat)/\(f.k=17->l.length=f.cs.length)/\F9 f l l.length)->(b=true->aO a x #[ah ((left-bJ l:Nat):Int)] qS)->K b a):
  Le (bD x) f.k f.w f.id f.ix s t h K Kp:=by
 refine Le.of (aJ λW o e1 I E _=>?_);have xl:=k.lt;have hn:=hv.n;have q':=hs.n;have Y:∀{a},Tn (·=x) h a->¬(bJ l<=left/\(f.k=16->l.length=f.w.toNat)/\(f.k=17->l.length=f.cs.length)/\F9 f l l.length)->K false a:=λt q=>hk false _ t dH λe=>by cases e
 have go:(f.k=16->l.length=f.w.toNat)->(f.k=17->l.length=f.cs.length)->Fo K Kp (bD x) t (aF W) o:=by
  intro m O;refine Fo.of (Qn.bC (λz a=>∃i:Nat,z=i/\i<=l.length/\Tn (·=x) o a/\bJ (l.take i)<=left/\aO a x #[ah ((left-bJ (l.take i):Nat):Int)] qS/\F9 f l i) (λz _=>l.length-z.toNat) ⟨0,rfl,eH _,iW _ _,by simp[bJ],by simpa[bJ]using k.ai I,λj y hj=>ag⟩ ?_)
  rintro z V ⟨i,rfl,hi,U,hw,k2,Q⟩ N hN;have T2:=(bx I:Tn _ h o).trans U;refine cE (λL=>?_) λL=>?_
  ·have B:i<l.length:=ag;have H:l[i]? =some l[i]:=aC;have R:l.take (i+1)=l.take i++[l[i]]:=aC;generalize l[i]=y at H R;have T:=bS H;have a':bJ (l.take (i+1))=bJ (l.take i)+y.bw:=by rw[R,oV];simp[bJ]
   have r':bJ (l.take (i+1))<=bJ l:=by
    have:=oV (l.take (i+1)) (l.drop (i+1));rw[EI]at this;omega
   have b':=aS.fr T2 (λb F _ e=>X (e▸F)) (λ_ q=>q) _ hv;have P:=U.bq E (show¬W=x by omega)
   refine b'.ix rfl H λp u cp e'=>ig cp (aJ λa8 h3 e3 g3 Z _=>mj Z rfl λr o4 Z=>aj (P.ai (bK g3 o4 ag)) rfl ?_);have G:=bK g3 o4 ag;have T4:=T2.trans (bx G);have bad:∀{a},Tn (·=x) r a->¬(y.bw<=left-bJ (l.take i)/\∃c,f.cs[ua f i]? =some c/\c.fit y=true)->K false a:=by
    intro a t' q;refine Y (T4.trans t') λz=>q ⟨ag,z.2.2.2 i y B H⟩
   have J:∀{j:Nat}{jx:Int},jx=j->j=ua f i->Fm K Kp N (bD x) (aF W) (aF a8) jx t (t.n:Int) (i:Int) r:=by
    intro j jx ej ei;have g':j<f.cs.length:=by
     rw[ei];unfold ua;split
     ·omega
     ·omega
    have d:f.cs[j]? =some f.cs[j]:=aC;generalize f.cs[j]=c at d;rw[ei]at d;apply Fm.of;simp only[bz,bX];have f':=ck.fr T4 (λb F e=>X (e▸F)) (λ_ q=>q) _ hs;refine aj (P.ai G) rfl (f'.ix ej dH λp2 u2 n' d'=>gQ n' (eW Z (IH c (bS d) (hu.tn k aC T4) (k2.ai G) ag d' (eO e' G) X (HU hr y T) λb h5 t5 F k'=>aK (λg=>?_) λg=>?_)))
    ·have g:b=false:=by simpa using g
     refine bad t5 λq=>?_;obtain⟨c',S,i'⟩:=q.2;rw[d]at S;cases S;rw[F.2 ⟨q.1,i'⟩]at g;cases g
    ·have g:b=true:=by simpa using g
     have l':=F.1 g;refine aY ag ag (hN _ _ ⟨i+1,aC,ag,(U.trans (bx G)).trans t5,ag,?_,λj' y' s' A=>?_⟩ ag)
     ·have:=k' g;rw[a',<-Nat.sub_sub];exact this
     ·by_cases e:j'=i
      ·subst e;rw[H]at A;cases A;exact⟨c,d,l'.2⟩
      ·exact Q j' y' ag A
   refine aK (λC=>J rfl ?_) λC=>J rfl ?_
   ·unfold ua;rw[aI (by simpa using C)]
   ·unfold ua;rw[aE (by simpa using C)]
  ·have:i=l.length:=ag;simp_all
 have r:(f.k=16->l.length=f.w.toNat)->Cw K Kp (bD x) t (aF W) false o:=by
  intro m;refine Cw.of (bu rfl (aj E rfl (aK (λc=>?_) λc=>go m λq=>?_)))
  ·have c:=aU c;simp only[bz,bX];refine aj E rfl (aK (λM=>Y (bx I) λq=>?_) λM=>go m λ_=>?_)
   ·simp_all
   ·have M:=aU M;omega
  ·have c:=aU c;exact absurd q c
 refine aj E rfl (aK (λc=>?_) λc=>r λq=>?_)
 ·have c:=aU c;simp only[bz,bX];apply aj E rfl
  by_cases e:(t.n:Int)=f.w
  ·have e2:((t.n:Int)!=f.w)=false:=by simpa using e
   rw[e2];exact r λ_=>ag
  ·have e2:((t.n:Int)!=f.w)=true:=by simpa using e
   grind[Cw.of,bQ,Tn.acC]
 ·have c:=aU c;exact absurd q c
theorem agp:∀{F:List (aD->Bool)}{l:aQ},rV F l=true↔l.length=F.length/\∀(j:Nat)y,l[j]? =some y->∃g,F[j]? =some g/\g y=true
  |[],[]=>by simp[rV]
  |[],y::d=>by simp[rV]
  |g::e,[]=>by simp[rV]
  | g::e,y::d=>by
    simp only[rV,dr,agp,iq,Nat.add_right_cancel_iff];constructor
    · rintro⟨i,c,b⟩;refine⟨c,λj z a=>?_⟩;rcases j with _|j
      all_goals simp_all
    ·rintro⟨c,b⟩;obtain⟨m,e1,k⟩:=b 0 y rfl;simp at e1;subst e1;exact⟨k,c,λj z a=>b (j+1) z dH⟩
theorem Ee(u:f.k=15\/f.k=16\/f.k=17)(p:f.k≠17->f.cs.length=1)(b2:v.items.length<=4096)(gJ:v.au=false):f.fit v=true↔v.num=0/\v.text.length=0/\(f.k=16->v.items.length=f.w.toNat)/\(f.k=17->v.items.length=f.cs.length)/\F9 f v.items v.items.length:=by
 rw[eG];unfold fm F9 ua;rw[aE (by simp[gJ]),aA,aA]
 have b:f.k≠17->((v.items.all ((f.cs.map ak.fit).getD 0 tU)=true)↔∀(j:Nat)y,j<v.items.length->v.items[j]? =some y->∃c,f.cs[if f.k=17 then j else 0]? =some c/\c.fit y=true):=λne=>by
  have d:f.cs[0]? =some f.cs[0]:=bL ag;have e:(f.cs.map ak.fit).getD 0 tU=(f.cs[0]).fit:=by rw[gB,fy,d];rfl
  generalize f.cs[0]=c at d e;rw[e,yg];simp only[aE ne,d];grind[List.mem_of_getElem?,List.mem_iff_getElem?,List.getElem?_eq_some_iff]
 by_cases m:f.k=15
 ·simp_all
 by_cases l:f.k=16
 ·simp_all
 ·have i:f.k=17:=ag;rw[aE m,aE l,aI i];simp only[dr,dP,agp,cC,aI i];simp_all[ag,fy,uD,dy]
theorem arS(V:∀c∈f.cs,mT c)(R:f.k=15\/f.k=16\/f.k=17)(G:f.k≠17->f.cs.length=1)(B:f.k=16->1<=f.w):mT f:=by
 intro D h x left v s t K Kp P k hl E p i Q r;have hw:=gS v;refine Ob k hl E i p r λd J I a N b1 b2 gJ o O l5 l7=>?_;have H:=Ee R G b2 gJ;have C:(f.k==19||f.k==20)=false:=by simp;omega
 rw[C];have M:f.fit v≠true->K false d:=λq=>r false d a (by simp[*]) λe=>by cases e
 have F:∀b,b=(decide (v.num=0)&&decide (v.text.length=0))->Ft K Kp (bD x) (aF J) (aF I) b d:=by
  intro b e;refine Ft.of (aK (λc=>xV O ?_) λc=>M λq=>?_)
  ·rw[e]at c;simp only[dr,dP]at c;have z:=ck.fr a (λb g e=>i (e▸g)) (λ_ q=>q) _ E;have y:=aS.fr a (λb g _ e=>i (e▸g)) (λ_ q=>q) _ p;simp only[bz,bX];refine aj o rfl (arP V G B (P.tn k aC a) N ag z y i Q.items b2 λb S L g A=>r b S (a.trans L) (g.trans ?_) λq=>?_)
   all_goals grind
  ·grind
 have u:yC K Kp (bD x) (aF J) (aF I) f.k true d:=by
  refine yC.of (bQ rfl ?_);simp only[bz,bX];refine aj o rfl (aK (λc=>?_) λc=>F _ ?_)
  ·have c:v.num=0:=by simpa using c
   refine aj o rfl (F _ ?_);rw[O5];simp[c]
  ·grind
 refine wC.of (bu rfl (bu cy (aK (λc=>?_) λc=>aK (λc=>?_) λU=>?_)))
 ·rw[c];exact u
 ·rw[c];exact u
 ·simp only[sm,reduceCtorEq]at c U;have e:(f.k==17)=true:=by simp;omega
  simp[*]
theorem Ef(a:f.k=18)(b2:v.items.length<=4096)(gJ:v.au=false):f.fit v=true↔v.text.length=0/\0<=v.num/\v.num<f.cs.length/\v.items.length=1/\(f.cs.map ak.fit).getD v.num.toNat tU (v.items.getD 0 v0)=true:=by
 rw[eG];unfold fm;simp[*]
theorem arT(IH:∀c∈f.cs,mT c)(T:f.k=18)(b':f.cs.length<=32):mT f:=by
 intro D h x left v s t K Kp Y k hl H G A Z I;have C:=gS v;refine Ob k hl H A G I λE a5 a7 j X b1 b2 gJ l R l5 l7=>?_;have hn:=G.n;have a':=H.n;have r:=Ef T b2 gJ;have P:(f.k==19||f.k==20)=false:=by simp;omega
 rw[P];have B:f.fit v≠true->K false E:=λq=>I false E j (by simpa using λ_=>q) λe=>by cases e
 refine wC.of (bu rfl (bQ (by simpa using T) ?_))
 simp only[bz,bX];apply aj l rfl;rw[O5];refine aK (λc=>?_) λc=>B λq=>?_;rotate_left
 ·simp_all
 have c:=aU c;refine aj l rfl (aK (λm=>?_) λm=>B λq=>?_);rotate_left
 ·simp_all
 have m:=aU m;refine aj l rfl (aj R rfl (aK (λz=>?_) λz=>B λq=>?_));rotate_left
 ·simp_all
 have z:=aU z;refine aj l rfl (aK (λw=>?_) λw=>B λq=>?_);rotate_left
 ·simp_all
 have w:=aU w;have N:=ck.fr j (λb o e=>A (e▸o)) (λ_ q=>q) _ H;have L:=aS.fr j (λb o _ e=>A (e▸o)) (λ_ q=>q) _ G;have d:f.cs[v.num.toNat]? =some (f.cs[v.num.toNat]' ag):=bL ag;obtain⟨y,g⟩:∃y,v.items=[y]:=by
  have:v.items.length=1:=ag
  match hq:v.items,this with
  |[a],_=>exact⟨a,rfl⟩
 have S:v.items[0]? =some y:=by rw[g];rfl
 generalize f.cs[v.num.toNat]' ag=U at d;refine aj R rfl (aj l rfl (N.ix ag d λp u cp M=>gQ cp (aj l rfl (L.ix rfl S λp2 u2 Q J=>ig Q (IH U (bS d) (Y.tn k aC j) X ag M J A (HU Z.items y (bS S)) λb h6 V o O=>I b h6 (j.trans V) (o.trans ?_) λq=>?_)))))
 ·rw[r,g];rw[g]at C;simp only[bJ]at C;have e1:(f.cs.map ak.fit).getD v.num.toNat tU ([y].getD 0 v0)=U.fit y:=by rw[gB,fy,d];rfl
  rw[e1];constructor
  ·rintro⟨W,F⟩;exact⟨by omega,c,m,by omega,rfl,F⟩
  ·rintro⟨W,_,_,_,_,F⟩;exact⟨by omega,F⟩
 ·have:=O q;rw[g]at C;simp only[bJ]at C;have e2:left-v.bw=left-16-v.text.length-y.bw:=ag;rw[e2];exact this
theorem aet{F:ak}(b:f.k=19\/f.k=20)(a:f.cs[0]? =some F)(gJ:v.au=false):f.fit v=(decide (v.items.length<=4096)&&F.fit v):=by
 rw[eG];unfold fm;simp[*]
theorem arQ(R:∀c∈f.cs,mT c)(M:f.k=19\/f.k=20)(Y:f.cs.length=1):mT f:=by
 intro D h x left v s t K Kp J k hl E C l L F;refine Ob k hl E l C F λX a5 a7 A d Z b2 gJ B I V U=>?_;have S:=k.lt;have a:f.cs[0]? =some (f.cs[0]' ag):=bL ag;generalize f.cs[0]' ag=G at a;have O:f.fit v=G.fit v:=by rw[aet M a gJ];simp[b2]
 have z:(f.k==19||f.k==20)=true:=by simp;omega
 rw[z];refine wC.of (bQ rfl ?_);refine bO ?_;refine aj d rfl (aj B rfl (aY (by omega) (by rw[iU];omega) (aY (by omega) (by rw[iU];omega) (dN d aC rfl λm n d=>?_))))
 rw[iU]at d;have P:((left-16-v.text.length:Nat):Int)+(16+(v.text.length:Int))=(left:Int):=ag;have d:aO m x #[ah (left:Int)] qS:=by simpa[P]using d
 have j:=A.trans n.fr;have w:=ck.fr j (λb g e=>l (e▸g)) (λ_ q=>q) _ E;have o:=aS.fr j (λb g _ e=>l (e▸g)) (λ_ q=>q) _ C;refine aj (n.bq I ag) rfl (w.ix rfl a λp u Q r=>gQ Q (eW (n.bq B ag) (R G (bS a) (J.tn k aC j) d hl r o l L λb N H g y=>F b N (j.trans H) (by rw[O];exact g) y)))
end
theorem arL(g:bE f)(e:∀c∈f.cs,mT c):mT f:=by
 obtain⟨n,nM,l,j,_,_,_,m,o,i,_⟩:=g.right.1
 by_cases a:f.k<=11
 ·exact aer ⟨n,a⟩
 by_cases b:f.k=12\/f.k=13\/f.k=14
 ·exact arR b l
 by_cases c:f.k=15\/f.k=16\/f.k=17
 ·exact arS e c (λq=>m ag) λq=>(j q).1
 by_cases d:f.k=18
 ·exact arT e d (i d).2
 ·exact arQ e ag (m ag)
theorem aeq:∀f:ak,bE f->mT f
  | .mk e au k w id ix cs,a=>by
    have b:∀c∈cs,mT c:=λc d=>aeq c (a.aN d);exact arL a b
section
variable {hx h':Hp} {K:de}
structure ahl(lo:Nat)(cs:cN)(h:Hp)(x:Sl)(ws:bg)(As:List (Nat->Prop)):Prop where
 n:ws.length=As.length/\As.length<=cs.length
 aN:∀(j:Nat)c A w,cs[j]? =some c->As[j]? =some A->ws[j]? =some w->c.m7 A h w c.begun none
 bd:∀A∈As,∀c,A c->(lo<=c/\c<h.size)/\¬x.at c
 ap:As.Pairwise λA B=>∀c,A c->¬B c
 sl:fO lo 1 h x (ws.map λv=>[v]) JL
theorem agd(f:ak):f.begun.b={Dw with ends:=if f.k=12\/f.k=13\/f.k=15 then[0]else[]}:=by rw[Pe];rfl
theorem au4{c:ak}(a:f.cs[j]? =some c):f.begun.aN j=c.begun:=by
 rw[Pe]
 show(f.cs.map ak.begun).getD j r0=_
 simp_all
theorem aoG{m:Nat}{t u:Sl}{p:List (Nat->Prop)}{SS:List Sl}{ST:List (Nat->Prop)}{X:aR}{sp:bg}{N:aR}(G:bE f)(o:ahl m f.cs hx u C p)(hl:p.length=f.cs.length)(h0:h.size<=m)
  (P:aS N h' t f.cm.items) (hN:∀c,N c->h.size<=c/\c<m) (D:aB hx h') (Y:m<=hx.size) (O:aO h' b (cj f s t Sl.nil 0 0 0 (ia f.k SS C u sp)).toArray (iz f.k)) (Z:hx.size<=b)
  (H:SS.length=(cF f.k f.begun.b).length/\ST.length=(cF f.k f.begun.b).length) (F:∀(i:Nat)s A y,SS[i]? =some s->ST[i]? =some A->(cF f.k f.begun.b)[i]? =some y->Os A h' s y.1 y.2)
  (g:∀A∈X::ST,∀c,A c->hx.size<=c/\c<h'.size/\c≠b) (I:(X::ST).Pairwise λA B=>∀c,A c->¬B c) (E:iJ f.k X h' sp f.begun.b):
  f.m7 (λc=>h.size<=c/\c<h'.size) h' (.iface (bI f.k) (bB b)) f.begun none:=by
 have z:=D.1;have bl:=O.lt;have v:∀c,u.at c->m<=c/\c<hx.size:=λc q=>o.sl.at q;have r:=agd f;have tr:iO (λc=>h.size<=c/\c<h'.size) h' b ((λ_=>False)::(λc=>N c\/u.at c)::X::(ST++p)):=by
  refine⟨⟨ag,ag⟩,λc q=>q.2,?_,?_⟩
  ·intro L l c d;simp only[lT,ni]at l;rcases l with rfl|rfl|l|l|l
   ·exact d.elim
   ·rcases d with q|q
    ·have:=hN c q;exact⟨⟨ag,ag⟩,ag⟩
    ·have:=v c q;exact⟨⟨ag,ag⟩,ag⟩
   ·have:=g L (by rw[l];exact YA ..) c d;exact⟨⟨ag,ag⟩,ag⟩
   ·have:=g L (Yz _ l) c d;exact⟨⟨ag,ag⟩,ag⟩
   ·have:=(o.bd L l c d).1;exact⟨⟨ag,ag⟩,ag⟩
  ·have e:X::(ST++p)=(X::ST)++p:=rfl;refine xX.2 ⟨λ_ _ _ q=>q.elim,xX.2 ⟨λB hB c q z=>?_,?_⟩⟩
   ·rw[e,ni]at hB;rcases hB with hB|hB
    ·have:=g B hB c z;rcases q with q|q
     ·have:=hN c q;omega
     ·have:=v c q;omega
    ·have:=o.bd B hB c z;rcases q with q|q
     ·have:=hN c q;omega
     ·exact this.2 q
   ·rw[e,Pg];exact⟨I,o.ap,λA V B hB c q z=>by have:=g A V c q;have:=(o.bd B hB c z).1;omega⟩
 rw[ak.acS];refine⟨{b:=b,sf:=s,sn:=t,sb:=Sl.nil,ks:=u,SS:=SS,ST:=ST,KT:=p,kv:=C,sp:=sp,T0:=λ_=>False,R:=λc=>N c\/u.at c,X:=X},rfl,⟨tr,⟨?_,.inl ⟨rfl,?_⟩,id,?_,?_,?_⟩,H,F,⟨?_,?_,?_⟩,λj M A w J T Q=>?_,rY P λc q=>.inl q,λ_=>?_,E,λW q=>by cases q⟩⟩
 ·rw[r];exact O
 ·rw[r];rfl
 ·rw[r];show(0:Nat)=(0+7)/8;decide
 ·rw[r];exact cr _
 ·rw[r];exact eH _
 ·rw[o.n.1,hl,cC]
 ·rw[hl,cC]
 ·rw[Pe];show(f.cs.map ak.begun).length=_;simp_all
 ·rw[fy,uD]at J;obtain⟨c,d,rfl⟩:=J;rw[au4 d];exact(A8 c (G.aN (bS d))).fr (o.aN j c A w d T Q) (bx D) λ_ _ _=>id
 ·exact⟨(fO.lq o.sl).1.ai D,λ_ a U=>.inr ⟨a,U,rfl⟩⟩
theorem anR{n c:Nat}(i:D n)(d:h[n]? =some (.map #[] c)):fZ D h Sl.nil n [] 0:=by
 have e:∀u,¬hl [] 0 u≠[]:=λu q=>q rfl;refine⟨λ_=>False,[],λ_=>Sl.nil,λ_=>0,⟨λc q=>q.elim,λc⟨a,g,_⟩=>(by cases g),i,λu b=>absurd b (e u),λu _ b=>absurd b (e u)⟩,⟨rfl,sU _ _ _ _,λj v t k=>by simp at k⟩,#[],c,d,⟨λx hx=>by simp at hx,λu b=>absurd b (e u),YT⟩⟩
theorem aoC(J:bE f)(q':f.fQ)(IH:∀c∈f.cs,yw c c.m7):yw f f.m7:=by
 intro h s K Kp ht hs hk;obtain⟨_,_,_,_,_,_,_,h1,u',t',j'⟩:=J.right.1;have hsn:=hs.n;have h32:f.cs.length<=32:=by
  by_cases a:f.k=15\/f.k=16\/f.k=19\/f.k=20
  ·have:=h1 a;omega
  by_cases b:f.k=17
  ·exact u' b
  by_cases c:f.k=18
  ·exact(t' c).2
  ·have:=j' ag;omega
 refine GJ.of (aJ λa1 v' e1 g1 k1 _=>dM k1 (au7 (aai f J) (Z9 f J) J q' (ht.ai g1) (hs.gr g1) λt h2 g2 vn=>aJ λa3 h3 e3 g3 Q _=>qT.b Q rfl λh4 o4 Q=>?_));have k3l:=Q.lt;have g4:=bK g3 o4 ag;have G4:=aq (aq g1 g2) g4;have k1:=(k1.ai g2).ai g4;have vn:aS (λc=>h.size<=c/\c<h2.size) h4 t f.cm.items:=eO (rY (aS.lt _ vn) λc(q:v'.size<=c/\c<h2.size)=>⟨ag,q.2⟩) g4
 simp only[bz,Nat.reduceAdd,bX];refine aj k1 rfl (QB.bC (λx z hx=>∃(i:Nat)(ws:bg)(As:List (Nat->Prop)),z=i/\i<=f.cs.length/\As.length=i/\aB h4 hx/\ahl h4.size f.cs hx x ws As) (λ_ z _=>f.cs.length-z.toNat) ⟨0,[],[],rfl,eH _,rfl,cW _,⟨rfl,eH _⟩,aC,aC,YT,sU _ _ _ _⟩ ?_)
 rintro x z hx ⟨i,ws,As,rfl,hi,g',gx,KM⟩ N hN;have zx:=gx.1;have kn:=KM.n;refine cE (λcc=>?_) λcc=>?_
 ·have l':i<f.cs.length:=ag;have T:=bL l';generalize f.cs[i]=c at T;have d':=bS T;have Cc:=A8 c (J.aN d');refine((hs.gr G4).gr gx).ix rfl T λp hp=>?_;obtain⟨u,cp,hu⟩:=hp.row;refine gQ cp (aJ λa6 h5 e5 R k6 _=>pG k6 rfl λh6 o6 k6=>dM k6 ?_);have g6:=bK R o6 ag;have s6:=g6.1;refine IH c d' (((ht.ai G4).ai gx).ai g6) (hu.gr g6) λv h7 g7 M7=>?_;obtain⟨kk,bb,ev⟩:=Cc.na M7;subst ev;refine⟨rfl,aJ λa8 h8 e8 g8 k8 _=>?_⟩;have s7:=g7.1;have G8:=aq g6 (aq g7 g8);have e':∀c,x.at c->h4.size<=c/\c<hx.size:=λc q=>KM.sl.at q;have xn:x.n=ws.length:=by have:=KM.sl.n;rw[cC]at this;exact this
  refine(KM.sl.ai G8).ap ag rfl (new:=[[.iface (bI kk) (bB bb)]]) rfl (λr hr=>by simp at hr;subst hr;rfl) (λr hr=>by simp at hr;subst hr;simp[one]) (by simpa using jn k8 rfl) ag ag λx' h9 t9 m' o9=>aY ag ag (hN _ _ _ ⟨i+1,ws++[.iface (bI kk) (bB bb)],As++[λc=>h6.size<=c/\c<h7.size],aC,ag,by simp[g'],?_,⟨by simp[kn.1],by simp;omega⟩,?_,?_,?_,?_⟩ ag)
  ·exact((bx (aq gx G8):Tn No h4 h8).trans' t9 λc q l'=>by have:=(e' c q).1;omega).ai
  ·intro j W A w l C m;rcases yW g' C with⟨hj,C⟩|⟨rfl,rfl⟩
   ·rw[iX ag]at m;have g:=bS C;exact(A8 W (J.aN (bS l))).fr (KM.aN j W A w l C m) ((bx G8:Tn x.at hx h8).trans t9) λc hc _=>(KM.bd A g c hc).2
   ·rw[gv ag]at m;rw[show j-ws.length=0 by omega]at m
    simp at m;subst m;rw[T]at l;cases l;exact Cc.fr M7 ((bx g8:Tn x.at h7 h8).trans t9) λd(hd:h6.size<=d/\d<h7.size)_ q=>by have:=e' d q;omega
  ·intro A g W f';have z9:=t9.1;rcases ni.1 g with g|g
   ·have:=KM.bd A g W f';refine⟨⟨this.1.1,ag⟩,λq=>?_⟩
    rcases m' W q with q|q
    ·exact this.2 q
    ·omega
   ·rw[mR]at g;subst g;refine⟨⟨ag,ag⟩,λq=>?_⟩
    rcases m' W q with q|q
    ·have:=e' W q;omega
    ·omega
  ·rw[Pg];refine⟨KM.ap,zN _ _,λA g B hB W q z=>?_⟩;rw[mR]at hB;subst hB;have z:=z;have:=(KM.bd A g W q).1;omega
  ·rw[kY];exact o9
 ·have r':i=f.cs.length:=ag;subst r';have GX:=aq G4 gx;have Q:=Q.ai gx;have lx:=gx.1;have s':=G4.1;have eb:=agd f;have fin:=λ{h':Hp}{b:Nat}{SS:List Sl}{ST:List (Nat->Prop)}{X:aR}{sp:bg}(o:aB hx h')(F:aO h' b (cj f s t Sl.nil 0 0 0 (ia f.k SS ws x sp)).toArray (iz f.k))(lb:hx.size<=b)=>
   aoG (SS:=SS) (ST:=ST) (X:=X) (sp:=sp) (N:=λc=>h.size<=c/\c<h2.size) J KM g' s' (eO (eO vn gx) o) (λc q=>⟨q.1,ag⟩) o lx F lb
  -- the one z' y'
  have U:∀{X:Addr->Value->Prop},f.cs.length=1->(∀k b a,ws=[.iface (bI k) (bB b)]->cell hx a=some (.iface (bI k) (bB b))->X a (.iface (bI k) (bB b)))->Ix x.a x.n 1 0 λZ=>Ld hx Z id (X Z):=by
   intro X hc hX;have lw:ws.length=1:=ag;have lA:As.length=1:=ag;obtain⟨w,rfl⟩:∃w,ws=[w]:=by
    match hq:ws,lw with
    |[a],_=>exact⟨a,rfl⟩
   have T:f.cs[0]? =some f.cs[0]:=bL ag;have M:=KM.aN 0 _ As[0] w T (bL ag) rfl;obtain⟨kk,bb,ev⟩:=(A8 _ (J.aN (bS T))).na M;subst ev;have sv:=(fO.lq KM.sl).1;exact sv.ix ag (by have:=sv.1;simp at this;omega) (v:=.iface (bI kk) (bB bb)) rfl λa ha=>yz ha (hX kk bb a rfl ha)
  have o':∀A∈((λ_=>False)::[]:List (Nat->Prop)),∀c,A c->∀(h':Hp)(b:Nat),hx.size<=c/\c<h'.size/\c≠b:=λA g c q=>by
   rw[mR]at g;subst g;exact q.elim
  have i':((λ_=>False)::[]:List (Nat->Prop)).Pairwise λA B=>∀c,A c->¬B c:=zN _ _;have n':((λ_=>False)::[λ_=>False,λ_=>False]:List (Nat->Prop)).Pairwise λA B=>∀c,A c->¬B c:=xX.2 ⟨λ_ _ _ q=>q.elim,xX.2 ⟨λ_ _ _ q=>q.elim,zN _ _⟩⟩;have w':((λ_=>False)::[λ_=>False]:List (Nat->Prop)).Pairwise λA B=>∀c,A c->¬B c:=xX.2 ⟨λ_ _ _ q=>q.elim,zN _ _⟩;have S:f.k≠19->f.k≠20->∀X h',iJ f.k X h' [] f.begun.b:=λa b X h'=>by unfold iJ;rw[aE a,aE b]
  refine RU.of ?_;simp only[bz,bX];refine aj (k1.ai gx) rfl (aK (λc1=>?_) λc1=>?_)
  ·have c1:=aU c1;have D:cF f.k f.begun.b=[]:=by unfold cF;rw[aA,aA,aA,dU]
   have I:bI f.k=nZ:=by unfold bI;rw[aI c1]
   have H:iz f.k=Zm:=by unfold iz;rw[aI c1]
   refine uq Q (aJ λb h' L o F _=>?_);have:=hk _ h' (aq GX o) (fin (SS:=[]) (ST:=[]) (X:=λ_=>False) (sp:=[]) o (by rw[H];unfold ia nG;rw[aA,aA];exact F) ag (by rw[D];exact⟨rfl,rfl⟩) (λi s A y q=>by simp at q) (λA g c q=>o' A g c q h' b) i' (S ag ag _ _))
   rw[I]at this;exact this
  have c1:f.k≠1:=by simpa using c1
  have J2:FH K Kp (aF a3) x f.k (f.k==12||f.k==13) hx:=by
   refine FH.of (aK (λV=>?_) λV=>aK (λE=>?_) λE=>aK (λG=>?_) λG=>aK (λP=>?_) λP=>aK (λfM=>?_) λfM=>aK (λO=>?_) λO=>aK (λY=>?_) λY=>?_)
   ·have V:f.k=12\/f.k=13:=by simpa using V
    have D:cF f.k f.begun.b=[(ints [0],Y6),(bv [],Y8)]:=by rw[eb];unfold cF;rw[aI V];simp only[aI (show f.k=12\/f.k=13\/f.k=15 by omega)];rfl
    have I:bI f.k=nY:=by unfold bI;rw[aA,aI V]
    have H:iz f.k=Zl:=by unfold iz;rw[aA,aI V]
    refine uq Q (aJ λb' h5 e5 R k5 _=>aJ λb h' L o F _=>?_);have s5:=R.1;have sq:=o.1;have p':=k5.lt;have k':=F.lt;have:=hk _ h' (aq GX (aq R o)) (fin (SS:=[⟨some (aF b'),1,1⟩,Sl.nil]) (ST:=[λc=>c=b',λ_=>False]) (X:=λ_=>False) (sp:=[]) (aq R o) (by rw[H];unfold ia nG;rw[aA,aA];exact F) ag (by rw[D];exact⟨rfl,rfl⟩) (λi s A y l C m=>?_) (λA g c q=>?_) ?_ (S ag ag _ _))
    ·rw[I]at this;exact this
    ·rw[D]at m;rcases i with _|_|i
     ·simp at l C m;subst l C m;exact .inr ⟨b',rfl,rfl,rfl,_,k5.ai o,cr _,rfl,λi hi=>by simp[ints]⟩
     ·simp at l C m;subst l C m;exact .inl ⟨rfl,rfl⟩
     ·simp at l
    ·simp only[lT,nS,yh]at g;rcases g with rfl|rfl|rfl
     ·exact q.elim
     ·have q:c=b':=q;omega
     ·exact q.elim
    ·refine xX.2 ⟨λ_ _ _ q=>q.elim,xX.2 ⟨λB hB c _ z=>?_,zN _ _⟩⟩;rw[mR]at hB;subst hB;exact z
   ·have e:¬(f.k=12\/f.k=13):=by simpa using V
    have E:=aU E;have D:cF f.k f.begun.b=[(ints [0],Y6)]:=by rw[eb];unfold cF;rw[aE e,dU];simp only[aI (show f.k=12\/f.k=13\/f.k=15 by omega)]
    have I:bI f.k=nW:=by unfold bI;rw[aA,aE e,aI E]
    have H:iz f.k=Zk:=by unfold iz;rw[aA,aE e,aI E]
    refine uq Q (U (h1 ag) λkk bb Z ew ha=>aJ λa' h5 e5 R k5 _=>Co ha R (bR Q R ⟨rfl,aJ λb h' L o F _=>?_⟩));have s5:=R.1;have sq:=o.1;have p':=k5.lt;have k':=F.lt;have:=hk _ h' (aq GX (aq R o)) (fin (SS:=[⟨some (aF a'),1,1⟩]) (ST:=[λc=>c=a']) (X:=λ_=>False) (sp:=[]) (aq R o) (by rw[H];unfold ia nG;rw[dU,ew];exact F) ag (by rw[D];exact⟨rfl,rfl⟩) (λi s A y l C m=>?_) (λA g c q=>?_) (xX.2 ⟨λ_ _ _ q=>q.elim,zN _ _⟩) (S ag ag _ _))
    ·rw[I]at this;exact this
    ·rw[D]at m;rcases i with _|i
     ·simp at l C m;subst l C m;exact .inr ⟨a',rfl,rfl,rfl,_,k5.ai o,cr _,rfl,λi hi=>by simp[ints]⟩
     ·simp at l
    ·simp only[lT,nS,yh]at g;rcases g with rfl|rfl
     ·exact q.elim
     ·have q:c=a':=q;omega
   ·have e:¬(f.k=12\/f.k=13):=by simpa using V
    simp only[sm,reduceCtorEq]at E G;have D:cF f.k f.begun.b=[]:=by unfold cF;rw[aE e,aA,aA,dU]
    have I:bI f.k=nt:=by unfold bI;rw[aA,aE e,aA,aI G]
    have H:iz f.k=Zj:=by unfold iz;rw[aA,aE e,aA,aI G]
    refine uq Q (U (h1 ag) λkk bb Z ew ha=>⟨rfl,aJ λb h' L o F _=>?_⟩);have:=hk _ h' (aq GX o) (fin (SS:=[]) (ST:=[]) (X:=λ_=>False) (sp:=[]) o (by rw[H];unfold ia nG;rw[dU,ew];exact F) ag (by rw[D];exact⟨rfl,rfl⟩) (λi s A y l=>by simp at l) (λA g c q=>by simp only[lT,nS,yh]at g;rcases g with rfl <;> exact q.elim) i' (S ag ag _ _))
    rw[I]at this;exact this
   ·have e:¬(f.k=12\/f.k=13):=by simpa using V
    simp only[sm,reduceCtorEq]at E G P;have D:cF f.k f.begun.b=[]:=by unfold cF;rw[aE e,aA,aA,dU]
    have I:bI f.k=nk:=by unfold bI;rw[aA,aE e,aA,aA,aI P]
    have H:iz f.k=Zi:=by unfold iz;rw[aA,aE e,aA,aA,aI P]
    refine uq Q (aJ λb h' L o F _=>?_);have:=hk _ h' (aq GX o) (fin (SS:=[]) (ST:=[]) (X:=λ_=>False) (sp:=[]) o (by rw[H];unfold ia nG;rw[aA,dU];exact F) ag (by rw[D];exact⟨rfl,rfl⟩) (λi s A y l=>by simp at l) (λA g c q=>by simp only[lT,nS,yh]at g;rcases g with rfl <;> exact q.elim) i' (S ag ag _ _))
    rw[I]at this;exact this
   ·have e:¬(f.k=12\/f.k=13):=by simpa using V
    simp only[sm,reduceCtorEq]at E G P fM;have D:cF f.k f.begun.b=[(bv [],Y8),(ints [],Y6)]:=by rw[eb];unfold cF;rw[aE e,aA,aI fM];simp only[aE (show¬(f.k=12\/f.k=13\/f.k=15) by omega)];rfl
    have I:bI f.k=oJ:=by unfold bI;rw[aA,aE e,aA,aA,aA,aI fM]
    have H:iz f.k=Zh:=by unfold iz;rw[aA,aE e,aA,aA,aA,aI fM]
    refine uq Q (aJ λb h' L o F _=>?_);have:=hk _ h' (aq GX o) (fin (SS:=[Sl.nil,Sl.nil]) (ST:=[λ_=>False,λ_=>False]) (X:=λ_=>False) (sp:=[]) o (by rw[H];unfold ia nG;rw[aA,dU];exact F) ag (by rw[D];exact⟨rfl,rfl⟩) (λi s A y l C m=>?_) (λA g c q=>by simp only[lT,nS,yh]at g;rcases g with rfl|rfl|rfl <;> exact q.elim) n' (S ag ag _ _))
    ·rw[I]at this;exact this
    ·rw[D]at m;rcases i with _|_|i
     ·simp at l C m;subst l C m;exact .inl ⟨rfl,rfl⟩
     ·simp at l C m;subst l C m;exact .inl ⟨rfl,rfl⟩
     ·simp at l
   ·have e:¬(f.k=12\/f.k=13):=by simpa using V
    simp only[sm,reduceCtorEq]at E G P fM O;have D:cF f.k f.begun.b=[(ints [],Y6)]:=by rw[eb];unfold cF;rw[aE e,dU];simp only[aE (show¬(f.k=12\/f.k=13\/f.k=15) by omega)]
    have I:bI f.k=oI:=by unfold bI;rw[aA,aE e,aA,aA,aA,aA,aI O]
    have H:iz f.k=Zg:=by unfold iz;rw[aA,aE e,aA,aA,aA,aA,aI O]
    refine uq Q (U (h1 ag) λkk bb Z ew ha=>?_);unfold E0;have R:aB hx (hx.push (.map #[] 0)):=rW hx _;have z5:(hx.push (Obj.map #[] 0)).size=hx.size+1:=Array.size_push ..;refine Co ha R (bR Q R ⟨rfl,aJ λb h' L o F _=>?_⟩);have sq:=o.1;have k':=F.lt;have:=hk _ h' (aq GX (aq R o)) (fin (SS:=[Sl.nil]) (ST:=[λ_=>False]) (X:=λc=>c=hx.size) (sp:=[Sl.v Sl.nil,.map (some hx.size)]) (aq R o) (by rw[H];unfold ia nG;rw[dU,ew];exact F) ag (by rw[D];exact⟨rfl,rfl⟩) (λi s A y l C m=>?_) (λA g c q=>?_) (xX.2 ⟨λB hB c _ z=>?_,zN _ _⟩) ?_)
    ·rw[I]at this;exact this
    ·rw[D]at m;rcases i with _|i
     ·simp at l C m;subst l C m;exact .inl ⟨rfl,rfl⟩
     ·simp at l
    ·simp only[lT,nS,yh]at g;rcases g with rfl|rfl
     ·have q:c=hx.size:=q;omega
     ·exact q.elim
    ·rw[mR]at hB;subst hB;exact z
    ·unfold iJ;rw[aI O,eb];exact⟨Sl.nil,hx.size,rfl,anR (c:=0) rfl ((o.2 hx.size ag).trans aC)⟩
   ·have e:¬(f.k=12\/f.k=13):=by simpa using V
    simp only[sm,reduceCtorEq]at E G P fM O Y;have D:cF f.k f.begun.b=[(ints [],Y6)]:=by rw[eb];unfold cF;rw[aE e,dU];simp only[aE (show¬(f.k=12\/f.k=13\/f.k=15) by omega)]
    have I:bI f.k=nV:=by unfold bI;rw[aA,aE e,aA,aA,aA,aA,aA,aI Y]
    have H:iz f.k=Zf:=by unfold iz;rw[aA,aE e,aA,aA,aA,aA,aA,aI Y]
    refine uq Q (U (h1 ag) λkk bb Z ew ha=>⟨rfl,aJ λb h' L o F _=>?_⟩);have:=hk _ h' (aq GX o) (fin (SS:=[Sl.nil]) (ST:=[λ_=>False]) (X:=λ_=>False) (sp:=[.bool false,ah 0,.string (bs []),Sl.v Sl.nil]) o (by rw[H];unfold ia nG;rw[dU,ew];exact F) ag (by rw[D];exact⟨rfl,rfl⟩) (λi s A y l C m=>?_) (λA g c q=>by simp only[lT,nS,yh]at g;rcases g with rfl|rfl <;> exact q.elim) w' ?_)
    ·rw[I]at this;exact this
    ·rw[D]at m;rcases i with _|i
     ·simp at l C m;subst l C m;exact .inl ⟨rfl,rfl⟩
     ·simp at l
    ·unfold iJ;rw[aE O,aI Y,eb];exact⟨Sl.nil,rfl,oz _⟩
   ·have e:¬(f.k=12\/f.k=13):=by simpa using V
    simp only[sm,reduceCtorEq]at E G P fM O Y;have D:cF f.k f.begun.b=[(lp [],oK),(strs [],qo)]:=by rw[eb];unfold cF;rw[aE e,aA,aE fM,aA];rfl
    have I:bI f.k=oH:=by unfold bI;rw[aA,aE e,aA,aA,aA,aA,aA,aA]
    have H:iz f.k=Ze:=by unfold iz;rw[aA,aE e,aA,aA,aA,aA,aA,aA]
    refine uq Q (aJ λb h' L o F _=>?_);have:=hk _ h' (aq GX o) (fin (SS:=[Sl.nil,Sl.nil]) (ST:=[λ_=>False,λ_=>False]) (X:=λ_=>False) (sp:=[]) o (by rw[H];unfold ia nG;rw[aA,aA];exact F) ag (by rw[D];exact⟨rfl,rfl⟩) (λi s A y l C m=>?_) (λA g c q=>by simp only[lT,nS,yh]at g;rcases g with rfl|rfl|rfl <;> exact q.elim) n' (S ag ag _ _))
    ·rw[I]at this;exact this
    ·rw[D]at m;rcases i with _|_|i
     ·simp at l C m;subst l C m;exact .inl ⟨rfl,rfl⟩
     ·simp at l C m;subst l C m;exact .inl ⟨rfl,rfl⟩
     ·simp at l
  refine aK (λrN=>?_) λrN=>?_
  ·rw[rN]at J2;exact J2
  ·rw[rN]at J2;exact J2
theorem Wy:∀f:ak,bE f->f.fQ->yw f f.m7
  | .mk g au k w id ix cs,b,a=>by
    have e:∀c∈cs,yw c c.m7:=λc d=>Wy c (b.aN d) (iR.get a.2.2 c d);exact aoC b a e
end
theorem avm(e:nw f){l:aQ}(c:f.can l):l=jY f (f.dn (f.st l)) (f.dn (f.st l)).off.toNat (f.dn (f.st l)).len.toNat:=by
 rw[zA,xz];apply si;intro i;simp only[gj]
 by_cases b:i<l.length
 ·rw[agk b];simp[*]
 simp_all[zV,ag,Pc]
theorem agy(a:fE f.k=true)(vs:aQ)(x:aD):iu f vs x=if x.bw<=4194304/\f.fit x=true then(if 4096<=vs.length then 3 else if 4194304<bJ vs+(16+x.text.length)then 3 else 0)else 7:=by
 unfold iu;rw[ajp a];unfold UQ;rw[fC];have e1:(aM f.k vs).rows=vs.length:=rfl;have b:(aM f.k vs).bF=bJ vs:=rfl;grind
def vN(n:Int):aD:=.mk false n [] []
theorem tR:bE fA:=by
 apply Yw;simp only[fA,ak.places,dX];refine⟨⟨by decide,by decide,acN,aC,by simp[Shaped,ak.k,ak.w,ak.id,ak.ix,ak.cs],by simp[Ab,ak.k,ak.au,ak.cs],aC,by simp[ak.k]⟩,trivial⟩
theorem ab3:fE fA.k=true:=rfl
theorem Hx:fA.fQ:=by
 unfold fA ak.fQ;exact⟨by decide,by decide,trivial⟩
theorem Wt:MC fA fA.m7:=A8 fA tR
theorem Wq:yw fA fA.m7:=Wy fA tR Hx
theorem UR:jj fA:=λv a=>aaY tR bh a
theorem mvA:nw fA:=ac2 tR bh
theorem XI:mT fA:=aer bh
theorem arV(n:Int):fA.fit (vN n)=(decide (-32768<=n)&&decide (n<32768)):=by
 simp[fA,vN,ak.fit,fm,aD.items,aD.au,aD.text,aD.num,kV,dJ]
theorem arU:fA.fit v0=true:=by
 simp[fA,v0,ak.fit,fm,m8,tW,aD.items,aD.au,aD.text,aD.num]
theorem Za(vs:aQ)(n:Int)(c:vs.length<=1)(b:bJ vs<=16):iu fA vs (vN n)=if-32768<=n/\n<32768 then 0 else 7:=by
 rw[agy ab3,arV];have e:(vN n).bw=16:=rfl;have a:(vN n).text.length=0:=rfl;grind
theorem avB(vs:aQ)(c:vs.length<=1)(b:bJ vs<=16):iu fA vs v0=0:=by
 rw[agy ab3,arU];have e:v0.bw=16:=rfl;have a:v0.text.length=0:=rfl;grind
def lA:List aD:=[vN (-2),v0]
def lB:List aD:=[vN 1,vN 40000]
theorem Xz:Good fA lA 2:=by
 intro j x b a;rcases j with _|_|j
 ·simp[lA]at a;subst a;exact Za [] (-2) bh bh
 ·simp[lA]at a;subst a;exact avB [vN (-2)] bh bh
 ·omega
theorem age:iu fA (lB.take 1) (vN 40000)=7:=Za [vN 1] 40000 bh bh
theorem ari:iu fA (lB.take 0) (vN 1)=0:=Za [] 1 bh bh
theorem Ek:fA.dn (fA.st lA)=.mk 2 0 1 [[1],[254,255,0,0]] [] []:=by
 rw[zB bh];have e1:(aM fA.k lA).cz=1:=by decide
 have b:dF (aM fA.k lA)=[1]:=by decide
 have a:laidB (aM fA.k lA).dQ (wB fA.k)=[254,255,0,0]:=by decide
 rw[e1,b,a];rfl
theorem aaD{B d:Bool}{x y:Int}(k:aO h a #[.bool B,ah x,.string (bs []),.slice none 0 0,.bool d,ah y,.string (bs []),.slice none 0 0] el):
  aS (λ_=>True) h ⟨some (aF a),2,2⟩ [.mk B x [] [],.mk d y [] []]:=by
 refine aS.of rfl (cr _) λ_=>⟨_,rfl,trivial,λj v c=>?_⟩;rcases j with _|_|j
 ·simp at c;subst c;refine VA.of (s:=bM) (λi w b=>?_) (oz _);rw[bz,bz,gU k];rcases i with _|_|_|_|i
  all_goals first|(simp[aD.row,wO]at b;done)|(simpa[aD.row,wO,Sl.v,aD.au,aD.num,aD.text]using b)
 ·simp at c;subst c;refine VA.of (s:=bM) (λi w b=>?_) (oz _);rw[bz,bz,gU k];rcases i with _|_|_|_|i
  all_goals first|(simp[aD.row,wO]at b;done)|(simpa[aD.row,wO,Sl.v,aD.au,aD.num,aD.text]using b)
 ·simp at c
theorem avl{K:fD}(y:oL h)(B:jz h)(hk:∀v,aB h v->K true v):Lz h K Kp:=by
 have lR:(fA.dn (fA.st lA)).lR:=by rw[Ek];exact⟨by decide,⟨by decide,trivial⟩,by decide,trivial⟩
 refine Lz.of (aJ λa1 h1 e1 g1 m _=>pG m rfl λh2 o2 m=>dM m (aJ λd' h3 e3 F O _=>?_));have g2:=bK g1 o2 ag;have L:=aq g2 F;have G:∀{v:Hp},cG v bM fA.cs:=λ{v}=>by unfold fA ak.cs cG;simp
 have rA:m5 lA:=⟨⟨by decide,trivial⟩,⟨by decide,trivial⟩,trivial⟩
 have rB:m5 lB:=⟨⟨by decide,trivial⟩,⟨by decide,trivial⟩,trivial⟩
 refine PS (f:=fA) Wt Wq UR XI tR Hx rA bh (y.k.ai L) (B.ai L) G (aaD O) (λq h4 z X _ D4=>?_) λi x v _ _ o r=>?_;rotate_left
 ·rcases i with _|_|i
  ·exact absurd (Xz 0 x bh o) r
  ·exact absurd (Xz 1 x bh o) r
  ·simp[lA]at o
 refine aJ λa2 h5 e5 E e _=>iH e rfl λh6 U e=>R0.of (dM ((m.ai F).ai (aq z (bK E U ag))) (aJ λc' h7 e7 C N _=>?_));have g6:=bK E U ag;have u:=aq g6 C;have J:=aq L (aq z u);have m:=(m.ai F).ai (aq z u);have e:=e.ai C;refine PS (f:=fA) Wt Wq UR XI tR Hx rB bh (y.k.ai J) (B.ai J) G (aaD N) (λq Y _ _ W _=>?_) λi x Y g8 W o r=>?_
 ·have:=W 1 (vN 40000) bh rfl;rw[age]at this;omega
 obtain⟨rfl,rfl⟩:i=1/\x=vN 40000:=by
  rcases i with _|_|i
  ·simp[lB]at o;subst o;exact absurd ari r
  ·simp[lB]at o;grind
  ·simp[lB]at o
 rw[age];refine aJ λa5 h9 e9 Z V _=>iH V rfl λQ M V=>?_;have T:=bK Z M ag;have c:=aq g8 T;have s:=aq J c;have m:=m.ai c;have e:=e.ai c;have g:=(D4.gr u).gr c;have el:(fA.dn (fA.st lA)).len=2:=by rw[Ek];rfl
 have en:(fA.dn (fA.st lA)).au=1:=by rw[Ek];rfl
 have w:(fA.dn (fA.st lA)).aZ=[[1],[254,255,0,0]]:=by rw[Ek];rfl
 have bn:=g.b.n;rw[w]at bn;refine RZ.of (bQ rfl (aj e rfl (Kn.of (bQ (by rw[el];rfl) ?_))))
 simp only[bz,bX];refine aj e rfl (Km.of (bQ (by rw[en];rfl) ?_))
 simp only[bz,bX];refine aj e rfl (Kl.of (bQ (by rw[bn.1];rfl) ?_))
 simp only[bz,bX];refine aj e rfl (g.b.ix rfl (by rw[w];decide) λa t H A=>⟨t,H,zJ A.1 (Kk.of (bQ (by rw[w,BJ];rfl) ?_))⟩)
 simp only[bz,bX];refine aj e rfl (g.b.ix rfl (by rw[w];decide) λa t H A=>⟨t,H,zJ A.1 (Kj.of (bQ (by rw[w,BJ];rfl) (Ki.of (bQ rfl (Kh.of (bQ rfl (dM m (fB e ?_))))))))⟩)
 have I:=avo tR bh lA X;have av:=avm mvA X;rw[Ek]at g I av lR ⊢;refine awt (f:=fA) (D:=λ_=>True) Wt Wq UR XI tR Hx (y.ai s) (B.ai s) G ?_ (anr tR Hx (y.ai s) ?_ I) anh I av rA lR λb P R hb=>?_
 ·exact g.fr (iW _ _) (λ_ _ _=>id) (λ_ _ _=>id) (λ_ _=>trivial) λ_ _=>trivial
 ·exact g.fr (iW _ _) (λ_ _ _=>id) (λ_ _ _=>id) (λ_ _=>trivial) λ_ _=>trivial
 ·obtain rfl:b=true:=hb.2 ⟨Xz,Ek⟩;exact hk P (aq s R)
open Go Go.Sh Go.ChangeShapes Go.WideShapes Go.RowKit
theorem own:ownKnob aG.godebug=none:=by kernel_rfl
theorem laidOut:laidOutB aG=true:=by kernel_rfl
theorem aoA:mapsRowed aG=true:=by kernel_rfl
theorem ak5:((List.range aG.types.size).all λt=>match aG.underlying t with|some (.slice e)=>decide (0<aG.cellsOf e)|_=>true)=true:=by kernel_rfl
noncomputable def zq(t:TypeId):Array Field:=match aG.underlying t with|some (.struct fs)=>fs|_=>#[]
abbrev gN(t:TypeId)(i:Nat)(ty:TypeId)(off:Nat):Prop:=((zq t)[i]?).map (λf=>(f.type,f.offset))=some (ty,off)
theorem u3:aG.underlying 3=some (.int .i64):=by kernel_rfl
theorem u4:aG.underlying 4=some (.bool):=by kernel_rfl
theorem u5:aG.underlying 5=some (.int .u8):=by kernel_rfl
theorem u9:aG.underlying 9=some (.string):=by kernel_rfl
theorem u23:aG.underlying 22=some (.slice 26):=by kernel_rfl
theorem ajc:aG.underlying 218=some (.array 21 217):=by kernel_rfl
theorem ajb:aG.underlying 200=some (.array 256 5):=by kernel_rfl
theorem aja:aG.underlying 203=some (.array 16 202):=by kernel_rfl
theorem u25:aG.underlying 24=some (.struct (zq 24)):=by kernel_rfl
theorem atJ:gN 24 0 3 0:=by unfold gN;kernel_rfl
theorem atI:gN 24 1 3 1:=by unfold gN;kernel_rfl
theorem atH:gN 24 2 3 2:=by unfold gN;kernel_rfl
theorem atG:gN 24 3 3 3:=by unfold gN;kernel_rfl
theorem atF:gN 24 4 22 4:=by unfold gN;kernel_rfl
theorem u27:aG.underlying 26=some (.struct (zq 26)):=by kernel_rfl
theorem atE:gN 26 0 9 0:=by unfold gN;kernel_rfl
theorem atD:gN 26 1 4 1:=by unfold gN;kernel_rfl
theorem atC:gN 26 2 24 2:=by unfold gN;kernel_rfl
theorem TS:aG.underlying 217=some (.struct (zq 217)):=by kernel_rfl
theorem atB:gN 217 1 3 1:=by unfold gN;kernel_rfl
theorem atA:gN 217 2 3 2:=by unfold gN;kernel_rfl
theorem atz:gN 217 3 4 3:=by unfold gN;kernel_rfl
theorem aax:aG.underlying 202=some (.struct (zq 202)):=by kernel_rfl
theorem aty:gN 202 0 5 0:=by unfold gN;kernel_rfl
theorem atx:gN 202 1 5 1:=by unfold gN;kernel_rfl
theorem cz3:aG.cellsOf 3=1:=by kernel_rfl
theorem XP:aG.cellsOf 4=1:=by kernel_rfl
theorem cz5:aG.cellsOf 5=1:=by kernel_rfl
theorem cz9:aG.cellsOf 9=1:=by kernel_rfl
theorem atO:aG.cellsOf 22=1:=by kernel_rfl
theorem atN:aG.cellsOf 24=5:=by kernel_rfl
theorem aeX:aG.cellsOf 26=7:=by kernel_rfl
theorem atL:aG.cellsOf 217=4:=by kernel_rfl
theorem atK:aG.cellsOf 202=2:=by kernel_rfl
theorem WD{α:Type}{Q:Nat->α->Prop}:∀{n:Nat},(∀i,i<n->∃v,Q i v)->∃l:List α,l.length=n/\∀(i:Nat)v,l[i]? =some v->Q i v
  |0,_=>⟨[],rfl,λi v h=>by simp at h⟩
  | n+1,h=>by
    obtain⟨l,hl,b⟩:=WD (n:=n) λi b=>h i ag;obtain⟨v,c⟩:=h n ag;refine⟨l++[v],by simp[hl],λi u a=>?_⟩
    by_cases d:i<n
    ·rw[iX ag]at a;exact b i u a
    · have:i=n:=by have:=(dy.1 a).1;simp at this;omega
      simp_all
theorem aoT{α:Type}{l:List α}(h:l.length=4):∃d c b a,l=[d,c,b,a]:=by
 match l,h with
 |[_,_,_,_],_=>exact⟨_,_,_,_,rfl⟩
theorem aoS{α:Type}{l:List α}(h:l.length=7):∃g f e d c b a,l=[g,f,e,d,c,b,a]:=by
 match l,h with
 |[g,f,e,d,c,b,a],_=>exact⟨_,_,_,_,_,_,_,rfl⟩
section
variable {H:Type} {enc:TypeId×Value->H} {fuel:Nat} {cs:bg} {x:DataW H×List MemPlace}
abbrev Rd(enc:TypeId×Value->H)(W:World)(fuel:Nat)(t:TypeId)(cs:bg)(x:DataW H×List MemPlace):Prop:=DataW.trod enc aG W 0 (λ_=>true) true fuel t cs=some x
theorem abN{t:TypeId}(f:aG.underlying t=some (.slice e))(h:Rd enc W fuel t cs x):
  ∃(s:Sl)(n:Nat),cs=[s.v]/\fuel=n+1/\s.n<=s.c/\s.n<=kR/\∀i,i<s.n->∃a b y,s.a=some a/\b.length=aG.cellsOf e/\Cs (aV W) (a.add (i*aG.cellsOf e)) b/\Rd enc W n e b y:=by
 obtain⟨s,Bs,k,n,rfl,rfl,p,l,_,d⟩:=anq f h;refine⟨s,n,rfl,rfl,l,?_,λi q=>?_⟩
 ·rcases DataW.trod_slice f h with⟨e1,_⟩|⟨a,len,cap,_,_,_,_,e1,_,_,j,g,_⟩
  ·simp_all
  ·simp only[Sl.v,List.cons.injEq,Value.slice.injEq,yl]at e1;have:maxLen=9223372036854775807:=by decide
   show s.n<=9223372036854775807;omega
 ·obtain⟨a,b,j,g,o,m⟩:=d i Bs[i] (bL ag);exact⟨a,b,Bs[i],j,g,o,m⟩
theorem UC{t:TypeId}(j:aG.underlying t=some (.struct (zq t)))(h:Rd enc W fuel t cs x):
  ∃n,fuel=n+1/\cs.length=aG.cellsOf t/\∀(i:Nat)(ty:TypeId)(off:Nat),gN t i ty off->∃y,Rd enc W n ty ((cs.drop off).take (aG.cellsOf ty)) y:=by
 obtain⟨d,n,rfl,rfl,hl,g,k⟩:=DataW.trod_struct j h;refine⟨n,rfl,hl,λi ty off b=>?_⟩;unfold gN at b;grind[Option.map_eq_some_iff,Array.getElem?_eq_some_iff,List.getElem?_eq_getElem]
theorem Nd(h:Rd enc W fuel 3 cs x):∃v:Int,cs=[ah v]/\v<2^63:=by
 grind[acq,u3]
theorem abP(h:Rd enc W fuel 4 cs x):∃v,cs=[.bool v]:=by
 grind[DataW.trod_bool,u4]
theorem abM(h:Rd enc W fuel 9 cs x):∃v:ByteArray,cs=[.string v]/\v.size<=kR:=by
 obtain⟨v,rfl,_,hl⟩:=DataW.trod_string u9 h;have:maxLen=9223372036854775807:=by decide
 simp_all
theorem iw.of{a:Addr}:∀{fs:cN}{i:Nat},(∀(j:Nat)f,fs[j]? =some f->jN h (a.add ((i+j)*7)) f)->iw h a i fs
  |[],_,_=>by unfold iw;trivial
  | f::fs,i,b=>by
    unfold iw;refine⟨b 0 f rfl,iw.of λj g c=>?_⟩;have:=b (j+1) g (by simpa using c)
    have e:i+1+j=i+(j+1):=ag;rw[e];exact this
theorem cG.of{fs:cN}(q:s.n=fs.length)(B:s.n<=s.c)(z:∀(j:Nat)f,fs[j]? =some f->∃a,s.a=some a/\jN h (a.add (j*7)) f):cG h s fs:=by
  cases fs with
  |nil=>unfold cG;exact⟨q,B⟩
  | cons f fs=>
    unfold cG;obtain⟨a,d,l⟩:=z 0 f rfl;refine⟨q,B,a,d,by simpa[add_zero']using l,iw.of λj g i=>?_⟩
    obtain⟨m,b,k⟩:=z (j+1) g (by simpa using i)
    rw[d]at b;cases b;have e:1+j=j+1:=ag;rw[e];exact k
theorem iR.of:∀{fs:cN},(∀(j:Nat)f,fs[j]? =some f->f.fQ)->iR fs
 |[],_=>by unfold iR;trivial
 |f::fs,h=>by unfold iR;exact⟨h 0 f rfl,iR.of λj g a=>h (j+1) g (by simpa using a)⟩
def aho(H:Type)(enc:TypeId×Value->H)(W:World)(fuel:Nat):Prop:=∀{cs:bg}{x:DataW H×List MemPlace},Rd enc W fuel 22 cs x->∃(s:Sl)(fs:cN),cs=[s.v]/\cG (aV W) s fs/\iR fs/\fs.length<=kR
theorem abO(B:∀n,n<fuel->aho H enc W n)(h:Rd enc W fuel 26 cs x):∃(f:ak)(u:Sl),cs=[.string f.name,.bool f.au,ah f.k,ah f.w,ah f.id,ah f.ix,Sl.v u]/\cG (aV W) u f.cs/\f.fQ:=by
 obtain⟨U,rfl,c,b⟩:=UC u27 h;rw[aeX]at c;obtain⟨v0,T,S,R,Q,P,O,rfl⟩:=aoS c;obtain⟨N,t⟩:=b 0 _ _ atE;obtain⟨M,s⟩:=b 1 _ _ atD;obtain⟨L,r⟩:=b 2 _ _ atC;obtain⟨z,e0,y⟩:=abM t;obtain⟨au,e1⟩:=abP s;obtain⟨A,rfl,_,a⟩:=UC u25 r;obtain⟨K,q⟩:=a 0 _ _ atJ;obtain⟨J,p⟩:=a 1 _ _ atI;obtain⟨I,o⟩:=a 2 _ _ atH;obtain⟨G,m⟩:=a 3 _ _ atG;obtain⟨F,l⟩:=a 4 _ _ atF;obtain⟨k,j,_⟩:=Nd q;obtain⟨w,i,_⟩:=Nd p;obtain⟨id,g,_⟩:=Nd o;obtain⟨ix,e,_⟩:=Nd m;obtain⟨u,ds,d,E,D,C⟩:=B A ag l;simp[cz3,XP,cz9,atO,atN]at e0 e1 j i g e d;subst e0 e1 j i g e d;exact⟨.mk z au k w id ix ds,u,rfl,E,by unfold ak.fQ;exact⟨y,C,D⟩⟩
theorem amw:∀(fuel:Nat),aho H enc W fuel:=by
  intro fuel
  induction fuel using Nat.strongRecOn with
  | _ fuel g=>
    intro cs x h;obtain⟨s,n,rfl,rfl,p,o,d⟩:=abN u23 h;obtain⟨l,hl,b⟩:=WD (Q:=λi(f:ak)=>(∃a,s.a=some a/\jN (aV W) (a.add (i*7)) f)/\f.fQ) λi b=>by
      obtain⟨a,z,y,r,B,e,q⟩:=d i b;rw[aeX]at e;obtain⟨f,u,rfl,v,t⟩:=abO (λm o=>g m ag) q;exact⟨f,⟨a,r,by obtain⟨A,au,k,w,id,ix,ds⟩:=f;unfold jN;exact⟨u,e,v⟩⟩,t⟩
    grind[cG.of,iR.of]
theorem amx(h:Rd enc W fuel 26 cs x):∃(f:ak)(u:Sl),cs=[.string f.name,.bool f.au,ah f.k,ah f.w,ah f.id,ah f.ix,Sl.v u]/\cG (aV W) u f.cs/\f.fQ:=abO (λn _=>amw n) h
end
def anZ:String:=Rows.buildBuildsRow.named.getD 2 ""
def anX:String:=Rows.buildBuildsRow.named.getD 0 ""
def anY:String:=Rows.buildBuildsRow.named.getD 1 ""
theorem aeb:aG.globalNamed anX=some 2:=by kernel_rfl
theorem aec:aG.globalNamed anY=some 0:=by kernel_rfl
theorem aed:aG.globalNamed anZ=some 1:=by kernel_rfl
theorem arc:(aG.globals[2]?).map (·.type)=some 218:=by kernel_rfl
theorem ard:(aG.globals[0]?).map (·.type)=some 200:=by kernel_rfl
theorem are:(aG.globals[1]?).map (·.type)=some 203:=by kernel_rfl
theorem WL{n:String}{e r z fuel:Nat}{d:DataW Unit}{cs:Array Value}{p:List MemPlace}(D:aG.globalNamed n=some j)(A:aG.underlying b=some (.array r e))(s:aG.cellsOf e=z)
  (f:W.var? aG n=some cs) (E:DataW.trod (λ_=>()) aG W 0 (λ_=>true) false fuel b cs.toList=some (d,p)) {i:Nat} (C:i<r):
  ∃(l:List (DataW Unit))(m:Nat)(y:DataW Unit×List MemPlace)(c:bg),d=.agg l/\l[i]? =some y.1/\DataW.trod (λ_=>()) aG W 0 (λ_=>true) false m e c=some y/\∀(k:Nat)v,k<z->c[k]? =some v->cell (aV W) ⟨j,i*z+k,none⟩=some v:=by
 obtain⟨h,m,rfl,u,hl,F,o⟩:=DataW.trod_array A E;rw[s]at o;have a:h[i]? =some h[i]:=bL ag;have q:=o i C;rw[a]at q;refine⟨h.map (·.1),m,h[i],(cs.toList.drop (i*z)).take z,sY Prod.fst u,by rw[fy,a];rfl,q,λk v B w=>?_⟩
 grind[ae4,World.var?_cell]
theorem alE:∀(i:Nat)(d:DataW Unit),i<21->(match(Rows.laid_colonnade_kind_says:DataW Unit)with|.agg l=>l[i]? |_=>none)=some d->∃a,d=.agg [a,.lit (.int .i64 (if i=0 then 0 else dJ i)),.lit (.int .i64 (if i=0 then 0 else kO i)),.lit (.bool (decide (3<=i/\i<=10)))]:=by
 intro i d b h;rcases i with _|_|_|_|_|_|_|_|_|_|_|_|_|_|_|_|_|_|_|_|_|i
 all_goals first|(obtain rfl:=ur h;exact⟨_,rfl⟩)|omega
theorem Ip{m n:Nat}{cs:bg}{y:DataW Unit×List MemPlace}{k:IntKind}{v:Int}(b:aG.underlying n=some (.int k))(h:DataW.trod (λ_=>()) aG W 0 (λ_=>true) false m n cs=some y)(a:y.1=.lit (.int k v)):cs=[.int k v]:=by
 obtain⟨w,rfl,e,_⟩:=DataW.trod_int b h;simp_all
theorem apf{m n:Nat}{cs:bg}{y:DataW Unit×List MemPlace}{v:Bool}(b:aG.underlying n=some .bool)(h:DataW.trod (λ_=>()) aG W 0 (λ_=>true) false m n cs=some y)(a:y.1=.lit (.bool v)):cs=[.bool v]:=by
 grind[DataW.trod_bool,DataW.lit.injEq,Lit.bool.injEq]
theorem Io{m:Nat}{cs:bg}{y:DataW Unit×List MemPlace}{l:List (DataW Unit)}(s:aG.underlying j=some (.struct (zq j)))(h:DataW.trod (λ_=>()) aG W 0 (λ_=>true) false m j cs=some y)(r:y.1=.agg l)
  {i:Nat} {ty:TypeId} {off:Nat} {d:DataW Unit} (g:gN j i ty off) (k:l[i]? =some d):∃n z,DataW.trod (λ_=>()) aG W 0 (λ_=>true) false n ty ((cs.drop off).take (aG.cellsOf ty))=some z/\z.1=d:=by
 obtain⟨c,n,rfl,q,hl,p,u⟩:=DataW.trod_struct s h;unfold gN at g;grind[Option.map_eq_some_iff,Array.getElem?_eq_some_iff,List.getElem?_eq_getElem,DataW.agg.inj]
theorem Iq{cs:bg}{off:Nat}{v:Value}(h:(cs.drop off).take 1=[v]):cs[off]? =some v:=by
 have:=sY (·[0]?) h
 grind
theorem arW(i:Nat)(a:i<256):(match(Rows.laid_unicode_utf8_first:DataW Unit)with|.agg l=>l[i]? |_=>none)=some (.lit (.int .u8 (uF i))):=by
 have h:∀j:Fin 256,(Pinned.utf8FirstZ[j.1]?)=some (uF j.1):=by decide+kernel
 have:=h ⟨i,a⟩
 show(Pinned.numbers .u8 Pinned.utf8FirstZ)[i]? =_
 unfold Pinned.numbers;simp_all
theorem avD:∀(i:Nat)(d:DataW Unit),i<16->(match(Rows.laid_unicode_utf8_acceptRanges:DataW Unit)with|.agg l=>l[i]? |_=>none)=some d->d=.agg [.lit (.int .u8 (Hr i)),.lit (.int .u8 (Hs i))]:=by
 intro i d a h;rcases i with _|_|_|_|_|_|_|_|_|_|_|_|_|_|_|_|i
 all_goals first|(obtain rfl:=ur h;rfl)|omega
theorem ajQ(h:laidMetH aG Rows.buildBuildsRow.laid W):oL (aV W)/\jz (aV W):=by
 have h:=h;obtain⟨ps,⟨g1,Y,U,f1,p1,t,E,B,w,I,⟨g2,X,OC,f2,p2,q2,D,A,v,G,⟨g3,V,T,f3,p3,Z,C,z,u,F,_,_⟩,_⟩,_⟩,_⟩:=h;obtain rfl:=ur (aed.symm.trans E);obtain rfl:=ur (are.symm.trans B);obtain rfl:=ur (aeb.symm.trans D);obtain rfl:=ur (arc.symm.trans A);obtain rfl:=ur (aec.symm.trans C);obtain rfl:=ur (ard.symm.trans z);have d:∀i,i<21->cell (aV W) ⟨2,i*4+1,none⟩=some (ah (if i=0 then 0 else dJ i))/\cell (aV W) ⟨2,i*4+2,none⟩=some (ah (if i=0 then 0 else kO i))/\cell (aV W) ⟨2,i*4+3,none⟩=some (.bool (decide (3<=i/\i<=10))):=by
  intro i e;obtain⟨l,m,y,o,e1,j,g,f⟩:=WL aeb ajc atL v G e;obtain⟨a,b⟩:=alE i y.1 e (by rw[e1];exact j)
  obtain⟨P,L,s,q⟩:=Io TS g b atB rfl;obtain⟨O,K,r,p⟩:=Io TS g b atA rfl;obtain⟨n3,S,N,M⟩:=Io TS g b atz rfl;have n:=Ip u3 s q;have k:=Ip u3 r p;have J:=apf u4 N M;rw[cz3]at n k;rw[XP]at J;exact⟨f 1 _ ag (Iq n),f 2 _ ag (Iq k),f 3 _ ag (Iq J)⟩
 refine⟨⟨λi e=>(d i e).2.2,λi R Q=>?_,λi R Q=>?_⟩,⟨λi e=>?_,λi e=>?_⟩⟩
 ·have:=(d i ag).2.1;rwa [aA]at this
 ·have:=(d i ag).1;rwa [aA]at this
 ·obtain⟨l,m,y,o,e1,j,g,f⟩:=WL aec ajb cz5 u F e;have b:=arW i e;rw[e1]at b;have b:=ur (j.symm.trans b);have c:=Ip u5 g b;have:=f 0 (.int .u8 (uF i)) ag (by rw[c];rfl)
  simpa using this
 ·obtain⟨l,m,y,o,e1,j,g,f⟩:=WL aed aja atK w I e;have b:=avD i y.1 e (by rw[e1];exact j)
  obtain⟨P,L,s,q⟩:=Io aax g b aty rfl;obtain⟨O,K,r,p⟩:=Io aax g b atx rfl;have n:=Ip u5 s q;have k:=Ip u5 r p;rw[cz5]at n k;have t:=f 0 _ ag (Iq n);rw[BP]at t;exact⟨t,f 1 _ ag (Iq k)⟩
section
theorem DR{g:Raw->Int×Raw}(h:∀r,(g r).1≠5)(r:Raw):(dc i g r).1≠5:=h _
theorem Oi:∀{l:kB},(∀d∈l,d.lR)->xu l
 |[],_=>trivial
 |d::ds,h=>⟨h d (YA ..),Oi λx a=>h x (Yz _ a)⟩
theorem ass{w ix:Int}{D:List (Raw->bH)}(f:∀g∈D,∀r,(g r).lR)(hl:D.length<=1000)(r:Raw):(mK k w ix D r).lR:=by
 have ks:∀d∈(List.range D.length).map (λi=>(D.getD i λ_=>uh) (r.aN i)),d.lR:=λd e=>by
  obtain⟨i,b,rfl⟩:=kZ.1 e;rw[uz]at b;have c:=bL b;rw[gB,c];exact f _ (kE b) _
 have j:((List.range D.length).map (λi=>(D.getD i λ_=>uh) (r.aN i))).length<=1000:=by rw[cC,Jq];exact hl
 have a:∀(n o u:Int)(aZ:ie),aZ.length<=1000->(bH.mk n o u aZ [] []).lR:=λn o u aZ h=>⟨ag,⟨aC,trivial⟩,aC,trivial⟩
 have kids:∀(n o u:Int)(aZ:ie),aZ.length<=1000->(bH.mk n o u aZ ((List.range D.length).map (λi=>(D.getD i λ_=>uh) (r.aN i))) []).lR:=λn o u aZ h=>⟨ag,⟨ag,Oi ks⟩,aC,trivial⟩
 unfold mK;split
 ·exact a _ _ _ _ aC
 split
 ·exact a _ _ _ _ aC
 split
 ·exact kids _ _ _ _ aC
 split
 ·exact kids _ _ _ _ aC
 split
 ·exact kids _ _ _ _ aC
 split
 ·exact⟨aC,⟨aC,trivial⟩,ag,Oi ks⟩
 split
 ·exact⟨aC,⟨by rw[iq];omega,a _ _ _ _ aC,Oi ks⟩,aC,trivial⟩
 split
 ·exact a _ _ _ _ aC
 split
 ·exact a _ _ _ _ aC
 ·exact a _ _ _ _ aC
theorem apo(e:bE f):f.cs.length<=32:=by
 obtain⟨_,_,_,_,_,_,_,i,h,g,d⟩:=e.right.1
 omega
theorem aeO:∀f:ak,bE f->∀r,(f.dn r).lR
  | .mk h au k w id ix cs,b=>by
    have d:∀c∈cs,∀r,(c.dn r).lR:=λc a=>aeO c (b.aN a);have hl:cs.length<=32:=apo b;intro r;rw[qO];refine ass (λg e r=>?_) (by rw[cC];show cs.length<=1000;omega) r
    obtain⟨c,a,rfl⟩:=kZ.1 e;exact d c a r
end
def Mr(d:bH):Prop:=∀{D E D' E':aR}{h:Hp}{p q:Sl×Sl×Sl}{K:fD}{Kp:PK},d.lR->eD D E h p d->eD D' E' h q d->(∀h',aB h h'->K true h')->
 C1 d.len d.off d.au p.1 p.2.1 p.2.2 d.len d.off d.au q.1 q.2.1 q.2.2 h K Kp
theorem aeC{z:aR}{t:Sl}{cs:kB}{K:fD}{w:PK}(y:∀c∈cs,Mr c)(r:xu cs)(l:dD D E h s cs)(k:dD A z h t cs)(hl:cs.length<=2^50)(o:∀e,aB h e->K true e):GO s t h K w:=by
 have C:=l.n;have B:=k.n;refine GO.of (bu cy (QG.bC (λx e=>aB h e/\∃i:Nat,x=i/\i<=cs.length) (λx _=>cs.length-x.toNat) ⟨cW _,0,rfl,eH _⟩ ?_));rintro x e ⟨G,i,rfl,F⟩ N hN;refine aK (λg=>?_) λg=>o e G;have g:=aU g;have b:cs[i]? =some cs[i]:=aC;have f:cs[i]∈cs:=aC;generalize cs[i]=d at b f;refine(l.gr G).ix rfl b λa p v vp=>bY.c v ((k.gr G).ix rfl b λI q j m=>bY.c j (y d f (r.get d f) vp m λH u=>bu rfl (aY ag ag (hN _ _ ⟨aq G u,i+1,aC,ag⟩ ag))))
theorem asj{n y:Int}{cs ds:kB}(U:∀c∈cs,Mr c)(T:∀c∈ds,Mr c):Mr (.mk n y k aZ cs ds):=by
 intro D E D' E' h p q K Kp g v s L;refine C1.of (aJ λS Y e1 Q d _=>aJ λR O Z C e _=>?_);have G:=aq Q C;have d:=d.ai C;have F:=(v.b.gr G);have b2:=(s.b.gr G);have J:=F.n;have I:=b2.n;have e1:(bH.mk n y k aZ cs ds).aZ=aZ:=rfl;rw[e1]at J I;refine aj d rfl (aj e rfl (bu aC ?_));simp only[bz,bX];refine aj d rfl (aj e rfl (Kg.of (bu aC ?_)));simp only[bz,bX];refine aj d rfl (aj e rfl (Kf.of (bu aC ?_)));simp only[bz,bX];refine aj d rfl (aj e rfl (bu cy (RX.of (QI.bC (λx r=>r=O/\∃i:Nat,x=i/\i<=aZ.length) (λx _=>aZ.length-x.toNat) ⟨rfl,0,rfl,eH _⟩ ?_))));rintro x r ⟨rfl,i,rfl,V⟩ N hN;simp only[bz,bX];refine aj d rfl (aK (λz=>?_) λz=>?_)
 ·have z:=aU z;have W:=g.1;refine aj d rfl (F.ix rfl (by rw[e1];omega) λa t w B=>⟨t,w,aj e rfl (b2.ix rfl (by rw[e1];omega) λa' H f m=>⟨H,f,?_⟩)⟩)
  have fin:If (!((bs (dG (bH.mk n y k aZ cs ds).aZ i)).toList==(bs (dG (bH.mk n y k aZ cs ds).aZ i)).toList)) (K false r) (aP ((i:Int)+1) λA=>N (Ii (aF S) (aF R) A) r):=by
   refine bu aC (aY ag ag (hN _ _ ⟨rfl,i+1,aC,ag⟩ ag))
  exact⟨zJ B.1 (Co f (cW _) (mw e e (zJ m.1 (Co w (cW _) (mw d d fin))))),zJ m.1 (Co w (cW _) (mw d d (zJ B.1 (Co f (cW _) (mw e e fin)))))⟩
 ·apply RW.of;simp only[bz,bX];refine aj d rfl (aj e rfl (aeC U g.2.1.2 (v.c.gr G) (s.c.gr G) g.2.1.1 λX l=>bQ rfl (aj (d.ai l) rfl (aj (e.ai l) rfl (aeC T g.2.2.2 ((v.x.gr G).gr l) ((s.x.gr G).gr l) g.2.2.1 λM P=>L M (aq (aq G l) P))))))
theorem Ol:∀d:bH,Mr d
 |.mk n o u aZ cs ds=>asj (λc _=>Ol c) λc _=>Ol c
theorem abC:∀{l:aQ},(∀y∈l,y.nH)->m5 l
 |[],_=>trivial
 |x::b,h=>⟨h x (YA ..),abC λy a=>h y (Yz _ a)⟩
open Go Go.Sh Go.ChangeShapes Go.WideShapes
theorem u2:aG.underlying 2=some (.int .i64):=by kernel_rfl
theorem u28:aG.underlying 27=some (.slice 43):=by kernel_rfl
theorem u56:aG.underlying 43=some (.struct (zq 43)):=by kernel_rfl
theorem atw:gN 43 0 4 0:=by unfold gN;kernel_rfl
theorem atv:gN 43 1 2 1:=by unfold gN;kernel_rfl
theorem atu:gN 43 2 9 2:=by unfold gN;kernel_rfl
theorem att:gN 43 3 27 3:=by unfold gN;kernel_rfl
theorem cz2:aG.cellsOf 2=1:=by kernel_rfl
theorem atM:aG.cellsOf 27=1:=by kernel_rfl
theorem aeU:aG.cellsOf 43=4:=by kernel_rfl
section
variable {H:Type} {enc:TypeId×Value->H} {fuel:Nat} {cs:bg} {x:DataW H×List MemPlace}
def agR(H:Type)(enc:TypeId×Value->H)(W:World)(fuel:Nat):Prop:=∀{cs:bg}{x:DataW H×List MemPlace},Rd enc W fuel 27 cs x->∃(s:Sl)(l:aQ),cs=[s.v]/\aS Tt (aV W) s l/\m5 l/\l.length<=kR
theorem amv(o:∀n,n<fuel->agR H enc W n)(h:Rd enc W fuel 43 cs x):∃(v:aD)(u:Sl),cs=v.row u/\aS Tt (aV W) u v.items/\v.nH:=by
 obtain⟨m,rfl,b,a⟩:=UC u56 h;rw[aeU]at b;obtain⟨v0,A,z,y,rfl⟩:=aoT b;obtain⟨w,i⟩:=a 0 _ _ atw;obtain⟨t,g⟩:=a 1 _ _ atv;obtain⟨s,f⟩:=a 2 _ _ atu;obtain⟨r,e⟩:=a 3 _ _ att;obtain⟨au,e0⟩:=abP i;obtain⟨num,e1,k,j⟩:=acq u2 g;obtain⟨tx,d,_⟩:=abM f;obtain⟨u,l,c,q,p,_⟩:=o m ag e;simp[XP,cz2,cz9,atM]at e0 e1 d c;subst e0 e1 d c;exact⟨.mk au num tx.data.toList l,u,rfl,q,⟨k,j⟩,p⟩
theorem amu:∀(fuel:Nat),agR H enc W fuel:=by
  intro fuel
  induction fuel using Nat.strongRecOn with
  | _ fuel p=>
    intro cs x h;obtain⟨s,n,rfl,rfl,w,r,f⟩:=abN u28 h;obtain⟨l,hl,b⟩:=WD (Q:=λi(v:aD)=>(∃a,s.a=some a/\VA Tt (aV W) (a.add (i*4)) v)/\v.nH) λi b=>by
      obtain⟨a,D,y,A,E,k,z⟩:=f i b;rw[aeU]at k;obtain⟨v,u,rfl,C,B⟩:=amv (λm r=>p m ag) z;grind[VA.of]
    grind[aS.of,abC,List.getElem?_eq_getElem,List.length_pos_iff,List.mem_iff_getElem?]
end
def oY(vs:aQ)(w:Nat)(e:Int):Int:=if 4096<=vs.length then 3 else if e≠0 then e else if 4194304<bJ vs+w then 3 else 0
noncomputable def jS(c:ak)(G:aD->Raw->Int×Raw):List aD->List aD->Int
 |_,[]=>0
 |kv,x::xs=>if(G x (c.st kv)).1=0 then jS c G (kv++[x]) xs else(G x (c.st kv)).1
def jW(g:Nat->Int):Nat->Int
 |0=>0
 |n+1=>if jW g n=0 then g n else jW g n
theorem uT(x:Int×Raw)(g:Raw->Int×Raw):(cQ x g).1=if x.1=0 then(g x.2).1 else x.1:=by unfold cQ;split <;> rfl
theorem abl{c:ak}{G:aD->Raw->Int×Raw}:∀{b:aQ},(∀x∈b,dV c (G x) x)->∀{r:Raw}{a:aQ},i<r.kids.length->r.aN i=c.st a->c.can a->(fc (b.map λx=>dc i (G x)) r).1=jS c G a b
  |[],_,_,_,_,_,_=>rfl
  | x::b,h,r,a,g,d,m=>by
    simp only[qQ,fc,jS];have e:(dc i (G x) r).1=(G x (c.st a)).1:=by unfold dc;rw[d]
    rw[uT,e];split
    · rename_i n
      obtain⟨k,j⟩:=vk (h x aC) d m ag
      rw[j];exact abl (λy l=>h y (by simp[l])) (by rw[uX];exact g) (lC g) k
    ·rfl
theorem Yt{cs:cN}{G:Nat->Raw->Int×Raw}{x:Nat->aD}{kv:Nat->List aD}(hl:r.kids.length=cs.length)(b:∀i c,cs[i]? =some c->r.aN i=c.st (kv i)/\c.can (kv i))(e:∀i c,cs[i]? =some c->dV c (G i) (x i)){g:Nat->Int}(d:∀i c,cs[i]? =some c->g i=(G i (c.st (kv i))).1):
    ∀m,m<=cs.length->(fc ((List.range m).map λi=>dc i (G i)) r).1=jW g m
  |0,_=>rfl
  | m+1,k=>by
    have a:cs[m]? =some cs[m]:=aC;rw[uu,kY,Js,M8,uT,Yt hl b e d m ag]
    show _=if jW g m=0 then g m else jW g m
    split
    · rename_i j
      have h:(fc ((List.range m).map λi=>dc i (G i)) r).1=0:=by rw[Yt hl b e d m ag];exact j
      have:=(((Ew hl b e m ag h).2.2) m _ a).2;rw[aA]at this
      show(G m ((fc ((List.range m).map λi=>dc i (G i)) r).2.aN m)).1=g m
      simp[*]
    ·rfl
theorem tL(n:Nat)(r:Raw):(fj n r).1=if 4194304<r.b.bF+n then 3 else 0:=rfl
theorem wQ{vs:aQ}{n:Bool}{F:Raw->Int×Raw}{w:Nat}{e:Int}(h:∀a,ji f vs v n a->(F a).1=if e≠0 then e else if 4194304<bJ vs+w then 3 else 0):(cQ (eN n (f.st vs)) F).1=oY vs w e:=by
 rw[uT];unfold oY
 by_cases q:4096<=vs.length
 ·rw[aI q];have b:(eN n (f.st vs)).1=3:=by unfold eN;simp_all[aI,AL]
  rw[b];rfl
 ·rw[aE q];have e0:(eN n (f.st vs)).1=0:=by unfold eN;simp_all[aE,AL]
  simp_all[aI,ji.of]
theorem ji.bF{vs:aQ}{n:Bool}{a:Raw}(R:ji f vs v n a):a.b.bF=bJ vs:=by rw[R.b];rfl
section
variable {c:ak} {vs:aQ}
noncomputable abbrev gp(f:ak)(vs:aQ)(v:aD):Int:=(f.tk (f.st vs) v).1
noncomputable abbrev gE(f:ak)(vs:aQ):Int:=(f.zk (f.st vs)).1
noncomputable abbrev cont(f:ak)(j:Nat)(vs:aQ):List aD:=dB f.k f.w (dh f.cs) j vs
theorem ajA(d:f.k=1)(a:f.fit v=true):gp f vs v=oY vs v.bw 0:=by
 have b:v.au=true:=by
  cases b:v.au with
  |true=>rfl
  |false=>simp_all[eG,fm]
 have e:v=v0:=by rw[eG]at a;exact(ku a b).1
 unfold gp;rw[kD];unfold iD;rw[aI d];refine wQ (v:=v) λg R=>?_;rw[tL,R.bF,e,TJ];rfl
theorem aeg(a:f.fit v=true)(d:¬(15<=f.k/\f.k<=20)):v.items=[]:=by
  rw[eG]at a;cases b:v.au with
  |true=>rw[(ku a b).1];rfl
  | false=>
    unfold fm at a;grind
theorem ajv(e:f.k=12\/f.k=13)(h:f.fit v=true):gp f vs v=oY vs v.bw (if 65536<(vs.flatMap aD.text).length+v.text.length then 4 else 0):=by
 have g:v.bw=16+v.text.length:=by rw[gS,aeg h ag];rfl
 unfold gp;rw[kD];unfold iD;rw[aA,aI e];refine wQ (v:=v) λd R=>?_;have a:d.b.all=vs.flatMap aD.text:=by rw[R.b];show(aM f.k vs).all=_;simp[aM,e]
 rw[a];split
 ·rfl
 ·rw[tL,gm,g]
  show(if 4194304<d.b.bF+_ then(3:Int)else 0)=_
  rw[R.bF];rfl
theorem ajz(g:fE f.k=true)(e:f.fit v=true)(h:f.k<=20):gp f vs v=oY vs v.bw 0:=by
 have q:f.k≠1/\f.k≠12/\f.k≠13/\f.k≠15/\f.k≠16/\f.k≠17/\f.k≠18/\f.k≠19/\f.k≠20:=by simpa[fE,and_assoc]using g
 have d:v.bw=16+v.text.length:=by rw[gS,aeg e ag];rfl
 unfold gp;rw[kD];unfold iD;rw[aA,aA,aA,aA,aA,aA,aA,aA];refine wQ (v:=v) λa R=>?_;rw[tL,gm,d]
 show(if 4194304<a.b.bF+_ then(3:Int)else 0)=_
 rw[R.bF];rfl
theorem M1{l:Raw}{n:Bool}{G:aD->Raw->Int×Raw}{xs:aQ}{wg:Raw->Nat}{up:Rb->Rb}{w:Nat}(i:f.cs=[c])(t:f.can vs)(R:ji f vs v n l)(p:∀x∈xs,dV c (G x) x)(m:∀b,(up b).bF=b.bF)(s:∀h,(∃o,h=l.eZ 0 (c.st o)/\o=cont f 0 vs++xs)->wg h=w):
  (cQ (fc (xs.map λx=>dc 0 (G x)) l) λh=>fj (wg h) (h.up up)).1=if jS c G (cont f 0 vs) xs≠0 then jS c G (cont f 0 vs) xs else if 4194304<bJ vs+w then 3 else 0:=by
 have j:f.cs[0]? =some c:=by rw[i];rfl
 have a:0<l.kids.length:=by rw[R.len,i];simp
 have g:=R.aN j;have d:=fh j t;have e:=abl p a g d;rw[uT,e]
 by_cases q:jS c G (dB f.k f.w (dh f.cs) 0 vs) xs=0
 ·obtain⟨u,r⟩:=Hz p a g d ag
  rw[aI q,aE (by simp[q]),r,s _ ⟨_,rfl,rfl⟩,tL,gm,m,mY,R.bF]
 grind
theorem ajB(a:f.cs=[c])(d:f.k=15)(n:∀x,c.fit x=true->dV c (λr=>c.tk r x) x)(l:f.can vs)(h:f.fit v=true):gp f vs v=oY vs v.bw (jS c (λx r=>c.tk r x) (cont f 0 vs) v.items):=by
 obtain⟨i,j⟩:=aeo a d h;unfold gp;rw[kD];unfold iD;rw[aA,aA,aI d];have hT:(f.cs.map ak.tk).getD 0 om=c.tk:=by rw[a];rfl
 rw[hT];refine wQ (v:=v) λe R=>M1 (wg:=λb=>16+(dZ b 0-dZ e 0)) a l R (λx g=>n x (j x g)) (λ_=>rfl) λb⟨o,e1,m⟩=>?_;grind[IL,gS]
theorem ajx(a:f.cs=[c])(j:f.k=16)(u:∀x,c.fit x=true->dV c (λr=>c.tk r x) x)(s:dV c c.zk c.cm)(l:f.can vs)(e:f.fit v=true):
    gp f vs v=oY vs v.bw (if v.au then jS c (λ_=>c.zk) (cont f 0 vs) (List.replicate f.w.toNat c.cm)else jS c (λx r=>c.tk r x) (cont f 0 vs) v.items):=by
  unfold gp;rw[kD];unfold iD;rw[aA,aA,aA,aI j];have hT:(f.cs.map ak.tk).getD 0 om=c.tk:=by rw[a];rfl
  have p:(f.cs.map ak.zk).getD 0 od=c.zk:=by rw[a];rfl
  rw[hT,p];refine wQ (v:=v) λm R=>?_;cases i:v.au with
  | true=>
    simp only[fY];rw[Nc f.w.toNat c.cm];have g:v=v0:=by rw[eG]at e;exact(ku e i).1
    exact M1 a l R (λx d=>by simp_all) (λ_=>rfl) λ_ _=>by rw[g];rfl
  | false=>
    simp only[lH,kF];obtain⟨n,hl,o⟩:=Oc a j e i;refine M1 a l R (λx d=>u x (o x d)) (λ_=>rfl) λh⟨t,e1,q⟩=>?_;grind[IL,gS]
end
section
variable {c:ak} {vs:aQ}
def f0:ak:=.mk (bs []) false 0 0 0 0 []
theorem Ys{h:Raw}{n:Bool}{x:Nat->aD}{G:Nat->Raw->Int×Raw}{wg:Raw->Nat}{w:Nat}{g:Nat->Int}(u:f.can vs)(R:ji f vs v n h)(j:∀i c,f.cs[i]? =some c->dV c (G i) (x i))(s:∀i c,f.cs[i]? =some c->g i=(G i (c.st (cont f i vs))).1)
  (r:∀d,(total d-total h=((List.range f.cs.length).map λi=>(x i).bw).sum)->wg d=w):
  (cQ (fc ((List.range f.cs.length).map λi=>dc i (G i)) h) λd=>fj (wg d) d).1=if jW g f.cs.length≠0 then jW g f.cs.length else if 4194304<bJ vs+w then 3 else 0:=by
 have k:∀i c,f.cs[i]? =some c->h.aN i=c.st (cont f i vs)/\c.can (cont f i vs):=λi c a=>⟨R.aN a,fh a u⟩;have e:=Yt R.len k j s f.cs.length (cr _);rw[uT,e]
 by_cases q:jW g f.cs.length=0
 ·obtain⟨p,o,m⟩:=Ew R.len k j f.cs.length (cr _) ag
  rw[aI q,aE (by simp[q])]
  generalize(fc ((List.range f.cs.length).map λi=>dc i (G i)) h).2=d at p o m;have t:total d-total h=((List.range f.cs.length).map λi=>(x i).bw).sum:=by
   rw[pV,pV,o,R.len];have y:((List.range f.cs.length).map λi=>(d.aN i).b.bF).sum=((List.range f.cs.length).map λi=>(h.aN i).b.bF+(x i).bw).sum:=MU λi l=>by
    simp_all[aC,aI,pY,lJ]
   rw[y,sum_add];omega
  rw[r d t,tL,p,R.bF]
 omega
noncomputable def It(f:ak)(vs:aQ)(v:aD)(i:Nat):Int:=if v.au then gE (f.cs.getD i f0) (cont f i vs)else gp (f.cs.getD i f0) (cont f i vs) (v.items.getD i v0)
theorem arl(h:f.cs[i]? =some c):f.cs.getD i f0=c:=dH
theorem ajw(l:f.k=17)(s:∀c∈f.cs,∀x,c.fit x=true->dV c (λr=>c.tk r x) x)(q:∀c∈f.cs,dV c c.zk c.cm)(m:f.can vs)(d:f.fit v=true):gp f vs v=oY vs v.bw (jW (It f vs v) f.cs.length):=by
  unfold gp;rw[kD];unfold iD;rw[aA,aA,aA,aA,aI l,cC];refine wQ (v:=v) λn R=>?_;cases b:v.au with
  | true=>
    simp only[fY];have e:v=v0:=by rw[eG]at d;exact(ku d b).1
    refine Ys (x:=λi=>(dh f.cs).getD i v0) m R (λi c a=>?_) (λi c a=>?_) λ_ _=>by rw[e];rfl
    ·rw[lO a,dh,lO a];grind
    ·simp_all[It,aI,arl,lO]
  | false=>
    simp only[lH,kF];obtain⟨o,hl,p⟩:=Ea l d b;refine Ys (x:=λi=>v.items.getD i v0) m R (λi c a=>?_) (λi c a=>?_) λj h=>?_
    ·rw[lO a];grind
    ·unfold It;simp[*]
    ·rw[h,<-hl,Hw aD.bw v0,Wv,gS,o];rfl
theorem adi{code:Nat}{g:Raw->Int×Raw}{a:Raw}{n:Bool}{w:Nat}(R:ji f vs v n a)(d:f.cs[code]? =some c)(p:dV c g Y)(t:f.can vs)(o:16+Y.bw=w):
  (cQ (dc code g (a.up λb=>{b with all:=b.all++[UInt8.ofNat code],ends:=b.ends++[(a.aN code).b.rows]})) λl=>fj (16+(dZ l code-dZ a code)) l).1=if(g (c.st (cont f code vs))).1≠0 then(g (c.st (cont f code vs))).1 else if 4194304<bJ vs+w then 3 else 0:=by
 have h:code<(a.up λb=>{b with all:=b.all++[UInt8.ofNat code],ends:=b.ends++[(a.aN code).b.rows]}).kids.length:=by rw[jO,R.len];exact(dy.1 d).1
 have i:(a.up λb=>{b with all:=b.all++[UInt8.ofNat code],ends:=b.ends++[(a.aN code).b.rows]}).aN code=c.st (cont f code vs):=by rw[iQ];exact R.aN d
 generalize r:(a.up λb=>{b with all:=b.all++[UInt8.ofNat code],ends:=b.ends++[(a.aN code).b.rows]})=j at h i
 have u:j.b.bF=bJ vs:=by rw[<-r,gm];exact R.bF
 have e:(dc code g j).1=(g (c.st (cont f code vs))).1:=by unfold dc;rw[i]
 rw[uT,e]
 by_cases q:(g (c.st (cont f code vs))).1=0
 ·obtain⟨y,m⟩:=vk p i (fh d t) ag
  rw[aI q,aE (by simp[q]),m,tL,mY,u]
  have s:dZ (j.eZ code (c.st (cont f code vs++[Y]))) code-dZ a code=Y.bw:=by
   unfold dZ;have k:a.aN code=c.st (cont f code vs):=R.aN d;rw[lC h,k,pY,pY,lJ];omega
  rw[s,o]
 omega
theorem ajD(l:bE f)(e:f.k=18)(b:f.cs[fG v]? =some c)(a:v.items=[Y])(d:v.text=[])(g:dV c (λr=>c.tk r Y) Y)(h:f.can vs):gp f vs v=oY vs v.bw (gp c (cont f (fG v) vs) Y):=by
 unfold gp;rw[kD];unfold iD;rw[aA,aA,aA,aA,aA,aI e];have i:(f.cs.map ak.tk).getD v.num.toNat om=c.tk:=lO b;rw[i,a];unfold sL;exact wQ (v:=v) λj R=>adi R b g h (by rw[gS v,d,a];simp[bJ])
open Classical in
theorem ajC(vA:f.cs=[c])(hk:f.k=19)(IH:∀x,c.fit x=true->dV c (λr=>c.tk r x) x)(hc:f.can vs)(hv:f.fit v=true):
    gp f vs v=oY vs v.bw (if v.au then 0 else if v∈dR vs then 0 else if ou f.ix<=(dR vs).length then 102 else gp c (dR vs) v):=by
  have eB:f.cs[0]? =some c:=by rw[vA];rfl
  have Xf:=fh eB hc
  have ce:cont f 0 vs=dR vs:=by show dB f.k f.w (dh f.cs) 0 vs=_;rw[hk,By]
  unfold gp
  rw[kD];unfold iD
  rw[aA,aA,aA,aA,aA,aA,aI hk]
  have hT:(f.cs.map ak.tk).getD 0 om=c.tk:=by rw[vA];rfl
  rw[hT]
  refine wQ (v:=v) λr1 R=>?_
  have NO:r1.b.aH=dR vs:=by rw[R.b];show(aM f.k vs).aH=_;simp[aM,hk]
  cases hn:v.au with
  | true=>
    have IA:v=v0:=by rw[eG]at hv;exact(ku hv hn).1
    simp only[fY]
    rw[tL,gm,IA]
    show(if 4194304<r1.b.bF+16 then(3:Int)else 0)=_
    rw[R.bF];rfl
  | false =>
    simp only[lH,kF]
    rw[NO]
    cases hp:gf v (dR vs)with
    | some i=>
      have hm:v∈dR vs:=yj λq=>by rw[vh.2 q]at hp;cases hp
      rw[aI hm]
      show(fj v.bw _).1=_
      rw[tL,gm]
      show(if 4194304<r1.b.bF+v.bw then(3:Int)else 0)=_
      rw[R.bF];rfl
    | none=>
      rw[aE (vh.1 hp)]
      show(if ou f.ix<=(dR vs).length then((102:Int),r1)else _).1=_
      split
      ·rfl
      · have hlen:0<r1.kids.length:=by rw[R.len,vA];simp
        have IJ:=R.aN eB
        have e:(dc 0 (λr=>c.tk r v) r1).1=(c.tk (c.st (dR vs)) v).1:=by unfold dc;rw[IJ,<-ce]
        rw[uT,e]
        by_cases q:(c.tk (c.st (dR vs)) v).1=0
        · have hcv:c.fit v=true:=Od vA (.inl hk) hv hn
          obtain⟨q1,q2⟩:=vk (IH v hcv) IJ Xf ag
          rw[aI q,aE (by simp[q]),q2,tL,gm]
          show(if 4194304<r1.b.bF+v.bw then(3:Int)else 0)=_
          rw[R.bF]
        omega
open Classical in
theorem ajy(vA:f.cs=[c])(hk:f.k=20)(IH:dV c (λr=>c.tk r v) v)(hc:f.can vs):gp f vs v=oY vs v.bw (if(cR vs).1.getLast? =some v then 0 else gp c (cR vs).1 v):=by
 have eB:f.cs[0]? =some c:=by rw[vA];rfl
 have Xf:=fh eB hc
 have ce:cont f 0 vs=(cR vs).1:=by show dB f.k f.w (dh f.cs) 0 vs=_;rw[hk,El]
 unfold gp
 rw[kD];unfold iD
 rw[aA,aA,aA,aA,aA,aA,aA,aI hk]
 have hT:(f.cs.map ak.tk).getD 0 om=c.tk:=by rw[vA];rfl
 rw[hT]
 refine wQ (v:=v) λr1 R=>?_
 have NO:r1.b.aH=(cR vs).1:=by rw[R.b];show(aM f.k vs).aH=_;simp[aM,hk]
 rw[NO]
 split
 ·rw[tL,gm]
  show(if 4194304<r1.b.bF+v.bw then(3:Int)else 0)=_
  rw[R.bF];rfl
 ·have hlen:0<r1.kids.length:=by rw[R.len,vA];simp
  have IJ:=R.aN eB
  have e:(dc 0 (λr=>c.tk r v) r1).1=(c.tk (c.st (cR vs).1) v).1:=by unfold dc;rw[IJ,<-ce]
  rw[uT,e]
  by_cases q:(c.tk (c.st (cR vs).1) v).1=0
  ·obtain⟨q1,q2⟩:=vk IH IJ Xf ag
   rw[aI q,aE (by simp[q]),q2,tL,gm]
   show(if 4194304<r1.b.bF+v.bw then(3:Int)else 0)=_
   rw[R.bF]
  omega
def uS(vs:aQ)(e:Int):Int:=if 4096<=vs.length then 3 else if e≠0 then e else 3
theorem Hf{F:Raw->Int×Raw}{e:Int}(i:f.small=false)(S:uG f)(j:f.can vs)(d:f.zk (f.st vs)=cQ (eN false (f.st vs)) F)(h:∀a,ji f vs v0 false a->(F a).1=e\/e=0/\(F a).1=3):gE f vs=uS vs e:=by
 have ne:gE f vs≠0:=λq=>by have:=S vs j q;grind
 unfold gE at ne ⊢;rw[d,uT]at ne ⊢;unfold uS
 by_cases q:4096<=vs.length
 ·rw[aI q];have g:(eN false (f.st vs)).1=3:=by unfold eN;simp_all[aI,AL]
  rw[g];rfl
 ·rw[aE q];have e0:(eN false (f.st vs)).1=0:=by unfold eN;simp_all[aE,AL]
  rw[aI e0]at ne ⊢;grind[ji.of]
theorem ap0{e:Int}{p:Prop}[Decidable p]:(if e≠0 then e else if p then(3:Int)else 0)=e\/e=0/\(if e≠0 then e else if p then(3:Int)else 0)=3:=by
 omega
theorem ak3(b:bE f)(a:f.small=false):16<=f.k/\f.k<=20:=yj λq=>by rw[Ue b q]at a;cases a
theorem aab(d:f.cs=[c])(l:f.k=16)(g:f.small=false)(S:uG f)(o:dV c c.zk c.cm)(h:f.can vs):gE f vs=uS vs (jS c (λ_=>c.zk) (cont f 0 vs) (List.replicate f.w.toNat c.cm)):=by
 have m:(f.cs.map ak.zk).getD 0 od=c.zk:=by rw[d];rfl
 refine Hf g S h (by rw[rX];unfold nE;rw[aE dH,aI l]) λi R=>?_
 rw[m,Nc f.w.toNat c.cm];have:=M1 (xs:=List.replicate f.w.toNat c.cm) (G:=λ_=>c.zk) (wg:=λa=>16+(dZ a 0-dZ i 0)) d h R (λx j=>bZ) (λ_=>rfl) λa⟨p,e1,n⟩=>by rw[IL d R e1 n]
 have e:∀a:Raw,(a.up λb=>b)=a:=λa=>by cases a;rfl
 grind
theorem aaa(l:f.k=17)(e:f.small=false)(S:uG f)(n:∀c∈f.cs,dV c c.zk c.cm)(h:f.can vs):gE f vs=uS vs (jW (λi=>gE (f.cs.getD i f0) (cont f i vs)) f.cs.length):=by
 refine Hf e S h (by rw[rX];unfold nE;rw[aE dH,aA,aI l]) λj R=>?_
 rw[cC];rw[Ys (g:=λi=>gE (f.cs.getD i f0) (cont f i vs)) (w:=16+((List.range f.cs.length).map λi=>((dh f.cs).getD i v0).bw).sum) h R (λi c a=>?_) (λi c a=>?_) λd b=>by rw[b]]
 ·omega
 ·rw[lO a,dh,lO a];grind
 simp[*]
theorem aac(l:f.k=18)(a:f.cs[0]? =some c)(h:f.small=false)(S:uG f)(n:dV c c.zk c.cm)(j:f.can vs):gE f vs=uS vs (gE c (cont f 0 vs)):=by
 refine Hf h S j (by rw[rX];unfold nE;rw[aE dH,aA,aA,aI l];rfl) λd R=>?_
 rw[lO a,adi R a n j rfl];exact ap0
theorem Tu(g:f.k=19\/f.k=20)(h:f.cs=[c])(j:f.small=false)(S:uG f)(n:f.can vs):gE f vs=uS vs (if f.k=19/\ou f.ix<=(dR vs).length then 102 else gE c (cont f 0 vs)):=by
 have m:(f.cs.map ak.zk).getD 0 od=c.zk:=by rw[h];rfl
 have l:f.cs[0]? =some c:=by rw[h];rfl
 have aN:∀a,ji f vs v0 false a->(cQ (dc 0 c.zk a) λi=>(3,i)).1=gE c (cont f 0 vs)\/gE c (cont f 0 vs)=0/\(cQ (dc 0 c.zk a) λi=>(3,i)).1=3:=λa R=>by
  have e:(dc 0 c.zk a).1=gE c (cont f 0 vs):=by unfold dc;rw[R.aN l]
  rw[uT,e];omega
 rcases g with g|g
 ·refine Hf j S n (by rw[rX];unfold nE;rw[aE (by simp[j];omega),aA,aA,aA,aI g]) λa R=>?_
  have d:a.b.aH=dR vs:=by rw[R.b];show(aM f.k vs).aH=_;simp[aM,g]
  simp only[d,g,true_and,m];split
  ·exact .inl rfl
  ·exact aN a R
 ·rw[aA];refine Hf j S n (by rw[rX];unfold nE;rw[aE (by simp[j];omega),aA,aA,aA,aA]) λa R=>?_
  rw[m];exact aN a R
end
abbrev BF:=(Nat->Prop)->(Nat->Prop)->Hp->Nat->List aD->Prop
structure Bx where
 vl:List UInt8
 cd:List UInt8
 fx:List UInt8
 os:List Nat
 tx:List UInt8
 ix:List Nat
 en:List Nat
def Bx.eY(X:Bx):List (List Value×TypeId):=[(bv X.vl,Y8),(bv X.cd,Y8),(bv X.fx,Y8),(ints X.os,Y6),(bv X.tx,Y8),(ints X.ix,Y6),(ints X.en,Y6)]
structure dL where
 sf:Sl
 SS:List Sl
 sv:Sl
 sp:Sl
 kp:List Nat
 ST:List (Nat->Prop)
 VT:Nat->Prop
 PT:Nat->Prop
 KT:List (Nat->Prop)
def dL.Ls(g:dL):List (Nat->Prop):=g.VT::g.PT::(g.ST++g.KT)
structure Bn where
 r:Nat
 u:Nat
 w:Nat
def dL.row(f:ak)(g:dL)(n:Bn):List Value:=f.row g.sf++[ah (n.r:Int),ah (n.u:Int),ah (n.w:Int)]++(g.SS.map Sl.v++[Sl.v g.sv,Sl.v g.sp])
def AW(b:Nat):Value:=bB b
def uE(A Q:aR)(h:Hp)(s:Sl)(aH:aQ):Prop:=
 ∃ss:List Sl,ss.length=aH.length/\fO 0 4 h s (List.zipWith aD.row aH ss) di/\(∀c,s.at c->A c)/\∀(j:Nat)(z:aD)(u:Sl),aH[j]? =some z->ss[j]? =some u->aS Q h u z.items
structure ga(f:ak)(KM:List BF)(Q T:aR)(h:Hp)(p:Nat)(g:dL)(n:Bn)(X:Bx)(vl:aQ)(kc:Nat->List aD):Prop where
 t:iO T h p g.Ls
 q:∀c,Q c->¬T c/\c<h.size
 k:aO h p (g.row f n).toArray ES
 fs:ck Q h g.sf f.cs
 ls:g.SS.length=7/\g.ST.length=7
 sl:∀(i:Nat)s A x,g.SS[i]? =some s->g.ST[i]? =some A->X.eY[i]? =some x->Os A h s x.1 x.2
 aH:uE g.VT Q h g.sv vl
 pt:Os g.PT h g.sp (g.kp.map AW) ET
 lk:g.kp.length=KM.length/\g.KT.length=KM.length
 aN:∀(j:Nat)(M:BF)A w,KM[j]? =some M->g.KT[j]? =some A->g.kp[j]? =some w->M Q A h w (kc j)
structure ob(M:BF):Prop where
 fr:∀{Q T S:aR}{h h':Hp}{p:Nat}{vs:aQ},M Q T h p vs->Tn S h h'->(∀c,T c->¬S c)->(∀c,Q c->¬S c)->M Q T h' p vs
 q:∀{Q Q' T:aR}{h:Hp}{p:Nat}{vs:aQ},M Q T h p vs->(∀c,Q c->Q' c)->(∀c,Q' c->¬T c/\c<h.size)->M Q' T h p vs
 d:∀{Q T:aR}{h:Hp}{p:Nat}{vs:aQ},M Q T h p vs->∀c,Q c->¬T c/\c<h.size
 r:∀{Q T:aR}{h:Hp}{p:Nat}{vs:aQ},M Q T h p vs->cell h ⟨p,7,none⟩=some (ah (vs.length:Int))
structure Ext(Q Q' T T':aR)(h h':Hp):Prop where
 tn:Tn T h h'
 q:∀c,Q c->Q' c
 q':∀c,Q' c->Q c\/(h.size<=c/\c<h'.size)
 t:∀c,T c->T' c
 t':∀c,T' c->Tr T h h' c
section
variable {Q Q' Q2 T T' T2 S A':aR} {h' h2:Hp} {p:Nat} {Ls:List (Nat->Prop)}
theorem Ext.refl:Ext Q Q T T h h:=⟨iW _ _,λ_ q=>q,λ_ q=>.inl q,λ_ q=>q,λ_ q=>.inl q⟩
theorem Ext.trans(x:Ext Q Q' T T' h h')(y:Ext Q' Q2 T' T2 h' h2):Ext Q Q2 T T2 h h2:=by
 have e:=x.tn.1;have d:=y.tn.1;refine⟨x.tn.trans' y.tn λc z a=>(x.t' c z).elim id λz=>ag,λc z=>y.q c (x.q c z),λc z=>?_,λc z=>y.t c (x.t c z),λc z=>?_⟩
 ·rcases y.q' c z with z|z
  ·exact(x.q' c z).imp id λz=>⟨z.1,ag⟩
  omega
 ·rcases y.t' c z with z|z
  ·exact(x.t' c z).imp id λz=>⟨z.1,ag⟩
  omega
theorem iO.put(t:iO T h b Ls){i:Nat}(s:Ls[i]? =some A)(C:h.size<=h'.size)(o:∀c,A' c->Tr A h h' c):iO (λc=>T c\/A' c) h' b (Ls.set i A'):=by
 have sub:=t.sub A (bS s);have x:=t.lt b t.tb;refine⟨.inl t.tb,λc d=>?_,λB hB c d=>?_,?_⟩
 ·rcases d with z|z
  ·have:=t.lt c z;omega
  ·rcases o c z with z|z
   ·have:=t.lt c (sub c z).1;omega
   omega
 ·obtain⟨j,q,rfl⟩:=List.getElem_of_mem hB;have a:j<Ls.length:=by simpa using q
  rw[Yy]at d;split at d
  ·exact⟨.inr d,(o c d).elim (λz=>(sub c z).2) λz=>ag⟩
  ·have:=t.sub _ (kE a) c d;simp[*]
 ·rw[ux];intro j k q w r c;have a:j<Ls.length:=by simpa using q
  have l:k<Ls.length:=by simpa using w
  have e:=ux.1 t.ap j k a l r c;have v:=λz=>t.lt c (t.sub _ (kE a) c z).1;have lk:=λz=>t.lt c (t.sub _ (kE l) c z).1;have m:∀(hl:i<Ls.length),Ls[i]=A:=by grind[List.getElem?_eq_getElem,Option.some.inj]
  rw[Yy,Yy]
  by_cases e1:i=j
  ·subst e1;rw[aI rfl,aA];intro z y;rcases o c z with z|z
   ·exact e dH y
   ·have:=lk y;omega
  ·rw[aE e1]
   by_cases u:i=k
   ·subst u;rw[aI rfl];intro z y;rcases o c y with y|y
    ·exact e z (by rw[m l];exact y)
    ·have:=v z;omega
   ·rw[aE u];exact e
theorem uE.fr(o:uE A Q h s aH)(f:Tn S h h')(B:∀c,A c->¬S c)(hQ:∀c,Q c->¬S c):uE A Q h' s aH:=by
 obtain⟨i,e,r,a,v⟩:=o;refine⟨i,e,⟨r.len,r.n,?_⟩,a,λj z u l h2=>aS.fr f (λc k _=>hQ c k) (λ_ q=>q) _ (v j z u l h2)⟩;rcases r.sh with e|⟨b,m,b2,d⟩
 ·exact .inl e
 ·exact .inr ⟨b,m,by have:=f.1;omega,d.fr f (B b (a b ⟨_,d.1,rfl⟩))⟩
theorem uE.q(o:uE A Q h s aH)(hQ:∀c,Q c->Q' c):uE A Q' h s aH:=by
 obtain⟨d,e,r,a,v⟩:=o;exact⟨d,e,r,a,λj z u i h2=>rY (v j z u i h2) hQ⟩
end
section
variable {KM:List BF} {Q Q' T S:aR} {h':Hp} {p:Nat} {g:dL} {n:Bn} {X:Bx} {vl:aQ} {kc:Nat->List aD}
theorem dL.hO(g:dL){i:Nat}{A:aR}(c:g.ST[i]? =some A):g.Ls[2+i]? =some A:=by
 grind[List.getElem?_eq_some_iff,dL.Ls]
theorem dL.fk(g:dL){j:Nat}{A:aR}(a:g.KT[j]? =some A):g.Ls[2+g.ST.length+j]? =some A:=by
 unfold dL.Ls;grind
theorem ga.fr(G:ga f KM Q T h p g n X vl kc)(KF:∀M∈KM,ob M)(t:Tn S h h')(hT:∀c,T c->¬S c)(hQ:∀c,Q c->¬S c):ga f KM Q T h' p g n X vl kc:=by
 have sub:∀{A:aR}(i:Nat),g.Ls[i]? =some A->∀c,A c->¬S c:=λi e c l=>hT c (G.t.sub _ (bS e) c l).1;exact⟨G.t.grow t.1,λc z=>⟨(G.q c z).1,by have:=(G.q c z).2;have:=t.1;omega⟩,t.bq G.k (hT p G.t.tb),ck.fr t (λc z=>hQ c z) (λ_ z=>z) _ G.fs,G.ls,λi s A x a h2 d=>(G.sl i s A x a h2 d).fr t λc z _=>sub _ (g.hO h2) c z,
  G.aH.fr t (sub 0 rfl) hQ,G.pt.fr t λc z _=>sub 1 rfl c z,G.lk,λj M A w a h2 d=>(KF M (bS a)).fr (G.aN j M A w a h2 d) t (sub _ (g.fk h2)) hQ⟩
theorem ga.alf(G:ga f KM Q T h p g n X vl kc)(KF:∀M∈KM,ob M)(a:∀c,Q c->Q' c)(h2:∀c,Q' c->¬T c/\c<h.size):ga f KM Q' T h p g n X vl kc:=
 ⟨G.t,h2,G.k,ck.fr (iW _ _) (λ_ _=>id) a _ G.fs,G.ls,G.sl,G.aH.q a,G.pt,G.lk,λj M A w e1 d e=>(KF M (bS e1)).q (G.aN j M A w e1 d e) a λc z=>⟨λy=>(h2 c z).1 (G.t.sub _ (bS (g.fk d)) c y).1,(h2 c z).2⟩⟩
end
structure gk(f:ak)(KM:List BF)(p:Nat)(Q0 T0:aR)(h0:Hp)(Q T:aR)(h:Hp)(g:dL)(n:Bn)(X:Bx)(vl:aQ)(kc:Nat->List aD)(E:aR):Prop where
 S:ga f KM Q T h p g n X vl kc
 x:Ext Q0 Q T0 T h0 h
 e:∀c,E c->c<h.size/\¬T c
section
variable {KM:List BF} {p:Nat} {Q0 T0 Q T S A':aR} {h0 h' h1:Hp} {g:dL} {n:Bn} {X X':Bx} {vl:aQ} {kc:Nat->List aD} {s':Sl}
theorem gk.of(S:ga f KM Q T h p g n X vl kc)(q:∀c,E c->c<h.size/\¬T c):gk f KM p Q T h Q T h g n X vl kc E:=⟨S,Ext.refl,q⟩
theorem gk.vm{cs:Array Value}(t:Tn (λc=>¬E c) h h')(k:aO h a cs ty)(b:E a):aO h' a cs ty:=t.bq k λq=>q b
abbrev pF:=@gk.vm
theorem gk.ai(KF:∀M∈KM,ob M)(s:gk f KM p Q0 T0 h0 Q T h g n X vl kc E)(gr:aB h h'):gk f KM p Q0 T0 h0 Q T h' g n X vl kc (λc=>E c\/(h.size<=c/\c<h'.size)):=by
 have a:=gr.1;refine⟨s.S.fr KF (bx gr) (λ_ _=>id) λ_ _=>id,s.x.trans ⟨bx gr,λ_ z=>z,λ_ z=>.inl z,λ_ z=>z,λ_ z=>.inl z⟩,λc z=>?_⟩;rcases z with z|z
 ·exact⟨by have:=(s.e c z).1;omega,(s.e c z).2⟩
 ·exact⟨z.2,λy=>by have:=s.S.t.lt c y;omega⟩
theorem ga.dI{K:Sl->Prop}(G:ga f KM Q T h p g n X vl kc)(a:g.SS[i]? =some s)(c:K s):Ld h ⟨p,10+i,none⟩ Sl.v K:=by
 have b:=(dy.1 a).1;refine aj G.k ?_ c;rw[r7];unfold dL.row;rw[gv (by show 10<=_;omega),iX (by show 10+i-10<_;simp[*]),fy]
 show Option.map Sl.v g.SS[10+i-10]? =_
 grind
theorem ga.mH{K:Sl->Prop}(G:ga f KM Q T h p g n X vl kc)(a:K g.sv):Ld h ⟨p,17,none⟩ Sl.v K:=by
 refine aj G.k ?_ a;rw[r7];unfold dL.row;rw[gv (by show 10<=17;omega),gv (by show _<=17-10;rw[cC,G.ls.1];omega),cC,G.ls.1];rfl
theorem ga.jV{K:Sl->Prop}(G:ga f KM Q T h p g n X vl kc)(a:K g.sp):Ld h ⟨p,18,none⟩ Sl.v K:=by
 refine aj G.k ?_ a;rw[r7];unfold dL.row;rw[gv (by show 10<=18;omega),gv (by show _<=18-10;rw[cC,G.ls.1];omega),cC,G.ls.1];rfl
theorem gk.own{d:Bn}(s:gk f KM p Q0 T0 h0 Q T h g n X vl kc E)(o:eJ p h h')(KF:∀M∈KM,ob M)(k:aO h' p (g.row f d).toArray ES):gk f KM p Q0 T0 h0 Q T h' g d X vl kc E/\Tn (λc=>¬E c) h h':=by
 have G:=s.S;have t:=o.fr;have sub:∀{A:aR}(i:Nat),g.Ls[i]? =some A->∀c,A c->¬c=p:=λi l c m=>(G.t.sub _ (bS l) c m).2;have hQ:∀c,Q c->¬c=p:=λc z e=>(G.q c z).1 (e▸G.t.tb);refine⟨⟨⟨G.t.grow t.1,λc z=>⟨(G.q c z).1,by have:=(G.q c z).2;have:=t.1;omega⟩,k,ck.fr t hQ (λ_ z=>z) _ G.fs,G.ls,λi s A x h1 a b=>(G.sl i s A x h1 a b).fr t λc z _=>sub _ (g.hO a) c z,
  G.aH.fr t (sub 0 rfl) hQ,G.pt.fr t λc z _=>sub 1 rfl c z,G.lk,λj M A w h1 a b=>(KF M (bS h1)).fr (G.aN j M A w h1 a b) t (sub _ (g.fk a)) hQ⟩,?_,λc z=>?_⟩,?_⟩
 ·exact s.x.trans ⟨t.mono λc e _=>e▸G.t.tb,λ_ z=>z,λ_ z=>.inl z,λ_ z=>z,λ_ z=>.inl z⟩
 ·have:=s.e c z;exact⟨by have:=t.1;omega,this.2⟩
 ·exact t.mono λc e _ z=>(s.e c z).2 (e▸G.t.tb)
theorem gk.num{K:HP}{m:Nat}{x:Int}{b:Bn}(KF:∀M∈KM,ob M)(s:gk f KM p Q0 T0 h0 Q T h g n X vl kc E)(d:x=m)(q:(i=7/\b={n with r:=m})\/(i=8/\b={n with u:=m})\/(i=9/\b={n with w:=m}))
  (y:∀h',Tn (λc=>¬E c) h h'->gk f KM p Q0 T0 h0 Q T h' g b X vl kc E->K h'):St h ⟨p,i,none⟩ (ah x) K:=by
 subst d;have a:∀n:Bn,(g.row f n).length=10+(g.SS.length+2):=λn=>by unfold dL.row;simp[HS];omega
 refine dN s.S.k bZ rfl λh' o k=>?_
 have e:(g.row f n).toArray.setIfInBounds i (ah (m:Int))=(g.row f b).toArray:=by
  rw[jr];rcases q with⟨rfl,rfl⟩|⟨rfl,rfl⟩|⟨rfl,rfl⟩ <;> rfl
 rw[e]at k;obtain⟨s',t⟩:=s.own o KF k;simp[*]
theorem gk.slot{K:HP}(KF:∀M∈KM,ob M)(C:gk f KM p Q0 T0 h0 Q T h g n X vl kc E)(Z:g.SS[i]? =some s)(O:g.ST[i]? =some A)(t:Tn A h h1)(o:Os (Tr A h h1) h1 s' x'.1 x'.2)(hX:X'.eY=X.eY.set i x')
  (hk:∀h',Tn (λc=>¬E c) h h'->gk f KM p Q0 T0 h0 Q (λc=>T c\/Tr A h h1 c) h' {g with SS:=g.SS.set i s',ST:=g.ST.set i (Tr A h h1)} n X' vl kc E->K h'):St h1 ⟨p,10+i,none⟩ (Sl.v s') K:=by
 have G:=C.S;have hi:=(dy.1 Z).1;have d:=g.hO O;have H:=t.1;have I:¬A p:=λz=>(G.t.sub _ (bS d) p z).2 rfl;have W:=t.bq G.k I;have F:∀(g:dL)n,(g.row f n).length=10+(g.SS.length+2):=λg n=>by unfold dL.row;simp[HS];omega
 refine dN W (by rw[Pf,F];omega) rfl λh' D J=>?_
 have R:=D.1;have e:(g.row f n).toArray.setIfInBounds (10+i) (Sl.v s')=(({g with SS:=g.SS.set i s',ST:=g.ST.set i (Tr A h h1)}:dL).row f n).toArray:=by
  rw[jr];unfold dL.row;rw[xY _ _ (by show 10<=_;omega),List.set_append_left _ _ (by show 10+i-10<_;rw[cC];omega),Pt]
  congr 5
  show 10+i-10=i;omega
 rw[e]at J;have u:Tn (λc=>A c\/c=p) h h':=(t.mono λc z _=>.inl z).trans (D.fr.mono λc z _=>.inr z);have r:∀c,Q c->¬(A c\/c=p):=λc z y=>by
  rcases y with y|y
  ·exact(G.q c z).1 (G.t.sub _ (bS d) c y).1
  ·exact(G.q c z).1 (y▸G.t.tb)
 have b:∀{B:aR}(j:Nat),g.Ls[j]? =some B->j≠2+i->∀c,B c->¬(A c\/c=p):=λ{B}j N ne c z y=>by
  rcases y with y|y
  ·exact G.t.ne N d ne c z y
  ·exact(G.t.sub _ (bS N) c z).2 y
 have L:=(dy.1 O).1;have tr:iO (λc=>T c\/Tr A h h1 c) h' p (({g with SS:=g.SS.set i s',ST:=g.ST.set i (Tr A h h1)}:dL).Ls):=by
  have:=(G.t.put d H λc z=>z).grow (h':=h') ag;have e2:g.Ls.set (2+i) (Tr A h h1)=({g with SS:=g.SS.set i s',ST:=g.ST.set i (Tr A h h1)}:dL).Ls:=by
   unfold dL.Ls;rw[show 2+i=i+1+1 by omega]
   simp only[jG];rw[List.set_append_left _ _ L]
  rwa [e2]at this
 have V:∀c,Q c->¬(T c\/Tr A h h1 c)/\c<h'.size:=λc z=>⟨λy=>by
  have:=G.q c z;rcases y with y|y|y
  ·exact this.1 y
  ·exact r c z (.inl y)
  ·omega,by have:=(G.q c z).2;omega⟩
 refine hk h' (u.mono λc z _ y=>?_) ⟨⟨tr,V,J,ck.fr u r (λ_ z=>z) _ G.fs,by simp[G.ls],λj U B x l a m=>?_,G.aH.fr u (b 0 rfl ag) r,G.pt.fr u λc z _=>b 1 rfl ag c z,G.lk,λj M B w l a m=>?_⟩,?_,λc z=>?_⟩
 ·rcases z with z|z
  ·exact(C.e c y).2 (G.t.sub _ (bS d) c z).1
  ·exact(C.e c y).2 (z▸G.t.tb)
 ·rw[hX]at m;simp only at l a
  by_cases P:i=j
  ·subst P;rw[EL ag]at l;rw[EL L]at a;have Y:i<X.eY.length:=by show i<7;rw[<-G.ls.1];exact hi
   rw[EL Y]at m;cases l;cases a;cases m;exact o.fr D.fr λc z a' e=>by
    subst e;rcases z with z|z
    ·exact I z
    ·have:=G.t.lt c G.t.tb;omega
  ·rw[JI P]at l a m;exact(G.sl j U B x l a m).fr u λc z _=>b _ (g.hO a) ag c z
 ·have hl:({g with SS:=g.SS.set i s',ST:=g.ST.set i (Tr A h h1)}:dL).KT=g.KT:=rfl
  exact(KF M (bS l)).fr (G.aN j M B w l a m) u (b _ (g.fk a) ag) r
 ·refine C.x.trans ⟨u.mono λc z _=>?_,λ_ z=>z,λ_ z=>.inl z,λ_ z=>.inl z,λc z=>?_⟩
  ·rcases z with z|z
   ·exact(G.t.sub _ (bS d) c z).1
   ·exact z▸G.t.tb
  ·rcases z with z|z|z
   ·exact .inl z
   ·exact .inl (G.t.sub _ (bS d) c z).1
   omega
 ·have:=C.e c z;refine⟨ag,λy=>?_⟩
  rcases y with y|y|y
  ·exact this.2 y
  ·exact this.2 (G.t.sub _ (bS d) c y).1
  ·omega
end
end
end Go.Proofs.YtmjifnioaoamfaaGreatDoor
