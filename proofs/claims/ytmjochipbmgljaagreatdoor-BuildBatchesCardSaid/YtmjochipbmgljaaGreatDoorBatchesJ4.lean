import Derived.Test.YtmjochipbmgljaaGreatDoorBatchesJ3
import Derived.Shelf.Strings.Repeat
import Derived.Test.YtmjochipbmgljaaGreatDoorBatchesShGlue
import Derived.SizedLaws
import Derived.Test.YtmjochipbmgljaaGreatDoorCards
import Derived.Test.YtmjochipbmgljaaGreatDoorTie
set_option linter.all false
set_option maxRecDepth 99999
set_option maxHeartbeats 999999
noncomputable section
namespace Go.Proofs.YtmjochipbmgljaaGreatDoor
open Go Go.Sh Go.WideShapes
section
variable {C sp':bg} {r:Raw} {Kp:PK} {v Y:aB} {i j b a:Nat} {Z:Array Value} {e el ty:TypeId} {aX:ig} {s:Sl} {D A E:aQ} {G h:Hp} {k:Int} {x':List Value×TypeId} {aF:aP} {f:aq} {W:World}
def wT(KM:List cN)(KT:List (Nat->Prop))(kv:bg)(r:Raw):lV:=λF l u h=>(one F=true/\F.cells=#[F])/\∃(qM:List Mem)(lo hi:Nat->Nat),qM.length=KM.length/\(∀j,j<KM.length->l<=lo j/\hi j<=u)/\
  (∀i j,i<KM.length->j<KM.length->i≠j->hi i<=lo j\/hi j<=lo i)/\Ct (λc=>l<=c/\c<u/\∀j,j<KM.length->¬(lo j<=c/\c<hi j)) h F (qM.map Mem.F)/\
  ∀(j:Nat)M A w,KM[j]? =some M->KT[j]? =some A->kv[j]? =some w->∃m,qM[j]? =some m/\m.r=r.aL j/\M (λc=>A c\/(lo j<=c/\c<hi j)) h w (r.aL j) (some m)
theorem wT.one{KM:List cN}{d:List (Nat->Prop)}:One (wT KM d C r):=λ_ _ _ _ q=>q.1
theorem wT.qj{KM:List cN}{n:List (Nat->Prop)}{h0:Hp}(KF:∀(j:Nat)M,KM[j]? =some M->gB M)(G:∀(j:Nat)A,n[j]? =some A->∀c,A c->c<h0.size):lW h0 (wT KM n C r):=by
 rintro S F l u h h' ⟨q,d,B,E,v,e,s,p,o⟩ hl I t i;refine⟨q,d,B,E,v,e,s,p.fr t λc a _ b=>(i c b).2 ⟨a.1,a.2.1⟩,λj M A w e1 k H=>?_⟩;obtain⟨m,z,y,x⟩:=o j M A w e1 k H;have D:=(cU.1 e1).1;refine⟨m,z,y,KF j M e1 x t λc a _ b=>?_⟩;have:=i c b;have:=e j D;rcases a with a|a
 ·have:=G j A k c a;omega
 ·omega
section
variable {c:aq} {KM:List cN} {M:cN} {T:aQ} {h0 h':Hp} {vs:aP} {g:dO} {w:Value}
theorem abq{K:de}(G:bR f KM T h0 r none g)(C:kH f.cs KM)(n':f.k=17\/f.k=18)(hn:KM.length<=4096)(hc:∀(j:Nat)c,f.cs[j]? =some c->∃us,c.can us/\r.aL j=c.st us)(gr:az h0 h)
  (hk:∀F h',az h h'->wT KM g.KT g.kv r F h.size h'.size h'->K F h'):N0 g.ks h K Kp:=by
 have o':=C.qQ;have lk:=G.lk;have kl:=G.kl n';have ns:g.ks.n=KM.length:=by rw[kl.1.1,lk.1]
 have CL:=C.1;refine aDW (aG λy h1 e3 g1 B _=>?_);have s0:=gr.1;refine azk (λx h'=>∃(i:Nat)(b:List Mem)(o u:Nat->Nat)(s:Sl),x=i/\i<=KM.length/\b.length=i/\az h h'/\aN h' y #[Sl.v s] Vj/\
   Os (λc=>h.size<=c/\c<h'.size/\c≠y/\∀j,j<i->¬(o j<=c/\c<u j)) h' s (b.map Mem.F) Y4/\(∀j,j<i->y<o j/\u j<=h'.size)/\(∀j k,j<i->k<i->j≠k->u j<=o k\/u k<=o j)/\
   ∀(j:Nat)M A w,j<i->KM[j]? =some M->g.KT[j]? =some A->g.kv[j]? =some w->∃m,b[j]? =some m/\m.r=r.aL j/\M (λc=>A c\/(o j<=c/\c<u j)) h' w (r.aL j) (some m))
  (λx _=>KM.length-x.toNat) ⟨0,[],λ_=>0,λ_=>0,Sl.nil,rfl,dN _,rfl,g1,B,Os.nil,λj d=>ag,λj k d=>ag,λj M A w d=>ag⟩ ?_
 rintro x I ⟨i,b,o,u,s,rfl,z',hm,V,B,os,H,hd,Y⟩ N hN;have f':=B.lt;refine cL (λU=>?_) λU=>?_
 ·have k':i<KM.length:=ag;have l':i<f.cs.length:=ag;have hM:=bx k';have hA:g.KT[i]? =some g.KT[i]:=bx ag;have hw:g.kv[i]? =some g.kv[i]:=bx ag;have L:=bx l';generalize KM[i]=M at hM;generalize g.KT[i]=A at hA;generalize g.kv[i]=w at hw;generalize f.cs[i]=ci at L;have Ci:=C.2 i ci M L hM;obtain⟨us,j',J⟩:=hc i ci L;have m':∀c,A c->c<h0.size:=λc q=>G.t.l (bL (g.fC hA)) q;have aL:=G.aL i M A w hM hA hw;have D:=Ci.fr aL (bh (ak gr V)) λ_ _ _=>id;rw[J]at D;have e':=kl.fr (bh (ak gr V)) (λ_ _ _=>id) λ_ z=>z;refine e'.1.ix ag (by rw[ns];omega) (by rw[fR];exact hw) λp cp=>⟨_,cp,aj B rfl (Ci.mark j' D λmm h3 Q o3 c3 er M3=>bM B Q ⟨c3,aG λVi h4 e4 P i' _=>bM (B.ai Q) P ?_⟩)⟩
  have s3:=Q.1;have v':s.n=i:=by have:=os.n;rw[cm,hm]at this;exact this
  have d':=(os.gr Q).gr P;refine d'.ap rfl o3 (iM i' rfl) ag ag λs5 h5 t5 c' _=>?_;have s':=t5.1;have g':=t5.aZ ((B.ai Q).ai P) λq=>q.2.2.1 rfl;refine dc g' aA rfl λh6 o6 k6=>?_;have s6:=o6.1;have k6:aN h6 y #[Sl.v s5] Vj:=by simpa using k6
  -- of b' q' blocks only p' of b' r',and t' cell,have a'
  have W:Tn (λc=>(h.size<=c/\c<I.size/\c≠y/\∀j,j<i->¬(o j<=c/\c<u j))\/c=y) h4 h6:=(t5.mono λc q _=>.inl q).trans (o6.fr.mono λc q _=>.inr q);have X:=((bh (ak Q P):Tn _ I h4)).trans W;refine aW ag ag (hN _ _ ⟨i+1,b++[mm],λj=>if j=i then I.size else o j,λj=>if j=i then h3.size else u j,s5,aA,ag,by simp[hm],?_,k6,?_,λj d=>?_,λj k d y' ne=>?_,λj M' A' w' d E O R=>?_⟩ ag)
  ·exact((bh V:Tn No h I).trans' X λc q x'=>by rcases q with q|q <;> omega).ai
  ·rw[kR];refine(c'.tr.fr o6.fr λc q _ e=>?_).mono λc q=>?_
   ·rcases q with q|q
    ·exact q.2.2.1 e
    ·omega
   ·rcases q with q|q
    ·refine⟨q.1,ag,q.2.2.1,λj d z=>?_⟩
     by_cases e:j=i
     ·simp only[e,gu]at z;omega
     ·simp only[aC e]at z;exact q.2.2.2 j ag z
    ·refine⟨ag,ag,ag,λj d z=>?_⟩
     by_cases e:j=i
     ·simp only[e,gu]at z;omega
     ·simp only[aC e]at z;have:=H j ag;omega
  ·by_cases e:j=i
   ·simp only[e,gu];exact⟨ag,ag⟩
   ·simp only[aC e];have:=H j ag;exact⟨this.1,ag⟩
  ·by_cases e1:j=i
   ·have e2:k≠i:=λe=>ne (e1.trans e.symm);have:=H k ag;simp only[e1,gu,aC e2];omega
   ·by_cases e2:k=i
    ·have:=H j ag;simp only[e2,gu,aC e1];omega
    ·simp only[aC e1,aC e2];exact hd j k ag ag ne
  ·by_cases e:j=i
   ·subst e;rw[hM]at E;cases E;rw[hA]at O;cases O;rw[hw]at R;cases R;simp only[gu];refine⟨mm,by rw[gm ag,hm];simp,by rw[er,J],?_⟩
    rw[J];refine Ci.fr M3 ((bh P:Tn _ h3 h4).trans W) λc q _ z=>?_;rcases q with q|q
    ·have:=m' c q;rcases z with z|z <;> omega
    ·rcases z with z|z <;> omega
   ·simp only[aC e];obtain⟨m,m1,m2,m3⟩:=Y j M' A' w' ag E O R;refine⟨m,by rw[iQ ag];exact m1,m2,o' j M' E m3 X λc q _ z=>?_⟩
    have Z:=G.t.l (bL (g.fC O)) (c:=c);rcases q with q|q
    ·have:=Z q;rcases z with z|z <;> omega
    ·rcases z with z|z
     ·exact z.2.2.2 j ag q
     ·have:=H j ag;omega
 ·have:i=KM.length:=ag;subst this;refine hk _ I V ⟨⟨rfl,rfl⟩,b,o,u,hm,λj d=>by have:=H j d;exact⟨ag,this.2⟩,hd,⟨y,_,s,rfl,⟨ag,f',λj d z=>by have:=H j d;omega⟩,B,os.sv,λu' a ha=>?_⟩,λj M A w E O R=>Y j M A w (cU.1 E).1 E O R⟩
  have:=os.at ⟨a,ha,rfl⟩;exact⟨this.1.1,this.1.2.1,this.1.2.2.2⟩
theorem adU(d:f.can vs):∀(j:Nat)c,f.cs[j]? =some c->∃a,c.can a/\(f.st vs).aL j=c.st a:=λj c b=>⟨_,fy b d,mW b vs⟩
theorem bR.abr{N:cG}{cs:List (Array Value)}{v KF:Value}{n u2:Nat}{K:de}(G:bR f KM T h r none g)(C:kH f.cs KM)(Q:ua h h' N cs (sG f g.b g.sf g.sn g.sb r.b) (wT KM g.KT g.kv r) v KF n i j u2)(x:f.k=17\/f.k=18)(d:eM f.k r.b r.b)
  (e:∀F m,jr f.k g.b v KF (.mk F r g.sb m [])=cs) (u:∀a h',az h h'->one a.F=true->a.F.cells=#[a.F]->a.r=r->cQ f KM (Tr T h h') h' (.iface (bG f.k) (bI g.b)) r (some a)->K a.F h'):K (.func (.func (gJ f.k)) #[] (N.map pA).toArray) h':=by
 obtain⟨⟨_,qM,lo,hi,t,s,p,o,l⟩,z,y⟩:=Q.k;exact u _ h' Q.g rfl rfl rfl (G.RR C.qQ Q s p l t C.1 ag (λq=>ag) (λ_=>o) d (λq=>ag) (e _ qM))
theorem aqW(n:bC f)(a:f.k=17)(C:kH f.cs KM):wZ f (cQ f KM):=by
 intro T h v vs K J y H x;obtain⟨g,rfl,G⟩:=H;have p:=C.qQ;have L:=n.right.1.2.2.2.2.2.2.2.2.1 a;have U:=C.1;have E:bG f.k=oJ:=by unfold bG;simp_all
 have I:gJ f.k=213:=by unfold gJ;simp_all
 have D:∀o:Rb,cy f.k o=[]:=λo=>by simp_all[cy,aC]
 have e:=Ph G.ls (D _);have q:kV (.iface oJ (bI g.b)) h K J:=by
  refine avN (N6.mk (λgr u=>(G.fr p (bh gr) λ_ _ _=>id).uE (i:=0) rfl (.inl a) (by simp[e]) u) zY zZ (λgr d=>yz G.B gr d) (wT.qj p λj A z c q=>G.t.l (bL (g.fC z)) q) wT.one (λgr d=>abq G C (.inl a) ag (adU y) gr d) λs R KF P N O u2 h' Q=>?_)
  have:=G.abr C Q (.inl a) (by simp_all[eM,aC]) (λF m=>?_) x
  ·rw[I]at this;exact this
  ·simp_all[jr,aC]
 rw[<-E]at q;exact q
theorem aq3(y:bC f)(a:f.k=18)(C:kH f.cs KM):wZ f (cQ f KM):=by
 intro T h v vs K P J H I;obtain⟨g,rfl,G⟩:=H;have x:=C.qQ;have R:=(y.right.1.2.2.2.2.2.2.2.2.2.1 a).2;have Z:=C.1;have N:bG f.k=qw:=by unfold bG;simp_all
 have O:gJ f.k=220:=by unfold gJ;simp_all
 have z:∀e:Rb,cy f.k e=[(bv e.all,Y8),(ints e.ends,Y6)]:=λe=>by simp_all[cy,aC]
 obtain⟨o,V,d⟩:=C0 G.ls (z _);have E:o.n=(f.st vs).b.all.length:=by have:=G.oy (i:=0) (s:=o) (by simp[d]) (by rw[z];rfl);rw[this,fM]
 have q:kV (.iface qw (bI g.b)) h K P:=by
  refine avU (NZ.mk (eN:=o) (λgr p=>G.Bj (i:=0) x gr rfl (by simp[d]) p) (λgr p=>(G.fr x (bh gr) λ_ _ _=>id).uE (i:=2) rfl (.inr a) (by simp[d]) p) zY zZ (λgr u=>yz G.B gr u) (wT.qj x λj A L c q=>G.t.l (bL (g.fC L)) q) wT.one (λgr u=>abq G C (.inr a) ag (adU J) gr u) λD Y KF X U W u2 h' Q=>?_)
  have:=G.abr C Q (.inr a) (by unfold eM;rw[ay,ay,ay,aI a];exact⟨jJ _,jJ _,by rw[fF];simp only[aK];simp_all⟩) (λF m=>?_) I
  ·rw[O]at this;exact this
  ·unfold jr;simp only;rw[ay,ay,ay,aI a,E];rfl
 rw[<-N]at q;exact q
end
section
variable {c:aq} {KM:List cN} {M:cN} {T:aQ} {h0 h':Hp} {vs:aP} {m:fQ} {g:dO} {w:Value}
theorem ae7{K:Sl->HP}(G:bR f KM T h0 (f.st vs) m g)(C:kH f.cs KM)(e':f.k=17\/f.k=18)(hn:KM.length<=4096)(hc:f.can vs)(gr:az h0 h)
  (hk:∀t h',az h h'->dz (Nw h) (Nw h) h' t (ie f vs)->K t h'):N4 g.ks h K Kp:=by
 have lk:=G.lk;have kl:=G.kl e';have ns:g.ks.n=KM.length:=by rw[kl.1.1,lk.1]
 have CL:=C.1;have dl:(ie f vs).length=KM.length:=by rw[Ds,CL]
 have Z:=λ(j:Nat)c(D:f.cs[j]? =some c)=>uG (vs:=vs) D;generalize i':ie f vs=ds at hk dl Z;refine aDX (azl (λy x o=>∃(i:Nat)(E:List (Sl×Sl×Sl)),x=i/\i<=ds.length/\E.length=i/\az h o/\eT h.size 6 o y (List.zipWith bD.row (ds.take i) E) bX/\
   ∀(j:Nat)(d:bD)(p:Sl×Sl×Sl),ds[j]? =some d->E[j]? =some p->eU (λb=>h.size<=b/\¬y.at b) (λb=>h.size<=b/\¬y.at b) o p d)
  (λy x _=>ds.length-x.toNat) ⟨0,[],rfl,ag,rfl,cK _,qY _ _ _ _,aA⟩ ?_)
 rintro y x o ⟨i,E,rfl,hi,u,I,B,hu⟩ N1 hN;have a':=B.n;rw[oG,kP]at a';have s1:=I.1;refine cL (λL=>?_) λL=>?_
 ·have X:KM[i]? =some KM[i]:=aA;have hA:g.KT[i]? =some g.KT[i]:=aA;have U:g.kv[i]? =some g.kv[i]:=aA;have l:f.cs[i]? =some f.cs[i]:=aA;generalize KM[i]=M at X;generalize g.KT[i]=A at hA;generalize g.kv[i]=w at U;generalize f.cs[i]=J at l;have Ci:=C.2 i J M l X;have D:=Z i J l;have aL:=Ci.fr (G.aL i M A w X hA U) (bh (ak gr I)) λ_ _ _=>id;rw[mW l vs]at aL;have b':=kl.fr (bh (ak gr I)) (λ_ _ _=>id) λ_ z=>z;generalize J.dn _=d at D;refine b'.1.ix ag ag (by rw[fR];exact U) λp cp=>⟨_,cp,?_⟩
  have P:=Z i J l;rw[D]at P;refine Ci.done (fy l hc) aL λR h3 g3 v3=>aG λj' H e4 g4 O _=>?_;rw[<-uW P]at v3 O;have N:=ak g3 g4;have s4:=N.1;have v4:=(v3.gr g4).lt;refine(B.ai N).ap ag rfl (new:=[d.row R]) rfl (λr F=>by simp at F;subst F;rfl) (λr F=>by simp at F;subst F;exact Tz d R) (by simpa[bD.row,xk]using iM O rfl) ag ag λs' h5 Y f' o5=>aW ag ag (hN _ _ _ ⟨i+1,E++[R],aA,ag,by simp[u],?_,?_,?_⟩ ag)
  ·exact(((bh (ak I N):Tn No h H)).trans' Y λb hd c'=>by have:=((B.ai N).at hd).1;omega).ai
  ·rw[Jj D u];exact o5
  ·intro j e v W V;have s:∀b,s'.at b->b<H.size->y.at b:=λb q a=>(f' b q).resolve_right ag;rcases xu u V with⟨c',V⟩|⟨rfl,rfl⟩
   ·refine((hu j e v W V).lt.gr N).fr Y (λb a _=>a.1.2) (λb a _=>a.1.2) (λb a=>⟨a.1.1,λq=>a.1.2 (s b q ag)⟩) (λb a=>⟨a.1.1,λq=>a.1.2 (s b q ag)⟩)
   ·rw[D]at W;cases W;have Q:∀b,y.at b->h.size<=b/\b<o.size:=λb a=>B.at a;refine v4.fr Y (λb(a:o.size<=b/\_)_ q=>by have:=Q b q;omega) (λb(a:o.size<=b/\_)_ q=>by have:=Q b q;omega) (λb(a:o.size<=b/\b<H.size)=>⟨ag,λq=>?_⟩) (λb(a:o.size<=b/\b<H.size)=>⟨ag,λq=>?_⟩)
    ·have:=Q b (s b q a.2);omega
    ·have:=Q b (s b q a.2);omega
 ·have:i=ds.length:=ag;subst this;rw[mz]at B;exact hk _ _ I (dz.snoc B u (λb a=>a) λj d p o h2=>(hu j d p o h2).mo (λb a=>a.1) λb a=>a.1)
theorem PW{K:Int->Int->Int->Sl->Sl->Sl->HP}{n x u:Int}{b t:Sl}(O:aN h i Z e)(Q:Z.size=6)(N:aN h j #[ah n,ah x,ah u,Sl.v b,Sl.v Sl.nil,Sl.v Sl.nil] bX)(ne:i≠j)
  (P:∀h',Tn (λc=>c=j\/c=i) h h'->K n x u b t Sl.nil h'):St h ⟨j,4,none⟩ (Sl.v t) λk=>cr k (aJ j) λD C B z y s=>cV k (aJ i) D C B z y s λd=>cr d (aJ i) λr0 I H G F E=>K r0 I H G F E d:=by
 refine dc N aA rfl λk p l=>?_;have a:aN k j #[ah n,ah x,ah u,Sl.v b,Sl.v t,Sl.v Sl.nil] bX:=by simpa[Sl.v]using l
 exact gl a (jI (p.aZ O ne) Q λd J L=>gl L (P d ((p.fr.mono λc q _=>.inl q).trans (J.fr.mono λc q _=>.inr q))))
theorem apc{K:Int->Int->Int->Sl->Sl->Sl->HP}{n x u:Int}{b t:Sl}(O:aN h i Z e)(Q:Z.size=6)(N:aN h j #[ah n,ah x,ah u,Sl.v b,Sl.v Sl.nil,Sl.v Sl.nil] bX)(ne:i≠j)
  (P:∀h',Tn (λc=>c=j\/c=i) h h'->K n x u b Sl.nil t h'):St h ⟨j,5,none⟩ (Sl.v t) λk=>cr k (aJ j) λD C B z y s=>cV k (aJ i) D C B z y s λd=>cr d (aJ i) λr0 I H G F E=>K r0 I H G F E d:=by
 refine dc N aA rfl λk p l=>?_;have a:aN k j #[ah n,ah x,ah u,Sl.v b,Sl.v Sl.nil,Sl.v t] bX:=by simpa[Sl.v]using l
 exact gl a (jI (p.aZ O ne) Q λd J L=>gl L (P d ((p.fr.mono λc q _=>.inl q).trans (J.fr.mono λc q _=>.inr q))))
structure AK(h0 h:Hp)(a2 a3:Nat)(n u:Nat)(b:Sl)(aX:ig):Prop where
 g:az h0 h
 k2:∃c2 t2,aN h a2 c2 t2/\c2.size=6
 k3:aN h a3 #[ah (n:Int),ah 0,ah (u:Int),Sl.v b,Sl.v Sl.nil,Sl.v Sl.nil] bX
 bf:fc (λc=>h0.size<=c/\c≠a2/\c≠a3) (λc=>h0.size<=c/\c≠a2/\c≠a3) h b aX
 l:h0.size<=a2/\h0.size<=a3/\a2≠a3
theorem AK.end{n u:Nat}{b:Sl}(B:AK h0 h i j n u b aX)(gr:az h h'){a:Hp}(t:Tn (λc=>c=j\/c=i) h' a):az h0 a/\fc (Nw h0) (Nw h0) a b aX:=by
 have l:=B.l;refine⟨((bh (ak B.g gr):Tn No h0 h').trans' t λc q d=>ag).ai,(B.bf.gr gr).fr t (λc q _ z=>?_) (λc q _ z=>?_) (λc q=>q.1) λc q=>q.1⟩
 all_goals omega
theorem abU{K:Addr->HP}(x:f.k=15\/f.k=16\/f.k=19\/f.k=20)(j:f.cs=[c])(C:MC c M)(L:f.can vs)(G:bR f [M] T h (f.st vs) m g)(hl:g.SS.length=i)(P:g.b=b)
  (z:∀a h',az h h'->h.size<=a->dz (Nw h) (Nw h) h' ⟨some (aJ a),1,1⟩ (ie f vs)->K (aJ a) h'):Ld h ⟨b,16+i,none⟩ id λq=>mH q h (λI H F E D B e=>aH e #[ah I,ah H,ah F,Sl.v E,Sl.v D,Sl.v B] bX K) Kp:=by
 obtain⟨A,w,N,t,R⟩:=th G rfl;have aL:=G.aL 0 M A w rfl N t;have d:f.cs[0]? =some c:=by rw[j];rfl
 rw[mW d vs]at aL;have O:ie f vs=[c.dn (c.st (dJ f.k f.w (dI f.cs) 0 vs))]:=by
  have e:=uG (vs:=vs) d;have n:=Ds f vs;rw[j]at n
  match J:ie f vs,n with
  |[y],_=>rw[J]at e;simp at e;rw[e]
 rw[O]at z;refine G.lP P x hl t (C.done (fy d L) aL λp e o Q=>aG λl n S u s _=>z l n (ak o u) ?_ ?_)
 ·have:=o.1;omega
 ·exact dz.one s (by have:=o.1;omega) (Q.gr u)
end
section
variable {c:aq} {KM:List cN} {M:cN} {T:aQ} {h0 h':Hp} {vs:aP} {m:fQ} {g:dO} {w:Value}
abbrev Ex(h1:Hp)(a:Nat):Nat->Prop:=λc=>h1.size<=c/\c≠a
theorem dX.kN{l:bg}{H:Hp}(v:dX D H s l)(gr:az H G)(e:H.size<=a){b:Hp}(d:∀c,D c->b.size<=c):dX (Ex b a) G s l:=
 (v.lt.gr gr).mo λc q=>⟨d c q.1,ag⟩
theorem fc.kN{l:ig}{H:Hp}(v:fc D D H s l)(gr:az H G)(e:H.size<=a){b:Hp}(d:∀c,D c->b.size<=c):fc (Ex b a) (Ex b a) G s l:=
 (v.lt.gr gr).mo (λc q=>⟨d c q.1,ag⟩) λc q=>⟨d c q.1,ag⟩
theorem Hu{J:HP}{H:Hp}{k:TypeId}{b:Sl}{n u:Nat}(p:az h H)(l:aN H i Z k)(z:Z.size=6)(v:h.size<=i)(o:az H G)(x:aN G j cY bX)(t:H.size<=j)(B:fc (Ex H j) (Ex H j) G b aX)
  (y:∀h',AK h h' i j n u b aX->J h'):cV G (aJ j) (n:Int) 0 (u:Int) b Sl.nil Sl.nil J:=by
 have C:=l.lt;refine jI x rfl λs a d=>y s ⟨ak p (bE o a t),⟨Z,k,a.aZ (l.ai o) ag,z⟩,d,B.fr a.fr (λc q _ e=>q.2 e) (λc q _ e=>q.2 e) (λc q=>⟨ag,ag,q.2⟩) λc q=>⟨ag,ag,q.2⟩,⟨v,ag,ag⟩⟩
theorem avd(J:f.k=15)(b':f.cs=[c])(C:MC c M):xg f (cQ f [M]):=by
 intro T h v vs m K Kp hc H hk;obtain⟨g,rfl,G⟩:=H;have KF:=ni C;have ed:bG f.k=pM:=by unfold bG;rw[ay,ay,aI J]
 have es:∀rb:Rb,cy f.k rb=[(ints rb.ends,Y6)]:=λrb=>by simp_all[cy,aC]
 obtain⟨s0,V⟩:=rN G.ls (es _);obtain⟨A0,d'⟩:∃A,g.ST[0]? =some A:=⟨_,bx (by rw[G.ls.2,es];exact Nat.one_pos)⟩
 have ef:f.dn (f.st vs)=.mk (f.st vs).b.rows 0 (f.st vs).b.ck [dF (f.st vs).b,laidB (f.st vs).b.ends 4] (ie f vs) []:=by rw[GS J,fF];rfl
 rw[ef]at hk;have el:(f.st vs).b.ends.length<=70000:=by have:=((gk f vs).1 hc).n4;rw[fF];simp only[aK];rw[ay,aI J,CW];omega
 have eb:∀x∈(f.st vs).b.ends,x<2^63:=by
  rw[fF];simp only[aK];rw[ay,aI J];intro x d;unfold kj at d;simp only[lU,wO]at d;obtain⟨i,_,rfl⟩:=d;have q1:=Jk (λv:aB=>v.items.length) vs i;have q2:(vs.map λv:aB=>v.items.length).sum=(vs.flatMap aB.items).length:=by rw[B2]
  have c':=fy (j:=0) (by rw[b'];rfl) hc
  have Z:=((gk c _).1 c').n4;unfold dJ at Z;rw[aI J]at Z;omega
 have q:mH (.iface pM (bI g.b)) h K Kp:=by
  refine av1 (aD8 (aG λa2 o e1 g1 k2 _=>?_));refine bK ?_;have P:∀{d:Hp},az o d->bR f [M] T d _ m g:=λy=>G.fr KF (bh (ak g1 y)) λ_ _ _=>id;have kb:=(P (cK _)).B.k;have o0:∀{d:Hp},az o d->Os A0 d s0 _ Y6:=λy=>(P y).sl 0 s0 A0 _ (by simp[V]) d' (by rw[es];rfl)
  have fin:∀{d:Hp}{e:Nat}{b:Sl},AK h d a2 e (f.st vs).b.rows (f.st vs).b.ck b [dF (f.st vs).b,laidB (f.st vs).b.ends 4]->Ay K Kp (bz g.b) (aJ a2) (aJ e) d:=by
   intro d e b B;apply aA1;refine bK ?_;obtain⟨c2,Y,a',e2⟩:=B.k2;have f':=a'.lt;have e':=B.k3.lt;have Gh:=G.fr KF (bh B.g) λ_ _ _=>id;refine abU (i:=1) (.inl J) b' C hc Gh (by simp[V]) rfl λa h' gr la ds=>PW (t:=⟨some (aJ a),1,1⟩) (a'.ai gr) e2 (B.k3.ai gr) B.l.2.2 λX Y=>?_
   obtain⟨ge,be⟩:=B.end gr Y;have:=B.g.1;exact hk (b,_,Sl.nil) X ge ⟨be,dz.fr Y (λc(q:d.size<=c)_ z=>ag) (λc(q:d.size<=c)_ z=>ag) (λc(q:d.size<=c)=>ag) (λc(q:d.size<=c)=>ag) _ ds,jH _⟩
  have q5:=λ{d:Hp}{e:Nat}{b:Sl}(y:az o d)(p:aN d e cY bX)(R:o.size<=e)(O:fc (Ex o e) (Ex o e) d b [dF (f.st vs).b,laidB (f.st vs).b.ends 4])=>Hu g1 k2 rfl ag y p R O λh'=>fin;have q4:∀{d:Hp}{e:Nat}{b:Sl},az o d->aN d e cY bX->o.size<=e->fc (Ex o e) (Ex o e) d b [dF (f.st vs).b,laidB (f.st vs).b.ends 4]->
    iB (bz g.b) b d (λt0 t1 Y t3 t4 t5 W=>cV W (aJ e) t0 t1 Y t3 t4 t5 (Ay K Kp (bz g.b) (aJ a2) (aJ e))) Kp:=λy p R O=>qo (P y).B λW E=>q5 (ak y E) (p.ai E) R (O.gr E)
  have Z:=λ{d:Hp}{e:Nat}{u t:Sl}(y:az o d)(p:aN d e cY bX)(R:o.size<=e)(N:dX (Ex o e) d u (bv (dF (f.st vs).b)))(vt:dX (Ex o e) d t (bv (laidB (f.st vs).b.ends 4)))=>
   oC N vt ⟨y.1,by have:=p.lt;omega⟩ λa W E O=>q4 (ak y E) (p.ai E) R O
  have q2:=λ{d:Hp}{e:Nat}{u:Sl}(y:az o d)(p:aN d e cY bX)(R:o.size<=e)(N:dX (Ex o e) d u (bv (dF (f.st vs).b)))=>
   xJ (Kp:=Kp) (o0 y) el aY eb λt W I=>Z (ak y I.g) (p.ai I.g) R (N.gr I.g) (I.lp.mo λc(q:d.size<=c)=>⟨by have:=y.1;omega,by have:=p.lt;omega⟩)
  have kx:=λ{d:Hp}(y:az o d)=>(P y).B.k;refine(P (cK _)).dG (i:=0) rfl (by simp[V]) ⟨wD (P (cK _)).B λu X F N=>bM kb F ⟨xJ (o0 F) el aY eb λt h3 I=>⟨?_,?_⟩,aG λe h3 e3 U p _=>bM (kx F) U ?_⟩,aG λe X e2 F p _=>bM kb F (wD (P F).B λu h3 U N=>bM (kx F) U ?_)⟩
  ·have z2:=F.1;have Q:=ak F I.g;have z3:=I.g.1;refine oC ((N.gr I.g).mo λc q=>q) (I.lp.mo λc(q:X.size<=c)=>ag) ag λa h4 L O=>⟨qo (P (ak Q L)).B λW E=>aG λe h6 e6 g6 p _=>bM (kx (ak (ak Q L) E)) g6 ?_,aG λe W e5 E p _=>bM (kx (ak Q L)) E ?_⟩
   ·have z4:=L.1;have z5:=E.1;exact q5 (ak (ak (ak Q L) E) g6) p ag (O.kN (ak E g6) ag λc q=>q)
   ·have z4:=L.1;exact q4 (ak (ak Q L) E) p ag (O.kN E ag λc q=>q)
  ·have z2:=F.1;have z3:=I.g.1;have Q:=ak F I.g;refine aG λe h4 e4 L p _=>bM (kx Q) L (Z (ak Q L) p ag (N.kN (ak I.g L) ag λc q=>q) (I.lp.kN L ag λc(q:X.size<=c)=>ag))
  ·have z2:=F.1;exact q2 (ak F U) p ag (N.kN U ag λc q=>q)
  ·have z2:=F.1;exact q2 (ak F U) (p.ai U) ag (N.mo λc(q:X.size<=c)=>⟨ag,ag⟩)
 rw[<-ed]at q;exact q
end
section
variable {c:aq} {KM:List cN} {M:cN} {T:aQ} {h0 h':Hp} {vs:aP} {m:fQ} {g:dO} {w:Value}
theorem au8(b':bC f)(x:f.k=17)(C:kH f.cs KM):xg f (cQ f KM):=by
 intro T h v vs m K Kp hc H hk;obtain⟨g,rfl,G⟩:=H;have KF:=C.qQ;have e':=b'.right.1.2.2.2.2.2.2.2.2.1 x;have CL:=C.1;have ed:bG f.k=oJ:=by unfold bG;simp[*]
 have es:∀rb:Rb,cy f.k rb=[]:=λrb=>by unfold cy;simp[*]
 have a':=Ph G.ls (es _);have ef:f.dn (f.st vs)=.mk (f.st vs).b.rows 0 (f.st vs).b.ck [dF (f.st vs).b] (ie f vs) []:=by rw[BG (.inr x),fF];rfl
 rw[ef]at hk;have q:mH (.iface oJ (bI g.b)) h K Kp:=by
  refine avW (aD0 (aG λQ o e1 g1 k2 _=>?_));simp only[ob];have R:∀{e:Hp},az o e->bR f KM T e _ m g:=λE=>G.fr KF (bh (ak g1 E)) λ_ _ _=>id;have fin:∀{e:Hp}{d:Nat}{b:Sl},AK h e Q d (f.st vs).b.rows (f.st vs).b.ck b [dF (f.st vs).b]->Ax K Kp (bz g.b) (aJ Q) (aJ d) e:=by
   intro e d b B;apply aAV;refine bK ?_;obtain⟨c2,J,O,e2⟩:=B.k2;have d':=O.lt;have c':=B.k3.lt;have Gh:=G.fr KF (bh B.g) λ_ _ _=>id;refine Gh.uE (i:=0) rfl (.inl x) (by simp[a']) (ae7 G C (.inl x) ag hc B.g λt h' gr ds=>PW (O.ai gr) e2 (B.k3.ai gr) B.l.2.2 λP J=>?_)
   obtain⟨ge,be⟩:=B.end gr J;have:=B.g.1;exact hk (b,t,Sl.nil) P ge ⟨be,dz.fr J (λc(q:e.size<=c)_ z=>ag) (λc(q:e.size<=c)_ z=>ag) (λc(q:e.size<=c)=>ag) (λc(q:e.size<=c)=>ag) _ ds,jH _⟩
  have q5:=λ{e:Hp}{d:Nat}{b:Sl}(E:az o e)(j:aN e d cY bX)(N:o.size<=d)(I:fc (Ex o d) (Ex o d) e b [dF (f.st vs).b])=>Hu g1 k2 rfl ag E j N I λh'=>fin;have q4:∀{e:Hp}{d:Nat}{b:Sl},az o e->aN e d cY bX->o.size<=d->fc (Ex o d) (Ex o d) e b [dF (f.st vs).b]->
    iB (bz g.b) b e (λZ Y J X W V y=>cV y (aJ d) Z Y J X W V (Ax K Kp (bz g.b) (aJ Q) (aJ d))) Kp:=λE j N I=>qo (R E).B λy p=>q5 (ak E p) (j.ai p) N (I.gr p)
  have q3:∀{e:Hp}{d:Nat}{u:Sl},az o e->aN e d cY bX->o.size<=d->dX (Ex o d) e u (bv (dF (f.st vs).b))->aH e #[Sl.v u] fN λa y=>
    iB (bz g.b) ⟨some a,1,1⟩ y (λZ Y J X W V y=>cV y (aJ d) Z Y J X W V (Ax K Kp (bz g.b) (aJ Q) (aJ d))) Kp:=
   λ{e d u}E j N L=>D2 L ⟨E.1,by have:=j.lt;omega⟩ λa y p _ I=>q4 (ak E p) (j.ai p) N I
  refine⟨wD (R (cK _)).B λu P s L=>⟨D2 (L.mo λc q=>q) s.1 λa h4 F e4 I=>⟨qo (R (ak s F)).B λy p=>aG λd h6 e6 g6 j _=>?_,aG λd y e5 p j _=>?_⟩,aG λd h4 e4 F j _=>?_⟩,aG λd P e2 s j _=>wD (R s).B λu h3 g3 L=>?_⟩
  ·have U:=s.1;have z4:=F.1;have z5:=p.1;exact q5 (ak (ak (ak s F) p) g6) j ag (I.kN (ak p g6) ag λc q=>q)
  ·have U:=s.1;have z4:=F.1;exact q4 (ak (ak s F) p) j ag (I.kN p ag λc q=>q)
  ·have U:=s.1;exact q3 (ak s F) j ag (L.kN F ag λc q=>q)
  ·exact q3 (ak s g3) (j.ai g3) ag (L.mo λc(q:P.size<=c)=>⟨ag,ag⟩)
 grind
theorem avf(b':bC f)(y:f.k=18)(C:kH f.cs KM):xg f (cQ f KM):=by
 intro T h v vs m K Kp hc H hk;obtain⟨g,rfl,G⟩:=H;have KF:=C.qQ;have g':=(b'.right.1.2.2.2.2.2.2.2.2.2.1 y).2;have CL:=C.1;have ed:bG f.k=qw:=by unfold bG;simp[*]
 have es:∀rb:Rb,cy f.k rb=[(bv rb.all,Y8),(ints rb.ends,Y6)]:=λrb=>by unfold cy;simp[*]
 obtain⟨s1,s0,N⟩:=C0 G.ls (es _);obtain⟨A1,c'⟩:∃A,g.ST[0]? =some A:=⟨_,bx (by rw[G.ls.2,es];simp)⟩
 obtain⟨A0,d'⟩:∃A,g.ST[1]? =some A:=⟨_,bx (by rw[G.ls.2,es];simp)⟩
 have ef:f.dn (f.st vs)=.mk (f.st vs).b.rows 0 (f.st vs).b.ck [(f.st vs).b.all,laidB (f.st vs).b.ends 4] (ie f vs) []:=by rw[K0 y,fF];rfl
 rw[ef]at hk;have W:=(gk f vs).1 hc;have al:(f.st vs).b.all.length<=70000:=by have:=W.n4;rw[fF];simp only[aK];rw[ay,aI y,cm];omega
 have el:(f.st vs).b.ends.length<=70000:=by have:=W.n4;rw[fF];simp only[aK];rw[ay,ay,aI y,cm,Hy];omega
 have eb:∀x∈(f.st vs).b.ends,x<2^63:=by
  rw[fF];simp only[aK];rw[ay,ay,aI y];intro x d;simp only[lU,wO]at d;obtain⟨i,hi,rfl⟩:=d;have:=UL (λv=>decide (fL v=fL (vs.getD i v0))) (vs.take i);have:=W.n4;rw[kP]at *;omega
 have q:mH (.iface qw (bI g.b)) h K Kp:=by
  refine av3 (aDS (aG λa2 j e1 g1 k2 _=>?_));refine bK ?_;have U:∀{d:Hp},az j d->bR f KM T d _ m g:=λp=>G.fr KF (bh (ak g1 p)) λ_ _ _=>id;have kb:=(U (cK _)).B.k;have o0:∀{d:Hp},az j d->Os A0 d s0 _ Y6:=λp=>(U p).sl 1 s0 A0 _ (by simp[N]) d' (by rw[es];rfl)
  have o1:∀{d:Hp},az j d->Os A1 d s1 _ Y8:=λp=>(U p).sl 0 s1 A1 _ (by simp[N]) c' (by rw[es];rfl)
  have fin:∀{d:Hp}{e:Nat}{b:Sl},AK h d a2 e (f.st vs).b.rows (f.st vs).b.ck b [(f.st vs).b.all,laidB (f.st vs).b.ends 4]->Aw K Kp (bz g.b) (aJ a2) (aJ e) d:=by
   intro d e b B;apply aAS;refine bK ?_;obtain⟨c2,Z,a',e2⟩:=B.k2;have f':=a'.lt;have e':=B.k3.lt;have Gh:=G.fr KF (bh B.g) λ_ _ _=>id;refine Gh.uE (i:=2) rfl (.inr y) (by simp[N]) (ae7 G C (.inr y) ag hc B.g λt h' gr ds=>PW (a'.ai gr) e2 (B.k3.ai gr) B.l.2.2 λY Z=>?_)
   obtain⟨ge,be⟩:=B.end gr Z;have:=B.g.1;exact hk (b,t,Sl.nil) Y ge ⟨be,dz.fr Z (λc(q:d.size<=c)_ z=>ag) (λc(q:d.size<=c)_ z=>ag) (λc(q:d.size<=c)=>ag) (λc(q:d.size<=c)=>ag) _ ds,jH _⟩
  have q5:=λ{d:Hp}{e:Nat}{b:Sl}(p:az j d)(o:aN d e cY bX)(V:j.size<=e)(R:fc (Ex j e) (Ex j e) d b [(f.st vs).b.all,laidB (f.st vs).b.ends 4])=>Hu g1 k2 rfl ag p o V R λh'=>fin;have q4:∀{d:Hp}{e:Nat}{b:Sl},az j d->aN d e cY bX->j.size<=e->fc (Ex j e) (Ex j e) d b [(f.st vs).b.all,laidB (f.st vs).b.ends 4]->
    iB (bz g.b) b d (λt0 t1 Z t3 t4 t5 X=>cV X (aJ e) t0 t1 Z t3 t4 t5 (Aw K Kp (bz g.b) (aJ a2) (aJ e))) Kp:=λp o V R=>qo (U p).B λX E=>q5 (ak p E) (o.ai E) V (R.gr E)
  have q3:=λ{d:Hp}{e:Nat}{u t:Sl}(p:az j d)(o:aN d e cY bX)(V:j.size<=e)(O:dX (Ex j e) d u (bv ((f.st vs).b.all)))(vt:dX (Ex j e) d t (bv (laidB (f.st vs).b.ends 4)))=>
   oC O vt ⟨p.1,by have:=o.lt;omega⟩ λa X E R=>q4 (ak p E) (o.ai E) V R
  have q2:=λ{d:Hp}{e:Nat}{u:Sl}(p:az j d)(o:aN d e cY bX)(V:j.size<=e)(O:dX (Ex j e) d u (bv ((f.st vs).b.all)))=>
   xJ (Kp:=Kp) (o0 p) el aY eb λt X J=>q3 (ak p J.g) (o.ai J.g) V (O.gr J.g) (J.lp.mo λc(q:d.size<=c)=>⟨by have:=p.1;omega,by have:=o.lt;omega⟩)
  have P:=λ{d:Hp}(p:az j d)=>(U p).B.k;refine(U (cK _)).dG (i:=0) rfl (by simp[N]) ((U (cK _)).dG (i:=1) rfl (by simp[N]) ⟨LL (o1 (cK _)) al λu Y F O=>bM kb F ⟨xJ (o0 F) el aY eb λt h3 J=>⟨?_,?_⟩,aG λe h3 e3 Q o _=>bM (P F) Q (bM (P F) Q ?_)⟩,aG λe Y e2 F o _=>bM kb F (bM kb F (LL (o1 F) al λu h3 Q O=>bM (P F) Q ?_))⟩)
  ·have z2:=F.1;have L:=ak F J.g;have z3:=J.g.1;refine oC ((O.gr J.g).mo λc q=>q) (J.lp.mo λc(q:Y.size<=c)=>ag) ag λa h4 I R=>⟨qo (U (ak L I)).B λX E=>aG λe h6 e6 g6 o _=>bM (P (ak (ak L I) E)) g6 (bM (P (ak (ak L I) E)) g6 ?_),aG λe X e5 E o _=>bM (P (ak L I)) E (bM (P (ak L I)) E ?_)⟩
   ·have z4:=I.1;have z5:=E.1;exact q5 (ak (ak (ak L I) E) g6) o ag (R.kN (ak E g6) ag λc q=>q)
   ·have z4:=I.1;exact q4 (ak (ak L I) E) o ag (R.kN E ag λc q=>q)
  ·have z2:=F.1;have z3:=J.g.1;have L:=ak F J.g;refine aG λe h4 e4 I o _=>bM (P L) I (bM (P L) I<|q3 (ak L I) o ag (O.kN (ak J.g I) ag λc q=>q) (J.lp.kN I ag λc(q:Y.size<=c)=>ag))
  ·have z2:=F.1;exact q2 (ak F Q) o ag (O.kN Q ag λc q=>q)
  ·have z2:=F.1;exact q2 (ak F Q) (o.ai Q) ag (O.mo λc(q:Y.size<=c)=>⟨ag,ag⟩)
 rw[<-ed]at q;exact q
end
def mu(l:cG)(i:Nat):List UInt8:=(l.take i).zipIdx.foldl (λb x=>if x.1%2=1 then oW b x.2 else b) (List.replicate ((l.length+7)/8) 0)
theorem LG{l:cG}{n:Nat}(a:l[i]? =some n):mu l (i+1)=if n%2=1 then oW (mu l i) i else mu l i:=by
 grind[List.getElem?_eq_some_iff,List.take_succ_eq_append_getElem,List.getElem?_eq_getElem,mu]
theorem aeR(l:cG):mu l l.length=qU l:=by unfold mu qU;simp
theorem LH(l:cG):∀i,i<=l.length->(mu l i).length=(l.length+7)/8
  |0,_=>by simp[mu]
  | i+1,h=>by
    rw[LG (bx ag)];split
    ·rw[C2];exact LH l i ag
    ·exact LH l i ag
theorem aeL{l:dB}(h:i<l.length):(bv l)[i]? =some (.int .u8 ((l.getD i 0).toNat:Int)):=by
 unfold bv;simp[*]
theorem Uk{l:dB}{y:UInt8}:(bv l).set i (.int .u8 (y.toNat:Int))=bv (l.set i y):=by simp only[bv,List.map_set]
section
variable {c:aq} {T:aQ} {h0 h':Hp} {vs:aP} {m:fQ} {g:dO}
theorem axx{a2:Nat}{t:Sl}{bb:Nat}{l:cG}{K:Int->Int->Int->Sl->Sl->Sl->HP}(os:Os A h0 s (l9 l) pP)(hb:∀x∈l,x<=1)(hl:l.length<=70000)(gr:az h0 h)(o:gU h t bb (bv (mu l 0)) Y8)(lb:h0.size<=bb)
  (hk:∀h',az h0 h'->gU h' t bb (bv (qU l)) Y8->Cy K Kp (bz b) (aJ a2) t h'):V4 K Kp (bz b) (aJ a2) t s (s.n:Int) 0 h:=by
 have hn:=os.n;rw[l9,cm]at hn;apply aza (λx h'=>∃i:Nat,x=i/\i<=l.length/\az h0 h'/\gU h' t bb (bv (mu l i)) Y8) (λx _=>l.length-x.toNat) ⟨0,rfl,dN _,gr,o⟩;rintro x h1 ⟨i,rfl,hi,g1,o1⟩ N hN;refine aE (λcc=>?_) λcc=>?_
 ·have cc:=aM cc;have kK:i<l.length:=ag;have hx:=bx kK;generalize l[i]=y at hx;have hy:=hb y (bL hx);have bl:=LH l i hi;have tn:t.n=(l.length+7)/8:=by rw[o1.2.1,fM,bl]
  have hd:i/8<(mu l i).length:=ag;have sv:=(os.gr g1).sv;refine sv.ix ag ag (by rw[fR,l9,fh,hx];rfl) λa ca=>⟨_,ca,oP aY ?_⟩
  have e1:Int.tdiv (i:Int) 8=((i/8:Nat):Int):=rfl;have e2:Int.tmod (i:Int) 8=((i%8:Nat):Int):=rfl;rw[e1];refine aW ag ag (o1.vY ag ag ?_);have ei:(((i/8:Nat):Int)).toNat=i/8:=ag;refine o1.ld ag (by rw[ei];exact aeL hd) (pQ rfl (by omega:y<2^8) (oP aY ?_))
  rw[e2];refine yS (js ag ?_);have em:min (Int.toNat ((i%8:Nat):Int)) (IntKind.bits .u8)=i%8:=by
   rw[fR];have:=yM i (show 8>0 by decide);show min _ 8=_;omega
  rw[em];have hp:2^(i%8)<2^8:=LZ aY (yM _ aY);have GB:=((mu l i).getD (i/8) 0).toNat_lt;have hle:y*2^(i%8)<2^8:=by
   have:y=0\/y=1:=ag;rcases this with rfl|rfl
   ·simp
   ·omega
  have es:(y:Int)*2^(i%8)=((y*2^(i%8):Nat):Int):=by push_cast;rfl
  rw[es];refine pQ rfl hle (yS ?_);rw[Un _ _ GB hle];refine o1.vY ag ag (o1.st ag rfl λh2 w2 o2=>aW ag ag (hN _ _ ⟨i+1,aA,ag,bE g1 w2 lb,?_⟩ ag))
  rw[LG hx];rw[ei]at o2;have:y=0\/y=1:=ag;rcases this with rfl|rfl
  ·rw[aC aY];simp_all[Nat.or_zero,Uk]
  ·rw[aI aY];rw[Nat.one_mul]at o2;have e:(((mu l i).getD (i/8) 0).toNat|||2^(i%8))=(UInt8.ofNat (((mu l i).getD (i/8) 0).toNat|||2^(i%8))).toNat:=by
    rw[tM,uY (HJ GB hp)]
   rw[e,Uk]at o2;exact o2
 ·have cc:=aM cc;have:i=l.length:=ag;grind[aeR]
theorem aui(w:Nat)(l:ig)(t:dB):mh w (l++[t])=mh w l++(if t=[]then List.replicate w 0 else t):=by simp[mh]
theorem aug{a2 a4 w:Nat}{t:Sl}{bb:Nat}{l:ig}{K:Int->Int->Int->Sl->Sl->Sl->HP}{c4:Array Value}{t4:TypeId}(os:Os A h0 s (strs l) rz)(hb:∀x∈l,x=[]\/x.length=w)(hl:l.length<=70000)(hw:1<=w/\w<=16)(gr:az h0 h)
  (o:gU h t bb (bv (List.replicate (l.length*w) 0)) Y8) (lb:h0.size<=bb) (k4:aN h a4 c4 t4) (e4:c4[1]? =some (ah (w:Int))) (ne:a4≠bb) (hk:∀h',az h0 h'->gU h' t bb (bv (mh w l)) Y8->Cy K Kp (bz b) (aJ a2) t h'):V3 K Kp (bz b) (aJ a2) t (aJ a4) s (s.n:Int) 0 h:=by
 have hn:=os.n;rw[strs,cm]at hn;apply ay9 (λx h'=>∃i:Nat,x=i/\i<=l.length/\az h0 h'/\aN h' a4 c4 t4/\gU h' t bb (bv (mh w (l.take i)++List.replicate ((l.length-i)*w) 0)) Y8) (λx _=>l.length-x.toNat) ⟨0,rfl,dN _,gr,k4,by simpa[mh]using o⟩
 rintro x h1 ⟨i,rfl,hi,g1,k4,o1⟩ N hN;have fl:(mh w (l.take i)).length=i*w:=by rw[Kz λx hx=>hb x (List.mem_of_mem_take hx),kP,Ad hi]
 refine cL (λcc=>?_) λcc=>?_
 ·have kK:i<l.length:=ag;have hx:=bx kK;have lE:=kg kK;generalize l[i]=y at hx lE;have hy:=hb y (bL hx);have hyl:y.length<=w:=by rcases hy with rfl|e;simp;omega
  have sv:=(os.gr g1).sv;have tn:t.n=l.length*w:=by
   have:=o1.2.1;rw[fM,ij,fl,HC,<-HR]at this;rw[this];congr 1;omega
  obtain⟨q1,q2,cs,q3,q4,q5,q6⟩:=o1;have hm1:i*w+w<=l.length*w:=by rw[<-rf];exact pG _ kK
  have Gt:l.length*w<=70000*16:=tN hl hw.2;have em:(i:Int)*(w:Int)=((i*w:Nat):Int):=by push_cast;rfl
  refine sv.ix ag ag (by rw[fR,strs,fh,hx];rfl) λa ca=>⟨_,ca,?_⟩
  simp only[cz];apply aj k4 e4;rw[em];refine aW ag ag ⟨by simp only[oI];omega,by simp only[oI,tT];omega,by simp only[tT];omega,Ej _,?_⟩
  simp only[oI,tT,fR];have ea:me t.a (i*w) t.c 1=some ⟨bb,i*w,none⟩:=by
   unfold me;rw[ay,q1,pH,bw];simp
  rw[ea];have ex:((bs y).extract 0 (Nat.min (bs y).size (t.n-i*w))).data.toList.map (λb=>Value.int .u8 b.toNat)=bv y:=by
   have:Nat.min (bs y).size (t.n-i*w)=y.length:=by rw[iV,tn];show min _ _=_;omega
   rw[this];have e2:(bs y).extract 0 y.length=bs y:=by
    have:y.length=(bs y).size:=by rw[iV]
    rw[this,ByteArray.extract_zero_size]
   rw[e2];rfl
  refine⟨bv y,ex.symm,wW _ q3 (by rw[fM];omega) (λv hv=>by simp only[bv,lU]at hv;obtain⟨z,_,rfl⟩:=hv;rfl) λh2 K5 w2 k2 s2 c2=>aW ag ag (hN _ _ ⟨i+1,aA,ag,bE g1 w2 lb,w2.aZ k4 ne,q1,?_,K5,k2,q4,by rw[s2,q5],λj hj=>?_⟩ ag)⟩
  ·have:(mh w (l.take (i+1))).length=(i+1)*w:=by rw[Kz λx hx=>hb x (List.mem_of_mem_take hx),kP,Ad ag]
   rw[fM,ij,this,HC,<-HR,tn];congr 1;omega
  ·rw[c2 j,q6 j hj,lE,aui,fM];have er:(List.replicate ((l.length-i)*w) (0:UInt8))=List.replicate w 0++List.replicate ((l.length-(i+1))*w) 0:=by
    rw[List.replicate_append_replicate];congr 1;rw[show l.length-i=(l.length-(i+1))+1 by omega,rf,LY]
   by_cases ey:y=[]
   ·subst ey;rw[aC (by simp_all),aI rfl,er,q9]
   ·have hyw:=hy.resolve_left ey;rw[aC ey,er];simp only[Eo,hyw];unfold bv
    by_cases hj1:j<i*w
    ·rw[ay,fh,fh,q9,iQ ag,iQ ag]
    ·by_cases SN:j<i*w+w
     ·rw[dR,fh,fh,q9,gm ag,iQ ag,fl]
     ·rw[ay,fh,fh,q9,gm ag,gm (by rw[HC];omega),gm ag,gm ag,HC,hyw]
 ·have:i=l.length:=ag;simp_all
end
section
variable {c:aq} {T:aQ} {h0 h' hx:Hp} {vs:aP} {m:fQ} {mm:Mem} {g:dO}
theorem P3{K:Int->Int->Int->Sl->Sl->Sl->HP}{n:Nat}{y:TypeId}{t:Sl}{out:dB}(G:bR f [] T h r m g)(gr:az h hx)(l:aN hx n Z y)(I:Z.size=6)(z:h.size<=n)(x:dX (λc=>h.size<=c/\c≠n) hx t (bv out))
  (E:∀p h',az h h'->eU (Nw h) (Nw h) h' p (.mk r.b.rows 0 r.b.ck [dF r.b,out] [] [])->K r.b.rows 0 r.b.ck p.1 p.2.1 p.2.2 h'):Cy K Kp (bz g.b) (aJ n) t hx:=by
 have Bx:∀{o:Hp},az h o->mJ g.T0 o g.b _ f g.sf g.sn g.sb r.b _:=λH=>G.B.fr (bh H) id λ_ _ _=>id;have L:=l.lt;apply aAE;simp only[ob];refine wD (Bx gr) λu Q d w=>?_;have M:=d.1;refine oC (w.mo λc(q:hx.size<=c)=>⟨ag,ag⟩) (x.gr d) ⟨ag,ag⟩ λa P s J=>?_
 have v:=ak gr (ak d s);refine qo (Bx v) λO i=>jI (((l.ai d).ai s).ai i) I λF j C=>gl C (E (_,Sl.nil,Sl.nil) F (bE (ak v i) j z) ⟨(J.gr i).fr j.fr (λc q _ e=>q.2 e) (λc q _ e=>q.2 e) (λc q=>q.1) λc q=>q.1,jH _,jH _⟩)
theorem avb(f':bC f)(hp:fH f.k=true):xg f (cQ f []):=by
 intro T h v vs m K Kp hc H M;obtain⟨g,rfl,G⟩:=H;obtain⟨k1,n',m',e',d',c',X,b',a'⟩:=zw hp;have ed:bG f.k=pK:=by unfold bG;simp[*]
 have V:∀Y:Rb,cy f.k Y=[(l9 Y.dV,pP),(strs Y.texts,rz)]:=λY=>by unfold cy;simp[*]
 obtain⟨J,O,j⟩:=C0 G.ls (V _);obtain⟨A0,j'⟩:∃A,g.ST[0]? =some A:=⟨_,bx (by rw[G.ls.2,V];simp)⟩
 obtain⟨A1,i'⟩:∃A,g.ST[1]? =some A:=⟨_,bx (by rw[G.ls.2,V];simp)⟩
 have F:=(gk f vs).1 hc;have n4:=F.n4;have nh:=f'.right.1;have N:(f.st vs).b.dV=vs.map λv=>(v.num%2^64).toNat:=by rw[fF];simp only[aK,hp,gu]
 have et:(f.st vs).b.texts=vs.map aB.text:=by rw[fF];simp only[aK,hp,gu]
 have q:mH (.iface pK (bI g.b)) h K Kp:=by
  refine avZ (aDw (aG λa2 h1 e1 g1 L _=>?_));refine bK ?_;have u:∀{hx:Hp},az h hx->bR f [] T hx _ m g:=λU=>G.fr qB (bh U) λ_ _ _=>id;have o0:∀{hx:Hp},az h hx->Os A0 hx J _ pP:=λU=>(u U).sl 0 J A0 _ (by simp[j]) j' (by rw[V];rfl)
  have o1:∀{hx:Hp},az h hx->Os A1 hx O _ rz:=λU=>(u U).sl 1 O A1 _ (by simp[j]) i' (by rw[V];rfl)
  refine nk (BV.K5 (u g1).B.k) (aG λa4 h2 e2 g2 C _=>pE C rfl λy w3 C=>aj C rfl ?_);have k':=C.lt;have I:=bE g2 w3 ag;have l:=ak g1 I;have L:=L.ai I;refine aE (λE=>?_) λE=>?_
  ·have E:=aM E;have W:f.dn (f.st vs)=.mk (f.st vs).b.rows 0 (f.st vs).b.ck [dF (f.st vs).b,qU (f.st vs).b.dV] [] []:=by rw[BE E,fF];rfl
   rw[W]at M;have n0:=(o0 l).n;rw[l9,cm,N,cm]at n0;refine(u l).dG (i:=0) (s:=J) rfl (by simp[j]) (aW ag ag (oP aY ?_))
   have e1:Int.tdiv ((J.n:Int)+7) 8=(((vs.length+7)/8:Nat):Int):=by rw[n0];rfl
   rw[e1];refine aW ag ag (EB ag ag ag λt h4 z P _=>?_);have z4:=z.1;have G4:=ak l z;refine(u G4).dG (i:=0) rfl (by simp[j]) (axx (o0 l) (λx hx=>?_) (by rw[N,cm];omega) z ?_ (bP _) λh' D Q=>?_)
   ·rw[N,lU]at hx;obtain⟨v,Z,rfl⟩:=hx;have d:=F.fit v Z;rw[eL]at d;unfold fD at d;simp only[dm]at d;have q:=d.2
    by_cases o:v.au=true
    ·rw[aI o]at q;simp only[dm,dQ]at q;have:=q.1.1.1;omega
    ·rw[aC o,ay,ay,ay,ay,ay,ay,aI E]at q;simp only[dm,dQ]at q;have:=q.2.2;omega
   ·rw[fR]at P;unfold mu;rw[HQ];simp only[List.zipIdx_nil,List.foldl_nil,N,cm,bv,UJ];exact P
   ·have z5:=D.1;exact P3 G (ak l D) (L.ai D) rfl ag ⟨Q.sv,λ_ a R=>by rw[Q.1]at R;cases R;exact⟨by show h.size<=y.size;omega,by show y.size≠a2;omega⟩⟩ M
  ·have E:=aM E;refine cL (λp=>?_) λp=>?_
   ·have hw:=nh.2.2.1 p;have W:f.dn (f.st vs)=.mk (f.st vs).b.rows 0 (f.st vs).b.ck [dF (f.st vs).b,mh f.w.toNat (f.st vs).b.texts] [] []:=by rw[BH p,fF];rfl
    rw[W]at M;have n1:=(o1 l).n;rw[strs,cm,et,cm]at n1;refine(u l).dG (i:=1) (s:=O) rfl (by simp[j]) (aj C rfl ?_)
    have hm:vs.length*f.w.toNat<=4096*16:=tN n4 ag;have em:(O.n:Int)*f.w=((vs.length*f.w.toNat:Nat):Int):=by rw[n1];push_cast;rw[yH ag]
    rw[em];refine aW ag ag (EB ag ag ag λt h4 z P _=>?_);have z4:=z.1;have G4:=ak l z;refine(u G4).dG (i:=1) rfl (by simp[j]) (aug (w:=f.w.toNat) (o1 l) (λx hx=>?_) (by rw[et,cm];omega) ⟨ag,ag⟩ z ?_ (bP _) (C.ai z) ?_ ag λh' D Q=>?_)
    ·rw[et,lU]at hx;obtain⟨v,Z,rfl⟩:=hx;have d:=F.fit v Z;rw[eL]at d;unfold fD at d;simp only[dm]at d;have q:=d.2
     by_cases o:v.au=true
     ·rw[aI o]at q;simp only[dm,dQ]at q;exact .inl (jv.1 q.1.1.2)
     ·rw[aC o,ay,ay,ay,ay,ay,aI (.inr (.inr p))]at q;simp only[dm,HS,dQ]at q;exact .inr (q.2.2.2.resolve_left λe=>e p)
    ·rw[fR]at P;simp only[et,cm,bv,UJ];exact P
    ·rw[yH ag];rfl
    ·have z5:=D.1;exact P3 G (ak l D) (L.ai D) rfl ag ⟨Q.sv,λ_ a R=>by rw[Q.1]at R;cases R;exact⟨by show h.size<=y.size;omega,by show y.size≠a2;omega⟩⟩ M
   ·have hf:3<=f.k/\f.k<=11:=by have:=nh.1;have:=nh.2.1;omega
    have W:f.dn (f.st vs)=.mk (f.st vs).b.rows 0 (f.st vs).b.ck [dF (f.st vs).b,laidB (f.st vs).b.dV (wB f.k)] [] []:=by rw[zP hf,fF];rfl
    rw[W]at M;refine(u l).dG (i:=0) (s:=J) rfl (by simp[j]) (aj C rfl (axp (bM (u l).B.k (cK _) (arN (w:=wB f.k) (o0 l) (by rw[N,cm];omega) (by grind[wB]) (λx hx=>?_) λt h4 gb=>?_))))
    ·rw[N,lU]at hx;obtain⟨v,Z,rfl⟩:=hx;omega
    ·have z4:=gb.g.1;exact P3 G (ak l gb.g) (L.ai gb.g) rfl ag (gb.lp.mo λc(q:y.size<=c)=>⟨ag,ag⟩) M
 simp[*]
theorem adH{α:Type}{a b:List α}(p:a <+: b):b.take a.length=a:=(UI.1 p).symm
theorem axO{K:HP}(hp:fH f.k=true)(e':f.cs=[])(G:bR f [] T h r (some mm) g)(hk:∀h',Tn T h h'->cQ f [] T h' (.iface (bG f.k) (bI g.b)) mm.r (some mm)->K h'):cX aD mm.F [] h (λr h1=>r=.tuple #[]/\K h1) Kp:=by
 obtain⟨p,k',j',H,d',c',o,E,D⟩:=zw hp;have KF:=qB;obtain⟨⟨F0,i',bm,c1,c2,c3,c4⟩,y,ks⟩:=G.mm mm rfl;obtain⟨x,eF,mc⟩:=c4 p;have f':jr f.k g.b F0 i' mm=[#[F0],#[bI g.b],pI mm.r.b.dV.length]:=by unfold jr;simp only;simp[*]
 rw[f']at mc;obtain⟨a0,t0,e0,r0,k0⟩:=mc.2 0 _ rfl;obtain⟨a1,t1,e1,r1,Q⟩:=mc.2 1 _ rfl;obtain⟨a2,t2,I,r2,z⟩:=mc.2 2 _ rfl;have ec:x=[bI a0,bI a1,bI a2]:=by
  match x,mc.1,e0,e1,I with
  |[u,v,w],_,e0,e1,I=>simp at e0 e1 I;subst e0 e1 I;rfl
 have g':gJ f.k=248:=by unfold gJ;simp[*]
 have l:∀U:Rb,cy f.k U=[(l9 U.dV,pP),(strs U.texts,rz)]:=λU=>by unfold cy;simp[*]
 have V:∀a b:Rb,eM f.k a b↔b.dV <+: a.dV/\b.texts <+: a.texts/\b.dV.length=b.texts.length:=λa b=>by unfold eM;simp[*]
 rw[V]at y;obtain⟨s0,Z,d⟩:=C0 G.ls (l _);obtain⟨X,W,j⟩:∃X W,g.ST=[X,W]:=by
  have:=G.ls.2;rw[l]at this
  match hg:g.ST,this with
  |[a,b],_=>simp
 rw[eF,ec,g'];have hS:∀c,(c=g.b\/g.T0 c)->c<h.size->c=g.b\/g.T0 c:=λc q _=>q;have S:=G.av g.gw hS g.fI ag;have nR:∀{c:Nat},g.R c->c≠g.b:=λq e=>G.t.kX g.fI (e▸q);refine aw2 (aDs (aj k0 rfl ?_))
 show cX aD F0 [] h _ _
 refine yx G KF bm λh1 Y C=>?_;have p:=Y.aZ Q (S _ r1 Q.lt);have z:=Y.aZ z (S _ r2 z.lt);have o0:=C.sl 0 s0 X (l9 r.b.dV,pP) (by simp[d]) (by simp[j]) (by rw[l];rfl)
 have o1:=C.sl 1 Z W (strs r.b.texts,rz) (by simp[d]) (by simp[j]) (by rw[l];rfl)
 have n0:=o0.n;have n1:=o1.n;have p0:=y.1.length_le;have p1:=y.2.1.length_le;simp only[l9,cm]at n0;simp only[strs,cm]at n1;refine aj p rfl (aj p rfl (aj p rfl ?_));refine bK ?_;refine C.dG (i:=0) rfl (by simp[d]) (aj z rfl (o0.cut ag rfl λM e0 O=>aj p rfl ?_))
 refine bK ?_;refine C.dG (i:=1) rfl (by simp[d]) (aj z rfl (o1.cut ag rfl λL e1 N=>?_))
 have q0:(l9 r.b.dV).take mm.r.b.dV.length=l9 mm.r.b.dV:=by unfold l9;rw[<-HG,adH y.1]
 have q1:(strs r.b.texts).take mm.r.b.dV.length=strs mm.r.b.texts:=by unfold strs;rw[<-HG,y.2.2,adH y.2.1]
 rw[q0]at O;rw[q1]at N;refine C.vH (i:=0) (s:=s0) (by simp[d]) C.B.k λh2 J b'=>?_
 have G2:=C.xw (x':=(l9 mm.r.b.dV,pP)) (r':=(r.qF mm.r).up λb=>{b with dV:=mm.r.b.dV}) KF (by simp[j]) O J b' ⟨rfl,rfl,rfl,rfl⟩ (by rw[l,l];rfl) rfl rfl λP e q=>by rw[V]at q ⊢;cases e;exact⟨jJ _,q.2⟩
 refine mF z (J.aZ z (nR r2)) (mF p (J.aZ p (nR r1)) (G2.vH (i:=1) (s:=Z) (by simp[d]) G2.B.k λh3 w3 a'=>?_))
 have G3:=G2.xw (i:=1) (s':=L) (A:=W) (x':=(strs mm.r.b.texts,rz)) (r':=(r.qF mm.r).up λb=>{b with dV:=mm.r.b.dV,texts:=mm.r.b.texts}) KF (by simp[j]) (N.fr J.fr λc q _ e=>G.t.kX (g.ic (i:=1) (by simp[j])) (e▸q)) w3 a' ⟨rfl,rfl,rfl,rfl⟩ (by rw[l,l];rfl) rfl rfl λP e q=>by rw[V]at q ⊢;cases e;exact⟨q.1,jJ _,q.2.2⟩
 refine hk h3 ?_ ⟨_,by rfl,G3.conv (r':=mm.r) ⟨rfl,rfl,rfl,rfl⟩ (by rw[l,l];rfl) ?_ (λq=>ag) λP e q=>?_⟩
 ·exact((Y.mono λc q _=>q.elim (λe=>e▸G.t.tb) λq=>G.ku g.gw q).trans (J.fr.mono λc q _=>q▸G.t.tb)).trans (w3.fr.mono λc q _=>q▸G.t.tb)
 ·have e1:mm.r.kids=[]:=by
   rw[ks.1];have:=ks.2;rw[e']at this;rw[jv.1 this];rfl
  have I:r.kids=[]:=jv.1 G.lk.2.2;rw[e1];exact I.symm
 ·cases e;rw[V];exact⟨jJ _,jJ _,y.2.2⟩
end
theorem Gg(v:aB):v.items.length*16<=bH v.items:=by
 have:∀l:List aB,l.length*16<=bH l:=by
  intro l
  induction l with
  |nil=>simp
  |cons z l a=>have:=gV z;simp only[bH,iq];omega
 simp[*]
def Vx(v:aB):Prop:=∀{D:aQ}{h:Hp}{s:Sl}{K:cJ}{Kp:PK},aR D h s v.items->v.bq<=2^50->(∀h',az h h'->K (v.bq:Int) h')->EO v.au v.num (bs v.text) s h K Kp
theorem akU(J:∀x∈v.items,Vx x):Vx v:=by
 intro D h s K Z p Q A;have m:=gV v;have O:=Gg v;have R:=p.n;refine aEV (aG λY V e1 G o _=>?_);simp only[bw,cz];refine aj o rfl (aW (by rw[iV];omega) (by rw[iV];omega) (aj o rfl ?_))
 rw[iV];apply azQ (λy x C=>∃i:Nat,x=i/\i<=v.items.length/\y=((16+v.text.length+bH (v.items.take i):Nat):Int)/\az h C) (λ_ x _=>v.items.length-x.toNat) ⟨0,rfl,dN _,by simp[bH],G⟩
 rintro y x q ⟨i,rfl,S,rfl,j⟩ N hN;refine cL (λe=>?_) λe=>?_
 ·have g:i<v.items.length:=ag;have l:=bx g;have f:=kg g;generalize v.items[i]=z at l f;have d:=bL l;have M:bH (v.items.take (i+1))<=bH v.items:=by
   have:=oT (v.items.take (i+1)) (v.items.drop (i+1));rw[Eg]at this;omega
  have H:bH (v.items.take (i+1))=bH (v.items.take i)+z.bq:=by rw[f,oT];simp[bH]
  refine(eR p j).ix rfl l λa u I w=>gZ I (aG λX U W F k _=>lT k rfl λB t k=>eY k ?_);have r:=bE F t ag;refine J z d (eR w r) ag λT E=>aW ag ag (aW ag ag (hN _ _ _ ⟨i+1,aA,ag,?_,ak j (ak r E)⟩ ag))
  rw[H];push_cast;omega
 ·have:i=v.items.length:=ag;simp_all
theorem I9:∀v:aB,Vx v
 |.mk a b c items=>akU (v:=.mk a b c items) λx(_:x∈items)=>I9 x
def VL(x:aB):Prop:=∀{y:aB}{D E:aQ}{h:Hp}{s t:Sl}{K:fJ}{Kp:PK},aR D h s x.items->aR E h t y.items->x.bq<=2^50->(∀b h',az h h'->(b=true↔x=y)->K b h')->
 IF x.au x.num (bs x.text) s y.au y.num (bs y.text) t h K Kp
theorem YZ{x:aB}:x=Y↔x.au=Y.au/\x.num=Y.num/\x.text=Y.text/\x.items=Y.items:=by
 cases x;cases Y;simp[aB.au,aB.num,aB.text,aB.items]
theorem an4{x:aB}(IH:∀z∈x.items,VL z):VL x:=by
 intro y D E h s t K V O M hw P;have b':=gV x;have c':=Gg x;have Z:=O.n;have hm:=M.n;refine aDD (aG λU h1 e1 g1 d _=>aG λT I e2 S k _=>?_);have d:=d.ai S;have G:=ak g1 S;have A:∀{B:Hp},az h B->x≠y->K false B:=λg ne=>P false _ g ⟨λe=>(by cases e),λe=>absurd e ne⟩
 have L:x≠y->Mr K V (aJ U) (aJ T) true I:=λne=>ahy (bO rfl (A G ne));have W:x≠y->Ms K V _ _ true I:=λne=>ahz (bO rfl (L ne));refine aj d rfl (aj k rfl (aE (λc=>?_) λc=>?_))
 ·exact W λe=>by subst e;simp at c
 have c1:x.au=y.au:=by simpa using c
 simp only[bw,cz];refine aj d rfl (aj k rfl (ahz (aE (λc=>?_) λc=>?_)))
 ·exact L λe=>by subst e;simp at c
 have c2:x.num=y.num:=by simpa using c
 simp only[bw,cz];refine aj d rfl (aj k rfl ?_);rw[BU];refine ahy (aE (λc=>A G λe=>by subst e;simp at c) λc=>?_)
 have c3:x.text=y.text:=by simpa using c
 simp only[bw,cz];refine aj d rfl (aj k rfl (aE (λJ=>A G λe=>?_) λc=>?_))
 ·simp_all
 have c:=aM c;apply aAJ;simp only[bw,cz];refine aj d rfl (azc (λz B=>∃i:Nat,z=i/\i<=x.items.length/\az I B/\x.items.take i=y.items.take i) (λz _=>x.items.length-z.toNat) ⟨0,rfl,dN _,cK _,rfl⟩ ?_);rintro z h3 ⟨i,rfl,hi,C,v⟩ N hN;have H:=ak G C;refine aE (λl=>?_) λl=>?_
 ·have l:=aM l;have r:i<x.items.length:=ag;have a:=bx r;have j:y.items[i]? =some y.items[i]:=bx ag;have o:=kg r;have m:y.items.take _=y.items.take i++[y.items[i]]:=kg ag;generalize x.items[i]=u at a o;generalize y.items[i]=w at j m;have f:=bL a;have a':=oh f;simp only[bw,cz];refine aj (d.ai C) rfl ((eR O H).ix rfl a λp p' cp Y=>gZ cp (aj (k.ai C) rfl ((eR M H).ix rfl j λq q' cq X=>gZ cq (IH u f Y X ag λb h4 R Q=>aE (λF=>?_) λF=>?_))))
  ·refine A (ak H R) λe=>?_;have:u=w:=by rw[e,j]at a;cases a;rfl
   rw[Q.2 this]at F;cases F
  ·have:u=w:=Q.1 (by simpa using F)
   exact aW ag ag (hN _ _ ⟨i+1,aA,ag,ak C R,by rw[o,m,v,this]⟩ ag)
 ·have l:=aM l;have:i=x.items.length:=ag;grind[YZ,List.take_length]
theorem Pq:∀x:aB,VL x
 |.mk a b c items=>an4 (x:=.mk a b c items) λx(_:x∈items)=>Pq x
def Vy(v:aB):Prop:=∀{D:aQ}{h:Hp}{s:Sl}{K:Bool->Int->ByteArray->Sl->HP}{Kp:PK},aR D h s v.items->v.bq<=2^40->(∀t h',az h h'->aR (Nw h) h' t v.items->K v.au v.num (bs v.text) t h')->AB v.au v.num (bs v.text) s h K Kp
theorem apJ(IH:∀x∈v.items,Vy x):Vy v:=by
 intro D h s K Kp hv hw hk;have i':=gV v;have j':=Gg v;have hn:=hv.n;refine aDF (aG λa1 h1 e1 g1 F _=>aG λa2 g e2 X k2 _=>?_);have F:=F.ai X;have G:=ak g1 X;simp only[bw,cz];refine aj F rfl (azf (λl x V=>∃(i:Nat)(E:List Sl),x=i/\i<=v.items.length/\E.length=i/\az g V/\eT g.size 4 V l (List.zipWith aB.row (v.items.take i) E) dh/\
   ∀(j:Nat)(z:aB)(t:Sl),v.items[j]? =some z->E[j]? =some t->aR (λb=>g.size<=b/\¬l.at b) V t z.items)
  (λ_ x _=>v.items.length-x.toNat) ⟨0,[],rfl,dN _,rfl,cK _,qY _ _ _ _,aA⟩ ?_)
 rintro l x J ⟨i,E,rfl,hi,k,C,A,hu⟩ N hN;have on:=A.n;rw[oG,kP]at on;have s3:=C.1;refine cL (λL=>?_) λL=>?_
 ·have c':i<v.items.length:=ag;have I:=bx c';generalize v.items[i]=z at I;have m:=bL I;have g':=oh m;refine(eR hv (ak G C)).ix rfl I λa u cx hz=>gZ cx (aG λa5 h4 e4 g4 T _=>lT T rfl λB P T=>eY T ?_);have W:=bE g4 P ag;have s5:=W.1;refine IH z m (eR hz W) ag λt h6 g6 R=>aG λk' Q e7 g7 a' _=>?_;have M:=ak W (ak g6 g7);have s7:=M.1;refine(A.ai M).ap ag rfl (new:=[z.row t]) rfl (λr H=>by simp at H;subst H;rfl) (λr H=>by simp at H;subst H;exact AO z t) (by simpa[aB.row,xo]using iM a' rfl) ag ag λs' h8 Y d' o8=>aW ag ag (hN _ _ _ ⟨i+1,E++[t],aA,ag,by simp[k],?_,?_,?_⟩ ag)
  ·exact(((bh (ak C M):Tn No g Q)).trans' Y λb hd b'=>by have:=((A.ai M).at hd).1;omega).ai
  ·rw[Jj I k];exact o8
  ·intro j e w U y;have O:∀b,s'.at b->b<Q.size->l.at b:=λb q f=>(d' b q).resolve_right ag;rcases xu k y with⟨b',y⟩|⟨rfl,rfl⟩
   ·exact aR.fr Y (λb f _=>f.1.2) (λb f=>⟨f.1.1,λq=>f.1.2 (O b q ag)⟩) _ (eR (aR.lt _ (hu j e w U y)) M)
   ·rw[I]at U;cases U;have ax:∀b,l.at b->g.size<=b/\b<J.size:=λb f=>A.at f;refine aR.fr Y (λb(f:B.size<=b/\_)_ q=>by have:=ax b q;omega) (λb(f:B.size<=b/\b<Q.size)=>⟨ag,λq=>?_⟩) _ (aR.lt _ (eR R g7))
    have:=ax b (O b q f.2);omega
 ·have:i=v.items.length:=ag;subst this;rw[mz]at A;have R:=aR.snoc A k (λb f=>f) λj d p h1 g=>sA (hu j d p h1 g) λb f=>f.1;simp only[bw,cz];refine dc (F.ai C) aA rfl λh4 S o=>?_;have o:aN h4 a1 #[.bool v.au,ah v.num,.string (bs v.text),Sl.v l] dh:=by simpa using o
  refine eY o (lT (S.aZ (k2.ai C) ag) rfl λB P Z=>eY Z (hk l B (bE (bE (ak G C) S ag) P ag) ?_));have t5:Tn (λc=>c=a1\/c=a2) J B:=(S.fr.mono λc q _=>.inl q).trans (P.fr.mono λc q _=>.inr q);exact aR.fr t5 (λc(q:g.size<=c)_ z=>ag) (λc(q:g.size<=c)=>by show h.size<=c;omega) _ R
theorem Ja:∀v:aB,Vy v
 |.mk a b c items=>apJ (v:=.mk a b c items) λx(_:x∈items)=>Ja x
section
variable {c:aq} {KM:List cN} {M:cN} {T:aQ} {h0 h':Hp} {r':Raw} {vs:aP} {m:fQ} {g:dO} {x:aB}
theorem bR.Jv(G:bR f KM T h r m g)(KF:∀(j:Nat)M,KM[j]? =some M->gB M)(t:Tn (λc=>c=g.b\/g.X c) h h')
  (H:aN h' g.b (bW f g.sf g.sn g.sb r.b.rows r.b.ck r.b.bB (iG f.k g.SS g.kv g.ks sp')).toArray (iP f.k)) (a:r'.b.rows=r.b.rows/\r'.b.ck=r.b.ck/\r'.b.bits=r.b.bits/\r'.b.bB=r.b.bB) (e1:cy f.k r'.b=cy f.k r.b) (e0:r'.kids=r.kids)
  (C:iJ f.k (Tr g.X h h') h' sp' r'.b) (L:∀d,m=some d->eM f.k r.b d.r.b->eM f.k r'.b d.r.b) (nS:f.k=20->Tn (λc=>c=g.b) h h'):bR f KM (Tr T h h') h' r' m {g with sp:=sp',X:=Tr g.X h h'}:=by
 have K:∀c,(c=g.b\/g.X c)->c<h.size->c=g.b\/g.X c:=λc q _=>q;have av:∀{j:Nat}{B:aQ},g.Ls[j]? =some B->2≠j->∀c,B c->c<h.size->¬(c=g.b\/g.X c):=λI ne=>G.av g.iN K I ne;have n:=av g.fI ag;refine⟨G.t.step 2 t.1,⟨dM,by rw[a.2.2.1];exact G.B.o.fr t (av g.gw ag),G.B.nT,by rw[a.2.2.1,a.1];exact G.B.len,by rw[a.2.1,a.1];exact G.B.nl,by rw[a.1];exact G.B.rl⟩,by rw[e1];exact G.ls,λi s A x u l v=>(G.sl i s A x u l (e1▸v)).fr t (av (g.ic l) ag),by rw[e0];exact G.lk,λj M A w u l v=>?_,
  aR.fr t n (λ_ z=>z) _ G.no,λz=>(G.kl z).fr t n λ_ z=>z,C,λd e=>?_⟩
 ·have:=KF j M u (G.aL j M A w u l v) t (av (g.fC l) ag);unfold Raw.aL at this ⊢;grind
 ·obtain⟨⟨S,y,R,Q,P,O,N⟩,F,ks,sp⟩:=G.mm d e;exact⟨⟨S,y,R.fr t n (av g.gw ag),Q,λz=>(P z).fr t n,O,λz=>by obtain⟨p,e,mc⟩:=N z;exact⟨p,e,mc.fr t n⟩⟩,L d e F,ks,λz=>((sp z).fr (nS z) λc J hl e=>G.t.kX g.iN (e▸J)).mono λc q=>.inl q⟩
theorem eZ.Jv(KF:∀(j:Nat)M,KM[j]? =some M->gB M)(S:eZ f KM T h0 h r m g E)(t:Tn (λc=>c=g.b\/g.X c) h h')
  (e:aN h' g.b (bW f g.sf g.sn g.sb r.b.rows r.b.ck r.b.bB (iG f.k g.SS g.kv g.ks sp')).toArray (iP f.k)) (o:r'.b.rows=r.b.rows/\r'.b.ck=r.b.ck/\r'.b.bits=r.b.bits/\r'.b.bB=r.b.bB) (e1:cy f.k r'.b=cy f.k r.b) (e0:r'.kids=r.kids)
  (d:iJ f.k (Tr g.X h h') h' sp' r'.b) (p:∀a,m=some a->eM f.k r.b a.r.b->eM f.k r'.b a.r.b) (nS:f.k=20->Tn (λc=>c=g.b) h h'):eZ f KM T h0 h' r' m {g with sp:=sp',X:=Tr g.X h h'} E/\Tn (λc=>¬E c) h h':=by
 exact S.next (S.G.Jv KF t e o e1 e0 d p nS) t (λc q _ z=>q.elim z.1 (z.2 2 _ g.iN aY)) λc l z=>z.set rfl rfl g.iN l
theorem bR.Jw(G:bR f KM T h r m g)(KF:∀(j:Nat)M,KM[j]? =some M->gB M)(u:g.ST[i]? =some A)(C:g.SS[i]? =some s)(t:Tn A h h')(os:Os A h' s x'.1 x'.2)
  (a:r'.b.rows=r.b.rows/\r'.b.ck=r.b.ck/\r'.b.bits=r.b.bits/\r'.b.bB=r.b.bB) (e1:cy f.k r'.b=(cy f.k r.b).set i x') (e0:r'.kids=r.kids) (J:r'.b.aF=r.b.aF) (I:∀p,m=some p->eM f.k r.b p.r.b->eM f.k r'.b p.r.b):bR f KM T h' r' m g:=by
 have K:=(cU.1 u).1;have H:∀c,A c->c<h.size->c=g.b\/A c:=λc q _=>.inr q;have v:=g.ic u;have nb:=G.t.kX v;have av:∀{j:Nat}{B:aQ},g.Ls[j]? =some B->3+i≠j->∀c,B c->c<h.size->¬A c:=λF ne=>G.av v H F ne;refine⟨G.t.grow t.1,⟨by rw[a.1,a.2.1,a.2.2.2];exact t.aZ G.B.k nb,by rw[a.2.2.1];exact G.B.o.fr t (av g.gw ag),G.B.nT,by rw[a.2.2.1,a.1];exact G.B.len,by rw[a.2.1,a.1];exact G.B.nl,by rw[a.1];exact G.B.rl⟩,?_,λj y B x n l d=>?_,by rw[e0];exact G.lk,λj M B w n l d=>?_,
  aR.fr t (av g.fI ag) (λ_ z=>z) _ G.no,λz=>(G.kl z).fr t (av g.fI ag) λ_ z=>z,(G.sp.fr t (av g.iN ag)).eq J,λp e=>?_⟩
 ·simp only[Ca,e1];exact G.ls
 ·rw[e1,yK]at d
  by_cases e:i=j
  ·grind
  ·rw[aC e]at d;exact(G.sl j y B x n l d).fr t (av (g.ic l) ag)
 ·have:=KF j M n (G.aL j M B w n l d) t (av (g.fC l) ag);unfold Raw.aL at this ⊢;grind
 ·have M:=(G.mm p e).fr t (av g.fI ag) (av g.gw ag) (av g.iN ag);exact⟨M.c,I p e M.pr,M.ks,M.sp⟩
theorem eZ.Jw(KF:∀(j:Nat)M,KM[j]? =some M->gB M)(S:eZ f KM T h0 h r m g E)(d:g.ST[i]? =some A)(l:g.SS[i]? =some s)(t:Tn A h h')(os:Os A h' s x'.1 x'.2)
  (p:r'.b.rows=r.b.rows/\r'.b.ck=r.b.ck/\r'.b.bits=r.b.bits/\r'.b.bB=r.b.bB) (e1:cy f.k r'.b=(cy f.k r.b).set i x') (e0:r'.kids=r.kids) (v:r'.b.aF=r.b.aF) (u:∀a,m=some a->eM f.k r.b a.r.b->eM f.k r'.b a.r.b):eZ f KM T h0 h' r' m g E/\Tn (λc=>¬E c) h h':=by
 have e:=S.G.Jw KF d l t os p e1 e0 v u;exact S.next (e.mono (λc q=>.inl q) λc q=>q.elim (λq=>e.t.lt c q) λq=>q.2) t (λc q _ z=>z.2 (3+i) A (g.ic d) ag q) λc _ o=>o
theorem bR.TI(G:bR f [M] T h r m g)(l:f.k=19\/f.k=20)(hl:g.SS.length=1):Cs h ⟨g.b,18,none⟩ g.sp:=by
 intro i v j;rw[bw,gW G.B.k,qZ];have e:∀d,bW f g.sf g.sn g.sb r.b.rows r.b.ck r.b.bB d=bW f g.sf g.sn g.sb r.b.rows r.b.ck r.b.bB []++d:=λ_=>rfl;rw[e,gm (by show 16<=_;omega)]
 show _[18+i-16]? =_
 rw[gm cj,cm,hl];unfold nL;have a:=G.lk.1;grind
theorem bR.ZE{K:HP}{H:Hp}{V U y u o n b2 j:Value}(G:bR f [M] T h r m g)(L:f.k=19\/f.k=20)(hl:g.SS.length=1)(q:g.sp=[V,U,y,u])(F:∀v∈[o,n,b2,j],one v=true)
  (k:aN H g.b (bW f g.sf g.sn g.sb r.b.rows r.b.ck r.b.bB (iG f.k g.SS g.kv g.ks g.sp)).toArray (iP f.k)) (I:∀h',eD g.b H h'->aN h' g.b (bW f g.sf g.sn g.sb r.b.rows r.b.ck r.b.bB (iG f.k g.SS g.kv g.ks [o,n,b2,j])).toArray (iP f.k)->K h'):ji H ⟨g.b,18,none⟩ 0 [o,n,b2,j] K:=by
 obtain⟨d,p⟩:∃d,g.SS=[d]:=by
  match J:g.SS,hl with
  |[a],_=>simp
 obtain⟨w,C⟩:∃w,g.kv=[w]:=by
  match J:g.kv,G.lk.1 with
  |[a],_=>simp
 have t:∀sp,iG f.k g.SS g.kv g.ks sp=Sl.v d::w::sp:=λsp=>by unfold iG nL;simp[*]
 rw[t,q]at k;refine wW _ k (by simp[bW]) F λh' cs B A O z=>I h' B ?_
 rw[t];have:cs=(bW f g.sf g.sn g.sb r.b.rows r.b.ck r.b.bB (Sl.v d::w::[o,n,b2,j])).toArray:=by
  apply Al;intro i;rw[z i,qZ,qZ];have e:∀x,bW f g.sf g.sn g.sb r.b.rows r.b.ck r.b.bB (Sl.v d::w::x)=bW f g.sf g.sn g.sb r.b.rows r.b.ck r.b.bB [Sl.v d,w]++x:=λ_=>rfl;rw[e [V,U,y,u],e [o,n,b2,j]];have l:(bW f g.sf g.sn g.sb r.b.rows r.b.ck r.b.bB [Sl.v d,w]).length=18:=rfl
  by_cases P:i<18
  ·grind
  ·grind
 grind
end
section
variable {c:aq} {KM:List cN} {M:cN} {T:aQ} {h0 h':Hp} {r':Raw} {vs:aP} {m:fQ} {g:dO} {x:aB} {K:cJ}
open Classical in
theorem alG(SM:f.k=20)(wh:f.cs=[c])(r:Raw)(v:aB):f.tk r v=cR (eO false r) λr1=>if r1.b.aF.getLast? =some v then fB v.bq (r1.up λb=>{b with ends:=b.ends.dropLast++[b.rows]})
  else cR (di 0 (λq=>c.tk q v) r1) λr2=>fB v.bq (r2.up λb=>{b with ends:=b.ends++[b.rows],aF:=b.aF++[v]}):=by
 rw[kD];unfold iE;simp[*]
theorem ac4(b:f.k=19\/f.k=20)(d:f.cs=[c])(a:f.fit x=true)(e:x.au=false):c.fit x=true:=by
 rw[eL]at a;simp_all[fD,dm]
theorem ac1(i:bC f)(b:f.k=20)(d:f.cs=[c])(a:f.fit x=true):c.fit x=true:=by
  cases e:x.au with
  |false=>exact ac4 (.inr b) d a e
  | true=>
    rw[eL]at a;unfold fD at a;simp only[dm]at a;have q:=a.2;rw[aI e]at q;simp only[dm,dQ]at q;have el:f.lets=c.lets:=by rw[yB];unfold m9;rw[d,aI ⟨b,rfl⟩];rfl
    rw[eL];unfold fD;grind
theorem Zl(fu:bC f)(j:f.k=20)(k':f.cs=[c])(C:MC c M)(PC:jl c)(hc:f.can vs)(atj:f.fit x=true)(hw:x.bq<=4194304)(G:bR f [M] T h (f.st vs) m g)(hv:aR D h s x.items)(hD:∀c,D c->c<h.size->Out g c)
  (H:∀h',Tn T h h'->cQ f [M] (Tr T h h') h' (.iface (bG f.k) (bI g.b)) (f.tk (f.st vs) x).2 m->K (f.tk (f.st vs) x).1 h'):NR (bz g.b) x.au x.num (bs x.text) s h K Kp:=by
 have KF:=ni C;have ed:bG f.k=pL:=by unfold bG;rw[ay,ay,ay,ay,ay,ay,ay,aI j]
 rw[ed]at H;rw[alG j k']at H;have P:∀W:Rb,cy f.k W=[(ints W.ends,Y6)]:=λW=>by unfold cy;rw[ay,dR]
 have ep:∀a b:Rb,eM f.k a b↔b.ends.length<=a.ends.length/\b.ends.dropLast <+: a.ends/\b.ends.length<=4096:=λa b=>by unfold eM;rw[ay,ay,ay,ay,ay,aI j]
 have eS:∀X h sp(W:Rb),iJ f.k X h sp W↔∃t,sp=[.bool (lD W).au,ah (lD W).num,.string _,Sl.v t]/\aR X h t (lD W).items:=λX h sp W=>by unfold iJ;rw[ay,aI j]
 obtain⟨O,p⟩:=rN G.ls (P _);obtain⟨A,w,hA,f',hkv⟩:=th G rfl;obtain⟨A0,v'⟩:∃A,g.ST[0]? =some A:=⟨_,bx (by rw[G.ls.2,P];exact Nat.one_pos)⟩
 have s':f.cs[0]? =some c:=by rw[k'];rfl
 have ev:(f.st vs).b.aF=(cO vs).1:=by rw[fF];simp only[aK];rw[ay,aI j]
 have ee:(f.st vs).b.ends=(cO vs).2:=by rw[fF];simp only[aK];rw[ay,ay,ay,ay,aI j]
 have I:(f.st vs).b.aF.length=(f.st vs).b.ends.length:=by rw[ev,ee];exact(AZ _ vs rfl).2
 have U:(f.st vs).aL 0=c.st (f.st vs).b.aF:=by rw[mW s' vs,ev,j,DQ]
 have c':c.can (f.st vs).b.aF:=by have:=fy s' hc;rw[j,DQ,<-ev]at this;exact this
 have hkn:=((gk c _).1 c').n4;have hh:=(iI hc).1;generalize hrv:f.st vs=J at G H I U c' hkn hh;refine aDz (aG λa h1 ea g1 F _=>?_);refine bK ?_;have S1:=(eZ.of (E:=λc=>D c/\c<h.size) G λc q=>⟨q.2,hD c q.1 q.2⟩).ai KF g1;generalize hE:(λc=>(D c/\c<h.size)\/(h.size<=c/\c<h1.size))=E at S1;have E1:E a:=by rw[<-hE];exact .inr ⟨ag,F.lt⟩
 have u':∀c,D c/\c<h.size->E c:=λc q=>by rw[<-hE];exact .inl q
 have xP:=eR (aR.lt _ hv) g1;have Q:∀{ha hb:Hp},Tn (λc=>¬E c) ha hb->aR _ ha s x.items->aR _ hb s x.items:=λt v=>aR.fr t (λc q _ z=>z (u' c q)) (λ_ z=>z) _ v;refine S1.row KF rfl (λq=>bO rfl ?_) λq qH A' h2 t2 S2=>bu rfl ?_
 ·rw[rW q]at H;exact H h1 S1.t ⟨g,by rw[ed],S1.G⟩
 rw[rV q]at H;have F:=lI t2 F E1;have i':=Q t2 xP;generalize SB:J.up _=d at H S2;have L:d.b.aF=J.b.aF/\d.b.ends=J.b.ends/\d.b.bB=J.b.bB/\d.aL 0=J.aL 0/\d.b.rows=J.b.rows+1:=by rw[<-SB];exact⟨rfl,rfl,rfl,rfl,rfl⟩
 have n0:O.n=J.b.ends.length:=by have:=S2.G.oy (i:=0) (s:=O) (by simp[p]) (by rw[P];rfl);rw[this,ints,cm,L.2.1]
 have m':d.b.aF.length=d.b.ends.length:=by rw[L.1,L.2.1];exact I
 -- another value than the last
 have V:∀{h3:Hp},az h2 h3->d.b.aF.getLast? ≠some x->We K Kp (bz g.b) (aJ a) h3:=by
  intro h3 g3 j';rw[aC j']at H;have Z:=S2.ai KF g3;have F:=F.ai g3;have a':=eR i' g3;have R:=Z.G.aL 0 M A w rfl hA f';rw[L.2.2.2.1,U]at R;apply aAH;refine bK ?_;obtain⟨kk,bb,rfl⟩:=C.na R;refine Z.G.lP (i:=1) rfl (.inr (.inr (.inr j))) (by simp[p]) f' (eY F ?_)
  have hgo:di 0 (λq=>c.tk q x) d=((c.tk (c.st J.b.aF) x).1,d.fk 0 (c.tk (c.st J.b.aF) x).2):=by unfold di;rw[L.2.2.2.1,U]
  rw[hgo]at H;refine C.take c' (ac1 fu j k' atj) hw R a' (λY q z=>(Z.e Y (.inl (u' Y q))).2.2 _ A (dO.fC _ hA) ag z) λh4 t4 M4=>?_;obtain⟨S4,e'⟩:=Z.aL KF hA t4 λM' w' q1 q2=>by
   simp at q1;subst q1;have q2:=q2;rw[f']at q2;cases q2;exact M4
  have N:=e'.mono λc q _ z=>q (.inl z);refine cL (λc2=>?_) λc2=>?_
  ·unfold cR at H;rw[aC c2]at H;exact H h4 S4.t ⟨_,by rw[ed],S4.G⟩
  unfold cR at H;rw[aI c2]at H;have F:=lI N F E1;have q':=S4.G.B.k;refine S4.G.dG (i:=0) (s:=O) rfl (by simp[p]) (wF q' (aG λa5 h5 e5 g5 k5 _=>bM q' g5 ?_))
  have S5:=S4.ai KF g5;refine S5.app (i:=0) (x:=(ints d.b.ends,Y6)) (x':=(ints (d.b.ends++[d.b.rows]),Y6)) (r':=(d.fk 0 (c.tk (c.st J.b.aF) x).2).up λb=>{b with ends:=b.ends++[b.rows]}) (news:=[ah (d.b.rows:Int)]) KF rfl (by simp[p]) (by rw[P];rfl) rfl ?_ rfl (iM k5 rfl) ag ag (by simp[ints])
   ⟨rfl,rfl,rfl,rfl⟩ (by rw[P,P];rfl) rfl rfl (λmm _ q=>?_) λs0' A0' h6 t6 S6=>?_
  ·intro v hv;simp only[mA]at hv;subst hv;rfl
  ·rw[ep]at q ⊢;exact⟨iY q.1 (by show _<=(d.b.ends++[d.b.rows]).length;rw[ij];exact Nat.le_add_right _ _),q.2.1.trans (tL _ _),q.2.2⟩
  have d':Tn (λc=>¬E c) h5 h6:=t6.mono λc q _ z=>q (.inl (.inl z));have F:=lI d' (F.ai g5) E1;have g':=Q d' (eR (Q N a') g5);refine aAG (eY F (Ja x g' ag λt h7 g7 vt=>?_));refine bK ?_;have S7:=S6.ai KF g7;have F:=F.ai g7;have hv7:=eR g' g7;have sp7:=(eS _ _ _ _).1 S6.G.sp;obtain⟨t0,l',_⟩:=sp7;refine yD (S7.G.ZE (.inr j) (by simp[p]) l' (by simp[one,Sl.v]) S7.G.B.k λh8 o8 k8=>?_)
  have s7:=g7.1;have hgl:g.b<h6.size:=S6.G.t.lt _ S6.G.t.tb;have o':Tn (λc=>c=g.b) h6 h8:=(bh g7:Tn _ h6 h7).trans o8.fr;have S68:=S6.Jv (r':=(d.fk 0 (c.tk (c.st J.b.aF) x).2).up λb=>{b with ends:=b.ends++[b.rows],aF:=b.aF++[x]}) KF (o'.mono λc q _=>.inl q) k8 ⟨rfl,rfl,rfl,rfl⟩ (by rw[P,P];rfl) rfl ((eS _ _ _ _).2 ?_) (λmm _ q=>?_) λ_=>o'
  rotate_left
  ·have el:lD ((d.fk 0 (c.tk (c.st J.b.aF) x).2).up λb=>{b with ends:=b.ends++[b.rows],aF:=b.aF++[x]}).b=x:=by
    show((d.b.aF++[x]).getLast?).getD AP=x
    simp
   rw[el];refine⟨t,rfl,aR.fr o8.fr (λc(q:h6.size<=c/\c<h7.size)_(e:c=g.b)=>ag) (λc q=>.inr ⟨q.1,by have:=o8.1;omega⟩) _ (sA (aR.lt _ vt) λc q=>⟨q.1,q.2⟩)⟩
  ·rw[ep]at q ⊢;exact q
  obtain⟨S8,t8⟩:=S68;have n':Tn (λc=>¬E c) h6 h8:=t8.mono λc q _ z=>q (.inl (.inl z));exact eY (lI n' (lI d' ((lI N ‹aN h3 a _ _› E1).ai g5) E1) E1) (I9 x (Q n' g') ag λh9 g9=>(S8.ai KF g9).pY KF rfl (n:=x.bq) rfl (by show d.b.bB+x.bq<2^62;rw[L.2.2.1];omega) λsj t10 z'=>H sj z'.t ⟨_,by rw[ed],z'.G⟩)
 refine S2.G.dG (i:=0) (s:=O) rfl (by simp[p]) (cL (λY=>?_) λY=>?_)
 ·obtain⟨t0,l',Gm⟩:=(eS _ _ _ _).1 S2.G.sp;have y':=S2.G.TI (.inr j) (by simp[p])
  rw[l']at y';have j':d.b.aF≠[]:=λe=>by rw[L.1]at e;rw[e]at I;simp at I;omega
  have u:d.b.aF.getLast? =some (lD d.b):=by
   unfold lD;rw[UH j'];rfl
  have hlw:(lD d.b).bq<=4194304:=by
   have hm:=List.mem_of_getLast? u;rw[L.1]at hm;have h1:=oh hm;have h2:=(iI c');omega
  refine gZ y' (eY F (Pq (lD d.b) Gm i' ag λb h3 g3 hb=>ahw (aE (λcb=>?_) λcb=>V g3 λe=>?_)))
  ·have hx:lD d.b=x:=hb.1 cb;rw[hx]at u;rw[aI u]at H;have Z:=S2.ai KF g3;have F:=F.ai g3;have a':=eR i' g3;refine bK ?_;refine Z.G.dG (i:=0) (s:=O) rfl (by simp[p]) (Z.G.dG (i:=0) (s:=O) rfl (by simp[p]) (aW ag ag (wF Z.G.B.k ?_)))
   have os:=Z.G.sl 0 O A0 (ints d.b.ends,Y6) (by simp[p]) v' (by rw[P];rfl)
   obtain⟨bb,t'⟩:∃bb,O.a=some (aJ bb):=by
    rcases os with⟨e,_⟩|⟨bb,_,o⟩
    ·rw[e]at Y;simp[Sl.nil]at Y
    ·exact⟨bb,o.1⟩
   unfold Ix;rw[t'];refine⟨ag,ag,?_⟩
   rw[bw];refine os.Jy ag ⟨bb,t',by congr 1;omega⟩ rfl λh4 t4 p' _=>?_
   have e4:(ints d.b.ends).set (O.n-1) (ah (d.b.rows:Int))=ints (d.b.ends.dropLast++[d.b.rows]):=by
    have S:d.b.ends≠[]:=λe=>by rw[<-L.2.1,e]at n0;simp at n0;omega
    obtain⟨l,y,b'⟩:∃l y,d.b.ends=l++[y]:=⟨_,_,(Ae S).symm⟩;have hn:O.n-1=l.length:=by rw[n0,<-L.2.1,b'];simp
    rw[hn,b'];simp[ints]
   rw[e4]at p';obtain⟨S4,e'⟩:=Z.Jw (r':=d.up λb=>{b with ends:=b.ends.dropLast++[b.rows]}) KF v' (by simp[p]) t4 (x':=(ints (d.b.ends.dropLast++[d.b.rows]),Y6)) p' ⟨rfl,rfl,rfl,rfl⟩ (by rw[P,P];rfl) rfl rfl λmm _ q=>by
    rw[ep]at q ⊢;have S:d.b.ends≠[]:=λe=>by rw[<-L.2.1,e]at n0;simp at n0;omega
    obtain⟨l,y,b'⟩:∃l y,d.b.ends=l++[y]:=⟨_,_,(Ae S).symm⟩
    show mm.r.b.ends.length<=(d.b.ends.dropLast++[d.b.rows]).length/\mm.r.b.ends.dropLast <+: d.b.ends.dropLast++[d.b.rows]/\mm.r.b.ends.length<=4096
    rw[b']at q ⊢;rw[List.dropLast_concat];refine⟨by simp at q ⊢;omega,?_,q.2.2⟩
    have hq2:mm.r.b.ends.dropLast.length<=l.length:=by have:=q.1;simp at this ⊢;omega
    exact(afc q.2.1 (tL l [y]) hq2).trans (tL _ _)
   have N:Tn (λc=>¬E c) h3 h4:=e'.mono λc q _ z=>q (.inl z);refine eY (lI N F E1) (I9 x (Q N a') ag λh5 g5=>?_);have S5:=S4.ai KF g5;exact S5.pY KF rfl (n:=x.bq) rfl (by show d.b.bB+x.bq<2^62;rw[L.2.2.1];omega) λh6 t6 S6=>H h6 S6.t ⟨_,by rw[ed],S6.G⟩
  ·rw[u]at e;rw[hb.2 (uW e)]at cb;cases cb
 ·refine ahw (bu rfl (V (cK _) λe=>?_));have:d.b.aF=[]:=jv.1 (by rw[m',L.2.1];omega)
  rw[this]at e;simp at e
theorem ajY(e:¬f.small=true)(j:f.k=20)(a:f.cs=[c])(r:Raw):f.zk r=cR (eO false r) λd=>cR (di 0 c.zk d) λb=>(3,b):=by
 rw[sy];unfold nH;simp[*]
theorem aj7(u:bC f)(n:f.k=20)(o:f.cs=[c])(C:MC c M)(W:jl c)(P:f.can vs)(G:bR f [M] T h (f.st vs) m g)
  (a:∀h',Tn T h h'->cQ f [M] (Tr T h h') h' (.iface (bG f.k) (bI g.b)) (f.zk (f.st vs)).2 m->K (f.zk (f.st vs)).1 h'):Xk (bz g.b) h K Kp:=by
 apply aDy;refine bK ?_;refine aj G.B.k (by simp[bW];rfl) ?_
 by_cases p:f.small=true
 ·rw[vA (.inl p)]at a;obtain⟨_,R,h3,H⟩:=sP u p;exact bO p (gZ G.uR (Zl u n o C W P R ag G G.no (λc q _=>G.Di q) a))
 rw[ajY p n o]at a;apply bu (by simpa using p)
 have KF:=ni C;have V:∀F:Rb,cy f.k F=[(ints F.ends,Y6)]:=λF=>by simp_all[cy,aC]
 obtain⟨s0,L⟩:=rN G.ls (V _);obtain⟨A,w,Q,l,Z⟩:=th G rfl;have v:f.cs[0]? =some c:=by rw[o];rfl
 have e:=mW v vs;have J:=eZ.of (E:=λ_=>False) G λ_ q=>q.elim;refine J.row KF rfl (λq=>bO rfl ?_) λq Y A' R t2 I=>bu rfl ?_
 ·rw[rW q]at a;exact a h J.t ⟨g,rfl,J.G⟩
 rw[rV q]at a;have d:=I.G.aL 0 M A w rfl Q l;rw[iT,e]at d;have N:di 0 c.zk ((f.st vs).up (Rb.row false))=((c.zk (c.st (dJ f.k f.w (dI f.cs) 0 vs))).1,((f.st vs).up (Rb.row false)).fk 0 (c.zk (c.st (dJ f.k f.w (dI f.cs) 0 vs))).2):=by unfold di;rw[iT,e]
 rw[N]at a;refine I.G.lP (i:=1) rfl (.inr (.inr (.inr n))) (by simp[L]) l (C.zero (fy v P) d λH U X=>?_)
 obtain⟨z,_⟩:=I.aL KF Q U λM' S O y=>by
  simp at O;subst O;have y:=y;rw[l]at y;cases y;exact X
 refine cL (λj=>?_) λj=>?_
 ·unfold cR at a;rw[aC j]at a;exact a H z.t ⟨_,by rfl,z.G⟩
 ·unfold cR at a;rw[aI j]at a;exact a H z.t ⟨_,by rfl,z.G⟩
end
theorem aw3{c0 p q d b a:Addr}{K:HP}(H:ai3 c0 p q d b a h K Kp):cX aD (.func (.func 242) #[] #[dw c0,dw p,dw q,dw d,dw b,dw a]) [] h (λr e=>r=.tuple #[]/\K e) Kp:=by
 unfold cX;exact cast aV H
section
variable {c:aq} {KM:List cN} {M:cN} {T R:aQ} {h0 h':Hp} {r':Raw} {vs:aP} {m:fQ} {mm:Mem} {g:dO} {caps:bg}
theorem aqR{p o n l k:Array Value}(mc:Au R h caps [Z,p,o,n,l,k]):∃j i e d b a C B A t s q,caps=[bI j,bI i,bI e,bI d,bI b,bI a]/\
    (R j/\aN h j Z C)/\(R i/\aN h i p B)/\(R e/\aN h e o A)/\(R d/\aN h d n t)/\(R b/\aN h b l s)/\(R a/\aN h a k q):=by
  obtain⟨j,C,e0,P⟩:=mc.2 0 Z rfl;obtain⟨i,B,e1,O⟩:=mc.2 1 p rfl;obtain⟨e,A,I,N⟩:=mc.2 2 o rfl;obtain⟨d,t,H,L⟩:=mc.2 3 n rfl;obtain⟨b,s,G,K⟩:=mc.2 4 l rfl;obtain⟨a,q,F,J⟩:=mc.2 5 k rfl
  match caps,mc.1 with
  | [u,v,w,z,y,x],_=>
    simp at e0 e1 I H G F;grind
theorem bR.ZM(G:bR f KM T h r m g)(KF:∀(j:Nat)M,KM[j]? =some M->gB M)(t:Tn (λc=>c=g.b\/g.X c) h h')
  (C:aN h' g.b (bW f g.sf g.sn g.sb r.b.rows r.b.ck r.b.bB (iG f.k g.SS g.kv g.ks sp')).toArray (iP f.k)) (a:r'.b.rows=r.b.rows/\r'.b.ck=r.b.ck/\r'.b.bits=r.b.bits/\r'.b.bB=r.b.bB) (e1:cy f.k r'.b=cy f.k r.b) (e0:r'.kids=r.kids)
  (v:iJ f.k g.X h' sp' r'.b) (J:∀mm,m=some mm->eM f.k r.b mm.r.b->eM f.k r'.b mm.r.b) (nS:f.k=20->Tn (λc=>c=g.b) h h'):bR f KM T h' r' m {g with sp:=sp'}:=by
 have I:∀c,(c=g.b\/g.X c)->c<h.size->c=g.b\/g.X c:=λc q _=>q;have av:∀{j:Nat}{B:aQ},g.Ls[j]? =some B->2≠j->∀c,B c->c<h.size->¬(c=g.b\/g.X c):=λF ne=>G.av g.iN I F ne;have l:=av g.fI ag;refine⟨G.t.grow t.1,⟨dM,by rw[a.2.2.1];exact G.B.o.fr t (av g.gw ag),G.B.nT,by rw[a.2.2.1,a.1];exact G.B.len,by rw[a.2.1,a.1];exact G.B.nl,by rw[a.1];exact G.B.rl⟩,by rw[e1];exact G.ls,λi s A x n d p=>(G.sl i s A x n d (e1▸p)).fr t (av (g.ic d) ag),by rw[e0];exact G.lk,λj M A w n d p=>?_,
  aR.fr t l (λ_ z=>z) _ G.no,λz=>(G.kl z).fr t l λ_ z=>z,v,λmm e=>?_⟩
 ·have:=KF j M n (G.aL j M A w n d p) t (av (g.fC d) ag);unfold Raw.aL at this ⊢;grind
 ·obtain⟨⟨Q,u,P,O,N,L,K⟩,y,ks,sp⟩:=G.mm mm e;exact⟨⟨Q,u,P.fr t l (av g.gw ag),O,λz=>(N z).fr t l,L,λz=>by obtain⟨caps,e,mc⟩:=K z;exact⟨caps,e,mc.fr t l⟩⟩,J mm e y,ks,λz=>(sp z).fr (nS z) λc H hl e=>G.t.kX g.iN (e▸H)⟩
theorem axN{K:HP}(x:f.k=20)(z':f.cs=[c])(C:MC c M)(G:bR f [M] T h r (some mm) g)(hk:∀h',Tn T h h'->cQ f [M] T h' (.iface (bG f.k) (bI g.b)) mm.r (some mm)->K h'):cX aD mm.F [] h (λr h1=>r=.tuple #[]/\K h1) Kp:=by
  have KF:=ni C;obtain⟨⟨F0,KF',bm,c1,c2,c3,c4⟩,pr,ks,d⟩:=G.mm mm rfl;obtain⟨caps,eF,mc⟩:=c4 ag;obtain⟨P,em,rfl⟩:=c1 ag;have q':jr f.k g.b F0 P.F mm=[#[F0],#[P.F],#[bI g.b],pI mm.r.b.ends.length,mm.sp.toArray,pI (mm.r.b.ends.getLastD 0)]:=by unfold jr;simp only;simp_all
  rw[q']at mc;obtain⟨a0,a1,a2,a3,a4,a5,t0,t1,t2,t3,t4,t5,ec,⟨r0,k0⟩,⟨r1,k1⟩,⟨r2,H⟩,⟨r3,J⟩,⟨r4,S⟩,⟨r5,Q⟩⟩:=aqR mc;have t':gJ f.k=242:=by unfold gJ;rw[ay,ay,ay,ay,ay,ay,aI x]
  have I:∀O:Rb,cy f.k O=[(ints O.ends,Y6)]:=λO=>by simp_all[cy,aC]
  have ep:∀a b:Rb,eM f.k a b↔b.ends.length<=a.ends.length/\b.ends.dropLast <+: a.ends/\b.ends.length<=4096:=λa b=>by simp_all[eM,aC]
  have eS:∀X h sp(O:Rb),iJ f.k X h sp O↔∃t,sp=[.bool (lD O).au,ah (lD O).num,.string _,Sl.v t]/\aR X h t (lD O).items:=λX h sp O=>by unfold iJ;rw[ay,aI x]
  have d:=d x;rw[<-x]at d;rw[ep]at pr;obtain⟨s0,p⟩:=rN G.ls (I _);obtain⟨A0,L⟩:∃A0,g.ST=[A0]:=by
    have:=G.ls.2;rw[I]at this
    match hg:g.ST,this with
    |[a],_=>exact⟨a,rfl⟩
  obtain⟨A,w,hA,hw,y'⟩:=th G rfl;rw[eF,ec,t'];have hS:∀c,(c=g.b\/g.T0 c)->c<h.size->c=g.b\/g.T0 c:=λc q _=>q;have N:=G.av g.gw hS g.fI ag;have nA:∀c,g.R c->¬A c:=λc q=>G.t.ne g.fI (g.fC hA) ag c q;have nR:∀{c:Nat},g.R c->c≠g.b:=λq e=>G.t.kX g.fI (e▸q);have nX:=G.av g.gw hS g.iN ag;have j':∀c,g.X c->¬A c:=λc q=>G.t.ne g.iN (g.fC hA) ag c q;have d':∀c,g.X c->c≠g.b:=λc q e=>G.t.kX g.iN (e▸q);refine aw3 (aDx (aj k0 rfl ?_))
  show cX aD F0 [] h _ _
  refine yx G KF bm λh1 u1 G1=>?_;have k1:=u1.aZ k1 (N _ r1 k1.lt);have H:=u1.aZ H (N _ r2 H.lt);have J:=u1.aZ J (N _ r3 J.lt);have S:=u1.aZ S (N _ r4 S.lt);have Q:=u1.aZ Q (N _ r5 Q.lt);have d:=d.fr u1 nX;have W:=G1.aL 0 M A w rfl hA hw;have e0:((some mm).bind λmm=>mm.ks[0]?)=some P:=by show mm.ks[0]? =some P;rw[em];rfl
  rw[e0]at W;apply aj k1 rfl
  show cX aD P.F [] h1 _ _
  refine C.back W λh2 u2 M2=>?_;have G2:=G1.Ge KF hA u2 λM' w' q1 q2=>by
    simp at q1;subst q1;have q2:=q2;rw[hw]at q2;cases q2;rw[e0];exact M2
  have H:=u2.aZ H (nA _ r2);have J:=u2.aZ J (nA _ r3);have S:=u2.aZ S (nA _ r4);have Q:=u2.aZ Q (nA _ r5);have d:=d.fr u2 λc q _=>j' c q;have o0:=G2.sl 0 s0 A0 (ints r.b.ends,Y6) (by simp[p]) (by simp[L]) (by rw[I];rfl)
  have n0:=o0.n;have p1:=pr.2.2;simp only[ints,cm]at n0;refine aj H rfl (aj H rfl (aj H rfl ?_));refine bK ?_;obtain⟨t,g',v'⟩:=(eS _ _ _ _).1 d;rw[g']at S;refine G2.dG (i:=0) rfl (by simp[p]) (aj J rfl (o0.cut ag rfl λj u' c'=>eY S ?_))
  have p':(ints r.b.ends).take mm.r.b.ends.length=ints (r.b.ends.take mm.r.b.ends.length):=by unfold ints;rw[<-HG]
  rw[p']at c';have a':(r.b.ends.take mm.r.b.ends.length).length=mm.r.b.ends.length:=by rw[kP];omega
  have U:mm.r.b.ends.dropLast <+: r.b.ends.take mm.r.b.ends.length:=afc pr.2.1 (List.take_prefix _ _) (by rw[a'];simp)
  refine G2.vH (i:=0) (s:=s0) (by simp[p]) G2.B.k λh3 Z m'=>?_
  have G3:=G2.xw (x':=(ints (r.b.ends.take mm.r.b.ends.length),Y6)) (r':=((r.qF mm.r).fk 0 P.r).up λb=>{b with ends:=r.b.ends.take mm.r.b.ends.length}) KF (by simp[L]) c' Z m' ⟨rfl,rfl,rfl,rfl⟩ (by rw[I,I];rfl) rfl rfl λV e _=>by rw[ep];cases e;exact⟨by show _<=(r.b.ends.take mm.r.b.ends.length).length;omega,U,p1⟩
  have H:=Z.aZ H (nR r2);have J:=Z.aZ J (nR r3);have Q:=Z.aZ Q (nR r5);have d:=d.fr Z.fr λc q _ e=>d' c q e;refine mF S (Z.aZ S (nR r4)) (mF (by assumption) H ?_)
  obtain⟨t6,i',_⟩:=(eS _ _ _ _).1 G3.sp;refine yD (G3.ZE (.inr x) (by simp[p]) i' (by simp[one,Sl.v]) G3.B.k λh4 Y l'=>?_)
  have d:=d.fr Y.fr λc q _ e=>d' c q e;rw[g']at d;have G4:=G3.ZM (r':=((r.qF mm.r).fk 0 P.r).up λb=>{b with ends:=r.b.ends.take mm.r.b.ends.length,aF:=mm.r.b.aF}) KF (Y.fr.mono λc q _=>.inl q) l' ⟨rfl,rfl,rfl,rfl⟩ (by rw[I,I];rfl) rfl (d.eq rfl) (λV e q=>by rw[ep]at q ⊢;exact q) λ_=>Y.fr
  have H:=Y.aZ H (nR r2);have J:=Y.aZ J (nR r3);have Q:=Y.aZ Q (nR r5);have tf:=(((u1.mono λc q _=>q.elim (λe=>e▸G.t.tb) λq=>G.ku g.gw q).trans (u2.mono λc q _=>G.ku (g.fC hA) q)).trans (Z.fr.mono λc q _=>q▸G.t.tb)).trans (Y.fr.mono λc q _=>q▸G.t.tb);have eK:∀(r9:Raw),r9.kids=r.kids->(r9.fk 0 P.r).kids=mm.r.kids:=by
    intro r9 e9;rw[ks.1,em];obtain⟨b9,k'⟩:=r9;have hl:=G.lk.2.2;rw[<-e9]at hl
    match k',hl with
    |[y],_=>rfl
  refine aAF (aj J rfl (cL (λcc=>?_) λcc=>?_))
  · apply aj H rfl;refine bK ?_;refine G4.dG (i:=0) (s:=j) rfl (by simp[p]) (aj J rfl (aW ag ag (aj Q rfl ?_)))
    have os:=G4.sl 0 j A0 (ints (r.b.ends.take mm.r.b.ends.length),Y6) (by simp[p]) (by simp[L]) (by rw[I];rfl)
    have sn:=u';obtain⟨bb,f'⟩:∃bb,j.a=some (aJ bb):=by
      rcases os with⟨e,_⟩|⟨bb,_,o⟩
      ·rw[e]at sn;simp[Sl.nil]at sn;omega
      ·exact⟨bb,o.1⟩
    unfold Ix;rw[f'];refine⟨ag,ag,?_⟩
    rw[bw];refine os.Jy ag ⟨bb,f',by congr 1;omega⟩ rfl λh5 t5 b' _=>?_
    have o':mm.r.b.ends≠[]:=λe=>by rw[e]at cc;simp at cc
    have e4:(ints (r.b.ends.take mm.r.b.ends.length)).set (j.n-1) (ah ((mm.r.b.ends.getLastD 0:Nat):Int))=ints mm.r.b.ends:=by
      obtain⟨l,y,e'⟩:∃l y,mm.r.b.ends=l++[y]:=⟨_,_,(Ae o').symm⟩;rw[e']at U a' ⊢;rw[List.dropLast_concat]at U;obtain⟨z,hz⟩:=U;have n':z.length=1:=by have:=tP List.length hz;rw[ij,a']at this;simp at this;exact this
      rw[<-hz]
      match z,n' with
      | [u],_=>
        have hn:j.n-1=l.length:=by rw[sn,e'];simp
        rw[hn];simp[ints]
    rw[e4]at b';have G5:=G4.Jw (r':=((r.qF mm.r).fk 0 P.r).up λb=>{b with ends:=mm.r.b.ends,aF:=mm.r.b.aF}) (i:=0) (s:=j) (A:=A0) (x':=(ints mm.r.b.ends,Y6)) KF (by simp[L]) (by simp[p]) t5 b' ⟨rfl,rfl,rfl,rfl⟩ (by rw[I,I];rfl) rfl rfl λV e _=>by rw[ep];cases e;exact⟨bP _,LW _,p1⟩
    refine hk h5 (tf.trans (t5.mono λc q _=>G.ku (g.ic (i:=0) (by simp[L])) q)) ⟨_,by rfl,G5.conv (r':=mm.r) ⟨rfl,rfl,rfl,rfl⟩ (by rw[I,I];rfl) (eK _ rfl).symm (λ_=>rfl) λV e _=>by cases e;rw[ep];exact⟨bP _,LW _,p1⟩⟩
  ·have he:mm.r.b.ends=[]:=jv.1 ag;refine hk h4 tf ⟨_,by rfl,G4.conv (r':=mm.r) ⟨rfl,rfl,rfl,rfl⟩ (by rw[I,I,he];rfl) (eK _ rfl).symm (λ_=>rfl) λV e _=>by cases e;rw[ep];exact⟨bP _,LW _,p1⟩⟩
end
section
variable {c:aq} {M:cN} {T:aQ} {h0 h':Hp} {vs:aP} {m:fQ} {g:dO} {w:Value}
abbrev KX(d:bD)(p:Sl×Sl×Sl):List Value:=[ah d.len,ah d.off,ah d.au,Sl.v p.1,Sl.v p.2.1,Sl.v p.2.2]
theorem iC.at{n:Nat}{cs:Array Value}{d:bD}{p:Sl×Sl×Sl}(k:aN h a cs el)(z:∀i v,(KX d p)[i]? =some v->cs[n+i]? =some v)(v:eU D E h p d):iC D E h ⟨a,n,none⟩ d:=by
 obtain⟨x,o,u,aX,j,ds⟩:=d;unfold iC;refine⟨p.1,p.2.1,p.2.2,λi w e=>?_,v.b,v.c,v.x⟩;rw[bw,gW k];exact z i w (by simpa[KX,xk,bD.len,bD.off,bD.au]using e)
theorem dz.two{d e:bD}{p q:Sl×Sl×Sl}(k:aN h a (KX d p++KX e q).toArray el)(j:D a)(v:eU D E h p d)(w:eU D E h q e):dz D E h ⟨some (aJ a),2,2⟩ [d,e]:=by
 unfold dz;refine⟨rfl,bP _,_,rfl,j,iC.at k (λi v b=>?_) v,?_⟩
 ·grind
 ·unfold ju;refine⟨?_,by unfold ju;trivial⟩
  rw[bw];grind[iC.at]
theorem FE:∀(n:Nat)(a:aP),a.length=n->(cO a).2.length<=a.length/\∀x∈(cO a).2,x<=a.length:=by
  intro n
  induction n with
  |zero=>intro a i;rw[jv.1 i];exact⟨bP _,λx d=>by simp[cO]at d⟩
  | succ n o=>
    intro j i;obtain⟨a,v,rfl⟩:∃a v,j=a++[v]:=by
      rcases List.eq_nil_or_concat j with e|⟨l,b,e⟩
      all_goals grind
    have k:=o a (by simpa using i)
    rw[AY];unfold xz;have hl:=(AZ a.length a rfl).1;have s:=(AZ a.length a rfl).2;split
    · rename_i q
      have p:(cO a).2≠[]:=bU
      grind[List.mem_singleton,List.dropLast_subset]
    grind
theorem ava(N:f.k=20)(a':f.cs=[c])(C:MC c M):xg f (cQ f [M]):=by
 intro T h v vs m K Kp hc H hk;obtain⟨g,rfl,G⟩:=H;have KF:=ni C;have ed:bG f.k=pL:=by unfold bG;simp[*]
 have es:∀rb:Rb,cy f.k rb=[(ints rb.ends,Y6)]:=λrb=>by unfold cy;simp[*]
 obtain⟨W,L⟩:=rN G.ls (es _);obtain⟨A0,e'⟩:∃A,g.ST[0]? =some A:=⟨_,bx (by rw[G.ls.2,es];simp)⟩
 have ef:f.dn (f.st vs)=.mk (f.st vs).b.rows 0 0 [] (.mk (f.st vs).b.ends.length 0 0 [[],laidB (f.st vs).b.ends 4] [] []::ie f vs) []:=by rw[KZ N,fF];rfl
 rw[ef]at hk;have ee:(f.st vs).b.ends=(cO vs).2:=by rw[fF];simp only[aK];simp[*]
 have n4:=((gk f vs).1 hc).n4;have el:(f.st vs).b.ends.length<=70000:=by have:=(FE _ vs rfl).1;rw[ee];omega
 have eb:∀x∈(f.st vs).b.ends,x<2^63:=λx d=>by rw[ee]at d;have:=(FE _ vs rfl).2 x d;omega
 have q:mH (.iface pL (bI g.b)) h K Kp:=by
  refine avY (aDA (aG λY F e1 g1 k2 _=>?_));refine bK ?_;have d':=k2.lt;have Gx:∀{d:Hp},az F d->bR f [M] T d _ m g:=λO=>G.fr KF (bh (ak g1 O)) λ_ _ _=>id;have o0:∀{d:Hp},az F d->Os A0 d W _ Y6:=λO=>(Gx O).sl 0 W A0 _ (by simp[L]) e' (by rw[es];rfl)
  have n0:=(o0 (cK _)).n;rw[ints,cm]at n0;have fin:∀{d:Hp}{E:Nat}{b:Sl},AK h d Y E (f.st vs).b.ends.length 0 b [[],laidB (f.st vs).b.ends 4]->ED K Kp (bz g.b) (aJ Y) (aJ E) d:=by
   intro d E b B;apply aAI;refine bK ?_;obtain⟨c2,t2,Z,e2⟩:=B.k2;have d':=Z.lt;have c':=B.k3.lt;have V:=G.fr KF (bh B.g) λ_ _ _=>id;obtain⟨A,w,hA,hw,f'⟩:=th V rfl;have aL:=V.aL 0 M A w rfl hA hw;have R:f.cs[0]? =some c:=by rw[a'];rfl
   rw[mW R vs]at aL;have ek:ie f vs=[c.dn (c.st (dJ f.k f.w (dI f.cs) 0 vs))]:=by
    have F:=uG (vs:=vs) R;have X:=Ds f vs;rw[a']at X
    match hq:ie f vs,X with
    |[y],_=>rw[hq]at F;simp at F;rw[F]
   rw[ek]at hk;refine wF V.B.k (gl B.k3 (V.lP (i:=1) rfl (.inr (.inr (.inr N))) (by simp[L]) hw (C.done (fy R hc) aL λp h3 o D3=>bM B.k3 o (bM V.B.k o (aG λb' h4 e4 z k4 _=>bM (V.B.k.ai o) z ?_)))))
   have z3:=o.1;have U:=ak o z;refine jI (Z.ai U) e2 λh5 o5 k5=>gl k5 (hk (Sl.nil,⟨some (aJ b'),2,2⟩,Sl.nil) h5 (bE (ak B.g U) o5 B.l.1) ⟨fc.none,?_,jH _⟩);have d2:dz (λc=>h.size<=c/\c≠Y) (λc=>h.size<=c/\c≠Y) h4 ⟨some (aJ b'),2,2⟩ [.mk (f.st vs).b.ends.length 0 0 [[],laidB (f.st vs).b.ends 4] [] [],c.dn (c.st (dJ f.k f.w (dI f.cs) 0 vs))]:=
    dz.two (p:=(b,Sl.nil,Sl.nil)) k4 ⟨ag,ag⟩ ⟨(B.bf.gr U).mo (λc q=>⟨q.1,q.2.1⟩) λc q=>⟨q.1,q.2.1⟩,jH _,jH _⟩ ((D3.gr z).fr (iX _ _) (λ_ _ _=>id) (λ_ _ _=>id) (λc(q:d.size<=c)=>⟨ag,ag⟩) λc(q:d.size<=c)=>⟨ag,ag⟩)
   exact dz.fr o5.fr (λc q _ e=>q.2 e) (λc q _ e=>q.2 e) (λc q=>q.1) (λc q=>q.1) _ d2
  have q5:∀{d:Hp}{E:Nat}{b:Sl},az F d->aN d E cY bX->F.size<=E->fc (Ex F E) (Ex F E) d b [[],laidB (f.st vs).b.ends 4]->cV d (aJ E) (W.n:Int) 0 0 b Sl.nil Sl.nil (ED K Kp (bz g.b) (aJ Y) (aJ E)):=
   λO J l3 Q=>by rw[n0];exact Hu g1 k2 rfl ag O J l3 Q λh'=>fin
  have I:=λ{d:Hp}(O:az F d)=>(Gx O).B.k;have vn:∀{d:Hp}{D:aQ},dX D d Sl.nil (bv []):=λ{d D}=>⟨yF d,λq=>absurd rfl q⟩;refine(Gx (cK _)).dG (i:=0) (s:=W) rfl (by simp[L]) ((Gx (cK _)).dG (i:=0) (s:=W) rfl (by simp[L]) ⟨xJ (w:=4) (o0 (cK _)) el aY eb λt X j=>bM (I (cK _)) j.g ⟨?_,?_⟩,aG λE X e2 P J _=>bM (I (cK _)) P (bM (I (cK _)) P (xJ (w:=4) (o0 P) el aY eb λt h3 j=>bM (I P) j.g ?_))⟩)
  ·have z2:=j.g.1;refine oC (D:=λc=>F.size<=c) (s:=Sl.nil) vn (j.lp.mo λc q=>q) z2 λa h3 o Q=>bM (I j.g) o (aG λE h4 e4 z J _=>bM (I (ak j.g o)) z (bM (I (ak j.g o)) z ?_));have z3:=o.1;exact q5 (ak (ak j.g o) z) J ag (Q.kN z ag λc q=>q)
  ·have z2:=j.g.1;exact aG λE h3 e3 o J _=>bM (I j.g) o (bM (I j.g) o (oC (D:=Ex F E) (s:=Sl.nil) vn (j.lp.kN o ag λc q=>q) ⟨ag,ag⟩ λa h4 z Q=>bM (I (ak j.g o)) z (q5 (ak (ak j.g o) z) (J.ai z) ag Q)))
  ·have z2:=P.1;have z3:=j.g.1;have c':=J.lt;exact oC (D:=Ex F E) (s:=Sl.nil) vn (j.lp.mo λc(q:X.size<=c)=>⟨ag,ag⟩) ⟨ag,ag⟩ λa h4 z Q=>bM (I (ak P j.g)) z (q5 (ak (ak P j.g) z) ((J.ai j.g).ai z) ag Q)
 rw[<-ed]at q;exact q
end
def ad3:Code:=Tryz.f239.body.getD .skip
abbrev PL:Code:=sub [1,0] ad3
def pV(VB V2:lV)(b a1:Nat)(eN:Sl)(w:Value)(q0:Bool)(q1:Int)(q2:ff)(q3:Sl):List Cl:=[vb 8 b,vb 9 b,vc 10 (.pointer (some ⟨b,0,none⟩)),.vl 11 VB,vb 12 b,vb 13 b,vc 14 (.pointer (some ⟨b,16,none⟩)),vc 15 (Sl.v eN),vc 16 (.int .i64 (eN.n:Int)),vb 17 b,vb 18 b,vc 19 (.pointer (some ⟨b,18,none⟩)),vc 20 (.agg #[.bool q0,.int .i64 q1,.string q2,Sl.v q3]),vb 21 b,vb 22 b,vc 23 (.pointer (some ⟨b,17,none⟩)),vc 24 (w),.vl 25 V2,.al 3 #[.nilFunc] 1 22 3,.al 4 #[ah 0] 3 23 8,.al 5 fU 49 24 12,.al 6 #[.nilFunc] 1 25 17,.st 18 3,.st 19 8,.st 20 12,.st 21 17]
abbrev aIt(b a1:Nat):Fr:=([some (pA b),some (pA a1),some .nilFunc]++nn 34)
def aaP:List (Nat×OT):=[(4,OT.l (List.range 9) .fin)]
theorem NS.mk{K:de}{eN:Sl}{w:Value}{q0:Bool}{q1:Int}{q2:ff}{q3:Sl}{U V2:lV}{HE:Int->Prop}(g':∀{r:Hp}{X:Sl->Prop},az h r->X eN->Ld r ⟨b,16,none⟩ Sl.v X)(l17:∀{r:Hp}{X:Value->Prop},az h r->X w->Ld r ⟨b,17,none⟩ id X)(l18:∀{r:Hp}{X:Bool->Int->ByteArray->Sl->Prop},az h r->X q0 q1 q2 q3->bJ r ⟨b,18,none⟩ X)(sB:lW h U)(cB:One U)(HB:∀{E:Hp}{X:de},az h E->(∀v r,az E r->U v E.size r.size r->X v r)->uj (bz b) E X Kp)(s2:lW h V2)(c2:One V2)(H2:∀{E:Hp}{X:de},az h E->(∀v r,az E r->V2 v E.size r.size r->X v r)->kV w E X Kp)
  (p':∀{r:Hp}{X:Int->Prop},az h r->0<eN.n->(∀e:Int,HE e->X e)->Ix eN.a eN.n 1 ((eN.n:Int)-1) λa=>Ld r a mI X)
  (hn:eN.n<2^62) (B:∀J(e:Int)F0 KF l0 u0 l2 u2 r,(0<eN.n->HE e)->(eN.n=0->e=0)->ua h r J [#[F0],#[KF],#[pA b],#[ah (eN.n:Int)],#[.bool q0,ah q1,.string q2,Sl.v q3],#[ah e]] U V2 F0 KF l0 u0 l2 u2->K (.func (.func 242) #[] (J.map pA).toArray) r):NS (bz b) h K Kp:=by
 refine aua (bS:=[]) (o:=aaP) (zs:=[.nilFunc]) (Kv:=K) Tryz.func239 aV (S:=aH h #[pA b] 140 λj E=>zq aD (oY PL) (λfr h=>fV aD [] (ET aD aaP) none (sub [1,1] ad3) (mM aD [.tmp 2] [.nilFunc] K) Kp fr h) Kp (oY PL).size (List.range (oY PL).size) ([some (pA b),some (.pointer (some j)),some .nilFunc]++nn 34) E) ?_ aV aV;refine aG λj E e1 u R _=>zE (C:=pV U V2 b j eN w q0 q1 q2 q3) aV aV aV ⟨
  o0 1 _ λK h g B=>jX (R.ai g) B,
  oE 0,
  oE 1,
  oF 2 (sB.mo u.1) λK h g B=>HB (ak u g) B,
  o0 1 _ λK h g B=>jX (R.ai g) B,
  oE 4,
  oE 5,
  oX 6 λK h g B=>g' (X:=λs=>K (some s.v) h) (ak u g) B,
  oE 7,
  o0 1 (pA j) λK h g B=>jX (R.ai g) B,
  oE 9,
  oE 10,
  oX 11 λK h g B=>l18 (X:=λx0 x1 x2 x3=>K (some (.agg #[.bool x0,.int .i64 x1,.string x2,Sl.v x3])) h) (ak u g) B,
  o0 1 (pA j) λK h g B=>jX (R.ai g) B,
  oE 13,
  oE 14,
  oX 15 λK h g B=>l17 (X:=λs=>K (some s) h) (ak u g) B,
  oF 16 (s2.mo u.1) λK h g B=>H2 (X:=λF r=>K (some F) r) (ak u g) B,
  oA,
  oA,
  oA,
  oA,
  oS true cB,
  oS false (zB _),
  okS (raw:=false) aV rfl rfl (λv lo N h q=>by rw[show v=_ from q];exact⟨rfl,λy hy=>by simp[Value.cells,Sl.v]at hy;rcases hy with rfl|rfl|rfl|rfl <;> rfl,λe=>by cases e⟩),
  oS true c2,
  trivial⟩ λfr h2 F A lo N M=>?_
 have d:∀{i:Nat},i∉([]:cG):=pF;have s1:=u.1;obtain⟨p0,q0',y0,z0⟩:_/\_/\_/\_:=M.c 0 _ rfl d;rw[(q0':F 0=_)]at p0;obtain⟨p1,q1',y1,z1⟩:_/\_/\_/\_:=M.c 1 _ rfl d;rw[(q1':F 1=_)]at p1;obtain⟨p2,q2',y2,z2⟩:_/\_/\_/\_:=M.c 2 _ rfl d;rw[(q2':F 2=_)]at p2;obtain⟨p3,Y,y3,z3⟩:_/\_/\_/\_:=M.c 3 _ rfl d;obtain⟨p4,z',y4,z4⟩:_/\_/\_/\_:=M.c 4 _ rfl d;rw[(z':F 4=_)]at p4;obtain⟨p5,y',y5,z5⟩:_/\_/\_/\_:=M.c 5 _ rfl d;rw[(y':F 5=_)]at p5;obtain⟨p6,x',y6,z6⟩:_/\_/\_/\_:=M.c 6 _ rfl d;rw[(x':F 6=_)]at p6;obtain⟨p7,w',y7,z7⟩:_/\_/\_/\_:=M.c 7 _ rfl d;rw[(w':F 7=_)]at p7;obtain⟨p8,W,y8,z8⟩:_/\_/\_/\_:=M.c 8 _ rfl d;rw[(W:F 8=_)]at p8;obtain⟨p9,v',y9,z9⟩:_/\_/\_/\_:=M.c 9 _ rfl d;rw[(v':F 9=_)]at p9;obtain⟨f',o',y10,z10⟩:_/\_/\_/\_:=M.c 10 _ rfl d;rw[(o':F 10=_)]at f';obtain⟨e',n',y11,z11⟩:_/\_/\_/\_:=M.c 11 _ rfl d;rw[(n':F 11=_)]at e';obtain⟨d',D,y12,z12⟩:_/\_/\_/\_:=M.c 12 _ rfl d;rw[(D:F 12=_)]at d';obtain⟨c',m',y13,z13⟩:_/\_/\_/\_:=M.c 13 _ rfl d;rw[(m':F 13=_)]at c';obtain⟨b',l',y14,z14⟩:_/\_/\_/\_:=M.c 14 _ rfl d;rw[(l':F 14=_)]at b';obtain⟨a',k',y15,z15⟩:_/\_/\_/\_:=M.c 15 _ rfl d;rw[(k':F 15=_)]at a';obtain⟨Z,j',y16,z16⟩:_/\_/\_/\_:=M.c 16 _ rfl d;rw[(j':F 16=_)]at Z;obtain⟨p17,x,y17,q'⟩:_/\_/\_/\_:=M.c 17 _ rfl d;obtain⟨p18,y18,I⟩:_/\_/\_:=M.c 18 _ rfl d;obtain⟨p19,y19,p⟩:_/\_/\_:=M.c 19 _ rfl d;obtain⟨p20,y20,H⟩:_/\_/\_:=M.c 20 _ rfl d;obtain⟨p21,y21,G⟩:_/\_/\_:=M.c 21 _ rfl d;rw[aC d,(cB _ _ _ _ Y).2]at I;rw[aC d,(W:F 8=_)]at p;rw[aC d,(D:F 12=_)]at H;rw[aC d,(c2 _ _ _ _ x).2]at G;have p_0:fr.getD 0 none=some (pA b):=M.o.2 0 (by simp[pV,Cl.dst])
 have p_1:fr.getD 1 none=some (pA j):=M.o.2 1 (by simp[pV,Cl.dst])
 have p_2:fr.getD 2 none=some .nilFunc:=M.o.2 2 (by simp[pV,Cl.dst])
 have efr:fr=([some (pA b),some (pA j),some .nilFunc,some (pA (A 18)),some (pA (A 19)),some (pA (A 20)),some (pA (A 21)),none,some (pA b),some (pA b),some (.pointer (some ⟨b,0,none⟩)),some (F 3),some (pA b),some (pA b),some (.pointer (some ⟨b,16,none⟩)),some (Sl.v eN),some (.int .i64 (eN.n:Int)),some (pA b),some (pA b),some (.pointer (some ⟨b,18,none⟩)),some (.agg #[.bool q0,.int .i64 q1,.string q2,Sl.v q3]),some (pA b),some (pA b),some (.pointer (some ⟨b,17,none⟩)),some (w),some (F 17)]++nn 11):=at3 (by rw[M.o.1];rfl) λi N=>by
  match i,N with
  |0,_=>exact p_0
  |1,_=>exact p_1
  |2,_=>exact p_2
  |3,_=>exact p18
  |4,_=>exact p19
  |5,_=>exact p20
  |6,_=>exact p21
  |7,_=>exact M.o.2 7 (by simp[pV,Cl.dst])
  |8,_=>exact p0
  |9,_=>exact p1
  |10,_=>exact p2
  |11,_=>exact p3
  |12,_=>exact p4
  |13,_=>exact p5
  |14,_=>exact p6
  |15,_=>exact p7
  |16,_=>exact p8
  |17,_=>exact p9
  |18,_=>exact f'
  |19,_=>exact e'
  |20,_=>exact d'
  |21,_=>exact c'
  |22,_=>exact b'
  |23,_=>exact a'
  |24,_=>exact Z
  |25,_=>exact p17
  |26,_=>exact M.o.2 26 (by simp[pV,Cl.dst])
  |27,_=>exact M.o.2 27 (by simp[pV,Cl.dst])
  |28,_=>exact M.o.2 28 (by simp[pV,Cl.dst])
  |29,_=>exact M.o.2 29 (by simp[pV,Cl.dst])
  |30,_=>exact M.o.2 30 (by simp[pV,Cl.dst])
  |31,_=>exact M.o.2 31 (by simp[pV,Cl.dst])
  |32,_=>exact M.o.2 32 (by simp[pV,Cl.dst])
  |33,_=>exact M.o.2 33 (by simp[pV,Cl.dst])
  |34,_=>exact M.o.2 34 (by simp[pV,Cl.dst])
  |35,_=>exact M.o.2 35 (by simp[pV,Cl.dst])
  |36,_=>exact M.o.2 36 (by simp[pV,Cl.dst])
  |i+37,N=>exact absurd N (by simp[nn])
 subst efr;have i':=R.ai M.g;have gM:=ak u M.g;refine cast aV (show aH h2 #[.int .i64 0] 3 λk h3=>St h3 k (.int .i64 0) λf=>Ld f ⟨A 19,0,none⟩ mI λu'=>If (decide (u'>0)) (Ld f ⟨j,0,none⟩ Value.pointer λt'=>NN t' λp29=>Ld f (p29.add 16) Sl.v λV=>Ld f ⟨A 19,0,none⟩ mI λs'=>Wr .i64 (s'-1) λr'=>Ix V.a V.n 1 r' λa34=>Ld f a34 mI λP=>St f k (.int .i64 P) λm=>K (.func (.func 242) #[] #[pA (A 18),pA (A 21),pA (j),pA (A 19),pA (A 20),.pointer (some k)]) m) (K (.func (.func 242) #[] #[pA (A 18),pA (A 21),pA (j),pA (A 19),pA (A 20),.pointer (some k)]) f)from(aG λk h3 e7 g3 L _=>dc L aA rfl λf o4 L=>?_));have s3:=g3.1;have gM1:=gM.1;have t:az h2 f:=bE g3 o4 ag;have L:aN f k #[.int .i64 0] 3:=by simpa using L
 have a7l:=L.lt;have fin:∀(e:Int)m,eD k f m\/m=f->(0<eN.n->HE e)->(eN.n=0->e=0)->aN m k #[.int .i64 e] 3->K (.func (.func 242) #[] #[pA (A 18),pA (A 21),pA (j),pA (A 19),pA (A 20),.pointer (some ⟨k,0,none⟩)]) m:=by
  intro e m o5 he he0 k5;have Q:Tn (λc=>c=k) f m:=by rcases o5 with o|rfl;exact o.fr;exact iX _ _
  have O:az h2 m:=((bh t:Tn No h2 f).trans' Q λc q eW=>by omega).ai
  have z5:=O.1;refine B [A 18,A 21,j,A 19,A 20,k] e (F 3) (F 17) (lo 3) (N 3) (lo 17) (N 17) m he he0 ⟨ak gM O,rfl,λi a l=>?_,⟨?_,by omega,by omega⟩,⟨?_,by omega,by omega⟩,M.vv 3 17 _ _ _ _ rfl rfl d d aY⟩
  ·rcases i with _|_|_|_|_|_|i
   ·cases l;exact⟨by omega,M.av 18 17 _ _ _ _ _ _ _ rfl rfl d d,_,_,rfl,I.ai O⟩
   ·cases l;exact⟨by omega,M.av 21 17 _ _ _ _ _ _ _ rfl rfl d d,_,_,rfl,G.ai O⟩
   ·cases l;exact⟨by omega,λq=>by have:=R.lt;omega,_,_,rfl,i'.ai O⟩
   ·cases l;exact⟨by omega,M.av 19 17 _ _ _ _ _ _ _ rfl rfl d d,_,_,rfl,p.ai O⟩
   ·cases l;exact⟨by omega,M.av 20 17 _ _ _ _ _ _ _ rfl rfl d d,_,_,rfl,H.ai O⟩
   ·cases l;exact⟨by omega,λq=>by omega,_,_,rfl,k5⟩
   ·simp at l
  ·exact sB (λc=>c=k) _ _ _ _ _ (sB No _ _ _ _ _ Y ag z3 (bh t) λ_ q=>q.elim) ag (by have:=t.1;omega) Q λc q=>⟨by omega,by omega⟩
  ·exact s2 (λc=>c=k) _ _ _ _ _ (s2 No _ _ _ _ _ x ag q' (bh t) λ_ q=>q.elim) ag (by have:=t.1;omega) Q λc q=>⟨by omega,by omega⟩
 refine aj (p.ai t) rfl (aE (λT=>?_) λT=>?_)
 ·have T:=aM T;refine aj (i'.ai t) rfl ?_;refine bK ?_;refine g' (ak gM t) (aj (p.ai t) rfl (aW ag ag ?_));have q:=p' (X:=λP=>St f ⟨k,0,none⟩ (.int .i64 P) λm=>K (.func (.func 242) #[] #[pA (A 18),pA (A 21),pA (j),pA (A 19),pA (A 20),.pointer (some ⟨k,0,none⟩)]) m) (ak gM t) ag λe he=>dc L aA rfl λm o5 k5=>fin e m (.inl o5) (λ_=>he) (λz=>by omega) (by simpa using k5)
  exact q
 ·have T:=aM T;exact fin 0 f (.inr rfl) (λq=>by omega) (λ_=>rfl) L
section
variable {c:aq} {KM:List cN} {M:cN}
theorem aqY(d:f.k=20)(E:f.cs=[c])(C:MC c M):wZ f (cQ f [M]):=by
 intro T h v vs K Kp hc H hk;obtain⟨g,rfl,G⟩:=H;have R:=ni C;have ed:bG f.k=pL:=by unfold bG;rw[ay,ay,ay,ay,ay,ay,ay,aI d]
 have eb:gJ f.k=242:=by unfold gJ;rw[ay,ay,ay,ay,ay,ay,aI d]
 have N:∀o:Rb,cy f.k o=[(ints o.ends,Y6)]:=λo=>by unfold cy;rw[ay,dR]
 have eS:∀X h sp(o:Rb),iJ f.k X h sp o↔∃t,sp=[.bool (lD o).au,ah (lD o).num,.string _,Sl.v t]/\aR X h t (lD o).items:=λX h sp o=>by unfold iJ;rw[ay,aI d]
 obtain⟨u,j⟩:=rN G.ls (N _);obtain⟨A,w,U,P,c'⟩:=th G rfl;obtain⟨A0,Y⟩:∃A,g.ST[0]? =some A:=⟨_,bx (by rw[G.ls.2,N];exact Nat.one_pos)⟩
 have I:f.cs[0]? =some c:=by rw[E];rfl
 have O:u.n=(f.st vs).b.ends.length:=by have:=G.oy (i:=0) (s:=u) (by simp[j]) (by rw[N];rfl);rw[this,ints,cm]
 have aL:=G.aL 0 M A w rfl U P;have r:=mW I vs;have Z:∀c,A c->c<h.size:=λc q=>G.t.l (bL (g.fC U)) q;obtain⟨t,J,b'⟩:=(eS _ _ _ _).1 G.sp;have n4:=((gk f vs).1 hc).n4;have ee:(f.st vs).b.ends=(cO vs).2:=by rw[fF];simp only[aK];rw[ay,ay,ay,ay,aI d]
 have el:(f.st vs).b.ends.length<=4096:=by have:=(FE _ vs rfl).1;rw[ee];omega
 have p:∀{V:Hp},az h V->bR f [M] T V _ none g:=λgr=>G.fr R (bh gr) λ_ _ _=>id;have q:kV (.iface pL (bI g.b)) h K Kp:=by
  rw[r]at aL;refine avP (NS.mk (eN:=u) (q0:=(lD (f.st vs).b).au) (q1:=(lD (f.st vs).b).num) (q2:=bs (lD (f.st vs).b).text) (q3:=t) (V2:=lM M A w ((f.st vs).aL 0)) (HE:=λe=>e=(((f.st vs).b.ends.getLastD 0:Nat):Int)) (λgr y=>G.Bj (i:=0) R gr rfl (by simp[j]) y) (λgr y=>(p gr).lP (i:=1) rfl (.inr (.inr (.inr d))) (by simp[j]) P y) (λgr y=>?_) zY zZ (λgr x=>yz G.B gr x) (lM.qj C.fr Z) lM.one (λgr x=>?_) (λgr hp x=>?_) ag λa' e F0 KF l0 u0 l2 u2 V he W Q=>?_)
  ·have L:=(p gr).TI (.inr d) (by simp[j])
   rw[J]at L;exact gZ L y
  ·rw[r]at x;exact lM.call C (fy I hc) aL gr x
  ·have os:=(p gr).sl 0 u A0 (ints (f.st vs).b.ends,Y6) (by simp[j]) Y (by rw[N];rfl)
   have D:(f.st vs).b.ends≠[]:=λe=>by rw[e]at O;simp at O;omega
   refine os.sv.ix ag ag ?_ λa ha=>yU ha (x _ rfl);have e1:((u.n:Int)-1).toNat=(f.st vs).b.ends.length-1:=ag;rw[e1]
   show(ints (f.st vs).b.ends)[_]? =_
   unfold ints;rw[fh,<-UM,UH D,afd,UH D];rfl
  ·have ev:e=(((f.st vs).b.ends.getLastD 0:Nat):Int):=by
    by_cases z:u.n=0
    ·have:(f.st vs).b.ends=[]:=jv.1 ag;rw[W z,this];rfl
    ·exact he ag
   have:=G.J0 R E U P Q (.inr (.inr (.inr d))) (by unfold eM;rw[ay,ay,ay,ay,ay,aI d];exact⟨bP _,LW _,el⟩) (λ_=>by have:=(p Q.g).sp;rw[d]at this;exact this) (λF m=>?_) hk
   ·rw[eb]at this;exact this
   ·unfold jr;simp only;rw[ay,ay,ay,ay,ay,aI d];have e2:=J;rw[e2,O,ev];rfl
 rw[<-ed]at q;exact q
theorem al5(e:bC f)(a:f.k=20)(i:f.cs=[c])(C:MC c M)(t:jl c):wU f (cQ f [M]):=by
 intro T D h v vs m x s K u o d j H l p n;obtain⟨g,rfl,G⟩:=H;have r:bG f.k=pL:=by unfold bG;rw[ay,ay,ay,ay,ay,ay,ay,aI a]
 have q:mY _ x.au x.num _ s h K u:=avG (Zl e a i C t o d j G l (λc q _=>G.out (p c q)) n);rw[<-r]at q;exact q
theorem akg(d:bC f)(a:f.k=20)(e:f.cs=[c])(C:MC c M)(n:jl c):wR f (cQ f [M]):=by
 intro T h v vs m K o j H i;obtain⟨g,rfl,G⟩:=H;have l:bG f.k=pL:=by unfold bG;rw[ay,ay,ay,ay,ay,ay,ay,aI a]
 have q:mG _ h K o:=avx (aj7 d a e C n j G i);rw[<-l]at q;exact q
theorem JN(a:fH f.k=true){vs:aP}(d:f.can vs):(f.st vs).b.dV.length<=70000/\(f.st vs).b.texts.length<=70000:=by
 have e:=((gk f vs).1 d).n4;rw[fF];simp only[aK,a,gu,cm];omega
theorem al6(a:fH f.k=true):wU f (cQ f []):=by
 intro T D h v vs m x s K w d p A H B C t;obtain⟨g,rfl,G⟩:=H;obtain⟨r,z,y,o,n,l,j,i,e⟩:=zw a;have u:bG f.k=pK:=by unfold bG;rw[aC r,ay,aC o,aC n,aC l,aC j,aC i,aC e]
 have q:mY _ x.au x.num _ s h K w:=avH (Zm a qB G (JN a d).1 (JN a d).2 (by have:=(iI d).1;omega) (by have:=YS x;omega) t)
 rw[<-u]at q;exact q
theorem akh(p:bC f)(a:fH f.k=true):wR f (cQ f []):=by
 intro T h v vs m K w d H r;obtain⟨g,rfl,G⟩:=H;obtain⟨s,y,x,o,n,l,j,i,e⟩:=zw a;have u:bG f.k=pK:=by unfold bG;rw[aC s,ay,aC o,aC n,aC l,aC j,aC i,aC e]
 have q:mG (.iface pK (bI g.b)) h K w:=by
  have t:¬(16<=f.k/\f.k<=20):=ag;rw[vA (.inr t)]at r;refine avy (aDu ?_);refine bK ?_;exact gZ G.uR (Zm a qB G (JN a d).1 (JN a d).2 (by have:=(iI d).1;omega) (by have:=abd p;omega) r)
 rw[<-u]at q;exact q
end
theorem ay0{α:Type}{x:α}{K:α->Prop}(h:K x):Lt x K:=h
abbrev Xb(a:Nat)(t:TypeId)(h:Hp)(x:Int)(K:HP):Prop:=∀h',Tn (λc=>c=a) h h'->aN h' a #[.int .u64 x] t->K h'
section
variable {t:TypeId} {x:Int} {K:HP}
theorem SX{c:Int}(k:aN h a #[.int .u64 x] t)(d:Xb a t h (hB x c) K):IE (bz a) c h K Kp:=by
 apply aDC;simp only[ob];exact aj k rfl (dc k aA rfl λe o b=>d e o.fr (by simpa[hB]using b))
theorem SF{n:Int}(k:aN h a #[.int .u64 x] t)(m:Xb a t h (hN 8 x n) K):ID (bz a) n h K Kp:=by
 refine aDB (azb (λy i f=>∃j:Nat,i=j/\j<=8/\Tn (λc=>c=a) h f/\∃z,aN f a #[.int .u64 z] t/\hN (8-j) z y=hN 8 x n) (λ_ i _=>8-i.toNat) ⟨0,rfl,ag,iX _ _,x,k,rfl⟩ ?_)
 rintro y i p ⟨j,rfl,r,b,z,d,e⟩ N o;refine cL (λc=>?_) λc=>?_
 ·refine SX d λs g l=>js ag (ay0 (aW ag ag (o _ _ _ ⟨j+1,aA,ag,b.trans g,_,l,?_⟩ ag)))
  rw[<-e,show 8-j=8-(j+1)+1 by omega];rfl
 ·have:j=8:=ag;subst this;have q:z=hN 8 x n:=e;grind
def Xa(v:aB):Prop:=∀{D:aQ}{a:Nat}{t:TypeId}{h:Hp}{s:Sl}{x:Int}{K:HP}{Kp:PK},aR D h s v.items->¬D a->v.bq<=2^40->aN h a #[.int .u64 x] t->Xb a t h (v.nh x) K->NT (bz a) v.au v.num (bs v.text) s h K Kp
theorem acg:∀(l m:aP)(x:Int),uL (l++m) x=uL m (uL l x)
 |[],_,_=>by simp[uL]
 |v::l,m,x=>by simp only[yJ,uL];exact acg l m _
theorem asJ(IH:∀x∈v.items,Xa x):Xa v:=by
 intro D a t h s x K Kp E W hw k hk;have c':=gV v;have d':=Gg v;have hn:=E.n;have a':=k.lt;refine aDE (aG λY o e1 H V _=>?_);have k:=k.ai H;have E:=eR (aR.lt _ E) H;have l:∀{F:Hp},Tn (λc=>c=a) o F->aR _ F s v.items/\aN F Y #[.bool v.au,ah v.num,.string _,Sl.v s] dh:=λtn=>⟨aR.fr tn (λc q _ e=>W (e▸q.1)) (λ_ q=>q) _ E,tn.aZ V ag⟩;have J:∀{b:Int},b=(if v.au then 1 else 0)->Mt K Kp (bz a) (aJ Y) b o:=by
  intro b hb;refine aAL (SX k λF C k=>?_);simp only[bw,cz];refine aj (l C).2 rfl (SF k λh3 I k=>aj (l (C.trans I)).2 rfl (SF k λh4 U k=>aj (l ((C.trans I).trans U)).2 rfl ?_));rw[iV]at k ⊢;generalize R:hN 8 _ _=T at k;apply azd (λi r=>∃j:Nat,i=j/\j<=v.text.length/\Tn (λc=>c=a) o r/\aN r a #[.int .u64 (hT T (v.text.take j))] t) (λi _=>v.text.length-i.toNat) ⟨0,rfl,dN _,((C.trans I).trans U),k⟩;rintro i h5 ⟨j,rfl,hj,m,k⟩ N M;refine aE (λc=>?_) λc=>?_
  ·have c:=aM c;have f:j<v.text.length:=ag;refine aj (l m).2 rfl (yX (b:=v.text[j]) rfl (by grind[Jh,List.getElem?_eq_getElem]) (SX k λh6 B k=>aW ag ag (M _ _ ⟨j+1,aA,ag,m.trans B,?_⟩ ag)))
   grind[List.take_succ_eq_append_getElem,hT]
  ·have c:=aM c;have:j=v.text.length:=ag;subst this;rw[mz]at k;apply aAK;simp only[bw,cz];refine aj (l m).2 rfl (SF k λh6 B k=>aj (l (m.trans B)).2 rfl ?_);have en:(s.n:Int)=(v.items.length:Int):=by rw[hn.1]
   rw[en]at k ⊢;generalize Q:hN 8 (hT T v.text) _=S at k;have y:v.nh x=uL v.items S:=by
    rw[<-Q,<-R,hb];obtain⟨a,b,c,d⟩:=v;rfl
   apply aze (λi r=>∃j:Nat,i=j/\j<=v.items.length/\Tn (λc=>c=a) o r/\aN r a #[.int .u64 (uL (v.items.take j) S)] t) (λi _=>v.items.length-i.toNat) ⟨0,rfl,dN _,(m.trans B),by simpa[uL]using k⟩
   rintro i O ⟨j,rfl,hj,A,k⟩ N M;refine cL (λc=>?_) λc=>?_
   ·have f:j<v.items.length:=ag;have L:=bx f;have w:=kg f;generalize v.items[j]=z at L w;have g:=bL L;have b':=oh g;refine(l A).1.ix rfl L λp u cx hz=>gZ cx (aG λa7 h8 e8 g8 k8 _=>lT k8 rfl λX Z k9=>eY k9 ?_);have G:=bE g8 Z ag;refine IH z g (eR hz G) (λq=>W q.1) ag (k.ai G) λe' P k=>aW ag ag (M _ _ ⟨j+1,aA,ag,A.trans ((bh G:Tn _ O X).trans P),?_⟩ ag)
    rw[w,acg];simpa[uL]using k
   ·have:j=v.items.length:=ag;subst this;rw[mz,<-y]at k;exact hk O ((bh H:Tn _ h o).trans A) k
 exact aj V rfl (aE (λc=>J (by rw[aI c])) λc=>J (by rw[c];rfl))
theorem acf:∀v:aB,Xa v
 |.mk a b c items=>asJ (v:=.mk a b c items) λx(_:x∈items)=>acf x
theorem SY(v:aB){D:aQ}{s:Sl}{K:cJ}(o:aR D h s v.items)(n:v.bq<=2^40)(p:∀i,az h i->K v.hash i):IG v.au v.num (bs v.text) s h K Kp:=by
 refine aDI (aG λF B e1 k g _=>aG λE A C e d _=>dc d aA rfl λu f d=>eY (f.aZ (g.ai e) ag) ?_)
 have j:=bE (ak k e) f ag;exact acf v (eR (aR.lt _ o) j) (λq=>ag) n (by simpa using d) λr l m=>aj m rfl (p r (((bh j:Tn No h u).trans' l λc q w=>ag).ai))
end
theorem Kn(aF:aP)(n:Nat)(u:Int):hl aF (n+1) u=hl aF n u++if(aF.getD n v0).hash=u then[n]else[]:=by
 grind[hl,List.range_succ]
theorem SG(aF:aP)(n:Nat)(u:Int):(hl aF n u).length<=n:=by
 have:=UL (λi=>decide ((aF.getD i v0).hash=u)) (List.range n);rw[Hy]at this;exact this
theorem RO{n:Nat}{u:Int}:i∈hl aF n u↔i<n/\(aF.getD i v0).hash=u:=by
 unfold hl;simp
theorem as9{v w:aP}{n:Nat}(h:∀i,i<n->v.getD i v0=w.getD i v0)(u:Int):hl v n u=hl w n u:=by
 grind[hl,List.filter_congr]
theorem Th{α:Type}{f:α->α}{l:List α}:(l.modify j f)[i]? =if j=i then(l[i]?).map f else l[i]? :=by
 grind
section
variable {es:List MapEntry} {P P':Int->Prop} {S S':Int->Sl} {mr c:Nat} {ea:Array MapEntry}
theorem nE.key(E:nE es P S):∀x∈es,MapKept.IsKey (.int .u64) x.key:=λx b=>by obtain⟨u,e,_⟩:=E.a x b;rw[e];rfl
theorem nE.congr(E:nE es P S)(f:∀u,P u↔P' u)(p:∀u,P u->S u=S' u):nE es P' S':=
 ⟨λe i=>by obtain⟨u,e1,j,d⟩:=E.a e i;grind,λu g=>E.b u ((f u).2 g),E.c⟩
theorem nE.find(E:nE es P S)(u:Int):(P u/\∃j e,Instr.findNow (.int .u64) (.int .u64 u) es 0=some (some (j,Sl.v (S u)))/\es[j]? =some e/\e.key=.int .u64 u)\/(¬P u/\Instr.findNow (.int .u64) (.int .u64 u) es 0=some none/\∀x∈es,x.key≠.int .u64 u):=by
 rcases MapKept.findNow_spec (d:=.int .u64) (k:=.int .u64 u) rfl es 0 E.key with⟨g,f⟩|⟨j,e,g,f,i⟩
 ·refine .inr ⟨λp=>?_,g,f⟩;obtain⟨e,m,l⟩:=E.b u p;exact f e m l
 ·obtain⟨w,e1,q,o⟩:=E.a e (bL f);grind
theorem nE.ne(E:nE es P S){i j:Nat}{x y:MapEntry}(o:es[i]? =some x)(l:es[j]? =some y)(e:x.key=y.key):i=j:=by
 have d:=uZ.1 E.c;grind
theorem nE.lk{K:Sl->Bool->Prop}{u:Int}(E:nE ea.toList P S)(k:h[mr]? =some (.map ea c)){a:Sl}(f:P u->S u=a)(d:¬P u->a=Sl.nil)(b:∀ok,K a ok):Lk h (some mr) (.int .u64) (.int .u64 u) (.slice none 0 0) Sl.v K:=by
 unfold Lk;rcases E.find u with⟨p,j,e,q,_⟩|⟨p,q,_⟩
 ·exact⟨ea,c,_,k,q,S u,rfl,by rw[f p];exact b _⟩
 ·exact⟨ea,c,_,k,q,Sl.nil,rfl,by rw[<-d p];exact b _⟩
theorem zp{o:Obj}(a:mr<h.size):eD mr h (h.setIfInBounds mr o)/\(h.setIfInBounds mr o)[mr]? =some o:=
 ⟨⟨aA,λd b=>bU⟩,dM⟩
open Classical in
theorem nE.put{K:HP}{u:Int}(E:nE ea.toList P S)(k:h[mr]? =some (.map ea c))(hk:∀h' KO c',eD mr h h'->h'[mr]? =some (.map KO c')->nE KO.toList (λw=>P w\/w=u) (λw=>if w=u then s else S w)->K h'):Up h (some mr) (.int .u64) (.int .u64 u) (Sl.v s) K:=by
 have hm:=(kS.1 k).1
 unfold Up
 rcases E.find u with⟨p,j,e,q,hj,ek⟩|⟨p,q,hx⟩
 ·refine⟨ea,c,_,k,q,hk _ _ _ (zp hm).1 (zp hm).2 ?_⟩
  have tl:(ea.modify j λe=>{e with key:=.int .u64 u,val:=Sl.v s}).toList=ea.toList.modify j λe=>{e with key:=.int .u64 u,val:=Sl.v s}:=aA
  have get:∀(i:Nat)x,(ea.toList.modify j λe=>{e with key:=.int .u64 u,val:=Sl.v s})[i]? =some x->(i=j/\x.key=.int .u64 u/\x.val=Sl.v s)\/(i≠j/\ea.toList[i]? =some x):=by
   intro i x hi
   rw[Th]at hi
   by_cases e0:j=i
   ·subst e0
    rw[aI rfl,hj]at hi
    cases hi;exact .inl ⟨rfl,rfl,rfl⟩
   ·rw[aC e0]at hi
    exact .inr ⟨λz=>e0 z.symm,by simpa using hi⟩
  refine⟨λx hx=>?_,λw hw=>?_,?_⟩
  ·rw[tl]at hx
   obtain⟨i,hi⟩:=ri.1 hx
   rcases get i x hi with⟨_,e1,e2⟩|⟨ne,kK⟩
   ·simp[*]
   ·obtain⟨w,e1,e2,e3⟩:=E.a x (bL kK)
    grind[ne]
  ·rw[tl]
   by_cases e0:w=u
   ·subst e0
    exact⟨_,ri.2 ⟨j,by rw[Th,aI rfl,hj];rfl⟩,rfl⟩
   ·obtain⟨x,hx,e1⟩:=E.b w (hw.resolve_right e0)
    obtain⟨i,hi⟩:=ri.1 hx
    have:j≠i:=λz=>by simp_all
    exact⟨x,ri.2 ⟨i,by rw[Th,aC this,hi]⟩,e1⟩
  ·have:=MapKept.modify_keys (es:=ea) j (λe=>{e with key:=.int .u64 u,val:=Sl.v s}) λx hx=>by
    simp_all
   have hc:=E.c
   rw[<-List.pairwise_map (R:=λx y=>x≠y)]at hc⊢
   rw[this];exact hc
 ·refine⟨ea,c,_,k,q,hk _ _ _ (zp hm).1 (zp hm).2 ?_⟩
  refine⟨λx hx'=>?_,λw hw=>?_,?_⟩
  ·rw[L5]at hx'
   rcases nt.1 hx' with q1|q1
   ·obtain⟨w,e1,e2,e3⟩:=E.a x q1
    have:w≠u:=λz=>hx x q1 (by rw[e1,z])
    simp_all
   simp_all
  ·rw[L5]
   by_cases e0:w=u
   ·simp[*]
   ·obtain⟨x,q1,e1⟩:=E.b w (hw.resolve_right e0)
    grind[List.mem_append_left]
  ·rw[L5,LV]
   exact⟨E.c,Ac _ _,λx q1 y q2=>by simp_all⟩
theorem nE.del{K:HP}{u:Int}(E:nE ea.toList P S)(k:h[mr]? =some (.map ea c))(r:∀m f B,eD mr h m->m[mr]? =some (.map f B)->nE f.toList (λw=>P w/\w≠u) S->K m):zb h (some mr) (.int .u64) (.int .u64 u) K:=by
 have l:=(kS.1 k).1;unfold zb;rcases E.find u with⟨p,j,e,q,s,t⟩|⟨p,q,g⟩
 ·refine⟨ea,c,_,k,q,r _ _ _ (zp l).1 (zp l).2 ?_⟩;have v:(ea.eraseIdxIfInBounds j).toList=ea.toList.eraseIdx j:=aA
  rw[v];refine⟨λx g=>?_,λw o=>?_,E.c.sublist (List.eraseIdx_sublist ..)⟩
  ·obtain⟨i,ne,d⟩:=List.mem_eraseIdx_iff_getElem?.1 g;obtain⟨w,e1,A,y⟩:=E.a x (bL d);grind[ne]
  ·obtain⟨x,g,e1⟩:=E.b w o.1;grind[List.mem_iff_getElem?,List.mem_eraseIdx_iff_getElem?]
 ·refine⟨ea,c,_,k,q,r _ _ _ (zp l).1 (zp l).2 (E.congr (λw=>⟨λz=>⟨z,λe=>p (e▸z)⟩,λz=>z.1⟩) λ_ _=>rfl)⟩
end
section
variable {X:aQ} {sv:Sl} {mr n:Nat} {u:Int}
open Classical in
theorem ga.add(d:ga X h sv mr aF n)(S9:∀c,X c->c<h.size)(hn:n<=5000)(hu:(aF.getD n v0).hash=u):∃s0:Sl,
  (∀{h1:Hp}{K:Sl->Bool->Prop},az h h1->(∀ok,K s0 ok)->Lk h1 (some mr) (.int .u64) (.int .u64 u) (.slice none 0 0) Sl.v K)/\
  ∀{h1:Hp}{a:Nat}{t:TypeId}{K:HP}{b:Nat}{cs:Array Value}{el:TypeId},az h h1->aN h1 a #[ah (n:Int)] t->aN h1 b cs el->¬X b->(∀h3,Tn X h1 h3->ga (Tr X h1 h3) h3 sv mr aF (n+1)->K h3)->
   Ap h1 Y6 #[ah 0] 1 8 s0 1 (rd h1 (bz a) (1*1)) λt83 h2=>aU h1 h2 ⟨b,19,none⟩ 1 (Up h2 (some mr) (.int .u64) (.int .u64 u) (Sl.v t83) K):=by
 obtain⟨Xi,ts,S,bk,⟨q1,q2,q3,q4,q5⟩,⟨p1,p2,p3⟩,es,c,e1,E⟩:=d
 have hm:=(kS.1 e1).1
 refine⟨if hl aF n u≠[]then S u else Sl.nil,λ{h1 K}g hk=>E.lk ((g.2 mr hm).trans e1) (λp=>dM) (λp=>dM) hk,?_⟩
 intro h1 a t K b cs el g ka kb hb hk
 have s1:=g.1
 have o:Os (λc=>hl aF n u≠[]/\c=bk u) h1 (if hl aF n u≠[]then S u else Sl.nil) (ints (hl aF n u)) Y6:=by
  by_cases p:hl aF n u≠[]
  ·rw[aI p];exact .inr ⟨bk u,⟨p,rfl⟩,(q4 u p).2.2.ai g⟩
  ·rw[aC p];exact .inl ⟨rfl,by rw[not_not.1 p];rfl⟩
 have on:=o.n
 rw[ints,cm]at on
 have hlen:=SG aF n u
 refine o.BY (news:=[ah (n:Int)]) rfl (λx hx=>by rw[mA]at hx;subst hx;rfl) rfl (iM ka rfl) ag ag λs' h2 t2 os=>mF kb (t2.aZ kb λq=>hb (q.2▸(q4 u q.1).1)) ?_
 obtain⟨b',xR,own⟩:∃b',Or (λc=>hl aF n u≠[]/\c=bk u) h1 b'/\gU h2 s' b' (ints (hl aF n u)++[ah (n:Int)]) Y6:=by
  rcases os with⟨_,e⟩|⟨b',q,o⟩
  ·simp at e
  ·exact⟨b',q,o⟩
 have s2:=t2.1
 have em:h2[mr]? =some (.map es c):=(t2.2 mr ag λq=>(q4 u q.1).2.1 q.2.symm).trans ((g.2 mr hm).trans e1)
 refine E.put em λh3 KO c' o3 e3 E3=>hk h3 ?_ ?_
 ·exact(t2.mono λc q _=>q.2▸(q4 u q.1).1).trans (o3.fr.mono λc q _=>q▸q3)
 have s3:=o3.1
 have T3:Tn (λc=>(hl aF n u≠[]/\c=bk u)\/c=mr) h h3:=(bh g:Tn _ h h1).trans ((t2.mono λc q _=>.inl q).trans (o3.fr.mono λc q _=>.inr q))
 have eP:∀w,hl aF (n+1) w≠[]↔hl aF n w≠[]\/w=u:=λw=>by
  rw[Kn,hu]
  by_cases e:u=w
  all_goals simp_all[aC,sD]
 have bl:b'<h2.size:=own.lt
 have ne:∀c,X c->(∀w,hl aF n w≠[]->c≠bk w)->∀w,hl aF (n+1) w≠[]->c≠if w=u then b' else bk w:=λc hc hw w pw=>by
  by_cases e:w=u
  ·rw[aI e]
   rcases xR with q|q
   ·rw[q.2];exact hw u q.1
   ·have:=S9 c hc;omega
  simp_all
 refine⟨Xi,ts,λw=>if w=u then s' else S w,λw=>if w=u then b' else bk w,⟨λc hc=>⟨.inl (q1 c hc).1,(q1 c hc).2.1,(q1 c hc).2.2.1,ne c (q1 c hc).1 (q1 c hc).2.2.2⟩,λc hc=>⟨.inl (q2 c hc).1,(q2 c hc).2.1,ne c (q2 c hc).1 (q2 c hc).2.2⟩,.inl q3,λw pw=>?_,λv w pv pw vw=>?_⟩,⟨p1,?_,λj v t h1 h2=>?_⟩,KO,c',e3,E3.congr (λw=>(eP w).symm) λ_ _=>rfl⟩
 ·dsimp only
  by_cases e:w=u
  ·rw[aI e]
   have nm:b'≠mr:=by
    rcases xR with q|q
    ·rw[q.2];exact(q4 u q.1).2.1
    ·omega
   refine⟨?_,nm,?_⟩
   ·rcases xR with q|q
    ·rw[q.2];exact .inl (q4 u q.1).1
    ·exact .inr ⟨q,ag⟩
   ·have ei:ints (hl aF (n+1) w)=ints (hl aF n u)++[ah (n:Int)]:=by rw[Kn,e,aI hu];simp[ints]
    simp only[aI e]
    rw[ei]
    exact own.only o3 nm
  ·have FM:=((eP w).1 pw).resolve_right e
   simp only[aC e]
   obtain⟨r1,r2,r3⟩:=q4 w FM
   refine⟨.inl r1,r2,?_⟩
   have ei:hl aF (n+1) w=hl aF n w:=by rw[Kn,hu,aC (sD e),oH]
   rw[ei]
   exact r3.fr T3 λq=>q.elim (λq=>q5 w u FM q.1 e q.2) r2
 ·dsimp only
  by_cases e:v=u
  ·have ew:w≠u:=λz=>vw (e.trans z.symm)
   have FM:=((eP w).1 pw).resolve_right ew
   rw[aI e,aC ew]
   rcases xR with q|q
   ·rw[q.2];exact q5 u w q.1 FM (e▸vw)
   ·have:=S9 _ (q4 w FM).1;omega
  ·have PV:=((eP v).1 pv).resolve_right e
   rw[aC e]
   by_cases ew:w=u
   ·rw[aI ew]
    rcases xR with q|q
    ·rw[q.2];exact q5 v u PV q.1 e
    ·have:=S9 _ (q4 v PV).1;omega
   ·rw[aC ew];exact q5 v w PV (((eP w).1 pw).resolve_right ew) vw
 ·exact PE p2 T3 λc hc q=>q.elim (λq=>(q2 c hc).2.2 u q.1 q.2) (q2 c hc).2.1
 ·exact aR.fr T3 (λc hc _ q=>q.elim (λq=>(q1 c hc).2.2.2 u q.1 q.2) (q1 c hc).2.2.1) (λ_ z=>z) _ (p3 j v t h1 h2)
open Classical in
theorem ga.sub(d:ga X h sv mr aF (n+1))(hu:(aF.getD n v0).hash=u):∃s0:Sl,(∀{K:Sl->Bool->Prop},(∀ok,K s0 ok)->Lk h (some mr) (.int .u64) (.int .u64 u) (.slice none 0 0) Sl.v K)/\s0.n=(hl aF n u).length+1/\
  ∀{K:Sl->Prop},(∀s1,(∀{K:HP},(∀h2,eD mr h h2->(hl aF n u≠[]->ga X h2 sv mr aF n)->(hl aF n u=[]->∀{K:HP},(∀h3,eD mr h h3->ga X h3 sv mr aF n->K h3)->zb h2 (some mr) (.int .u64) (.int .u64 u) K)->K h2)->Up h (some mr) (.int .u64) (.int .u64 u) (Sl.v s1) K)->K s1)->
   jA s0 1 none (some ((hl aF n u).length:Int)) none K:=by
 obtain⟨Xi,ts,S,bk,⟨q1,q2,q3,q4,q5⟩,⟨p1,p2,p3⟩,es,c,e1,E⟩:=d
 have hm:=(kS.1 e1).1
 have eh:∀w,hl aF (n+1) w=hl aF n w++if u=w then[n]else[]:=λw=>by rw[Kn,hu]
 have pu:hl aF (n+1) u≠[]:=by rw[eh,aI rfl];simp
 have eP:∀w,hl aF n w≠[]->hl aF (n+1) w≠[]:=λw q=>by rw[eh];simp[q]
 have eP':∀w,hl aF (n+1) w≠[]->w≠u->hl aF n w≠[]:=λw q ne=>by simp_all[aC,sD,oH]
 have own:=(q4 u pu).2.2
 have o:Os (λc=>c=bk u) h (S u) (ints (hl aF (n+1) u)) Y6:=.inr ⟨bk u,rfl,own⟩
 have on:=o.n
 rw[ints,cm,eh,aI rfl,ij,jw]at on
 refine⟨S u,λhk=>E.lk e1 (λ_=>rfl) (λp=>absurd pu p) hk,on,λ{K}hK=>o.cut ag rfl λs1 n1 o1=>hK s1 λ{K}hk=>?_⟩
 refine E.put e1 λh2 es2 c2 o2 k2 E2=>?_
 have Gt:mr<h2.size:=by rw[o2.1];exact hm
 have etk:(ints (hl aF (n+1) u)).take (hl aF n u).length=ints (hl aF n u):=by
  rw[eh,aI rfl];unfold ints;rw[kR,UQ aA,qu aA]
 rw[etk]at o1
 have fin:∀{h3:Hp}{GN c3},eD mr h h3->h3[mr]? =some (.map GN c3)->nE GN.toList (λw=>hl aF n w≠[]) (λw=>if w=u then s1 else S w)->ga X h3 sv mr aF n:=by
  intro h3 GN c3 o3 k3 E3
  refine⟨Xi,ts,λw=>if w=u then s1 else S w,bk,⟨λc hc=>⟨(q1 c hc).1,(q1 c hc).2.1,(q1 c hc).2.2.1,λw pw=>(q1 c hc).2.2.2 w (eP w pw)⟩,λc hc=>⟨(q2 c hc).1,(q2 c hc).2.1,λw pw=>(q2 c hc).2.2 w (eP w pw)⟩,q3,λw pw=>?_,λv w pv pw=>q5 v w (eP v pv) (eP w pw)⟩,⟨p1,?_,λj v t h1 h2=>?_⟩,GN,c3,k3,E3⟩
  ·obtain⟨r1,r2,r3⟩:=q4 w (eP w pw)
   refine⟨r1,r2,?_⟩
   by_cases e:w=u
   ·simp only[aI e]
    subst e
    rcases o1 with⟨_,e⟩|⟨b,rfl,o1⟩
    ·exact absurd (Vd.1 e) pw
    ·exact o1.only o3 r2
   ·simp only[aC e]
    rw[eh,aC (sD e),oH]at r3
    exact r3.only o3 r2
  ·exact PE p2 o3.fr λc hc q=>(q2 c hc).2.1 q
  ·exact aR.fr o3.fr (λc hc _ q=>(q1 c hc).2.2.1 q) (λ_ z=>z) _ (p3 j v t h1 h2)
 refine hk h2 o2 (λne=>fin o2 k2 (E2.congr (λw=>⟨λq=>?_,λq=>.inl (eP w q)⟩) λ_ _=>rfl)) λem K hk=>E2.del k2 λh3 GN c3 o3 k3 E3=>hk h3 (o2.trans o3) (fin (o2.trans o3) k3 (E3.congr (λw=>⟨λq=>?_,λq=>⟨.inl (eP w q),λz=>q (z▸em)⟩⟩) λ_ _=>rfl))
 ·rcases q with q|rfl
  ·by_cases e:w=u
   ·exact e▸ne
   ·exact eP' w q e
  ·exact ne
 ·exact eP' w (q.1.resolve_right q.2) q.2
end
section
variable {X:aQ} {sv:Sl} {mr n:Nat} {u:Int} {x y:aB} {t:Sl}
theorem zJ{m:aP}(a:n<=aF.length)(u:Int):hl (aF++m) n u=hl aF n u:=
 as9 (λi b=>bU) u
theorem EZ{a:List Sl}(hl:a.length=aF.length):List.zipWith aB.row (aF++[x]) (a++[t])=List.zipWith aB.row aF a++[x.row t]:=by
 simp_all[HO]
theorem ga.push{K:Sl->HP}(d:ga X h sv mr aF n)(w:∀c,X c->c<h.size)(e:n<=aF.length)(hn:aF.length<=5000)(W:aN h a #[.bool false,ah 0,.string (bs []),.slice none 0 0] ty)
  (Z:∀k g,Tn X h g->ga (Tr X h g) g k mr (aF++[AP]) n->K k g):Ap h dh fU 4 56 sv 1 (rd h (bz a) (1*4)) K:=by
 obtain⟨Xi,O,S,bk,⟨J,i,R,I,Q⟩,⟨F,L,U⟩,es,c,e1,E⟩:=d;have Y:=(kS.1 e1).1;have V:=L.n;rw[oG]at V;refine L.ap (dN _) rfl (new:=[AP.row Sl.nil]) rfl (λr l=>by simp at l;subst l;rfl) (λr l=>by grind[AO]) (iM W rfl) ag ag λk g f H M=>Z k g (f.mono λc q _=>(i c q).1) ?_
 have p:∀c,k.at c->sv.at c\/(h.size<=c/\c<g.size):=λc q=>(H c q).imp id λT=>⟨T,(M.at q).2⟩;refine⟨Xi,O++[Sl.nil],S,bk,⟨λc m=>?_,λc m=>?_,.inl R,λu b=>?_,λu v b N=>?_⟩,⟨by simp[F],by rw[EZ F];exact M,λj v t o G=>?_⟩,es,c,(f.2 mr Y λq=>(i mr q).2.1 rfl).trans e1,E.congr (λu=>by rw[zJ e]) λ_ _=>rfl⟩
 ·obtain⟨A,C,B,P⟩:=J c m;have:=w c A;exact⟨.inl A,λq=>(p c q).elim C λq=>ag,B,λu b=>P u (by rw[zJ e]at b;exact b)⟩
 ·rcases p c m with q|q
  ·grind[zJ]
  ·exact⟨.inr q,ag,λu b=>by rw[zJ e]at b;grind⟩
 ·rw[zJ e]at b ⊢;obtain⟨A,C,B⟩:=I u b;exact⟨.inl A,C,B.fr f λq=>(i _ q).2.2 u b rfl⟩
 ·rw[zJ e]at b N;grind
 ·rcases xu F G with⟨a',G⟩|⟨rfl,rfl⟩
  ·rw[iQ ag]at o;exact aR.fr f (λc m _ q=>(J c m).2.1 q) (λ_ z=>z) _ (U j v t o G)
  ·rw[gm (bP _)]at o;simp at o;subst o;exact qt g
theorem ga.len(d:ga X h sv mr aF n):sv.n=aF.length:=by
 obtain⟨i,c,S,g,_,⟨f,a,e⟩,_⟩:=d;have b:=a.n;simp[*]
theorem ga.set(d:ga X h sv mr (aF++[y]) n):∃m,X m/\sv.a=some (aJ m)/\(∀{K:Addr->Prop},K ⟨m,aF.length*4,none⟩->Ix sv.a sv.n 4 (aF.length:Int) K)/\
  ∀{X:aQ}{h:Hp}{K:HP}{t:Sl},ga X h sv mr (aF++[y]) n->n<=aF.length->aR D h t x.items->(∀c,D c->¬X c)->(∀h',Tn X h h'->ga (λc=>X c\/D c) h' sv mr (aF++[x]) n->K h')->ji h ⟨m,aF.length*4,none⟩ 0 (x.row t) K:=by
 have dn:=d.len;rw[ij,jw]at dn;obtain⟨m,G,hX⟩:∃m,sv.a=some (aJ m)/\X m:=by
  obtain⟨Xi,O,S,bk,⟨T,A,R,Q,q5⟩,⟨M,U,p3⟩,_⟩:=d;rcases U.cases with⟨p,_⟩|⟨m,_,r⟩
  ·rw[p]at dn;simp[Sl.nil]at dn
  ·exact⟨m,r.a,(A m ⟨_,r.a,rfl⟩).1⟩
 refine⟨m,hX,G,λ{K}W=>?_,?_⟩
 ·unfold Ix;rw[G];refine⟨ag,ag,?_⟩
  rw[bw]
  simpa using W
 intro X h K t d Z N hD W;obtain⟨Xi,O,S,bk,⟨T,A,R,Q,q5⟩,⟨M,U,p3⟩,es,c,e1,E⟩:=d;rcases U.cases with⟨p,_⟩|⟨I,_,r⟩
 ·rw[p]at dn;simp[Sl.nil]at dn
 have eb:I=m:=by have:=r.a;rw[G]at this;cases this;rfl
 subst eb;obtain⟨k,t',rfl⟩:∃l z,O=l++[z]:=by
  rcases List.eq_nil_or_concat O with e|⟨l,z,e⟩
  all_goals simp_all
 have C:k.length=aF.length:=by simpa using M
 have zl:(List.zipWith aB.row aF k).length=aF.length:=by rw[oG,C,Ef]
 rw[EZ C]at r;refine r.set (by simp[zl]) rfl (AO x t) λh' F B=>?_
 have J:∀c,sv.at c↔c=I:=λc=>⟨λ⟨a,ha,e⟩=>by rw[G]at ha;cases ha;exact e.symm,λe=>⟨_,G,e.symm⟩⟩
 have a':(List.zipWith aB.row aF k++[y.row t']).set aF.length (x.row t)=List.zipWith aB.row (aF++[x]) (k++[t]):=by
  rw[EZ C,wK _ _ ag,zl];simp
 rw[a']at B;have o:=A I ((J I).2 rfl);apply W h' (F.fr.mono λc q _=>q▸o.1);have b:∀(z:aB)u,hl (aF++[z]) n u=hl aF n u:=λz u=>zJ Z u;refine⟨λc=>Xi c\/D c,k++[t],S,bk,⟨λc g=>?_,λc g=>⟨.inl (A c g).1,(A c g).2.1,λu f=>(A c g).2.2 u (by rw[b]at f ⊢;exact f)⟩,.inl R,λu f=>?_,λu v f N=>?_⟩,⟨by simp[C],⟨B.len,B.n,.inr ⟨I,dN _,B.lt,B.own⟩⟩,λj v w H Y=>?_⟩,es,c,(F.2 mr (λq=>o.2.1 q.symm)).trans e1,E.congr (λu=>by rw[b,b]) λ_ _=>rfl⟩
 ·rcases g with g|g
  ·obtain⟨p,P,L,r4⟩:=T c g;exact⟨.inl p,P,L,λu f=>r4 u (by rw[b]at f ⊢;exact f)⟩
  ·have V:=hD c g;exact⟨.inr g,λq=>V (A c q).1,λq=>V (q▸R),λu f q=>V (q▸(Q u (by rw[b]at f ⊢;exact f)).1)⟩
 ·rw[b]at f;obtain⟨p,P,L⟩:=Q u (by rw[b];exact f)
  rw[b]at L ⊢;exact⟨.inl p,P,L.only F λq=>o.2.2 u (by rw[b];exact f) q.symm⟩
 ·rw[b]at f N;exact q5 u v (by rw[b];exact f) (by rw[b];exact N)
 ·rcases xu C Y with⟨b',Y⟩|⟨rfl,rfl⟩
  ·rw[iQ ag]at H;exact aR.fr F.fr (λc g _ q=>(T c g).2.1 ((J c).2 q)) (λ_ z=>.inl z) _ (p3 j v w (by rw[iQ ag];exact H) (by rw[iQ ag];exact Y))
  ·rw[gm (bP _)]at H;simp at H;subst H;exact aR.fr F.fr (λc g _ q=>hD c g (q▸o.1)) (λ_ z=>.inr z) _ N
theorem ga.cut{m:Nat}{K:Sl->Prop}(d:ga X h sv mr aF n)(z:n<=m)(C:m<=aF.length)(e:k=m)(R:∀s',ga X h s' mr (aF.take m) n->K s'):jA sv 4 none (some k) none K:=by
 subst e;have dn:=d.len;obtain⟨Xi,l,S,bk,⟨q1,Z,Y,W,V⟩,⟨O,N,p3⟩,L,c,e1,E⟩:=d;have cap:=N.cap;refine⟨Ej _,aA,by simp;omega,aA,?_⟩
 simp only[tT,oI,L4,fR,Ma];have g:∀u,hl (aF.take m) n u=hl aF n u:=by grind[zJ,List.length_take,List.take_append_drop]
 have fin:∀s':Sl,(∀c,s'.at c->sv.at c)->eT 0 4 h s' (List.zipWith aB.row (aF.take m) (l.take m)) dh->ga X h s' mr (aF.take m) n:=by
  intro s' w o;refine⟨Xi,l.take m,S,bk,⟨λc I=>?_,λc I=>?_,Y,λu f=>?_,λu v f Q=>?_⟩,⟨by simp[O],o,λj v t z C=>?_⟩,L,c,e1,E.congr (λu=>by rw[g]) λ_ _=>rfl⟩
  ·obtain⟨p,B,G,U⟩:=q1 c I;exact⟨p,λq=>B (w c q),G,λu f=>U u (by rw[g]at f;exact f)⟩
  ·simp_all
  ·rw[g]at f ⊢;exact W u f
  ·rw[g]at f Q;exact V u v f Q
  ·rw[US]at z C;split at z
   ·rename_i q;rw[aI q]at C;exact p3 j v t z C
   ·cases z
 rcases N.cases with⟨p,B⟩|⟨b,hb,r⟩
 ·have:aF.length=0:=by rw[p]at dn;exact dn.symm
  have:m=0:=ag;subst this;rw[p];refine R _ (fin _ (λc⟨a,J,_⟩=>by simp[me,Sl.nil]at J) ?_)
  have L:(⟨me Sl.nil.a 0 Sl.nil.c 4,0,Sl.nil.c⟩:Sl)=Sl.nil:=by simp[me,Sl.nil]
  rw[L];exact qY _ _ _ _
 ·obtain⟨M,a2,cs,T,a4,a5,a6⟩:=r.own;have ea:me sv.a 0 sv.c 4=some (aJ b):=by
   simp only[me];split
   ·exact M
   ·rw[M];simp[bw]
  rw[ea];have A:List.zipWith aB.row (aF.take m) (l.take m)=(List.zipWith aB.row aF l).take m:=by rw[List.take_zipWith]
  have H:w9 4 (List.zipWith aB.row (aF.take m) (l.take m)):=λx P=>r.len x (by grind[List.mem_of_mem_take])
  have F:(List.zipWith aB.row (aF.take m) (l.take m)).length=m:=by simp[O];omega
  refine R _ (fin _ (λc⟨a,J,e⟩=>⟨a,by rw[M];exact J,e⟩) ⟨H,F.symm,.inr ⟨b,dN _,T.lt,rfl,by rw[H.flat,F],cs,T,iY (by show m<=sv.n;omega) a4,a5,λi k=>?_⟩⟩)
  have k:i<m*4:=k;rw[a6 i ag];have:=Eg m (List.zipWith aB.row aF l);rw[<-A]at this
  conv=>lhs;rw[<-this]
  rw[List.flatten_append,iQ (by rw[H.flat,F];exact k)]
theorem ga.vs(d:ga X h sv mr aF n):aR (λ_=>True) h sv aF:=by
 obtain⟨k,g,S,i,_,⟨c,b,a⟩,_⟩:=d;exact aR.snoc b c (λ_ _=>trivial) λj d p f e=>sA (a j d p f e) λ_ _=>trivial
theorem ga.look(d:ga X h sv mr aF n)(u:Int):∃b:Sl,Sv h b (ints (hl aF n u))/\∀{a:Hp}{K:Sl->Bool->Prop},az h a->(∀ok,K b ok)->Lk a (some mr) (.int .u64) (.int .u64 u) (.slice none 0 0) Sl.v K:=by
 classical
 obtain⟨w,j,S,r,⟨o,m,l,e,k⟩,_,q,c,e1,E⟩:=d;have f:=(kS.1 e1).1;refine⟨if hl aF n u≠[]then S u else Sl.nil,?_,λ{a K}g i=>E.lk ((g.2 mr f).trans e1) (λp=>dM) (λp=>dM) i⟩
 by_cases p:hl aF n u≠[]
 ·rw[aI p];exact(e u p).2.2.sv
 ·rw[aC p,Classical.not_not.1 p];exact yF h
def JM(x:aB)(aF:aP):Int:=match gj x aF with|some i=>(i:Int)|none=> -1
theorem apr{cs:Array Value}{K:cJ}(d:ga X h sv mr aF aF.length)(M:aN h b cs el)(fP:cs[18]? =some (Sl.v sv))(W:cs[19]? =some (.map (some mr)))(hn:aF.length<=5000)(S:∀v∈aF,v.bq<=2^50)(hv:aR D h s x.items)(hw:x.bq<=2^40)
    (hk:∀I,az h I->K (JM x aF) I):Xl (bz b) x.au x.num (bs x.text) s h K Kp:=by
  refine aDH (aG λa H e1 J E _=>?_);refine bK ?_;refine aj (M.ai J) W (eY E (SY x (eR hv J) hw λO Q=>bM (M.ai J) Q ?_));have E:=E.ai Q;have G:=ak J Q;obtain⟨s0,zn,lk⟩:=d.look x.hash;refine lk G λok=>?_;have n0:s0.n=(hl aF aF.length x.hash).length:=by have:=zn.1;rw[ints,cm]at this;exact this
  have a':=SG aF aF.length x.hash;apply azg (λz I=>∃j:Nat,z=j/\j<=(hl aF aF.length x.hash).length/\az O I/\∀(i p:Nat),i<j->(hl aF aF.length x.hash)[i]? =some p->aF[p]? ≠some x) (λz _=>(hl aF aF.length x.hash).length-z.toNat) ⟨0,rfl,dN _,cK _,λi p k=>ag⟩
  rintro z h3 ⟨j,rfl,hj,P,m⟩ N hN;have w:=ak G P;refine cL (λA=>?_) λA=>?_
  · have B:j<(hl aF aF.length x.hash).length:=ag;have g:=bx B;generalize(hl aF aF.length x.hash)[j]=p at g;have T:=RO.1 (bL g);have f:=bx T.1;generalize Z:aF[p]=y at f;have l:=bL f;refine(zn.ai w).ix ag ag (by rw[fR,ints,fh,g];rfl) λq F=>yU F ?_
    refine bK ?_;refine aj (M.ai w) fP ((eR d.vs w).ix rfl f λq t cq Z=>gZ cq (eY (E.ai P) (Pq y Z (eR hv w) (S y l) λb h4 g4 hb=>aE (λL=>?_) λL=>?_)))
    · have C:=hb.1 L;have R:gj x aF=some p:=by
        cases F:gj x aF with
        |none=>grind[vQ]
        | some r=>
          obtain⟨H,O⟩:=Dd F
          by_cases e:r=p
          ·rw[e]
          · exfalso
            have b':¬p<r:=λq=>O p q (by rw[f,C])
            have V:r∈hl aF aF.length x.hash:=RO.2 ⟨(cU.1 H).1,by rw[gL,H];rfl⟩
            obtain⟨i,k⟩:=ri.1 V;have Y:(hl aF aF.length x.hash).Pairwise _:=List.pairwise_lt_range.filter _;have c':¬j<=i:=λq=>by
              have:=uZ.1 Y j i B (cU.1 k).1;rw[(cU.1 k).2,(cU.1 g).2]at this;rcases Nat.lt_or_eq_of_le q with q|q
              ·have:=this q;omega
              ·subst q;rw[g]at k;cases k;exact e rfl
            exact m i r ag k H
      grind[az.trans,JM]
    · refine aW ag ag (hN _ _ ⟨j+1,aA,ag,ak P g4,λi r k o=>?_⟩ ag)
      by_cases e:i=j
      ·rw[e,g]at o;cases o;intro z;rw[f]at z;cases z;rw[hb.2 rfl]at L;cases L
      ·exact m i r ag o
  · have R:gj x aF=none:=vQ.2 λhm=>by
      obtain⟨p,g⟩:=ri.1 hm;have U:p∈hl aF aF.length x.hash:=by grind[RO,List.getElem?_eq_some_iff]
      grind[List.mem_iff_getElem?,List.getElem?_eq_some_iff]
    grind[JM]
end
section
variable {c:aq} {KM:List cN} {M:cN} {T:aQ} {h0 h':Hp} {r':Raw} {vs:aP} {m:fQ} {g:dO} {x:aB} {K:cJ}
theorem alM(d:f.k=19)(e:f.cs=[c])(r:Raw)(v:aB):f.tk r v=cR (eO v.au r) λa=>if v.au then fB 16 (a.up λb=>{b with ends:=b.ends++[0]})else match gj v a.b.aF with
  |some i=>fB v.bq (a.up λb=>{b with ends:=b.ends++[i]})
  |none=>if oB f.ix<=a.b.aF.length then(102,a)else cR (di 0 (λq=>c.tk q v) a) λj=>fB v.bq (j.up λb=>{b with aF:=b.aF++[v],ends:=b.ends++[b.aF.length]}):=by
 rw[kD];unfold iE;rw[ay,ay,ay,ay,ay,ay,aI d,e];rfl
theorem aa7{K:cJ}(G:bR f KM T h r m g)(e:g.b=b)(a:K (oB f.ix:Int) h):NU (bz b) h K Kp:=by
 subst e;apply aDG;refine bK ?_;refine aj G.B.k (by simp[bW];rfl) ?_
 unfold oB at a;refine aE (λc=>?_) λc=>aE (λd=>?_) λd=>?_
 ·rw[aI (by simpa using c)]at a;exact a
 ·rw[aC (by simpa using c),aI (by simpa using d)]at a;exact a
 ·rw[aC (by simpa using c),aC (by simpa using d)]at a;exact a
theorem BB(b:f.k=19)(a:Rb):cy f.k a=[(ints a.ends,Y6)]:=by unfold cy;simp[*]
theorem KQ(d:f.k=19)(a b:Rb):eM f.k a b↔b.ends <+: a.ends/\b.aF <+: a.aF/\a.aF.length<=5000/\∀v∈a.aF,v.bq<=4194304:=by unfold eM;simp[*]
theorem GP(b:f.k=19)(X:aQ)(h:Hp)(sp:bg)(a:Rb):iJ f.k X h sp a↔∃sv d,sp=[Sl.v sv,.map (some d)]/\ga X h sv d a.aF a.aF.length:=by unfold iJ;simp[*]
theorem adw{K:HP}(e:f.k=19)(KF:∀(j:Nat)M,KM[j]? =some M->gB M)(S:eZ f KM T h0 h r m g E)(O:g.b=b)(W:r.b.ends.length<=70000)
  (H:∀h' A B,eZ f KM T h0 h' (r.up λb=>{b with ends:=b.ends++[i]}) m A B->A.b=b->Tn (λc=>¬E c) h h'->(∀c,E c->B c)->K h'):Ld h ⟨b,16,none⟩ Sl.v λp=>aH h #[ah (i:Int)] Y6 λt w=>Ap w Y6 #[ah 0] 1 8 p 1 (rd w (some t) (1*1)) λo L=>St L ⟨b,16,none⟩ (Sl.v o) K:=by
 subst O;have d:=BB e;have N:=KQ e;obtain⟨l,a⟩:=rN S.G.ls (d _);have U:l.n=r.b.ends.length:=by have:=S.G.oy (i:=0) (s:=l) (by simp[a]) (by rw[d];rfl);rw[this,ints,cm]
 refine S.G.dG (i:=0) (s:=l) rfl (by simp[a]) (aG λY J X y F _=>?_)
 refine(S.ai KF y).app (i:=0) (x:=(ints r.b.ends,Y6)) (x':=(ints (r.b.ends++[i]),Y6)) (r':=r.up λb=>{b with ends:=b.ends++[i]}) KF rfl (by simp[a]) (by rw[d];rfl) rfl ?_ rfl (iM F rfl) ag ag (by simp[ints])
  ⟨rfl,rfl,rfl,rfl⟩ (by rw[d,d];rfl) rfl rfl (λV _ q=>?_) λQ R I C P=>H I _ _ P rfl ((bh y:Tn _ h J).trans (C.mono λc q _ z=>q (.inl z))) (λc q=>.inl q)
 ·intro v u;simp only[mA]at u;subst u;rfl
 ·rw[N]at q ⊢;exact⟨q.1.trans (tL _ _),q.2⟩
theorem adv(l:f.k=19)(KF:∀(j:Nat)M,KM[j]? =some M->gB M)(S:eZ f KM T h0 h r m g E)(e:g.b=b)(A:r.b.ends.length<=70000)(L:r.b.bB<=2^50)(J:x.bq<=4194304)
  (w:aN h a #[.bool x.au,ah x.num,.string (bs x.text),Sl.v s] dh) (F:E a) (y:aR D h s x.items) (o:∀c,D c->E c)
  (B:∀h',Tn T h0 h'->cQ f KM (Tr T h0 h') h' (.iface (bG f.k) (bI b)) (fB x.bq (r.up λb=>{b with ends:=b.ends++[i]})).2 m->K (fB x.bq (r.up λb=>{b with ends:=b.ends++[i]})).1 h'):EE K Kp (bz b) (aJ a) (i:Int) h:=by
 subst e;apply aAP;refine bK ?_;exact adw l KF S rfl A λP Q R H e u N=>eY (lI u w F) (I9 x (aR.fr u (λc q _ z=>z (o c q)) (λ_ z=>z) _ y) ag λO C=>(H.ai KF C).pY KF e rfl (by show r.b.bB+x.bq<2^62;omega) λp I d=>B p d.t ⟨_,by rw[e],d.G⟩)
theorem Pc{H:Hp}{t S a d e zn:Sl}{n wt:Nat}{w V:Value}{K:HP}(k:aN H b (bW f t S a n i wt [Sl.v d,w,Sl.v zn,V]).toArray ty)
  (l:∀h',eD b H h'->aN h' b (bW f t S a n i wt [Sl.v d,w,Sl.v e,V]).toArray ty->K h'):St H ⟨b,18,none⟩ (Sl.v e) K:=dc k (by simp[bW]) rfl λh' o j=>l h' o (by simpa[bW]using j)
theorem avk{s0 sv:Sl}{w:Value}(a':f.k=19)(KF:∀(j:Nat)M,KM[j]? =some M->gB M)(S:eZ f KM T h0 h r m g E)(eb:g.b=b)(hn:r.b.ends.length<=70000)(hh:r.b.bB<=2^50)(hw:x.bq<=4194304)
  (ka:aN h a #[.bool x.au,ah x.num,.string (bs x.text),Sl.v s] dh) (ea:E a) (hv:aR D h s x.items) (k':∀c,D c->E c) (q':g.SS=[s0]) (v':g.kv=[w]) (t':g.sp=[Sl.v sv,.map (some i)]) (g':r.b.aF=aF) (z':aF.length<=4999) (d:ga g.X h sv i aF aF.length)
  (hk:∀h',Tn T h0 h'->cQ f KM (Tr T h0 h') h' (.iface (bG f.k) (bI b)) (fB x.bq (r.up λb=>{b with aF:=b.aF++[x],ends:=b.ends++[b.aF.length]})).2 m->K (fB x.bq (r.up λb=>{b with aF:=b.aF++[x],ends:=b.ends++[b.aF.length]})).1 h'):(AB x.au x.num (bs x.text) s h (λF C A y h5=>aU h h5 ⟨b,18,none⟩ 1<|aH h5 #[(.bool false),(ah 0),(.string (bs [])),(.slice none 0 0)] dh λO V=>aU h5 V (aJ a) 4<|aU h5 V ⟨b,18,none⟩ 1 <|
   Ap V dh fU 4 56 sv 1 (rd V (some O) (1*4)) λo p=>Ix o.a o.n 4 (sv.n:Int) λL=>NN (bz b) λJ=>(dH p L F C A y λH=>St H (J.add 18) (Sl.v o) λU=>ud K Kp (bz b) (aJ a) (sv.n:Int) x.hash U)/\
    (St p (J.add 18) (Sl.v o) λH=>dH H L F C A y λU=>ud K Kp (bz b) (aJ a) (sv.n:Int) x.hash U)) Kp)/\
  (aH h #[(.bool false),(ah 0),(.string (bs [])),(.slice none 0 0)] dh λO h5=>aU h h5 (aJ a) 4<|aU h h5 ⟨b,18,none⟩ 1<|AB x.au x.num (bs x.text) s h5 (λF C A y V=>aU h5 V ⟨b,18,none⟩ 1 <|
   Ap V dh fU 4 56 sv 1 (rd V (some O) (1*4)) λo p=>Ix o.a o.n 4 (sv.n:Int) λL=>NN (bz b) λJ=>(dH p L F C A y λH=>St H (J.add 18) (Sl.v o) λU=>ud K Kp (bz b) (aJ a) (sv.n:Int) x.hash U)/\
    (St p (J.add 18) (Sl.v o) λH=>dH H L F C A y λU=>ud K Kp (bz b) (aJ a) (sv.n:Int) x.hash U)) Kp):=by
 subst eb;have es:=BB a';have ep:=KQ a';have eS:=GP a';have p':=d.len;rw[p'];have ex:∀q:Sl,iG f.k g.SS g.kv g.ks [Sl.v q,.map (some i)]=[Sl.v s0,w,Sl.v q,.map (some i)]:=λq=>by unfold iG nL;simp[*]
 have kb:=S.G.B.k;rw[t',ex]at kb;have b':∀c,g.X c->c<h.size:=λc q=>S.G.t.l (bL g.iN) q;have f':=S.G.t.kX g.iN;have bl:=kb.lt;have fin:∀{Z:Hp}{s':Sl},Tn (λc=>c=g.b\/g.X c) h Z->aN Z g.b (bW f g.sf g.sn g.sb r.b.rows r.b.ck r.b.bB [Sl.v s0,w,Sl.v s',.map (some i)]).toArray (iP f.k)->ga (Tr g.X h Z) Z s' i (aF++[x]) aF.length->ud K Kp (bz g.b) (aJ a) (aF.length:Int) x.hash Z:=by
  intro Z s' tx R dx;have zx:=tx.1;have nb:¬Tr g.X h Z g.b:=bU
  have d':∀{h1 h3:Hp},az Z h1->Tn (Tr g.X h Z) h1 h3->ga (Tr (Tr g.X h Z) h1 h3) h3 s' i (aF++[x]) (aF.length+1)->EE K Kp (bz g.b) (aJ a) (aF.length:Int) h3:=by
   intro h1 h3 I t3 d3;have z1:=I.1;have z3:=t3.1;have tt:=(tx.trans (bh I)).trans' t3 λc q u'=>q.elim .inr λq=>ag
   have x':=S.Jv (r':=r.up λb=>{b with aF:=b.aF++[x]}) KF tt (by rw[ex];exact t3.aZ (R.ai I) nb) ⟨rfl,rfl,rfl,rfl⟩ (by rw[es,es];rfl) rfl ((eS _ _ _ _).2 ⟨s',i,rfl,?_⟩) (λmm _ q=>?_) λq=>ag
   rotate_left
   ·show ga _ h3 s' i (r.b.aF++[x]) (r.b.aF++[x]).length
    rw[g',ij,jw];exact d3.mono λc q=>by
     grind
   ·rw[ep]at q ⊢;refine⟨q.1,q.2.1.trans (tL _ _),?_,λv hv=>?_⟩
    ·show(r.b.aF++[x]).length<=5000
     simp[*]
    ·have hv:v∈r.b.aF++[x]:=hv;grind
   obtain⟨S6,t6⟩:=x';subst g';obtain⟨rb,rk⟩:=r;exact adv a' KF S6 rfl hn hh hw (lI t6 ka ea) ea (aR.fr t6 (λc q _ z=>z (k' c q)) (λ_ z=>z) _ hv) k' hk
  obtain⟨sq,lk,l'⟩:=dx.add (u:=x.hash) (λc q=>q.elim (λq=>bU) λq=>q.2) ag aA
  apply aAO;refine bK ?_;refine aj R (by simp[bW]) (aj R (by simp[bW]) ⟨lk (cK _) λok=>mF R R (aG λa8 h1 e1 I k1 _=>bM R I (bM R I (l' I k1 (R.ai I) nb λh3 t3 d3=>d' I t3 d3))),aG λa8 h1 e1 I k1 _=>bM R I (bM R I (lk I λok=>mF (R.ai I) (R.ai I) (l' I k1 (R.ai I) nb λh3 t3 d3=>d' I t3 d3)))⟩)
 have Q:∀{p:Hp}{O:Nat}{ty:TypeId}{t:Sl},az h p->aN p O #[(.bool false),(ah 0),(.string (bs [])),(.slice none 0 0)] ty->aR (λc=>h.size<=c/\c<p.size) p t x.items->
   Ap p dh fU 4 56 sv 1 (rd p (bz O) (1*4)) λo p=>Ix o.a o.n 4 (aF.length:Int) λL=>NN (bz g.b) λJ=>(dH p L x.au x.num (bs x.text) t λH=>St H (J.add 18) (Sl.v o) λU=>ud K Kp (bz g.b) (aJ a) (aF.length:Int) x.hash U)/\
    (St p (J.add 18) (Sl.v o) λH=>dH H L x.au x.num (bs x.text) t λU=>ud K Kp (bz g.b) (aJ a) (aF.length:Int) x.hash U):=by
  intro p O ty t P n' vt;have z7:=P.1;refine(d.fr (bh P) λ_ _ _=>id).push (λc q=>bU) (bP _) ag n' λs' H t8 d8=>?_
  have z8:=t8.1;obtain⟨bb,y',Kr,ix,c'⟩:=d8.set;have nb:¬Tr g.X p H g.b:=bU
  have j':=t8.aZ (kb.ai P) f';have nD:∀c,(h.size<=c/\c<p.size)->¬Tr g.X p H c:=bU
  have i':=aR.fr t8 (λc q _ z=>bU) (λ_ z=>z) _ vt
  have mo:∀{N:Hp},H.size<=N.size->∀c,(Tr g.X p H c\/(h.size<=c/\c<p.size))->Tr g.X h N c:=bU
  have tt:∀{N:Hp},Tn (λc=>c=g.b\/Tr g.X p H c) H N->Tn (λc=>c=g.b\/g.X c) h N:=λY=>((bh P:Tn _ h p).trans (t8.mono λc q _=>.inr q)).trans' Y λc q u'=>q.elim .inl λq=>q.elim .inr λq=>ag
  refine ix ?_;refine bK ?_;refine⟨yD (c' d8 (bP _) i' nD λU t9 d9=>Pc (t9.aZ j' nb) λN e' o'=>?_),Pc j' λU o9 k9=>yD (c' (d8.fr o9.fr λc q _ e=>nb (e▸q)) (bP _) (aR.fr o9.fr (λc q _(e:c=g.b)=>ag) (λ_ z=>z) _ i') nD λN Y w'=>?_)⟩
  ·have z9:=t9.1;have m':=e'.1;exact fin (tt ((t9.mono λc q _=>.inr q).trans (e'.fr.mono λc q _=>.inl q))) o' ((d9.fr e'.fr λc q _ e=>by
    grind).mono (mo ag))
  ·have z9:=o9.1;have m':=Y.1;exact fin (tt ((o9.fr.mono λc q _=>.inl q).trans (Y.mono λc q _=>.inr q))) (Y.aZ k9 nb) (w'.mono (mo ag))
 refine⟨Ja x hv ag λt V W vt=>bM kb W (aG λa7 p e7 P k7 _=>bM (ka.ai W) P (bM (kb.ai W) P ?_)),aG λa6 V e6 W k6 _=>bM ka W (bM kb W (Ja x (eR hv W) ag λt p P vt=>bM (kb.ai W) P ?_))⟩
 ·have z7:=P.1;exact Q (ak W P) k7 (eR (sA (aR.lt _ vt) λc q=>⟨q.1,ag⟩) P)
 ·have z6:=W.1;exact Q (ak W P) (k6.ai P) (sA (aR.lt _ vt) λc(q:V.size<=c/\c<p.size)=>⟨ag,q.2⟩)
end
section
variable {c:aq} {M:cN} {T:aQ} {vs:aP} {m:fQ} {g:dO} {x:aB} {K:cJ}
theorem am7{a b:Sl}{n q:Nat}(e:([Sl.v a,.map (some n)]:bg)=[Sl.v b,.map (some q)]):a=b/\n=q:=by
 obtain⟨l,k,j⟩:=a;obtain⟨i,b2,d⟩:=b
 simpa[Sl.v,and_assoc]using e
theorem TB(a:f.k=19)(e:f.can vs):(f.st vs).b.aF=dS vs/\(dS vs).length<=4097/\(f.st vs).b.ends.length<=70000:=by
 have d:=(gk f vs).1 e;have i:=d.n4;refine⟨by rw[fF];simp only[aK];simp[*],iY (d.ds a) (by unfold oB;grind),?_⟩
 rw[fF];simp only[aK];grind
theorem Zp(l:f.k=19)(S:f.cs=[c])(C:MC c M)(hc:f.can vs)(i':f.fit x=true)(hw:x.bq<=4194304)(G:bR f [M] T h (f.st vs) m g)(hv:aR D h s x.items)(hD:∀c,D c->c<h.size->Out g c)
    (j:∀h',Tn T h h'->cQ f [M] (Tr T h h') h' (.iface (bG f.k) (bI g.b)) (f.tk (f.st vs) x).2 m->K (f.tk (f.st vs) x).1 h'):NV (bz g.b) x.au x.num (bs x.text) s h K Kp:=by
  have KF:=ni C;rw[alM l S]at j;have eS:=GP l;obtain⟨s0,Q⟩:=rN G.ls ((BB l) _);obtain⟨A,w,hA,O,b'⟩:=th G rfl;have c':f.cs[0]? =some c:=by rw[S];rfl
  obtain⟨ev,a',q'⟩:=TB l hc;have y:(f.st vs).aL 0=c.st (f.st vs).b.aF:=by rw[mW c' vs,ev,l,BJ]
  have R:c.can (f.st vs).b.aF:=by have:=fy c' hc;rw[l,BJ,<-ev]at this;exact this
  rw[<-ev]at a';have o':=iI R;have hh:=(iI hc).1;generalize v':f.st vs=p at G j y R o' hh a' q';refine aDL (aG λa h1 ea g1 o _=>?_);refine bK ?_;have S1:=(eZ.of (E:=λc=>D c/\c<h.size) G λc q=>⟨q.2,hD c q.1 q.2⟩).ai KF g1;generalize hE:(λc=>(D c/\c<h.size)\/(h.size<=c/\c<h1.size))=E at S1;have E1:E a:=by rw[<-hE];exact .inr ⟨ag,o.lt⟩
  have I:∀c,D c/\c<h.size->E c:=λc q=>by rw[<-hE];exact .inl q
  have m':=eR (aR.lt _ hv) g1;have V:∀{ha hb:Hp},Tn (λc=>¬E c) ha hb->aR _ ha s x.items->aR _ hb s x.items:=λt v=>aR.fr t (λc q _ z=>z (I c q)) (λ_ z=>z) _ v;refine aj o rfl (S1.row KF rfl (λq=>bO rfl ?_) λq t' A' h2 t2 U=>bu rfl ?_)
  ·rw[rW q]at j;exact j h1 S1.t ⟨g,rfl,S1.G⟩
  rw[rV q]at j;have o:=lI t2 o E1;have Z:=V t2 m';generalize n':p.up _=F at j U;have r:F.b.aF=p.b.aF/\F.b.ends=p.b.ends/\F.b.bB=p.b.bB/\F.aL 0=p.aL 0:=by rw[<-n'];exact⟨rfl,rfl,rfl,rfl⟩
  apply aj o rfl;cases hn:x.au with
  | true=>
    rw[hn,aI rfl]at j;exact bO rfl (adw l KF U rfl (by rw[r.2.1];omega) λh6 g' E' S6 eb t6 x'=>S6.pY KF eb rfl (by show F.b.bB+16<2^62;omega) λr' s' d'=>j r' d'.t ⟨_,by rw[eb],d'.G⟩)
  |false=>
  rw[hn]at j o;rw[aC aY]at j;rw[<-hn]at o;obtain⟨sv,mr,H,d⟩:=(eS _ _ _ _).1 U.G.sp;rw[r.1]at d;have ex:iG f.k g.SS g.kv g.ks [Sl.v sv,.map (some mr)]=[Sl.v s0,w,Sl.v sv,.map (some mr)]:=by unfold iG nL;rw[dR,Q,b'];rfl
  have kb:=U.G.B.k;rw[H,ex]at kb;have u':=d.len;refine bu rfl (aAQ (eY o (apr d kb (by simp[bW]) (by simp[bW]) ag (λv hm=>by have:=oh hm;omega) Z ag λh3 g3=>?_)))
  have L:=U.ai KF g3;have o:=o.ai g3;have P:=eR Z g3;unfold JM;rw[r.1]at j;cases hp:gj x p.b.aF with
  | some i=>
    rw[hp]at j;exact bu aA (adv l KF L rfl (by rw[r.2.1];omega) ag hw o (.inl E1) P (λc q=>.inl (I c q)) j)
  |none=>
  rw[hp]at j;apply bO rfl;refine bK ?_;refine aj (kb.ai g3) (by simp[bW];rfl) (aa7 L.G rfl (aE (λJ=>?_) λJ=>?_))
  ·have J:=aM J;simp only at j;rw[dR]at j;exact j h3 L.t ⟨_,by rfl,L.G⟩
  have J:=aM J;simp only at j;rw[ay]at j;have u:=L.G.aL 0 M A w rfl hA O;rw[r.2.2.2,y]at u;obtain⟨kk,bb,rfl⟩:=C.na u;refine L.G.lP (i:=1) rfl (.inr (.inr (.inl l))) (by simp[Q]) O (eY o ?_)
  have p':di 0 (λq=>c.tk q x) F=((c.tk (c.st p.b.aF) x).1,F.fk 0 (c.tk (c.st p.b.aF) x).2):=by unfold di;rw[r.2.2.2,y]
  rw[p']at j;refine C.take R (ac4 (.inl l) S i' hn) hw u P (λJ q z=>(L.e J (.inl (I J q))).2.2 _ A (dO.fC _ hA) ag z) λh4 t4 M4=>?_;obtain⟨S4,j'⟩:=L.aL KF hA t4 λM' w' q1 q2=>by
    simp at q1;subst q1;have q2:=q2;rw[O]at q2;cases q2;exact M4
  have W:=j'.mono λc q _ z=>q (.inl z);refine cL (λN=>?_) λN=>?_
  ·unfold cR at j;rw[aC N]at j;exact j h4 S4.t ⟨_,by rfl,S4.G⟩
  unfold cR at j;rw[aI N]at j;have o:=lI W o E1;have Y:=V W P;refine eY o (SY x Y ag λh5 g5=>?_);have S5:=S4.ai KF g5;obtain⟨k',l',f',d5⟩:=(eS _ _ _ _).1 S5.G.sp;have e':=f';obtain⟨rfl,rfl⟩:=am7 (H.symm.trans e');have d5:ga g.X h5 sv mr p.b.aF p.b.aF.length:=by
    have e:(F.fk 0 (c.tk (c.st p.b.aF) x).2).b.aF=p.b.aF:=r.1;rw[e]at d5;exact d5
  refine aj S5.G.B.k ?_ (eY (o.ai g5) (avk l KF S5 rfl (by show F.b.ends.length<=_;rw[r.2.1];omega) (by show F.b.bB<=_;omega) hw (o.ai g5) (.inl (.inl E1)) (eR Y g5) (λc q=>.inl (.inl (I c q))) Q b' H r.1 ag d5 j))
  show(bW _ _ _ _ _ _ _ (iG f.k g.SS g.kv g.ks g.sp)).toArray[18]? =_
  rw[H,ex];simp[bW]
theorem aj1(j:¬f.small=true)(d:f.k=19)(e:f.cs=[c])(r:Raw):f.zk r=cR (eO false r) λa=>if oB f.ix<=a.b.aF.length then(102,a)else cR (di 0 c.zk a) λi=>(3,i):=by
 rw[sy];unfold nH;simp[*]
theorem aka(R:bC f)(e:f.k=19)(r:f.cs=[c])(C:MC c M)(X:f.can vs)(G:bR f [M] T h (f.st vs) m g)
  (a:∀J,Tn T h J->cQ f [M] (Tr T h J) J (.iface (bG f.k) (bI g.b)) (f.zk (f.st vs)).2 m->K (f.zk (f.st vs)).1 J):Xm (bz g.b) h K Kp:=by
 apply aDK;refine bK ?_;refine aj G.B.k (by simp[bW];rfl) ?_
 by_cases u:f.small=true
 ·rw[vA (.inl u)]at a;obtain⟨_,O,h3,N⟩:=sP R u;exact bO u (gZ G.uR (Zp e r C X O ag G G.no (λc q _=>G.Di q) a))
 rw[aj1 u e r]at a;apply bu (by simpa using u)
 have KF:=ni C;obtain⟨s0,z⟩:=rN G.ls ((BB e) _);obtain⟨A,w,Y,p,S⟩:=th G rfl;have F:f.cs[0]? =some c:=by rw[r];rfl
 have n:=mW F vs;have P:=eZ.of (E:=λ_=>False) G λ_ q=>q.elim;refine P.row KF rfl (λq=>bO rfl ?_) λq a' A' O t2 j=>bu rfl ?_
 ·rw[rW q]at a;exact a h P.t ⟨g,rfl,P.G⟩
 rw[rV q]at a;obtain⟨sv,W,Q,d⟩:=(GP e _ _ _ _).1 j.G.sp;have ex:iG f.k g.SS g.kv g.ks [Sl.v sv,.map (some W)]=[Sl.v s0,w,Sl.v sv,.map (some W)]:=by unfold iG nL;rw[dR,z,S];rfl
 have I:=j.G.B.k;rw[Q,ex]at I;have b':=d.len;refine aj I (by simp[bW];rfl) (aa7 j.G rfl (mF I I (cL (λy=>?_) λy=>?_)))
 ·rw[dR]at a;exact a O j.t ⟨_,by rfl,j.G⟩
 rw[ay]at a;have l:=j.G.aL 0 M A w rfl Y p;rw[iT,n]at l;have U:di 0 c.zk ((f.st vs).up (Rb.row false))=((c.zk (c.st (dJ f.k f.w (dI f.cs) 0 vs))).1,((f.st vs).up (Rb.row false)).fk 0 (c.zk (c.st (dJ f.k f.w (dI f.cs) 0 vs))).2):=by unfold di;rw[iT,n]
 rw[U]at a;refine j.G.lP (i:=1) rfl (.inr (.inr (.inl e))) (by simp[z]) p (C.zero (fy F X) l λN t4 M4=>?_)
 obtain⟨L,_⟩:=j.aL KF Y t4 λM' Z V H=>by
  simp at V;subst V;have H:=H;rw[p]at H;cases H;exact M4
 refine cL (λo=>?_) λo=>?_
 ·unfold cR at a;rw[aC o]at a;exact a N L.t ⟨_,by rfl,L.G⟩
 ·unfold cR at a;rw[aI o]at a;exact a N L.t ⟨_,by rfl,L.G⟩
theorem al9(a:f.k=19)(e:f.cs=[c])(C:MC c M):wU f (cQ f [M]):=by
 intro T D h v vs m x s K Kp n d i H j o l;obtain⟨g,rfl,G⟩:=H;have p:bG f.k=qv:=by unfold bG;simp[*]
 have q:mY _ x.au x.num _ s h K Kp:=avK (Zp a e C n d i G j (λc q _=>G.out (o c q)) l);grind
theorem akk(d:bC f)(a:f.k=19)(e:f.cs=[c])(C:MC c M):wR f (cQ f [M]):=by
 intro T h v vs m K Kp j H i;obtain⟨g,rfl,G⟩:=H;have l:bG f.k=qv:=by unfold bG;simp[*]
 have q:mG _ h K Kp:=avB (aka d a e C j G i);grind
end
theorem aw4{c0 p q b a:Addr}{K:HP}(H:ai5 c0 p q b a h K Kp):cX aD (.func (.func 228) #[] #[dw c0,dw p,dw q,dw b,dw a]) [] h (λr d=>r=.tuple #[]/\K d) Kp:=by
 unfold cX;exact cast aV H
section
variable {c:aq} {KM:List cN} {M:cN} {T R:aQ} {h0 h':Hp} {r':Raw} {vs:aP} {m:fQ} {mm:Mem} {g:dO} {caps:bg}
theorem aqS{n l k j:Array Value}(mc:Au R h caps [Z,n,l,k,j]):∃i e d b a t s q p o,caps=[bI i,bI e,bI d,bI b,bI a]/\
    (R i/\aN h i Z t)/\(R e/\aN h e n s)/\(R d/\aN h d l q)/\(R b/\aN h b k p)/\(R a/\aN h a j o):=by
  obtain⟨i,t,e0,I⟩:=mc.2 0 Z rfl;obtain⟨e,s,e1,H⟩:=mc.2 1 n rfl;obtain⟨d,q,B,G⟩:=mc.2 2 l rfl;obtain⟨b,p,A,F⟩:=mc.2 3 k rfl;obtain⟨a,o,x,C⟩:=mc.2 4 j rfl
  match caps,mc.1 with
  | [u,v,w,z,y],_=>
    simp at e0 e1 B A x;subst e0 e1 B A x;exact⟨i,e,d,b,a,t,s,q,p,o,rfl,I,H,G,F,C⟩
theorem ga.xm{sv:Sl}{n:Nat}{a:aP}(d:ga A h sv i a n):A i:=by obtain⟨_,_,_,_,⟨_,_,q,_⟩,_⟩:=d;exact q
theorem aq2(a:f.k=19)(u:f.cs=[c])(C:MC c M):wZ f (cQ f [M]):=by
 intro T h v vs K Kp L H Z;obtain⟨g,rfl,G⟩:=H;have N:=ni C;have ed:bG f.k=qv:=by unfold bG;rw[ay,ay,ay,ay,ay,ay,aI a]
 have eb:gJ f.k=228:=by unfold gJ;rw[ay,ay,ay,ay,ay,aI a]
 have W:=BB a;obtain⟨I,e⟩:=rN G.ls (W _);obtain⟨A,w,O,J,c'⟩:=th G rfl;have o:f.cs[0]? =some c:=by rw[u];rfl
 have X:I.n=(f.st vs).b.ends.length:=by have:=G.oy (i:=0) (s:=I) (by simp[e]) (by rw[W];rfl);rw[this,ints,cm]
 have aL:=G.aL 0 M A w rfl O J;have j:=mW o vs;have U:∀c,A c->c<h.size:=λc q=>G.t.l (bL (g.fC O)) q;obtain⟨sv,mr,V,d⟩:=(GP a _ _ _ _).1 G.sp;obtain⟨ev,a',d'⟩:=TB a L;have P:c.can (f.st vs).b.aF:=by have:=fy o L;rw[a,BJ,<-ev]at this;exact this
 have b':=iI P;have x:∀{h':Hp},az h h'->bR f [M] T h' _ none g:=λgr=>G.fr N (bh gr) λ_ _ _=>id;have q:kV (.iface qv (bI g.b)) h K Kp:=by
  rw[j]at aL;refine avT (NW.mk (eN:=I) (rR:=sv) (V2:=lM M A w ((f.st vs).aL 0)) (λgr p=>G.Bj (i:=0) N gr rfl (by simp[e]) p) (λgr p=>(x gr).lP (i:=1) rfl (.inr (.inr (.inl a))) (by simp[e]) J p) (λgr p=>?_) zY zZ (λgr z=>yz G.B gr z) (lM.qj C.fr U) lM.one (λgr z=>?_) λcaps F0 KF l0 u0 l2 u2 h' Q=>?_)
  ·have y:=(x gr).TI (.inl a) (by simp[e])
   rw[V]at y;exact yU (y 0 _ rfl) p
  ·rw[j]at z;exact lM.call C (fy o L) aL gr z
  ·have:=G.J0 (sp:=[]) N u O J Q (.inr (.inr (.inl a))) ((KQ a _ _).2 ⟨jJ _,jJ _,by rw[ev];omega,λv Y=>by have:=oh Y;omega⟩) (λq=>ag) (λF m=>?_) Z
   ·rw[eb]at this;exact this
   ·unfold jr;simp only;rw[ay,ay,ay,ay,aI a,X,d.len];rfl
 rw[<-ed]at q;exact q
theorem axR{K:HP}(o:f.k=19)(wh:f.cs=[c])(C:MC c M)(G:bR f [M] T h r (some mm) g)(hk:∀h',Tn T h h'->cQ f [M] T h' (.iface (bG f.k) (bI g.b)) mm.r (some mm)->K h'):cX aD mm.F [] h (λr h1=>r=.tuple #[]/\K h1) Kp:=by
 have KF:=ni C;obtain⟨⟨F0,KF',bm,c1,c2,c3,c4⟩,pr,ks,spm⟩:=G.mm mm rfl;obtain⟨caps,eF,mc⟩:=c4 ag;obtain⟨H,em,rfl⟩:=c1 ag;have ecl:jr f.k g.b F0 H.F mm=[#[F0],#[H.F],#[bI g.b],pI mm.r.b.ends.length,pI mm.r.b.aF.length]:=by unfold jr;simp only;rw[ay,ay,ay,ay,aI o]
 rw[ecl]at mc;obtain⟨a0,a1,a2,a3,a4,t0,t1,t2,t3,W,ec,⟨r0,k0⟩,⟨r1,k1⟩,⟨r2,j⟩,⟨r3,k3⟩,⟨r4,Z⟩⟩:=aqS mc;have ebk:gJ f.k=228:=by unfold gJ;rw[ay,ay,ay,ay,ay,aI o]
 have I:=BB o;have ep:=KQ o;have eS:=GP o;rw[ep]at pr;obtain⟨j',l,b',L⟩:=pr;obtain⟨s0,Q⟩:=rN G.ls (I _);obtain⟨A0,n'⟩:∃A0,g.ST=[A0]:=by
  have:=G.ls.2;rw[I]at this
  match hg:g.ST,this with
  |[a],_=>exact⟨a,rfl⟩
 obtain⟨A,w,hA,hw,u'⟩:=th G rfl;rw[eF,ec,ebk];have hS:∀c,(c=g.b\/g.T0 c)->c<h.size->c=g.b\/g.T0 c:=λc q _=>q;have V:=G.av g.gw hS g.fI ag;have nA:∀c,g.R c->¬A c:=λc q=>G.t.ne g.fI (g.fC hA) ag c q;have nR:∀{c:Nat},g.R c->c≠g.b:=λq e=>G.t.kX g.fI (e▸q);have e':∀{c:Nat},g.R c->¬g.X c:=λq=>G.t.ne g.fI g.iN ag _ q;have c':=G.t.kX g.iN;refine aw4 (aDJ (aj k0 rfl ?_))
 show cX aD F0 [] h _ _
 refine yx G KF bm λh1 u1 G1=>?_;have k1:=u1.aZ k1 (V _ r1 k1.lt);have j:=u1.aZ j (V _ r2 j.lt);have k3:=u1.aZ k3 (V _ r3 k3.lt);have Z:=u1.aZ Z (V _ r4 Z.lt);have a':=G1.aL 0 M A w rfl hA hw;have e0:((some mm).bind λmm=>mm.ks[0]?)=some H:=by show mm.ks[0]? =some H;rw[em];rfl
 rw[e0]at a';apply aj k1 rfl
 show cX aD H.F [] h1 _ _
 refine C.back a' λh2 u2 M2=>?_;have G2:=G1.Ge KF hA u2 λM' w' q1 q2=>by
  simp at q1;subst q1;have q2:=q2;rw[hw]at q2;cases q2;rw[e0];exact M2
 have j:=u2.aZ j (nA _ r2);have k3:=u2.aZ k3 (nA _ r3);have Z:=u2.aZ Z (nA _ r4);have o0:=G2.sl 0 s0 A0 (ints r.b.ends,Y6) (by simp[Q]) (by simp[n']) (by rw[I];rfl)
 have n0:=o0.n;have p0:=j'.length_le;simp only[ints,cm]at n0;refine aj j rfl (aj j rfl ?_);refine bK ?_;refine G2.dG (i:=0) rfl (by simp[Q]) (aj k3 rfl (o0.cut ag rfl λJ e0' k'=>?_))
 have z':(ints r.b.ends).take mm.r.b.ends.length=ints mm.r.b.ends:=by
  conv=>rhs;rw[UI.1 j']
  unfold ints;rw[<-HG]
 rw[z']at k';refine G2.vH (i:=0) (s:=s0) (by simp[Q]) G2.B.k λh3 w3 p'=>?_
 have G3:=G2.xw (x':=(ints mm.r.b.ends,Y6)) (r':=((r.qF mm.r).fk 0 H.r).up λb=>{b with ends:=mm.r.b.ends}) KF (by simp[n']) k' w3 p' ⟨rfl,rfl,rfl,rfl⟩ (by rw[I,I];rfl) rfl rfl λl' e _=>by rw[ep];cases e;exact⟨jJ _,l,b',L⟩
 have j:=w3.aZ j (nR r2);have Z:=w3.aZ Z (nR r4);obtain⟨sv,Y,i',d⟩:=(eS _ _ _ _).1 G3.sp;have i':=i';have d:ga g.X h3 sv Y r.b.aF r.b.aF.length:=d;have dl:=d.len;have xm:=d.xm;have ex:∀q:Sl,iG f.k (g.SS.set 0 J) g.kv g.ks [Sl.v q,.map (some Y)]=[Sl.v J,w,Sl.v q,.map (some Y)]:=λq=>by unfold iG nL;rw[dR,Q,u'];rfl
 have kb:=G3.B.k;dsimp only at kb;rw[i',ex]at kb;refine aAN (aj j rfl ?_);refine bK ?_;refine aj kb (by simp[bW] <;> rfl) (aW ag ag ?_)
 have U:=l.length_le;apply azh (λz hx=>∃n:Nat,z=(n:Int)-1/\mm.r.b.aF.length<=n/\n<=r.b.aF.length/\Tn g.X h3 hx/\ga g.X hx sv Y r.b.aF n) (λz _=>(z+1).toNat) ⟨r.b.aF.length,by rw[dl],U,bP _,iX _ _,d⟩
 rintro z h4 ⟨n,rfl,hn1,hn2,W,d4⟩ N hZ;have O:=W.aZ kb c';have P:=W.aZ j (e' r2);have m':=W.aZ Z (e' r4);refine aj m' rfl (cL (λcc=>?_) λcc=>?_)
 ·obtain⟨n,rfl⟩:∃k,n=k+1:=⟨n-1,ag⟩
  have hx:r.b.aF[n]? =some r.b.aF[n]:=bx ag;generalize r.b.aF[n]=x at hx;have hu:(r.b.aF.getD n v0).hash=x.hash:=by rw[gL,hx];rfl
  apply aj P rfl;refine bK ?_;refine aj O (by simp[bW] <;> rfl) (d4.vs.ix (i:=n) ag hx λp u cp q'=>gZ cp (SY x q' (by have:=L x (bL hx);omega) λh5 g5=>?_))
  have d5:=d4.fr (S:=No) (bh g5) λ_ _ _=>id;obtain⟨sq,lk,nq,Pj⟩:=d5.sub hu;have f':=O.ai g5;have g':=P.ai g5;have hlen:=SG r.b.aF n x.hash;refine aj g' rfl ?_;refine bK ?_;refine aj f' (by simp[bW] <;> rfl) (lk λok=>aj g' rfl ?_)
  refine bK ?_;refine aj f' (by simp[bW] <;> rfl) (aW ag ag ?_)
  rw[show((sq.n:Int)-1)=((hl r.b.aF n x.hash).length:Int) by omega]
  refine Pj λs1 up=>up λh6 o6 t' v'=>cL (λc1=>?_) λc1=>?_
  ·have nm:g.b≠Y:=λe=>c' (e▸xm);refine aj (o6.aZ g' λe=>e' r2 (e▸xm)) rfl ?_;refine bK ?_;refine aj (o6.aZ f' nm) (by simp[bW] <;> rfl) (v' (jv.1 ag) λh7 o7 d7=>aW ag ag (hZ _ _ ⟨n,ag,ag,ag,W.trans ((bh g5:Tn _ h4 h5).trans (o7.fr.mono λc q _=>q▸xm)),d7⟩ ag))
  ·exact aW ag ag (hZ _ _ ⟨n,ag,ag,ag,W.trans ((bh g5:Tn _ h4 h5).trans (o6.fr.mono λc q _=>q▸xm)),t' λe=>by rw[e]at nq;simp at nq;omega⟩ ag)
 ·have en:n=mm.r.b.aF.length:=ag;subst en;refine aAM (aj P rfl (aj P rfl ?_));refine bK ?_;refine aj O (by simp[bW] <;> rfl) (aj m' rfl (d4.cut (bP _) U rfl λs' d'=>Pc O λh5 o5 k5=>?_))
  have y':r.b.aF.take mm.r.b.aF.length=mm.r.b.aF:=(UI.1 l).symm;rw[y']at d';have d':=d'.fr o5.fr λc q _ e=>c' (e▸q);have G4:=G3.ZM (sp':=[Sl.v s',.map (some Y)]) (r':=((r.qF mm.r).fk 0 H.r).up λb=>{b with ends:=mm.r.b.ends,aF:=mm.r.b.aF}) KF ((W.mono λc q _=>.inr q).trans (o5.fr.mono λc q _=>.inl q)) (by dsimp only;rw[ex];exact k5) ⟨rfl,rfl,rfl,rfl⟩ (by rw[I,I];rfl) rfl ((eS _ _ _ _).2 ⟨s',Y,rfl,d'⟩) (λl' e q=>by
   cases e;rw[ep];exact⟨jJ _,jJ _,iY U b',λv hv=>L v (l.subset hv)⟩) λq=>ag
  have tf:Tn T h h5:=((((u1.mono λc q _=>q.elim (λe=>e▸G.t.tb) λq=>G.ku g.gw q).trans (u2.mono λc q _=>G.ku (g.fC hA) q)).trans (w3.fr.mono λc q _=>q▸G.t.tb)).trans (W.mono λc q _=>G.ku g.iN q)).trans (o5.fr.mono λc q _=>q▸G.t.tb);have eK:∀(r9:Raw),r9.kids=r.kids->(r9.fk 0 H.r).kids=mm.r.kids:=by
   intro r9 e9;rw[ks.1,em];obtain⟨b9,o'⟩:=r9;have hl:=G.lk.2.2;rw[<-e9]at hl
   match o',hl with
   |[y],_=>rfl
  exact hk h5 tf ⟨_,by rfl,G4.conv (r':=mm.r) ⟨rfl,rfl,rfl,rfl⟩ (by rw[I,I];rfl) (eK _ rfl).symm (λ_=>rfl) λl' e _=>by cases e;rw[ep];exact⟨jJ _,jJ _,iY U b',λv hv=>L v (l.subset hv)⟩⟩
end
section
variable {c:aq} {M:cN} {vs:aP}
theorem OV{ix:Int}{K:cJ}(b:3<=ix/\ix<=10)(a:K (wB ix:Int) h):CC ix h K Kp:=by
 have:ix=3\/ix=4\/ix=5\/ix=6\/ix=7\/ix=8\/ix=9\/ix=10:=ag;rcases this with rfl|rfl|rfl|rfl|rfl|rfl|rfl|rfl <;> exact ai6 a
theorem ave(c':bC f)(L:f.k=19)(d':f.cs=[c])(C:MC c M):xg f (cQ f [M]):=by
 intro T h v vs m K Kp hc H hk;obtain⟨g,rfl,G⟩:=H;have KF:=ni C;have W:=(c'.right.1.2.2.2.2.2.1 L).2.2;have ed:bG f.k=qv:=by unfold bG;simp[*]
 have es:=BB L;obtain⟨s0,V⟩:=rN G.ls (es _);obtain⟨A0,e'⟩:∃A,g.ST[0]? =some A:=⟨_,bx (by rw[G.ls.2,es];simp)⟩
 have ef:f.dn (f.st vs)=.mk (f.st vs).b.rows 0 (f.st vs).b.ck [dF (f.st vs).b,laidB (f.st vs).b.ends (wB f.ix)] [] (ie f vs):=by rw[GR L,fF];rfl
 rw[ef]at hk;obtain⟨ev,i',el⟩:=TB L hc;have eb:∀x∈(f.st vs).b.ends,x<2^63:=by
  rw[fF];simp only[aK];rw[ay,ay,ay,aI L];intro x d;obtain⟨v,_,rfl⟩:=lU.1 d;split
  ·omega
  ·cases hp:gj v (dS vs)with
   |none=>simp
   |some p=>have:=(cU.1 (Dd hp).1).1;grind
 have b':wB f.ix<=8:=by unfold wB;split;omega;split;omega;grind
 have q:mH (.iface qv (bI g.b)) h K Kp:=by
  refine av2 (aDM (aG λa2 r e1 g1 k2 _=>?_));refine bK ?_;have R:∀{d:Hp},az r d->bR f [M] T d _ m g:=λF=>G.fr KF (bh (ak g1 F)) λ_ _ _=>id;have kb:=(R (cK _)).B.k;have o0:∀{d:Hp},az r d->Os A0 d s0 _ Y6:=λF=>(R F).sl 0 s0 A0 _ (by simp[V]) e' (by rw[es];rfl)
  have fin:∀{d:Hp}{e:Nat}{b:Sl},AK h d a2 e (f.st vs).b.rows (f.st vs).b.ck b [dF (f.st vs).b,laidB (f.st vs).b.ends (wB f.ix)]->yV K Kp (bz g.b) (aJ a2) (aJ e) d:=by
   intro d e b B;apply aAR;refine bK ?_;obtain⟨c2,Z,a',e2⟩:=B.k2;have g':=a'.lt;have f':=B.k3.lt;have Gh:=G.fr KF (bh B.g) λ_ _ _=>id;refine abU (i:=1) (.inr (.inr (.inl L))) d' C hc Gh (by simp[V]) rfl λa h' gr la ds=>apc (t:=⟨some (aJ a),1,1⟩) (a'.ai gr) e2 (B.k3.ai gr) B.l.2.2 λY Z=>?_
   obtain⟨ge,be⟩:=B.end gr Z;have:=B.g.1;exact hk (b,Sl.nil,_) Y ge ⟨be,jH _,dz.fr Z (λc(q:d.size<=c)_ z=>ag) (λc(q:d.size<=c)_ z=>ag) (λc(q:d.size<=c)=>ag) (λc(q:d.size<=c)=>ag) _ ds⟩
  have q5:=λ{d:Hp}{e:Nat}{b:Sl}(F:az r d)(o:aN d e cY bX)(U:r.size<=e)(Q:fc (Ex r e) (Ex r e) d b [dF (f.st vs).b,laidB (f.st vs).b.ends (wB f.ix)])=>Hu g1 k2 rfl ag F o U Q λh'=>fin;have q4:∀{d:Hp}{e:Nat}{b:Sl},az r d->aN d e cY bX->r.size<=e->fc (Ex r e) (Ex r e) d b [dF (f.st vs).b,laidB (f.st vs).b.ends (wB f.ix)]->
    iB (bz g.b) b d (λt0 t1 Z t3 t4 t5 X=>cV X (aJ e) t0 t1 Z t3 t4 t5 (yV K Kp (bz g.b) (aJ a2) (aJ e))) Kp:=λF o U Q=>qo (R F).B λX I=>q5 (ak F I) (o.ai I) U (Q.gr I)
  have q3:=λ{d:Hp}{e:Nat}{u t:Sl}(F:az r d)(o:aN d e cY bX)(U:r.size<=e)(P:dX (Ex r e) d u (bv (dF (f.st vs).b)))(vt:dX (Ex r e) d t (bv (laidB (f.st vs).b.ends (wB f.ix))))=>
   oC P vt ⟨F.1,by have:=o.lt;omega⟩ λa X I Q=>q4 (ak F I) (o.ai I) U Q
  have q2:=λ{d:Hp}{e:Nat}{u:Sl}(F:az r d)(o:aN d e cY bX)(U:r.size<=e)(P:dX (Ex r e) d u (bv (dF (f.st vs).b)))=>
   xJ (Kp:=Kp) (o0 F) el b' eb λt X N=>q3 (ak F N.g) (o.ai N.g) U (P.gr N.g) (N.lp.mo λc(q:d.size<=c)=>⟨by have:=F.1;omega,by have:=o.lt;omega⟩)
  have y:=λ{d:Hp}(F:az r d)=>(R F).B.k;refine(R (cK _)).dG (i:=0) rfl (by simp[V]) (aj kb (by simp[bW] <;> rfl) ⟨wD (R (cK _)).B λu Y j P=>bM kb j (bM kb j ⟨OV W (mF (y j) (y j) ⟨xJ (o0 j) el b' eb λt h3 N=>⟨?_,?_⟩,aG λe h3 e3 E o _=>bM (y j) E (bM (y j) E ?_)⟩),aG λe h3 e3 E o _=>bM (y j) E (bM (y j) E (OV W (mF (y (ak j E)) (y (ak j E)) ?_)))⟩),aG λe Y e2 j o _=>bM kb j (bM kb j (wD (R j).B λu h3 E P=>bM (y j) E (bM (y j) E (OV W (mF (y (ak j E)) (y (ak j E)) ?_)))))⟩)
  ·have z2:=j.1;have O:=ak j N.g;have z3:=N.g.1;refine oC ((P.gr N.g).mo λc q=>q) (N.lp.mo λc(q:Y.size<=c)=>ag) ag λa h4 J Q=>⟨qo (R (ak O J)).B λX I=>aG λe h6 e6 g6 o _=>bM (y (ak (ak O J) I)) g6 (bM (y (ak (ak O J) I)) g6 ?_),aG λe X e5 I o _=>bM (y (ak O J)) I (bM (y (ak O J)) I ?_)⟩
   ·have z4:=J.1;have z5:=I.1;exact q5 (ak (ak (ak O J) I) g6) o ag (Q.kN (ak I g6) ag λc q=>q)
   ·have z4:=J.1;exact q4 (ak (ak O J) I) o ag (Q.kN I ag λc q=>q)
  ·have z2:=j.1;have z3:=N.g.1;have O:=ak j N.g;refine aG λe h4 e4 J o _=>bM (y O) J (bM (y O) J (q3 (ak O J) o ag (P.kN (ak N.g J) ag λc q=>q) (N.lp.kN J ag λc(q:Y.size<=c)=>ag)))
  ·have z2:=j.1;exact q2 (ak j E) o ag (P.kN E ag λc q=>q)
  ·have z2:=j.1;exact q2 (ak j E) o ag (P.kN E ag λc q=>q)
  ·have z2:=j.1;exact q2 (ak j E) (o.ai E) ag (P.mo λc(q:Y.size<=c)=>⟨ag,ag⟩)
 grind
end
mutual
def aq.mP:aq->cN
 |.mk nm au k w id ix cs=>cQ (.mk nm au k w id ix cs) (FW cs)
def FW:List aq->List cN
 |[]=>[]
 |f::fs=>f.mP::FW fs
end
theorem abj:∀cs:List aq,FW cs=cs.map aq.mP
 |[]=>by simp[FW]
 |f::a=>by simp[FW,abj a]
theorem aq.abk(f:aq):f.mP=cQ f (f.cs.map aq.mP):=by
 obtain⟨a,au,k,w,id,ix,cs⟩:=f;rw[<-abj];simp only[aq.mP];rfl
def aGE(f:aq)(M:cN):Prop:=∀{T:aQ}{h:Hp}{v:Value}{r:Raw}{mm:Mem}{K:HP}{Kp:PK},M T h v r (some mm)->
  (∀h',Tn T h h'->M T h' v mm.r (some mm)->K h')->cX aD mm.F [] h (λr h1=>r=.tuple #[]/\K h1) Kp
section
variable {KM:List cN}
theorem kH.drop(C:kH f.cs KM):∀(j:Nat)M,KM[j]? =some M->∀{T:aQ}{h:Hp}{v:Value}{r:Raw}{m:fQ},M T h v r m->M T h v r none:=by
 intro j M a T h v r m;have c:=(cU.1 a).1;have b:j<f.cs.length:=by have:=C.1;omega
 exact(C.2 j _ M (bx b) a).drop
theorem xH(C:kH f.cs KM)(t:wU f (cQ f KM))(z:wR f (cQ f KM))(k:wZ f (cQ f KM))(b:aGE f (cQ f KM))(d:xg f (cQ f KM)):MC f (cQ f KM):=
 ⟨cQ.fr (v:=.bool false) C.qQ,cQ.lt,cQ.na,cQ.mono,cQ.drop C.drop,t,z,k,b,d,cQ.count,cQ.weight⟩
theorem aqM(b:bC f)(D:∀c∈f.cs,MC c c.mP):MC f f.mP:=by
 have C:kH f.cs (f.cs.map aq.mP):=⟨cm ..,λj c M u B=>by
  grind⟩
 have z:∀c∈f.cs,jl c/\dU c c.zk c.bZ:=λc u=>⟨(mb c (b.aL u)).1,(mb c (b.aL u)).2.1⟩;rw[aq.abk];have flat:f.k≠15/\f.k≠16/\f.k≠19/\f.k≠20/\f.k≠17/\f.k≠18->f.cs=[]:=λq=>jv.1 (b.right.1.2.2.2.2.2.2.2.2.2.2 q);have one:f.k=15\/f.k=16\/f.k=19\/f.k=20->∃c,f.cs=[c]/\MC c c.mP/\jl c/\dU c c.zk c.bZ:=λq=>by
  obtain⟨c,u,_⟩:=b.one q;simp[*]
 by_cases x:f.k=1
 ·have a:=flat ag;exact xH C (by rw[a];exact al7 x) (by rw[a];exact aki x) (by rw[a];exact aq0 x a) (by rw[a];rintro T h v r t K w ⟨g,rfl,G⟩ e;exact axP x a G e) (by rw[a];exact avc x)
 by_cases s:f.k=12\/f.k=13
 ·have a:=flat ag;exact xH C (by rw[a];exact al2 b s) (by rw[a];exact akd b s) (by rw[a];exact aqV s a) (by rw[a];rintro T h v r t K w ⟨g,rfl,G⟩ e;exact axK s a G e) (by rw[a];exact au7 s)
 by_cases p:f.k=15
 ·obtain⟨c,a,d,P,_⟩:=one ag;exact xH C (by rw[a];exact al8 b p a d P) (by rw[a];exact akj b p a d P) (by rw[a];exact aq1 p a d) (by rw[a];rintro T h v r t K w ⟨g,rfl,G⟩ e;exact axQ p a d G e) (by rw[a];exact avd p a d)
 by_cases o:f.k=16
 ·obtain⟨c,a,d,P,Z⟩:=one ag;exact xH C (by grind[al4]) (by grind[akf]) (by rw[a];exact aqX o a d) (by rw[a];rintro T h v r t K w ⟨g,rfl,G⟩ e;exact axM o a d G e) (by rw[a];exact au9 o a d)
 by_cases n:f.k=17
 ·exact xH C (al3 b n C z) (ake b n C z) (aqW b n C) (by rintro T h v r t K w ⟨g,rfl,G⟩ e;exact axL b n C G e) (au8 b n C)
 by_cases m:f.k=18
 ·exact xH C (ama b m C z) (akl b m C z) (aq3 b m C) (by rintro T h v r t K w ⟨g,rfl,G⟩ e;exact axS b m C G e) (avf b m C)
 by_cases l:f.k=19
 ·obtain⟨c,a,d,P,_⟩:=one ag;exact xH C (by rw[a];exact al9 l a d) (by rw[a];exact akk b l a d) (by rw[a];exact aq2 l a d) (by rw[a];rintro T h v r t K w ⟨g,rfl,G⟩ e;exact axR l a d G e) (by rw[a];exact ave b l a d)
 by_cases i:f.k=20
 ·obtain⟨c,a,d,P,_⟩:=one ag;exact xH C (by rw[a];exact al5 b i a d P) (by rw[a];exact akg b i a d P) (by rw[a];exact aqY i a d) (by rw[a];rintro T h v r t K w ⟨g,rfl,G⟩ e;exact axN i a d G e) (by rw[a];exact ava i a d)
 have y:fH f.k=true:=by simp[fH];omega
 have a:=flat ag;exact xH C (by rw[a];exact al6 y) (by rw[a];exact akh b y) (by rw[a];exact aqZ y a) (by rw[a];rintro T h v r t K w ⟨g,rfl,G⟩ e;exact axO y a G e) (by rw[a];exact avb b y)
end
theorem vT:∀f:aq,bC f->MC f f.mP
  | .mk e au k w id ix cs,a=>by
    have b:∀c∈cs,MC c c.mP:=λc d=>vT c (a.aL d);exact aqM a b
theorem rH(f:aq):f.wz<=4194305:=by
 rw[Aa];unfold ze;grind
theorem A6(k:aN h a (f.row s).toArray iz):Cs h ⟨a,2,none⟩ [ah f.k,ah f.w,ah f.id,ah f.ix,Sl.v s]:=by
 intro i v b;rw[bw,gW k];rcases i with _|_|_|_|_|i
 ·simpa[aq.row,oq]using b
 ·simpa[aq.row,oq]using b
 ·simpa[aq.row,oq]using b
 ·simpa[aq.row,oq]using b
 ·simpa[aq.row,oq]using b
 ·simp at b
theorem akJ(fu:bC f)(IH:∀c∈f.cs,Cg c):Cg f:=by
  cases hl:f.lets with
  |true=>exact akK hl
  |false=>
  intro h s K Kp hs hk;have nh:=fu.right.1;obtain⟨_,_,xU,DA,_,_,_,h1,Tc,Bv,_⟩:=nh;refine ajr (aG λa1 h1' e1 g1 k1 _=>dZ k1 (F6 (hs.gr g1) λh2 g2=>bu hl ?_));have s2:=g2.1;have G2:=ak g1 g2;have k1:=k1.ai g2;simp only[bw,cz];refine nk (A6 k1) (aG λa3 h3 e3 g3 k3 _=>pE k3 rfl λh4 o4 k3=>aj k3 rfl ?_);have G4:=bE (ak G2 g3) o4 ag;have zI:=hs.gr G4;have fin:∀{h':Hp}(n:Nat){x:Int},az h4 h'->f.wz=min 4194305 n->x=(n:Int)->Lt (if 4194305<x then 4194305 else x) λt63=>K t63 h':=by
    rintro h' n x g e rfl;have:=hk h' (ak G4 g);have e2:(if 4194305<(n:Int)then(4194305:Int)else(n:Int))=(f.wz:Int):=by rw[e];split <;> omega
    unfold Lt;rw[e2];exact this
  have ew:f.wz=min 4194305 (if f.k=14 then 16+f.w.toNat else if f.k=16 then 16+f.w.toNat*(f.cs.map aq.wz).getD 0 0 else if f.k=17 then 16+(f.cs.map aq.wz).sum else if f.k=18 then 16+(f.cs.map aq.wz).getD 0 0 else if f.k=19\/f.k=20 then(f.cs.map aq.wz).getD 0 0 else 16):=by
    rw[Aa,hl];rfl
  have aL:∀{c:aq},f.cs[0]? =some c->(f.cs.map aq.wz).getD 0 0=c.wz:=by grind
  simp only[bw,cz];refine aE (λgY=>?_) λgY=>aE (λkA=>?_) λkA=>aE (λmV=>?_) λmV=>aE (λfP=>?_) λfP=>?_
  ·have gY:=aM gY;have hw:=xU gY;rw[aI gY]at ew;exact aj k3 rfl (aW ag ag (fin (16+f.w.toNat) (cK _) ew (by push_cast;omega)))
  · simp only[sm,reduceCtorEq]at gY kA;rw[aC gY,aI kA]at ew;have hc:=h1 ag;have eB:f.cs[0]? =some f.cs[0]:=bx ag;generalize f.cs[0]=c at eB;rw[aL eB]at ew;have wl:=rH c;refine aj k3 rfl (aj k3 rfl (zI.ix rfl eB λp hp=>?_));obtain⟨u,cp,hu⟩:=hp.row;refine gK cp (IH c (bL eB) hu λh5 g5=>bM k3 g5 ?_);have e1:f.w*(c.wz:Int)=((f.w.toNat*c.wz:Nat):Int):=by push_cast;rw[yH ag]
    have e2:f.w.toNat*c.wz<=64*4194305:=tN ag wl;rw[e1];exact aW ag ag (aW ag ag (fin (16+f.w.toNat*c.wz) g5 ew (by push_cast;rfl)))
  · simp only[sm,reduceCtorEq]at gY kA mV;rw[aC gY,aC kA,aI mV]at ew;have hn:=zI.n;have asD:∀i,((f.cs.map aq.wz).take i).sum<=i*4194305:=by
      intro i
      induction i with
      |zero=>simp
      | succ i ih=>
        by_cases hi:i<(f.cs.map aq.wz).length
        ·grind[List.take_succ_eq_append_getElem,rH]
        ·have q1:(f.cs.map aq.wz).take (i+1)=f.cs.map aq.wz:=qu ag;have q2:(f.cs.map aq.wz).take i=f.cs.map aq.wz:=qu ag;rw[q1];rw[q2]at ih;exact iY ih (pG _ (Nat.le_succ i))
    refine aj k3 rfl (azD (λy z h'=>∃i:Nat,z=i/\i<=f.cs.length/\y=((16+((f.cs.map aq.wz).take i).sum:Nat):Int)/\az h4 h') (λ_ z _=>f.cs.length-z.toNat) ⟨0,rfl,dN _,aA,cK _⟩ ?_)
    rintro y z h5 ⟨i,rfl,hi,ey,g5⟩ N hN;subst ey;have hb:=asD i;refine cL (λcc=>?_) λcc=>?_
    · have eW:i<f.cs.length:=ag;have eB:=bx eW;have lE:(f.cs.map aq.wz).take (i+1)=(f.cs.map aq.wz).take i++[f.cs[i].wz]:=by rw[kg (by simpa using eW)];simp
      generalize f.cs[i]=c at eB lE;have wl:=rH c;refine(zI.gr g5).ix rfl eB λp hp=>?_;obtain⟨u,cp,hu⟩:=hp.row;refine gK cp (aG λa6 h6 e6 g6 k6 _=>oD k6 rfl λh7 o7 k7=>dZ k7 ?_);have g7:=bE g6 o7 ag;refine IH c (bL eB) (hu.gr g7) λh8 g8=>aW ag ag (aW ag ag (hN _ _ _ ⟨i+1,aA,ag,?_,ak g5 (ak g7 g8)⟩ ag))
      rw[lE,Hz];simp;omega
    ·have:i=f.cs.length:=ag;subst this;rw[qu aA];exact fin (16+(f.cs.map aq.wz).sum) g5 ew (by push_cast;rfl)
  ·simp only[sm,reduceCtorEq]at gY kA mV fP;rw[aC gY,aC kA,aC mV,aI fP]at ew;have hc:=(Bv fP).1;have eB:f.cs[0]? =some f.cs[0]:=bx ag;generalize f.cs[0]=c at eB;rw[aL eB]at ew;have wl:=rH c;refine aj k3 rfl (zI.ix rfl eB λp hp=>?_);obtain⟨u,cp,hu⟩:=hp.row;exact gK cp (IH c (bL eB) hu λh5 g5=>aW ag ag (fin (16+c.wz) g5 ew (by push_cast;rfl)))
  · simp only[sm,reduceCtorEq]at gY kA mV fP;rw[aC gY,aC kA,aC mV,aC fP]at ew;have deep:f.k=19\/f.k=20->Ld h4 ⟨a3,4,none⟩ Sl.v λt58=>Ix t58.a t58.n 7 0 λa59=>bN h4 a59 λami amh amg amf ame amd amc=>yZ ami amh amg amf ame amd amc h4 (λt61 h5=>Lt (if 4194305<t61 then 4194305 else t61) λt63=>K t63 h5) Kp:=by
      intro q;rw[aI q]at ew;have hc:=h1 ag;have eB:f.cs[0]? =some f.cs[0]:=bx ag;generalize f.cs[0]=c at eB;rw[aL eB]at ew;refine aj k3 rfl (zI.ix (x:=0) (i:=0) rfl eB λp hp=>?_);obtain⟨u,cp,hu⟩:=hp.row;exact gK cp (IH c (bL eB) hu λh5 g5=>fin c.wz g5 ew rfl)
    refine aE (λnU=>bO nU ?_) λnU=>aE (λzV=>?_) λzV=>?_
    ·have nU:=aM nU;exact deep (.inl nU)
    ·have zV:=aM zV;exact deep (.inr zV)
    ·simp only[sm,reduceCtorEq]at nU zV;rw[ay]at ew;exact fin 16 (cK _) ew rfl
theorem YP:∀f:aq,bC f->Cg f
  | .mk e au k w id ix cs,a=>by
    have b:∀c∈cs,Cg c:=λc d=>YP c (a.aL d);exact akJ a b
open Go Go.Sh Go.Shelf
def aan:Ren where
 f:=λx=>match x with|99=>122|105=>107|165=>123|166=>124|169=>126|170=>125|206=>143|212=>121|240=>144|241=>145|263=>141|264=>142|276=>153|277=>154|n=>n
 t:=λx=>match x with|37=>50|46=>171|51=>243|53=>237|70=>228|72=>230|75=>233|76=>234|109=>225|127=>252|146=>248|148=>250|164=>261|80=>236|n=>n
 g:=λn=>n
theorem FI:Lays.n105 aD aan where
 mixed:=by kernel_rfl
 f99:=by kernel_rfl
 f105:=by kernel_rfl
 f165:=by kernel_rfl
 f166:=by kernel_rfl
 f169:=by kernel_rfl
 f170:=by kernel_rfl
 f206:=by kernel_rfl
 f212:=by kernel_rfl
 f240:=by kernel_rfl
 f241:=by kernel_rfl
 f263:=by kernel_rfl
 f264:=by kernel_rfl
 f276:=by kernel_rfl
 f277:=by kernel_rfl
 t0:=Tryz.underlying0
 a0:=Tryz.isAgg0
 z0:=Tryz.sizeOf0
 v0:=Tryz.zeroValue0
 t3:=Tryz.underlying3
 a3:=Tryz.isAgg3
 z3:=Tryz.sizeOf3
 v3:=Tryz.zeroValue3
 t4:=Tryz.underlying4
 a4:=Tryz.isAgg4
 z4:=Tryz.sizeOf4
 v4:=Tryz.zeroValue4
 t5:=Tryz.underlying5
 a5:=Tryz.isAgg5
 z5:=Tryz.sizeOf5
 v5:=Tryz.zeroValue5
 t9:=Tryz.underlying9
 a9:=Tryz.isAgg9
 z9:=Tryz.sizeOf9
 v9:=Tryz.zeroValue9
 t20:=Tryz.underlying20
 a20:=Tryz.isAgg20
 z20:=Tryz.sizeOf20
 v20:=Tryz.zeroValue20
 t37:=Tryz.underlying50
 a37:=Tryz.isAgg50
 z37:=Tryz.sizeOf50
 v37:=Tryz.zeroValue50
 t46:=Tryz.underlying171
 a46:=Tryz.isAgg171
 z46:=Tryz.sizeOf171
 v46:=Tryz.zeroValue171
 t51:=Tryz.underlying243
 a51:=Tryz.isAgg243
 z51:=Tryz.sizeOf243
 v51:=Tryz.zeroValue243
 t53:=Tryz.underlying237
 a53:=Tryz.isAgg237
 z53:=Tryz.sizeOf237
 v53:=Tryz.zeroValue237
 t70:=Tryz.underlying228
 a70:=Tryz.isAgg228
 z70:=Tryz.sizeOf228
 v70:=Tryz.zeroValue228
 t72:=Tryz.underlying230
 a72:=Tryz.isAgg230
 z72:=Tryz.sizeOf230
 v72:=Tryz.zeroValue230
 t75:=Tryz.underlying233
 a75:=Tryz.isAgg233
 z75:=Tryz.sizeOf233
 v75:=Tryz.zeroValue233
 t76:=Tryz.underlying234
 a76:=Tryz.isAgg234
 z76:=Tryz.sizeOf234
 v76:=Tryz.zeroValue234
 t109:=Tryz.underlying225
 a109:=Tryz.isAgg225
 z109:=Tryz.sizeOf225
 v109:=Tryz.zeroValue225
 t127:=Tryz.underlying252
 a127:=Tryz.isAgg252
 z127:=Tryz.sizeOf252
 v127:=Tryz.zeroValue252
 t146:=Tryz.underlying248
 a146:=Tryz.isAgg248
 z146:=Tryz.sizeOf248
 v146:=Tryz.zeroValue248
 t148:=Tryz.underlying250
 a148:=Tryz.isAgg250
 z148:=Tryz.sizeOf250
 v148:=Tryz.zeroValue250
 t164:=Tryz.underlying261
 a164:=Tryz.isAgg261
 z164:=Tryz.sizeOf261
 v164:=Tryz.zeroValue261
theorem aoR:Builder.Extra aD aan where
 sizeBuilder:=by kernel_rfl
 liesBuilder:=by kernel_rfl
 t5:=FI.t5
 a5:=FI.a5
 z5:=FI.z5
 v5:=FI.v5
 infoByte:=by kernel_rfl
 cellsByte:=by kernel_rfl
 sizeByte:=by kernel_rfl
 neB5:=by decide
theorem aam:∀n:Nat,Lib.repeatL [0] n=List.replicate n 0
 |0=>rfl
 |n+1=>by simp[Lib.repeatL,aam n,HF]
theorem aoQ{n:Int}{K:ByteArray->HP}(h0:0<=n/\n<=1000)(hk:∀h',az h h'->K (bs (List.replicate n.toNat 0)) h'):aiY (bs [0]) n h K Kp:=by
 intro w hw;obtain⟨m,rfl⟩:∃m:Nat,n=m:=⟨n.toNat,by omega⟩
 refine(Any.strings_Repeat FI aoR (bs [0]) m w ag (by show 1*m<=_;omega)).mono ?_
 rintro e w' ⟨rfl,b⟩;have lt:∀{k:Nat}{d:Obj},w.heap[k]? =some d->k<w.heap.size:=λq=>(kS.1 q).1;refine⟨⟨b.tape,b.os,b.output,b.size,λk ds q=>by rw[b.block k (lt q)];exact q⟩,_,rfl,?_⟩
 have e:(Lib.repeatL (bs [0]).data.toList m).toArray=(List.replicate m 0).toArray:=by rw[show(bs [0]).data.toList=[0]from rfl,aam]
 rw[e];apply hk _;rw[<-hw];refine⟨by unfold aT;simp only[Ve];exact b.size,λk Gu=>?_⟩
 unfold aT at Gu ⊢;simp only[Ve]at Gu;rw[B0,B0,b.block k Gu]
def nw(lo:Nat)(h:Hp)(t:Sl)(aF:aP):Prop:=
 ∃ss:List Sl,ss.length=aF.length/\eT lo 4 h t (List.zipWith aB.row aF ss) dh/\∀(j:Nat)(z:aB)(u:Sl),aF[j]? =some z->ss[j]? =some u->aR (λb=>lo<=b/\¬t.at b) h u z.items
section
variable {lo:Nat} {h':Hp} {t u:Sl} {z:aB}
theorem nw.nil:nw lo h Sl.nil []:=⟨[],rfl,qY _ _ _ _,aA⟩
theorem nw.fr{S:aQ}(o:nw lo h t aF)(f:Tn S h h')(B:∀c,lo<=c->c<h.size->¬S c):nw lo h' t aF:=by
 obtain⟨a,e,r,v⟩:=o;exact⟨a,e,r.fr f B,λj z u h1 d=>aR.fr f (λc b hl=>B c b.1 hl) (λ_ q=>q) _ (v j z u h1 d)⟩
theorem nw.ai(o:nw lo h t aF)(g:az h h'):nw lo h' t aF:=o.fr (bh g) λ_ _ _=>id
theorem nw.at(o:nw lo h t aF){c:Nat}(H:t.at c):lo<=c/\c<h.size:=by obtain⟨a,e,r,v⟩:=o;exact r.at H
theorem nw.app{K:Sl->HP}(o:nw lo h t aF)(m:lo<=h.size)(G:aF.length<=5000)(k:aN h a (z.row u).toArray ty)(v:aR (λb=>lo<=b/\¬t.at b) h u z.items)
  (D:∀y h',Tn t.at h h'->nw lo h' y (aF++[z])->K y h'):Ap h dh fU 4 56 t 1 (rd h (bz a) (1*4)) K:=by
 obtain⟨A,e,r,w⟩:=o;have B:=r.n;rw[oG]at B;refine r.ap m rfl (new:=[z.row u]) rfl (λr f=>by simp at f;subst f;rfl) (λr f=>by grind[AO]) (by simpa[aB.row,xo]using iM k rfl) ag ag λs E l p C=>D s E l ⟨A++[u],by simp[e],by rw[EZ e];exact C,λj x q g d=>?_⟩
 have i:∀b,s.at b->b<h.size->t.at b:=bU;rcases xu e d with⟨F,d⟩|⟨rfl,rfl⟩
 ·rw[iQ ag]at g;exact aR.fr l (λb c _=>c.1.2) (λb c=>⟨c.1.1,λq=>c.1.2 (i b q c.2)⟩) _ (aR.lt _ (w j x q g d))
 ·rw[gm (bP _)]at g;simp at g;subst g;exact aR.fr l (λb c _=>c.1.2) (λb c=>⟨c.1.1,λq=>c.1.2 (i b q c.2)⟩) _ (aR.lt _ v)
theorem nw.vs(o:nw lo h t aF):aR (λb=>lo<=b) h t aF:=by
 obtain⟨f,e,r,v⟩:=o;exact aR.snoc r e (λb a=>a) λj d p h1 c=>sA (v j d p h1 c) λb a=>a.1
theorem aR.one(k:aN h a (z.row u).toArray ty)(g:D a)(v:aR D h u z.items):aR D h ⟨some (aJ a),1,1⟩ [z]:=by
 refine aR.aa4 (ss:=[u]) ⟨λr c=>by simp at c;subst c;rfl,rfl,rfl,rfl,_,k,bP _,rfl,λi f=>?_⟩ rfl g λj d p h1 e=>?_
 ·simp
 grind
end
structure ZL(h:Hp)(lo a2 a3 a4:Nat):Prop where
 l:h.size<=lo
 q2:h.size<=a2/\a2<lo
 q3:h.size<=a3/\a3<lo
 q4:a4<lo
 n:a2≠a3/\a4≠a3
structure ZS(h:Hp)(lo a2 a3 a4:Nat)(c4:Array Value)(hx:Hp)(t:Sl)(aF:aP):Prop where
 g:az h hx
 l:lo<=hx.size
 k2:aN hx a2 fU dh
 k4:aN hx a4 c4 kG
 k3:aN hx a3 #[.bool false,ah 0,.string (bs []),Sl.v t] dh
 o:nw lo hx t aF
section
variable {hx h1:Hp} {lo a2 a3 a4:Nat} {c4 c2:Array Value} {t u:Sl} {xs:aP} {z:aB} {K:Bool->Int->ByteArray->Sl->HP}
theorem ZS.ai(S:ZS h lo a2 a3 a4 c4 hx t aF)(g:az hx h1):ZS h lo a2 a3 a4 c4 h1 t aF:=⟨ak S.g g,by have:=S.l;have:=g.1;omega,S.k2.ai g,S.k4.ai g,S.k3.ai g,S.o.ai g⟩
theorem ZL.more{X:HP}(L:ZL h lo a2 a3 a4)(S:ZS h lo a2 a3 a4 c4 hx t aF)(G:aF.length<=5000)(B:az hx h1)(C:aR (Nw hx) h1 u z.items)(H:∀y j,ZS h lo a2 a3 a4 c4 y j (aF++[z])->X y):aH h1 #[.bool z.au,ah z.num,.string (bs z.text),Sl.v u] dh λs k=>aU h1 k ⟨a3,3,none⟩ 1 (Ap k dh fU 4 56 t 1 (rd k (some s) (1*4)) λn J=>St J ⟨a3,3,none⟩ (Sl.v n) X):=by
 obtain⟨l,T,R,Q,V,U⟩:=L;obtain⟨M,W,F,E,w,o⟩:=S;refine aG λa8 I Z m D _=>bM (w.ai B) m ?_;have d:=ak B m;have P:=d.1;have b:∀c,t.at c->lo<=c/\c<hx.size:=λc x=>o.at x;refine(o.ai d).app ag G D (sA (eR C m) λc(q:hx.size<=c)=>⟨ag,λz=>bU⟩) λj Y f A=>?_
 have i:∀{c:Nat},c<lo->¬t.at c:=bU
 have O:=f.1;refine dc (f.aZ (w.ai d) (i ag)) aA rfl λg a p=>?_;have r:=bE (((bh (ak M d):Tn No h I).trans' f λc q N=>bU).ai) a ag
 exact H g j ⟨r,by have:=a.1;omega,a.aZ (f.aZ (F.ai d) (i ag)) ag,a.aZ (f.aZ (E.ai d) (i ag)) ag,by simpa using p,A.fr a.fr λc q _ _=>ag⟩
theorem ZL.GL(L:ZL h lo a2 a3 a4)(m:∀t h',az h h'->aR (Nw h) h' t v.items->K v.au v.num (bs v.text) t h')(n:az h hx)(k:aN hx a2 c2 dh)(o:c2.size=4)(j:aR (λb=>lo<=b) hx t v.items):dH hx (aJ a2) v.au v.num (bs v.text) t λg=>bJ g (aJ a2) λa b c d=>K a b c d g:=by
 obtain⟨l,s,r,p,x,w⟩:=L;exact lT k o λg f i=>eY i (m t g (bE n f ag) (aR.fr f.fr (λc(q:lo<=c)_(e:c=a2)=>ag) (λc(q:lo<=c)=>ag) _ j))
theorem ZL.fin{tx:dB}(L:ZL h lo a2 a3 a4)(y:∀t h',az h h'->aR (Nw h) h' t v.items->K v.au v.num (bs v.text) t h')(A:az h hx)(q:aN hx a2 c2 dh)(B:c2.size=4)(m:aN hx a3 #[.bool false,ah 0,.string (bs tx),Sl.v t] dh)(e:v=.mk false 0 tx xs)(l:aR (λb=>lo<=b) hx t xs):bJ hx (aJ a3) λa b c d=>dH hx (aJ a2) a b c d λj=>bJ j (aJ a2) λa b c d=>K a b c d j:=by
 subst e;exact eY m (L.GL y A q B l)
end
theorem OG(hl:f.lets=false):f.zv=if f.k=14 then .mk false 0 (List.replicate f.w.toNat 0) []else if f.k=16 then .mk false 0 [] (List.replicate f.w.toNat ((f.cs.map aq.zv).getD 0 v0))else if f.k=17 then .mk false 0 [] (f.cs.map aq.zv)
   else if f.k=18 then .mk false 0 [] [(f.cs.map aq.zv).getD 0 v0]else if f.k=19\/f.k=20 then(f.cs.map aq.zv).getD 0 v0 else .mk false 0 [] []:=by
 rw[aq.I5,hl];rfl
theorem I4{c:aq}(a:f.cs[0]? =some c):(f.cs.map aq.zv).getD 0 v0=c.zv:=dM
theorem ajS(o':bC f)(IH:∀c∈f.cs,Cf c):Cf f:=by
 cases hl:f.lets with
 |true=>exact ajU hl
 |false=>
 intro h s K Kp hs hk;have nh:=o'.right.1;obtain⟨_,_,s',r',_,_,_,h1,q',p',_⟩:=nh;refine ajq (aG λa1 h1' e1 g1 k1 _=>aG λa2 h2 e2 g2 A _=>dZ (k1.ai g2) (F6 ((hs.gr g1).gr g2) λh3 g3=>bu hl (aG λa3 h4 e4 g4 C _=>?_)));have s3:=g3.1;have k1:=((k1.ai g2).ai g3).ai g4;have A:=(A.ai g3).ai g4;simp only[bw,cz];refine nk (A6 k1) (aG λa4 h5 e5 g5 D _=>pE D rfl λI o6 D=>aj D rfl ?_);have v':=D.lt;have U:=bE g5 o6 ag;have A:=A.ai U;have C:=C.ai U;have R:=ak (ak (ak (ak g1 g2) g3) g4) U;have T:=hs.gr R;have m:=OG hl;have aL:∀{c:aq},f.cs[0]? =some c->(f.cs.map aq.zv).getD 0 v0=c.zv:=I4;have L:ZL h I.size a2 a3 a4:=⟨ag,ag,ag,ag,ag⟩
 have GL:=λ{hx c2 t}=>ZL.GL (hx:=hx) (c2:=c2) (t:=t) L hk;have fin:=λ{hx c2 t tx xs}=>ZL.fin (hx:=hx) (c2:=c2) (t:=t) (tx:=tx) (xs:=xs) L hk;have G:aN I a3 #[.bool false,ah 0,.string _,Sl.v Sl.nil] dh:=C;simp only[bw,cz];refine aE (λj=>?_) λj=>aE (λl=>?_) λl=>aE (λr=>?_) λr=>aE (λfP=>?_) λfP=>?_
 ·have j:=aM j;have hw:=s' j;rw[aI j]at m;exact aj D rfl (aoQ ag λh7 y=>dc (G.ai y) aA rfl λh8 o8 k8=>fin (t:=Sl.nil) (tx:=List.replicate f.w.toNat 0) (bE (ak R y) o8 ag) (o8.aZ (A.ai y) ag) rfl (by simpa using k8) m (qt _))
 ·simp only[sm,reduceCtorEq]at j l;have hw:=r' l;rw[aC j,aI l]at m;have hc:=h1 ag;have d:f.cs[0]? =some f.cs[0]:=aA;generalize f.cs[0]=c at d;rw[aL d]at m;refine aj D rfl (azC (λz hx=>∃(i:Nat)(t:Sl),z=i/\(i:Int)<=f.w/\ZS h I.size a2 a3 a4 #[ah f.k,ah f.w,ah f.id,ah f.ix,Sl.v s] hx t (List.replicate i c.zv)) (λz _=>(f.w-z).toNat) ⟨0,Sl.nil,rfl,ag,R,bP _,A,D,G,nw.nil⟩ ?_)
  rintro z hx ⟨i,t,rfl,hi,S⟩ N hN;have gx:=S.g;have A:=S.k2;have C:=S.k3;have o:=S.o;simp only[bw,cz];refine cL (λF=>?_) λF=>?_
  ·refine aj C rfl (aj S.k4 rfl ((hs.gr gx).ix (x:=0) (i:=0) rfl d λp P=>?_));obtain⟨u,Q,O⟩:=P.row;refine gK Q (IH c (bL d) O λt' h7 y M=>bM C y (L.more S cj y M λhy t' S=>aW ag ag (hN _ _ ⟨i+1,t',aA,ag,?_⟩ ag)))
   rw[D7];exact S
  ·have:i=f.w.toNat:=ag;subst this;exact fin gx A rfl C m o.vs
 ·simp only[sm,reduceCtorEq]at j l r;rw[aC j,aC l,aI r]at m;have hn:=T.n;have z':=q' r;refine aj D rfl (azB (λz hx=>∃(i:Nat)(t:Sl),z=i/\i<=f.cs.length/\ZS h I.size a2 a3 a4 #[ah f.k,ah f.w,ah f.id,ah f.ix,Sl.v s] hx t ((f.cs.map aq.zv).take i)) (λz _=>f.cs.length-z.toNat) ⟨0,Sl.nil,rfl,dN _,R,bP _,A,D,G,nw.nil⟩ ?_);rintro z hx ⟨i,t,rfl,hi,S⟩ N hN;have gx:=S.g;have A:=S.k2;have C:=S.k3;have o:=S.o;refine aE (λF=>?_) λF=>?_
  ·have F:=aM F;have j':i<f.cs.length:=ag;have d:f.cs[i]? =some f.cs[i]:=aA;have i':(f.cs.map aq.zv).take (i+1)=(f.cs.map aq.zv).take i++[f.cs[i].zv]:=by rw[kg dM];simp
   generalize f.cs[i]=c at d i';refine(hs.gr gx).ix rfl d λp P=>?_;obtain⟨u,Q,O⟩:=P.row;refine gK Q (aG λa6 h7 e7 y k6 _=>oD k6 rfl λh8 o8 k8=>?_);have zx:=gx.1;have E:az hx h8:=bE y o8 ag;have z8:=E.1;simp only[bw,cz];refine aj (C.ai E) rfl (dZ k8 (IH c (bL d) (O.gr E) λt' h9 g9 M=>bM (C.ai E) g9 (L.more (S.ai E) cj g9 M λhy t' S=>aW ag ag (hN _ _ ⟨i+1,t',aA,ag,?_⟩ ag))))
   rw[i'];exact S
  ·have F:=aM F;have:i=f.cs.length:=ag;subst this;rw[qu aA]at o;exact fin gx A rfl C m o.vs
 ·simp only[sm,reduceCtorEq]at j l r fP;rw[aC j,aC l,aC r,aI fP]at m;have hc:=(p' fP).1;have d:f.cs[0]? =some f.cs[0]:=aA;generalize f.cs[0]=c at d;rw[aL d]at m;refine aj D rfl (T.ix (x:=0) (i:=0) rfl d λp P=>?_);obtain⟨u,Q,O⟩:=P.row;refine gK Q (IH c (bL d) O λt h7 y M=>aG λa8 h8 e8 E k8 _=>dc (G.ai (ak y E)) aA rfl λh9 o9 k9=>?_);have z7:=y.1;have z8:=E.1;exact fin (t:=⟨some (aJ a8),1,1⟩) (tx:=[]) (bE (ak R (ak y E)) o9 ag) (o9.aZ (A.ai (ak y E)) ag) rfl (by simpa[Sl.v]using k9) m (aR.one (o9.aZ k8 ag) ag (aR.fr o9.fr (λc(q:I.size<=c)_(e:c=a3)=>ag) (λ_ q=>q) _ (eR M E)))
 ·simp only[sm,reduceCtorEq]at j l r fP;rw[aC j,aC l,aC r,aC fP]at m;have J:f.k=19\/f.k=20->Ld I ⟨a4,4,none⟩ Sl.v λg'=>Ix g'.a g'.n 7 0 λu'=>bN I u' λf' e' d' c' b' a' Z=>yY f' e' d' c' b' a' Z I (λY X W V h7=>dH h7 (aJ a2) Y X W V λh8=>bJ h8 (aJ a2) λn' m' l' k'=>K n' m' l' k' h8) Kp:=by
   intro q;rw[aI q]at m;have hc:=h1 ag;have d:f.cs[0]? =some f.cs[0]:=aA;generalize f.cs[0]=c at d;rw[aL d]at m;refine aj D rfl (T.ix (x:=0) (i:=0) rfl d λp P=>?_);obtain⟨u,Q,O⟩:=P.row;refine gK Q (IH c (bL d) O λt h7 y M=>?_);have:=GL (ak R y) (A.ai y) rfl (t:=t) (by rw[m];exact M)
   rw[m]at this;exact this
  refine aE (λB=>bO B ?_) λB=>aE (λH=>?_) λH=>?_
  ·have B:=aM B;grind
  ·have H:=aM H;grind
  ·simp only[sm,reduceCtorEq]at B H;rw[ay]at m;exact fin R A rfl G m (qt _)
theorem YG:∀f:aq,bC f->Cf f
  | .mk e au k w id ix cs,a=>by
    have b:∀c∈cs,Cf c:=λc d=>YG c (a.aL d);exact ajS a b
theorem FG:∀{l:aP},mL l->∀y∈l,y.nM
  |[],_,y,hy=>by simp at hy
  | x::xs,h,y,hy=>by
    rcases mB.1 hy with e|e
    ·rw[e];exact h.1
    ·exact FG h.2 y e
theorem aB.nM.items(h:v.nM):mL v.items:=by have⟨_,n,_,a⟩:=v;exact h.2
section
variable {x left:Nat} {t:Sl} {K:fJ}
theorem jz.tn{h':Hp}(u:jz h){c:Value}{ty:TypeId}(k:aN h x #[c] ty)(hc:∀n,c≠.int .u8 n)(tn:Tn (·=x) h h'):jz h':=by
 have e:∀(b:Nat)(n:Int),cell h (aJ b)=some (.int .u8 n)->b≠x:=by
  rintro b n q rfl;rw[gW k]at q;simp at q;exact hc n q
 exact u.fr tn (e 1 _ (u.f 0 aY)) (e 2 _ (u.a 0 aY).1)
theorem KA(k:aN h x #[ah (left:Int)] ru)(hl:left<=4194304)(hs:bY D h s f.cs)(nx:¬D x)(hv:aR D h t v.items)
  (hk:∀b h',Tn (·=x) h h'->(b=true↔v.bq<=left/\f.fit v=true)->(b=true->aN h' x #[ah ((left-v.bq:Nat):Int)] ru)->K b h')
  (Sy:∀h' a5 a7,Tn (·=x) h h'->aN h' x #[ah ((left-16-v.text.length:Nat):Int)] ru->16+v.text.length<=left->v.items.length<=4096->v.au=false->
   aN h' a5 #[.bool v.au,ah v.num,.string (bs v.text),Sl.v t] dh->aN h' a7 #[ah f.k,ah f.w,ah f.id,ah f.ix,Sl.v s] kG->h.size<=a5->h.size<=a7->ML K Kp (bz x) (aJ a5) (aJ a7) f.k (f.k==19||f.k==20) h'):AF (bz x) f.name f.au f.k f.w f.id f.ix s v.au v.num (bs v.text) t h K Kp:=by
 refine acZ k hl hs nx hv (λh' t' q=>hk false h' t' (by simpa using q) (λe=>by cases e)) (λh' t' k' q1 q2=>hk true h' t' (by simp[q1,q2]) λ_=>k') λh3 a4 a5 t3 kx b1 b2 gP k4 k5 l4 l5=>ah3 ?_
 simp only[bw,cz];refine nk (A6 k4) (aG λa7 h4 e7 g4 k7 _=>pE k7 rfl λh5 o5 k7=>aj k7 rfl ?_);have k5l:=k5.lt;have G:=bE g4 o5 ag;have:=Sy h5 a5 a7 (t3.trans (bh G)) (kx.ai G) b1 b2 gP (k5.ai G) k7 l5 ag;refine aE (λc=>?_) λc=>?_
 ·rw[c]at this ⊢;exact this
 ·rw[c]at this;exact this
theorem aur(hf:f.k=12\/f.k=13\/f.k=14)(hw0:f.k=14->1<=f.w/\f.w<=16):mX f:=by
  intro D h x left v s t K Kp hu k hl hs hv nx hr hk;have hw:=gV v;refine KA k hl hs nx hv hk λh5 a5 a7 t5 kx b1 b2 gP k5 k7 l5 l7=>?_;have hn:=hv.n;have fe:f.fit v=(decide (v.num=0)&&(decide (v.items.length=0)&&((decide (f.k≠12)||iD v.text)&&(decide (f.k≠14)||decide (v.text.length=f.w.toNat))))):=by
    rw[eL];unfold fD;rw[aC (by simp[gP]),ay,ay,ay,ay,ay,aI hf]
    simp[b2]
  have fin:∀b h',az h5 h'->b=f.fit v->K b h':=λb h' g e=>by
    have kx:=kx.ai g;refine hk b h' (t5.trans (bh g)) ⟨λq=>?_,λq=>by rw[e];exact q.2⟩ λq=>?_
    ·have q2:=e▸q;rw[fe]at q2;simp only[dm,dQ]at q2;have:v.items=[]:=jv.1 q2.2.1;rw[this]at hw;exact⟨by rw[hw];simp[bH];omega,by rw[<-e];exact q⟩
    · have q2:=e▸q;rw[fe]at q2;simp only[dm,dQ]at q2;have:v.items=[]:=jv.1 q2.2.1;rw[this]at hw;have e2:left-v.bq=left-16-v.text.length:=by rw[hw];simp[bH];omega
      rw[e2];exact kx
  have e19:(f.k==19||f.k==20)=false:=by simp;omega
  rw[e19];have sj:Ir K Kp (aJ a5) (aJ a7) true h5:=by
    refine ah6 (bO rfl ?_);simp only[bw,cz];have xV:∀b h',az h5 h'->b=(decide (v.num=0)&&(decide (v.items.length=0)&&(decide (f.k≠12)||iD v.text)))->Iq K Kp (aJ a5) (aJ a7) b h':=by
      intro b h' g e;refine aBw (aE (λc=>aj (k7.ai g) rfl (aE (λc2=>fin _ _ g ?_) λc2=>?_)) λc=>fin _ _ g ?_)
      ·have c2:=aM c2;rw[e]at c;rw[fe];simp only[dm]at c;rw[c.1,c.2.1,c.2.2];simp[c2]
      ·have c2:=aM c2;simp only[bw,cz];refine aj (k5.ai g) rfl (aj (k7.ai g) rfl (fin _ _ g ?_));rw[e]at c;rw[fe];simp only[dm]at c;rw[iV,c.1,c.2.1,c.2.2,ke];simp[c2];omega
      · rw[e]at c;rw[fe];cases h1:decide (v.num=0)with
        |false=>simp
        | true=>
          cases h2:decide (v.items.length=0)with
          |false=>simp
          | true=>
            rw[h1,h2]at c;simp only[Ah]at c ⊢;rw[c];simp
    have Bw:∀b,b=(decide (v.num=0)&&decide (v.items.length=0))->MN K Kp (aJ a5) (aJ a7) b h5:=by
      intro b e;refine aBx (aE (λc=>aj k7 rfl (aE (λc2=>?_) λc2=>?_)) λc=>?_)
      · have c2:=aM c2;have:=xV true h5 (cK _) (by
          rw[e]at c;simp only[dm]at c;rw[c.1,c.2];simp[c2])
        exact this
      ·have c2:=aM c2;simp only[bw,cz];refine aj k5 rfl (ak3 (hu.tn k aA t5) (Jh _) ag λh6 g6=>xV _ h6 g6 ?_);rw[e]at c;simp only[dm]at c;rw[c.1,c.2];simp[c2]
      ·exact(xV false h5 (cK _) (by
          rw[e]at c;cases h1:decide (v.num=0)with
          |false=>simp
          |true=>rw[h1]at c;simp only[Ah]at c;rw[c];simp))
    refine aj k5 rfl (aE (λc=>?_) λc=>Bw _ ?_)
    · have c:v.num=0:=by simpa using c
      refine aj k5 rfl (Bw _ ?_);have:=hn.1;rw[ke];simp only[c,decide_true,Ah,nv,dQ];omega
    · have c:v.num≠0:=by simpa using c
      simp[c]
  refine Ip (bu rfl (bu cj (bu cj (bu cj (Wi (bu cj (aE (λc=>?_) λc=>aE (λc=>?_) λc2=>?_)))))))
  ·rw[c];exact sj
  ·rw[c];exact sj
  · simp only[sm,reduceCtorEq]at c c2;have e:(f.k==14)=true:=by simp;omega
    rw[e];exact sj
end
section
variable {x left:Nat} {t:Sl} {K:fJ}
def uI(f:aq)(j:Nat):Nat:=if f.k=17 then j else 0
def EJ(f:aq)(l:aP)(n:Nat):Prop:=∀(j:Nat)y,j<n->l[j]? =some y->∃c,f.cs[uI f j]? =some c/\c.fit y=true
theorem aup{l:aP}(IH:∀c∈f.cs,mX c)(h1:f.k≠17->f.cs.length=1)(m':f.k=16->1<=f.w)(hu:jz h)(k:aN h x #[ah (left:Int)] ru)(hl:left<=4194304)(hs:bY D h s f.cs)(hv:aR D h t l)(X:¬D x)(hr:mL l)(u':l.length<=4096)
  (hk:∀b a,Tn (·=x) h a->(b=true↔bH l<=left/\(f.k=16->l.length=f.w.toNat)/\(f.k=17->l.length=f.cs.length)/\EJ f l l.length)->(b=true->aN a x #[ah ((left-bH l:Nat):Int)] ru)->K b a):Xw (bz x) f.k f.w f.id f.ix s t h K Kp:=by
 refine aEx (aG λW o e1 I E _=>?_);have xl:=k.lt;have hn:=hv.n;have q':=hs.n;have Y:∀{a},Tn _ h a->¬(bH l<=left/\(f.k=16->l.length=f.w.toNat)/\(f.k=17->l.length=f.cs.length)/\EJ f l l.length)->K false a:=λt q=>hk false _ t dM λe=>by cases e
 have go:(f.k=16->l.length=f.w.toNat)->(f.k=17->l.length=f.cs.length)->MG K Kp (bz x) t (aJ W) o:=by
  intro m O;refine aBc (azz (λz a=>∃i:Nat,z=i/\i<=l.length/\Tn (·=x) o a/\bH (l.take i)<=left/\aN a x #[ah ((left-bH (l.take i):Nat):Int)] ru/\EJ f l i) (λz _=>l.length-z.toNat) ⟨0,rfl,dN _,iX _ _,by simp[bH],by simpa[bH]using k.ai I,λj y hj=>ag⟩ ?_)
  rintro z V ⟨i,rfl,hi,U,hw,k2,Q⟩ N hN;have T2:=(bh I:Tn _ h o).trans U;refine cL (λL=>?_) λL=>?_
  ·have B:i<l.length:=ag;have H:l[i]? =some l[i]:=aA;have R:l.take (i+1)=l.take i++[l[i]]:=aA;generalize l[i]=y at H R;have T:=bL H;have a':bH (l.take (i+1))=bH (l.take i)+y.bq:=by rw[R,oT];simp[bH]
   have r':bH (l.take (i+1))<=bH l:=by
    have:=oT (l.take (i+1)) (l.drop (i+1));rw[Eg]at this;omega
   have b':=aR.fr T2 (λb F _ e=>X (e▸F)) (λ_ q=>q) _ hv;have P:=U.aZ E (show¬W=x by omega)
   refine b'.ix rfl H λp u cp e'=>gZ cp (aG λa8 h3 e3 g3 Z _=>lT Z rfl λr o4 Z=>aj (P.ai (bE g3 o4 ag)) rfl ?_);have G:=bE g3 o4 ag;have T4:=T2.trans (bh G);have bad:∀{a},Tn (·=x) r a->¬(y.bq<=left-bH (l.take i)/\∃c,f.cs[uI f i]? =some c/\c.fit y=true)->K false a:=by
    intro a t' q;refine Y (T4.trans t') λz=>q ⟨ag,z.2.2.2 i y B H⟩
   have J:∀{j:Nat}{jx:Int},jx=j->j=uI f i->MF K Kp N (bz x) (aJ W) (aJ a8) jx t (t.n:Int) (i:Int) r:=by
    intro j jx ej ei;have g':j<f.cs.length:=by
     rw[ei];unfold uI;split
     ·omega
     ·omega
    have d:f.cs[j]? =some f.cs[j]:=aA;generalize f.cs[j]=c at d;rw[ei]at d;apply aBb;simp only[bw,cz];have f':=bY.fr T4 (λb F e=>X (e▸F)) (λ_ q=>q) _ hs;refine aj (P.ai G) rfl (f'.ix ej dM λp2 u2 n' d'=>gK n' (eY Z (IH c (bL d) (hu.tn k aA T4) (k2.ai G) ag d' (eR e' G) X (FG hr y T) λb h5 t5 F k'=>aE (λg=>?_) λg=>?_)))
    ·have g:b=false:=by simpa using g
     refine bad t5 λq=>?_;obtain⟨c',S,i'⟩:=q.2;rw[d]at S;cases S;rw[F.2 ⟨q.1,i'⟩]at g;cases g
    ·have g:b=true:=by simpa using g
     have l':=F.1 g;refine aW ag ag (hN _ _ ⟨i+1,aA,ag,(U.trans (bh G)).trans t5,ag,?_,λj' y' s' A=>?_⟩ ag)
     ·have:=k' g;rw[a',<-Nat.sub_sub];exact this
     ·by_cases e:j'=i
      ·subst e;rw[H]at A;cases A;exact⟨c,d,l'.2⟩
      ·exact Q j' y' ag A
   refine aE (λC=>J rfl ?_) λC=>J rfl ?_
   ·unfold uI;rw[aI (by simpa using C)]
   ·unfold uI;rw[aC (by simpa using C)]
  ·have:i=l.length:=ag;simp_all
 have r:(f.k=16->l.length=f.w.toNat)->ME K Kp (bz x) t (aJ W) false o:=by
  intro m;refine ahR (bu rfl (aj E rfl (aE (λc=>?_) λc=>go m λq=>?_)))
  ·have c:=aM c;simp only[bw,cz];refine aj E rfl (aE (λM=>Y (bh I) λq=>?_) λM=>go m λ_=>?_)
   ·simp_all
   ·have M:=aM M;omega
  ·have c:=aM c;exact absurd q c
 refine aj E rfl (aE (λc=>?_) λc=>r λq=>?_)
 ·have c:=aM c;simp only[bw,cz];apply aj E rfl
  by_cases e:(t.n:Int)=f.w
  ·have e2:((t.n:Int)!=f.w)=false:=by simpa using e
   rw[e2];exact r λ_=>ag
  ·have e2:((t.n:Int)!=f.w)=true:=by simpa using e
   grind[ahR,bO,Tn.aa3]
 ·have c:=aM c;exact absurd q c
theorem ae9:∀{F:List (aB->Bool)}{l:aP},sx F l=true↔l.length=F.length/\∀(j:Nat)y,l[j]? =some y->∃g,F[j]? =some g/\g y=true
  |[],[]=>by simp[sx]
  |[],y::d=>by simp[sx]
  |g::e,[]=>by simp[sx]
  | g::e,y::d=>by
    simp only[sx,dm,ae9,iq,Nat.add_right_cancel_iff];constructor
    · rintro⟨i,c,b⟩;refine⟨c,λj z a=>?_⟩;rcases j with _|j
      all_goals simp_all
    ·rintro⟨c,b⟩;obtain⟨m,e1,k⟩:=b 0 y rfl;simp at e1;subst e1;exact⟨k,c,λj z a=>b (j+1) z dM⟩
theorem DI(u:f.k=15\/f.k=16\/f.k=17)(p:f.k≠17->f.cs.length=1)(b2:v.items.length<=4096)(gP:v.au=false):f.fit v=true↔v.num=0/\v.text.length=0/\(f.k=16->v.items.length=f.w.toNat)/\(f.k=17->v.items.length=f.cs.length)/\EJ f v.items v.items.length:=by
 rw[eL];unfold fD EJ uI;rw[aC (by simp[gP]),ay,ay]
 have b:f.k≠17->((v.items.all ((f.cs.map aq.fit).getD 0 uD)=true)↔∀(j:Nat)y,j<v.items.length->v.items[j]? =some y->∃c,f.cs[if f.k=17 then j else 0]? =some c/\c.fit y=true):=λne=>by
  have d:f.cs[0]? =some f.cs[0]:=bx ag;have e:(f.cs.map aq.fit).getD 0 uD=(f.cs[0]).fit:=by rw[gL,fh,d];rfl
  generalize f.cs[0]=c at d e;rw[e,Aj];simp only[aC ne,d];grind[List.mem_of_getElem?,List.mem_iff_getElem?,List.getElem?_eq_some_iff]
 by_cases m:f.k=15
 ·simp_all
 by_cases l:f.k=16
 ·simp_all
 ·have i:f.k=17:=ag;rw[aC m,aC l,aI i];simp only[dm,dQ,ae9];simp_all[fh,cU]
theorem aus(V:∀c∈f.cs,mX c)(R:f.k=15\/f.k=16\/f.k=17)(G:f.k≠17->f.cs.length=1)(B:f.k=16->1<=f.w):mX f:=by
 intro D h x left v s t K Kp P k hl E p i Q r;have hw:=gV v;refine KA k hl E i p r λd J I a N b1 b2 gP o O l5 l7=>?_;have H:=DI R G b2 gP;have C:(f.k==19||f.k==20)=false:=by simp;omega
 rw[C];have M:f.fit v≠true->K false d:=λq=>r false d a (by simp[*]) λe=>by cases e
 have F:∀b,b=(decide (v.num=0)&&decide (v.text.length=0))->MK K Kp (bz x) (aJ J) (aJ I) b d:=by
  intro b e;refine aBp (aE (λc=>yE O ?_) λc=>M λq=>?_)
  ·rw[e]at c;simp only[dm,dQ]at c;have z:=bY.fr a (λb g e=>i (e▸g)) (λ_ q=>q) _ E;have y:=aR.fr a (λb g _ e=>i (e▸g)) (λ_ q=>q) _ p;simp only[bw,cz];refine aj o rfl (aup V G B (P.tn k aA a) N ag z y i Q.items b2 λb S L g A=>r b S (a.trans L) (g.trans ?_) λq=>?_)
   all_goals grind
  ·grind
 have u:Io K Kp (bz x) (aJ J) (aJ I) f.k true d:=by
  refine Wi (bO rfl ?_);simp only[bw,cz];refine aj o rfl (aE (λc=>?_) λc=>F _ ?_)
  ·have c:v.num=0:=by simpa using c
   refine aj o rfl (F _ ?_);rw[LF];simp[c]
  ·grind
 refine Ip (bu rfl (bu cj (aE (λc=>?_) λc=>aE (λc=>?_) λU=>?_)))
 ·rw[c];exact u
 ·rw[c];exact u
 ·simp only[sm,reduceCtorEq]at c U;have e:(f.k==17)=true:=by simp;omega
  simp[*]
theorem DJ(a:f.k=18)(b2:v.items.length<=4096)(gP:v.au=false):f.fit v=true↔v.text.length=0/\0<=v.num/\v.num<f.cs.length/\v.items.length=1/\(f.cs.map aq.fit).getD v.num.toNat uD (v.items.getD 0 v0)=true:=by
 rw[eL];unfold fD;simp[*]
theorem aut(IH:∀c∈f.cs,mX c)(T:f.k=18)(b':f.cs.length<=32):mX f:=by
 intro D h x left v s t K Kp Y k hl H G A Z I;have C:=gV v;refine KA k hl H A G I λE a5 a7 j X b1 b2 gP l R l5 l7=>?_;have hn:=G.n;have a':=H.n;have r:=DJ T b2 gP;have P:(f.k==19||f.k==20)=false:=by simp;omega
 rw[P];have B:f.fit v≠true->K false E:=λq=>I false E j (by simpa using λ_=>q) λe=>by cases e
 refine Ip (bu rfl (bO (by simpa using T) ?_))
 simp only[bw,cz];apply aj l rfl;rw[LF];refine aE (λc=>?_) λc=>B λq=>?_;rotate_left
 ·simp_all
 have c:=aM c;refine aj l rfl (aE (λm=>?_) λm=>B λq=>?_);rotate_left
 ·simp_all
 have m:=aM m;refine aj l rfl (aj R rfl (aE (λz=>?_) λz=>B λq=>?_));rotate_left
 ·simp_all
 have z:=aM z;refine aj l rfl (aE (λw=>?_) λw=>B λq=>?_);rotate_left
 ·simp_all
 have w:=aM w;have N:=bY.fr j (λb o e=>A (e▸o)) (λ_ q=>q) _ H;have L:=aR.fr j (λb o _ e=>A (e▸o)) (λ_ q=>q) _ G;have d:f.cs[v.num.toNat]? =some _:=bx ag;obtain⟨y,g⟩:∃y,v.items=[y]:=by
  have:v.items.length=1:=ag
  match hq:v.items,this with
  |[a],_=>exact⟨a,rfl⟩
 have S:v.items[0]? =some y:=by rw[g];rfl
 generalize f.cs[v.num.toNat]' ag=U at d;refine aj R rfl (aj l rfl (N.ix ag d λp u cp M=>gK cp (aj l rfl (L.ix rfl S λp2 u2 Q J=>gZ Q (IH U (bL d) (Y.tn k aA j) X ag M J A (FG Z.items y (bL S)) λb h6 V o O=>I b h6 (j.trans V) (o.trans ?_) λq=>?_)))))
 ·rw[r,g];rw[g]at C;simp only[bH]at C;have e1:(f.cs.map aq.fit).getD v.num.toNat uD ([y].getD 0 v0)=U.fit y:=by rw[gL,fh,d];rfl
  rw[e1];constructor
  ·rintro⟨W,F⟩;exact⟨by omega,c,m,by omega,rfl,F⟩
  ·rintro⟨W,_,_,_,_,F⟩;exact⟨by omega,F⟩
 ·have:=O q;rw[g]at C;simp only[bH]at C;have e2:left-v.bq=left-16-v.text.length-y.bq:=ag;rw[e2];exact this
theorem ac8{F:aq}(b:f.k=19\/f.k=20)(a:f.cs[0]? =some F)(gP:v.au=false):f.fit v=(decide (v.items.length<=4096)&&F.fit v):=by
 rw[eL];unfold fD;simp[*]
theorem auq(R:∀c∈f.cs,mX c)(M:f.k=19\/f.k=20)(Y:f.cs.length=1):mX f:=by
 intro D h x left v s t K Kp J k hl E C l L F;refine KA k hl E l C F λX a5 a7 A d Z b2 gP B I V U=>?_;have S:=k.lt;have a:f.cs[0]? =some _:=bx ag;generalize f.cs[0]' ag=G at a;have O:f.fit v=G.fit v:=by rw[ac8 M a gP];simp[b2]
 have z:(f.k==19||f.k==20)=true:=by simp;omega
 rw[z];refine Ip (bO rfl ?_);refine bK ?_;refine aj d rfl (aj B rfl (aW (by omega) (by rw[iV];omega) (aW (by omega) (by rw[iV];omega) (dc d aA rfl λm n d=>?_))))
 rw[iV]at d;have P:((left-16-v.text.length:Nat):Int)+(16+(v.text.length:Int))=(left:Int):=ag;have d:aN m x #[ah (left:Int)] ru:=by simpa[P]using d
 have j:=A.trans n.fr;have w:=bY.fr j (λb g e=>l (e▸g)) (λ_ q=>q) _ E;have o:=aR.fr j (λb g _ e=>l (e▸g)) (λ_ q=>q) _ C;refine aj (n.aZ I ag) rfl (w.ix rfl a λp u Q r=>gK Q (eY (n.aZ B ag) (R G (bL a) (J.tn k aA j) d hl r o l L λb N H g y=>F b N (j.trans H) (by rw[O];exact g) y)))
end
theorem aul(g:bC f)(e:∀c∈f.cs,mX c):mX f:=by
 obtain⟨n,nS,l,j,_,_,_,m,o,i,_⟩:=g.right.1
 by_cases a:f.k<=11
 ·exact ac6 ⟨n,a⟩
 by_cases b:f.k=12\/f.k=13\/f.k=14
 ·exact aur b l
 by_cases c:f.k=15\/f.k=16\/f.k=17
 ·exact aus e c (λq=>m ag) λq=>(j q).1
 by_cases d:f.k=18
 ·exact aut e d (i d).2
 ·exact auq e ag (m ag)
theorem ac5:∀f:aq,bC f->mX f
  | .mk e au k w id ix cs,a=>by
    have b:∀c∈cs,mX c:=λc d=>ac5 c (a.aL d);exact aul a b
section
variable {hx h':Hp} {K:de}
structure ahr(lo:Nat)(cs:cC)(h:Hp)(x:Sl)(ws:bg)(As:List (Nat->Prop)):Prop where
 n:ws.length=As.length/\As.length<=cs.length
 aL:∀(j:Nat)c A w,cs[j]? =some c->As[j]? =some A->ws[j]? =some w->c.mP A h w c.begun none
 bd:∀A∈As,∀c,A c->(lo<=c/\c<h.size)/\¬x.at c
 ap:As.Pairwise λA B=>∀c,A c->¬B c
 sl:eT lo 1 h x (ws.map λv=>[v]) HY
theorem aeX(f:aq):f.begun.b={C7 with ends:=if f.k=12\/f.k=13\/f.k=15 then[0]else[]}:=by rw[LQ];rfl
theorem axE{c:aq}(a:f.cs[j]? =some c):f.begun.aL j=c.begun:=by
 rw[LQ]
 show(f.cs.map aq.begun).getD j r0=_
 simp_all
theorem ara{m:Nat}{t u:Sl}{p:List (Nat->Prop)}{SS:List Sl}{ST:List (Nat->Prop)}{X:aQ}{sp:bg}{N:aQ}(G:bC f)(o:ahr m f.cs hx u C p)(hl:p.length=f.cs.length)(h0:h.size<=m)
  (P:aR N h' t f.bZ.items) (hN:∀c,N c->h.size<=c/\c<m) (D:az hx h') (Y:m<=hx.size) (O:aN h' b (bW f s t Sl.nil 0 0 0 (iG f.k SS C u sp)).toArray (iP f.k)) (Z:hx.size<=b)
  (H:SS.length=(cy f.k f.begun.b).length/\ST.length=(cy f.k f.begun.b).length) (F:∀(i:Nat)s A y,SS[i]? =some s->ST[i]? =some A->(cy f.k f.begun.b)[i]? =some y->Os A h' s y.1 y.2)
  (g:∀A∈X::ST,∀c,A c->hx.size<=c/\c<h'.size/\c≠b) (I:(X::ST).Pairwise λA B=>∀c,A c->¬B c) (E:iJ f.k X h' sp f.begun.b):f.mP (λc=>h.size<=c/\c<h'.size) h' (.iface (bG f.k) (bI b)) f.begun none:=by
 have z:=D.1;have bl:=O.lt;have v:∀c,u.at c->m<=c/\c<hx.size:=λc q=>o.sl.at q;have r:=aeX f;have tr:iR (λc=>h.size<=c/\c<h'.size) h' b ((λ_=>False)::(λc=>N c\/u.at c)::X::(ST++p)):=by
  refine⟨⟨ag,ag⟩,λc q=>q.2,?_,?_⟩
  ·intro L l c d;simp only[mB,nt]at l;rcases l with rfl|rfl|l|l|l
   ·exact d.elim
   ·rcases d with q|q
    ·have:=hN c q;exact⟨⟨ag,ag⟩,ag⟩
    ·have:=v c q;exact⟨⟨ag,ag⟩,ag⟩
   ·have:=g L (by rw[l];exact UG ..) c d;exact⟨⟨ag,ag⟩,ag⟩
   ·have:=g L (UF _ l) c d;exact⟨⟨ag,ag⟩,ag⟩
   ·have:=(o.bd L l c d).1;exact⟨⟨ag,ag⟩,ag⟩
  ·have e:X::(ST++p)=(X::ST)++p:=rfl;refine yG.2 ⟨λ_ _ _ q=>q.elim,yG.2 ⟨λB hB c q z=>?_,?_⟩⟩
   ·rw[e,nt]at hB;rcases hB with hB|hB
    ·have:=g B hB c z;rcases q with q|q
     ·have:=hN c q;omega
     ·have:=v c q;omega
    ·have:=o.bd B hB c z;rcases q with q|q
     ·have:=hN c q;omega
     ·exact this.2 q
   ·rw[e,LV];exact⟨I,o.ap,λA V B hB c q z=>by have:=g A V c q;have:=(o.bd B hB c z).1;omega⟩
 rw[aq.abk];refine⟨{b:=b,sf:=s,sn:=t,sb:=Sl.nil,ks:=u,SS:=SS,ST:=ST,KT:=p,kv:=C,sp:=sp,T0:=λ_=>False,R:=λc=>N c\/u.at c,X:=X},rfl,⟨tr,⟨?_,.inl ⟨rfl,?_⟩,id,?_,?_,?_⟩,H,F,⟨?_,?_,?_⟩,λj M A w J T Q=>?_,sA P λc q=>.inl q,λ_=>?_,E,λW q=>by cases q⟩⟩
 ·rw[r];exact O
 ·rw[r];rfl
 ·rw[r];show(0:Nat)=(0+7)/8;decide
 ·rw[r];exact bP _
 ·rw[r];exact dN _
 ·rw[o.n.1,hl,cm]
 ·rw[hl,cm]
 ·rw[LQ];show(f.cs.map aq.begun).length=_;simp_all
 ·rw[fh,tU]at J;obtain⟨c,d,rfl⟩:=J;rw[axE d];exact(vT c (G.aL (bL d))).fr (o.aL j c A w d T Q) (bh D) λ_ _ _=>id
 ·exact⟨(eT.lp o.sl).1.ai D,λ_ a U=>.inr ⟨a,U,rfl⟩⟩
theorem aqm{n c:Nat}(i:D n)(d:h[n]? =some (.map #[] c)):ga D h Sl.nil n [] 0:=by
 have e:∀u,¬hl [] 0 u≠[]:=λu q=>q rfl;refine⟨λ_=>False,[],λ_=>Sl.nil,λ_=>0,⟨λc q=>q.elim,λc⟨a,g,_⟩=>(by cases g),i,λu b=>absurd b (e u),λu _ b=>absurd b (e u)⟩,⟨rfl,qY _ _ _ _,λj v t k=>by simp at k⟩,#[],c,d,⟨λx hx=>by simp at hx,λu b=>absurd b (e u),UZ⟩⟩
theorem aq6(J:bC f)(q':f.gh)(IH:∀c∈f.cs,yQ c c.mP):yQ f f.mP:=by
 intro h s K Kp ht hs hk;obtain⟨_,_,_,_,_,_,_,h1,u',t',j'⟩:=J.right.1;have hsn:=hs.n;have h32:f.cs.length<=32:=by
  by_cases a:f.k=15\/f.k=16\/f.k=19\/f.k=20
  ·have:=h1 a;omega
  by_cases b:f.k=17
  ·exact u' b
  by_cases c:f.k=18
  ·exact(t' c).2
  ·have:=j' ag;omega
 refine aEY (aG λa1 v' e1 g1 k1 _=>dZ k1 (axJ (YP f J) (YG f J) J q' (ht.ai g1) (hs.gr g1) λt h2 g2 vn=>aG λa3 h3 e3 g3 Q _=>rC.b Q rfl λh4 o4 Q=>?_));have k3l:=Q.lt;have g4:=bE g3 o4 ag;have G4:=ak (ak g1 g2) g4;have k1:=(k1.ai g2).ai g4;have vn:aR (λc=>h.size<=c/\c<h2.size) h4 t f.bZ.items:=eR (sA (aR.lt _ vn) λc(q:v'.size<=c/\c<h2.size)=>⟨ag,q.2⟩) g4
 simp only[bw,Nat.reduceAdd];refine aj k1 rfl (azR (λx z hx=>∃(i:Nat)(ws:bg)(As:List (Nat->Prop)),z=i/\i<=f.cs.length/\As.length=i/\az h4 hx/\ahr h4.size f.cs hx x ws As) (λ_ z _=>f.cs.length-z.toNat) ⟨0,[],[],rfl,dN _,rfl,cK _,⟨rfl,dN _⟩,aA,aA,UZ,qY _ _ _ _⟩ ?_)
 rintro x z hx ⟨i,ws,As,rfl,hi,g',gx,KM⟩ N hN;have zx:=gx.1;have kn:=KM.n;refine cL (λcc=>?_) λcc=>?_
 ·have l':i<f.cs.length:=ag;have T:=bx l';generalize f.cs[i]=c at T;have d':=bL T;have Cc:=vT c (J.aL d');refine((hs.gr G4).gr gx).ix rfl T λp hp=>?_;obtain⟨u,cp,hu⟩:=hp.row;refine gK cp (aG λa6 h5 e5 R k6 _=>oD k6 rfl λh6 o6 k6=>dZ k6 ?_);have g6:=bE R o6 ag;have s6:=g6.1;refine IH c d' (((ht.ai G4).ai gx).ai g6) (hu.gr g6) λv h7 g7 M7=>?_;obtain⟨kk,bb,ev⟩:=Cc.na M7;subst ev;refine⟨rfl,aG λa8 h8 e8 g8 k8 _=>?_⟩;have s7:=g7.1;have G8:=ak g6 (ak g7 g8);have e':∀c,x.at c->h4.size<=c/\c<hx.size:=λc q=>KM.sl.at q;have xn:x.n=ws.length:=by have:=KM.sl.n;rw[cm]at this;exact this
  refine(KM.sl.ai G8).ap ag rfl (new:=[[.iface (bG kk) (bI bb)]]) rfl (λr hr=>by simp at hr;subst hr;rfl) (λr hr=>by simp at hr;subst hr;simp[one]) (by simpa using iM k8 rfl) ag ag λx' h9 t9 m' o9=>aW ag ag (hN _ _ _ ⟨i+1,ws++[.iface (bG kk) (bI bb)],As++[λc=>h6.size<=c/\c<h7.size],aA,ag,by simp[g'],?_,⟨by simp[kn.1],by simp;omega⟩,?_,?_,?_,?_⟩ ag)
  ·exact((bh (ak gx G8):Tn No h4 h8).trans' t9 λc q l'=>by have:=(e' c q).1;omega).ai
  ·intro j W A w l C m;rcases xu g' C with⟨hj,C⟩|⟨rfl,rfl⟩
   ·rw[iQ ag]at m;have g:=bL C;exact(vT W (J.aL (bL l))).fr (KM.aL j W A w l C m) ((bh G8:Tn x.at hx h8).trans t9) λc hc _=>(KM.bd A g c hc).2
   ·rw[gm ag]at m;rw[show j-ws.length=0 by omega]at m
    simp at m;subst m;rw[T]at l;cases l;exact Cc.fr M7 ((bh g8:Tn x.at h7 h8).trans t9) λd(hd:h6.size<=d/\d<h7.size)_ q=>by have:=e' d q;omega
  ·intro A g W f';have z9:=t9.1;rcases nt.1 g with g|g
   ·have:=KM.bd A g W f';refine⟨⟨this.1.1,ag⟩,λq=>?_⟩
    rcases m' W q with q|q
    ·exact this.2 q
    ·omega
   ·rw[mA]at g;subst g;refine⟨⟨ag,ag⟩,λq=>?_⟩
    rcases m' W q with q|q
    ·have:=e' W q;omega
    ·omega
  ·rw[LV];refine⟨KM.ap,Ac _ _,λA g B hB W q z=>?_⟩;rw[mA]at hB;subst hB;have z:=z;have:=(KM.bd A g W q).1;omega
  ·rw[kR];exact o9
 ·have r':i=f.cs.length:=ag;subst r';have GX:=ak G4 gx;have Q:=Q.ai gx;have lx:=gx.1;have s':=G4.1;have eb:=aeX f;have fin:=λ{h':Hp}{b:Nat}{SS:List Sl}{ST:List (Nat->Prop)}{X:aQ}{sp:bg}(o:az hx h')(F:aN h' b (bW f s t Sl.nil 0 0 0 (iG f.k SS ws x sp)).toArray (iP f.k))(lb:hx.size<=b)=>
   ara (SS:=SS) (ST:=ST) (X:=X) (sp:=sp) (N:=λc=>h.size<=c/\c<h2.size) J KM g' s' (eR (eR vn gx) o) (λc q=>⟨q.1,ag⟩) o lx F lb
  -- the one z' y'
  have U:∀{X:Addr->Value->Prop},f.cs.length=1->(∀k b a,ws=[.iface (bG k) (bI b)]->cell hx a=some (.iface (bG k) (bI b))->X a (.iface (bG k) (bI b)))->Ix x.a x.n 1 0 λZ=>Ld hx Z id (X Z):=by
   intro X hc hX;have lw:ws.length=1:=ag;have lA:As.length=1:=ag;obtain⟨w,rfl⟩:∃w,ws=[w]:=by
    match hq:ws,lw with
    |[a],_=>exact⟨a,rfl⟩
   have T:f.cs[0]? =some f.cs[0]:=bx ag;have M:=KM.aL 0 _ As[0] w T (bx ag) rfl;obtain⟨kk,bb,ev⟩:=(vT _ (J.aL (bL T))).na M;subst ev;have sv:=(eT.lp KM.sl).1;exact sv.ix ag (by have:=sv.1;simp at this;omega) (v:=.iface (bG kk) (bI bb)) rfl λa ha=>yU ha (hX kk bb a rfl ha)
  have o':∀A∈((λ_=>False)::[]:List (Nat->Prop)),∀c,A c->∀(h':Hp)(b:Nat),hx.size<=c/\c<h'.size/\c≠b:=λA g c q=>by
   rw[mA]at g;subst g;exact q.elim
  have i':((λ_=>False)::[]:List (Nat->Prop)).Pairwise λA B=>∀c,A c->¬B c:=Ac _ _;have n':((λ_=>False)::[λ_=>False,λ_=>False]:List (Nat->Prop)).Pairwise λA B=>∀c,A c->¬B c:=yG.2 ⟨λ_ _ _ q=>q.elim,yG.2 ⟨λ_ _ _ q=>q.elim,Ac _ _⟩⟩;have w':((λ_=>False)::[λ_=>False]:List (Nat->Prop)).Pairwise λA B=>∀c,A c->¬B c:=yG.2 ⟨λ_ _ _ q=>q.elim,Ac _ _⟩;have S:f.k≠19->f.k≠20->∀X h',iJ f.k X h' [] f.begun.b:=λa b X h'=>by unfold iJ;rw[aC a,aC b]
  refine aBL ?_;simp only[bw,cz];refine aj (k1.ai gx) rfl (aE (λc1=>?_) λc1=>?_)
  ·have c1:=aM c1;have D:cy f.k f.begun.b=[]:=by unfold cy;rw[ay,ay,ay,dR]
   have I:bG f.k=pO:=by unfold bG;rw[aI c1]
   have H:iP f.k=Vt:=by unfold iP;rw[aI c1]
   refine uV Q (aG λb h' L o F _=>?_);have:=hk _ h' (ak GX o) (fin (SS:=[]) (ST:=[]) (X:=λ_=>False) (sp:=[]) o (by rw[H];unfold iG nL;rw[ay,ay];exact F) ag (by rw[D];exact⟨rfl,rfl⟩) (λi s A y q=>by simp at q) (λA g c q=>o' A g c q h' b) i' (S ag ag _ _))
   rw[I]at this;exact this
  have c1:f.k≠1:=by simpa using c1
  have J2:MX K Kp (aJ a3) x f.k (f.k==12||f.k==13) hx:=by
   refine aBK (aE (λV=>?_) λV=>aE (λE=>?_) λE=>aE (λG=>?_) λG=>aE (λP=>?_) λP=>aE (λfP=>?_) λfP=>aE (λO=>?_) λO=>aE (λY=>?_) λY=>?_)
   ·have V:f.k=12\/f.k=13:=by simpa using V
    have D:cy f.k f.begun.b=[(ints [0],Y6),(bv [],Y8)]:=by rw[eb];unfold cy;rw[aI V];simp only[aI (show f.k=12\/f.k=13\/f.k=15 by omega)];rfl
    have I:bG f.k=pN:=by unfold bG;rw[ay,aI V]
    have H:iP f.k=Vs:=by unfold iP;rw[ay,aI V]
    refine uV Q (aG λb' h5 e5 R k5 _=>aG λb h' L o F _=>?_);have s5:=R.1;have sq:=o.1;have p':=k5.lt;have k':=F.lt;have:=hk _ h' (ak GX (ak R o)) (fin (SS:=[⟨some (aJ b'),1,1⟩,Sl.nil]) (ST:=[λc=>c=b',λ_=>False]) (X:=λ_=>False) (sp:=[]) (ak R o) (by rw[H];unfold iG nL;rw[ay,ay];exact F) ag (by rw[D];exact⟨rfl,rfl⟩) (λi s A y l C m=>?_) (λA g c q=>?_) ?_ (S ag ag _ _))
    ·rw[I]at this;exact this
    ·rw[D]at m;rcases i with _|_|i
     ·simp at l C m;subst l C m;exact .inr ⟨b',rfl,rfl,rfl,_,k5.ai o,bP _,rfl,λi hi=>by simp[ints]⟩
     ·simp at l C m;subst l C m;exact .inl ⟨rfl,rfl⟩
     ·simp at l
    ·simp only[mB,pF,Ab]at g;rcases g with rfl|rfl|rfl
     ·exact q.elim
     ·have q:c=b':=q;omega
     ·exact q.elim
    ·refine yG.2 ⟨λ_ _ _ q=>q.elim,yG.2 ⟨λB hB c _ z=>?_,Ac _ _⟩⟩;rw[mA]at hB;subst hB;exact z
   ·have e:¬(f.k=12\/f.k=13):=by simpa using V
    have E:=aM E;have D:cy f.k f.begun.b=[(ints [0],Y6)]:=by rw[eb];unfold cy;rw[aC e,dR];simp only[aI (show f.k=12\/f.k=13\/f.k=15 by omega)]
    have I:bG f.k=pM:=by unfold bG;rw[ay,aC e,aI E]
    have H:iP f.k=Vr:=by unfold iP;rw[ay,aC e,aI E]
    refine uV Q (U (h1 ag) λkk bb Z ew ha=>aG λa' h5 e5 R k5 _=>Cv ha R (bM Q R ⟨rfl,aG λb h' L o F _=>?_⟩));have s5:=R.1;have sq:=o.1;have p':=k5.lt;have k':=F.lt;have:=hk _ h' (ak GX (ak R o)) (fin (SS:=[⟨some (aJ a'),1,1⟩]) (ST:=[λc=>c=a']) (X:=λ_=>False) (sp:=[]) (ak R o) (by rw[H];unfold iG nL;rw[dR,ew];exact F) ag (by rw[D];exact⟨rfl,rfl⟩) (λi s A y l C m=>?_) (λA g c q=>?_) (yG.2 ⟨λ_ _ _ q=>q.elim,Ac _ _⟩) (S ag ag _ _))
    ·rw[I]at this;exact this
    ·rw[D]at m;rcases i with _|i
     ·simp at l C m;subst l C m;exact .inr ⟨a',rfl,rfl,rfl,_,k5.ai o,bP _,rfl,λi hi=>by simp[ints]⟩
     ·simp at l
    ·simp only[mB,pF,Ab]at g;rcases g with rfl|rfl
     ·exact q.elim
     ·have q:c=a':=q;omega
   ·have e:¬(f.k=12\/f.k=13):=by simpa using V
    simp only[sm,reduceCtorEq]at E G;have D:cy f.k f.begun.b=[]:=by unfold cy;rw[aC e,ay,ay,dR]
    have I:bG f.k=oK:=by unfold bG;rw[ay,aC e,ay,aI G]
    have H:iP f.k=Vq:=by unfold iP;rw[ay,aC e,ay,aI G]
    refine uV Q (U (h1 ag) λkk bb Z ew ha=>⟨rfl,aG λb h' L o F _=>?_⟩);have:=hk _ h' (ak GX o) (fin (SS:=[]) (ST:=[]) (X:=λ_=>False) (sp:=[]) o (by rw[H];unfold iG nL;rw[dR,ew];exact F) ag (by rw[D];exact⟨rfl,rfl⟩) (λi s A y l=>by simp at l) (λA g c q=>by simp only[mB,pF,Ab]at g;rcases g with rfl <;> exact q.elim) i' (S ag ag _ _))
    rw[I]at this;exact this
   ·have e:¬(f.k=12\/f.k=13):=by simpa using V
    simp only[sm,reduceCtorEq]at E G P;have D:cy f.k f.begun.b=[]:=by unfold cy;rw[aC e,ay,ay,dR]
    have I:bG f.k=oJ:=by unfold bG;rw[ay,aC e,ay,ay,aI P]
    have H:iP f.k=Vp:=by unfold iP;rw[ay,aC e,ay,ay,aI P]
    refine uV Q (aG λb h' L o F _=>?_);have:=hk _ h' (ak GX o) (fin (SS:=[]) (ST:=[]) (X:=λ_=>False) (sp:=[]) o (by rw[H];unfold iG nL;rw[ay,dR];exact F) ag (by rw[D];exact⟨rfl,rfl⟩) (λi s A y l=>by simp at l) (λA g c q=>by simp only[mB,pF,Ab]at g;rcases g with rfl <;> exact q.elim) i' (S ag ag _ _))
    rw[I]at this;exact this
   ·have e:¬(f.k=12\/f.k=13):=by simpa using V
    simp only[sm,reduceCtorEq]at E G P fP;have D:cy f.k f.begun.b=[(bv [],Y8),(ints [],Y6)]:=by rw[eb];unfold cy;rw[aC e,ay,aI fP];simp only[aC (show¬(f.k=12\/f.k=13\/f.k=15) by omega)];rfl
    have I:bG f.k=qw:=by unfold bG;rw[ay,aC e,ay,ay,ay,aI fP]
    have H:iP f.k=Vo:=by unfold iP;rw[ay,aC e,ay,ay,ay,aI fP]
    refine uV Q (aG λb h' L o F _=>?_);have:=hk _ h' (ak GX o) (fin (SS:=[Sl.nil,Sl.nil]) (ST:=[λ_=>False,λ_=>False]) (X:=λ_=>False) (sp:=[]) o (by rw[H];unfold iG nL;rw[ay,dR];exact F) ag (by rw[D];exact⟨rfl,rfl⟩) (λi s A y l C m=>?_) (λA g c q=>by simp only[mB,pF,Ab]at g;rcases g with rfl|rfl|rfl <;> exact q.elim) n' (S ag ag _ _))
    ·rw[I]at this;exact this
    ·rw[D]at m;rcases i with _|_|i
     ·simp at l C m;subst l C m;exact .inl ⟨rfl,rfl⟩
     ·simp at l C m;subst l C m;exact .inl ⟨rfl,rfl⟩
     ·simp at l
   ·have e:¬(f.k=12\/f.k=13):=by simpa using V
    simp only[sm,reduceCtorEq]at E G P fP O;have D:cy f.k f.begun.b=[(ints [],Y6)]:=by rw[eb];unfold cy;rw[aC e,dR];simp only[aC (show¬(f.k=12\/f.k=13\/f.k=15) by omega)]
    have I:bG f.k=qv:=by unfold bG;rw[ay,aC e,ay,ay,ay,ay,aI O]
    have H:iP f.k=Vn:=by unfold iP;rw[ay,aC e,ay,ay,ay,ay,aI O]
    refine uV Q (U (h1 ag) λkk bb Z ew ha=>?_);unfold Ez;have R:az hx (hx.push (.map #[] 0)):=qW hx _;have z5:(hx.push (Obj.map #[] 0)).size=hx.size+1:=Array.size_push ..;refine Cv ha R (bM Q R ⟨rfl,aG λb h' L o F _=>?_⟩);have sq:=o.1;have k':=F.lt;have:=hk _ h' (ak GX (ak R o)) (fin (SS:=[Sl.nil]) (ST:=[λ_=>False]) (X:=λc=>c=hx.size) (sp:=[Sl.v Sl.nil,.map (some hx.size)]) (ak R o) (by rw[H];unfold iG nL;rw[dR,ew];exact F) ag (by rw[D];exact⟨rfl,rfl⟩) (λi s A y l C m=>?_) (λA g c q=>?_) (yG.2 ⟨λB hB c _ z=>?_,Ac _ _⟩) ?_)
    ·rw[I]at this;exact this
    ·rw[D]at m;rcases i with _|i
     ·simp at l C m;subst l C m;exact .inl ⟨rfl,rfl⟩
     ·simp at l
    ·simp only[mB,pF,Ab]at g;rcases g with rfl|rfl
     ·have q:c=hx.size:=q;omega
     ·exact q.elim
    ·rw[mA]at hB;subst hB;exact z
    ·unfold iJ;rw[aI O,eb];exact⟨Sl.nil,hx.size,rfl,aqm (c:=0) rfl ((o.2 hx.size ag).trans aA)⟩
   ·have e:¬(f.k=12\/f.k=13):=by simpa using V
    simp only[sm,reduceCtorEq]at E G P fP O Y;have D:cy f.k f.begun.b=[(ints [],Y6)]:=by rw[eb];unfold cy;rw[aC e,dR];simp only[aC (show¬(f.k=12\/f.k=13\/f.k=15) by omega)]
    have I:bG f.k=pL:=by unfold bG;rw[ay,aC e,ay,ay,ay,ay,ay,aI Y]
    have H:iP f.k=Vm:=by unfold iP;rw[ay,aC e,ay,ay,ay,ay,ay,aI Y]
    refine uV Q (U (h1 ag) λkk bb Z ew ha=>⟨rfl,aG λb h' L o F _=>?_⟩);have:=hk _ h' (ak GX o) (fin (SS:=[Sl.nil]) (ST:=[λ_=>False]) (X:=λ_=>False) (sp:=[.bool false,ah 0,.string (bs []),Sl.v Sl.nil]) o (by rw[H];unfold iG nL;rw[dR,ew];exact F) ag (by rw[D];exact⟨rfl,rfl⟩) (λi s A y l C m=>?_) (λA g c q=>by simp only[mB,pF,Ab]at g;rcases g with rfl|rfl <;> exact q.elim) w' ?_)
    ·rw[I]at this;exact this
    ·rw[D]at m;rcases i with _|i
     ·simp at l C m;subst l C m;exact .inl ⟨rfl,rfl⟩
     ·simp at l
    ·unfold iJ;rw[aC O,aI Y,eb];exact⟨Sl.nil,rfl,qt _⟩
   ·have e:¬(f.k=12\/f.k=13):=by simpa using V
    simp only[sm,reduceCtorEq]at E G P fP O Y;have D:cy f.k f.begun.b=[(l9 [],pP),(strs [],rz)]:=by rw[eb];unfold cy;rw[aC e,ay,aC fP,ay];rfl
    have I:bG f.k=pK:=by unfold bG;rw[ay,aC e,ay,ay,ay,ay,ay,ay]
    have H:iP f.k=Vl:=by unfold iP;rw[ay,aC e,ay,ay,ay,ay,ay,ay]
    refine uV Q (aG λb h' L o F _=>?_);have:=hk _ h' (ak GX o) (fin (SS:=[Sl.nil,Sl.nil]) (ST:=[λ_=>False,λ_=>False]) (X:=λ_=>False) (sp:=[]) o (by rw[H];unfold iG nL;rw[ay,ay];exact F) ag (by rw[D];exact⟨rfl,rfl⟩) (λi s A y l C m=>?_) (λA g c q=>by simp only[mB,pF,Ab]at g;rcases g with rfl|rfl|rfl <;> exact q.elim) n' (S ag ag _ _))
    ·rw[I]at this;exact this
    ·rw[D]at m;rcases i with _|_|i
     ·simp at l C m;subst l C m;exact .inl ⟨rfl,rfl⟩
     ·simp at l C m;subst l C m;exact .inl ⟨rfl,rfl⟩
     ·simp at l
  refine aE (λsu=>?_) λsu=>?_
  ·rw[su]at J2;exact J2
  ·rw[su]at J2;exact J2
theorem RV:∀f:aq,bC f->f.gh->yQ f f.mP
  | .mk g au k w id ix cs,b,a=>by
    have e:∀c∈cs,yQ c c.mP:=λc d=>RV c (b.aL d) (ia.get a.2.2 c d);exact aq6 b a e
end
theorem ax1(e:ny f){l:aP}(c:f.can l):l=kB f (f.dn (f.st l)) (f.dn (f.st l)).off.toNat (f.dn (f.st l)).len.toNat:=by
 rw[zO,xZ];apply sE;intro i;simp only[fR]
 by_cases b:i<l.length
 ·rw[ae3 b];simp[*]
 simp_all[ag,LN]
theorem afj(a:fH f.k=true)(vs:aP)(x:aB):jy f vs x=if x.bq<=4194304/\f.fit x=true then(if 4096<=vs.length then 3 else if 4194304<bH vs+(16+x.text.length)then 3 else 0)else 7:=by
 unfold jy;rw[alI a];unfold P5;rw[fF];have e1:(aK f.k vs).rows=vs.length:=rfl;have b:(aK f.k vs).bB=bH vs:=rfl;grind
def vN(n:Int):aB:=.mk false n [] []
theorem uz:bC fA:=by
 apply LR;simp only[fA,aq.places];refine⟨⟨by decide,by decide,abf,aA,by simp[Shaped,aq.k,aq.w,aq.id,aq.ix,aq.cs],by simp[At,aq.k],aA,by simp[aq.k]⟩,trivial⟩
theorem aaE:fH fA.k=true:=rfl
theorem Fk:fA.gh:=by
 unfold fA aq.gh;exact⟨by decide,by decide,trivial⟩
theorem RQ:MC fA fA.mP:=vT fA uz
theorem RP:yQ fA fA.mP:=RV fA uz Fk
theorem P6:jl fA:=λv a=>Zz uz aY a
theorem mvA:ny fA:=abv uz aY
theorem Ts:mX fA:=ac6 aY
theorem auv(n:Int):fA.fit (vN n)=(decide (-32768<=n)&&decide (n<32768)):=by
 simp[fA,vN,aq.fit,fD,aB.items,aB.au,aB.text,aB.num,kW,dL]
theorem auu:fA.fit v0=true:=by
 simp[fA,v0,aq.fit,fD,m9,aB.items,aB.au,aB.text,aB.num]
theorem Vh(vs:aP)(n:Int)(c:vs.length<=1)(b:bH vs<=16):jy fA vs (vN n)=if-32768<=n/\n<32768 then 0 else 7:=by
 rw[afj aaE,auv];have e:(vN n).bq=16:=rfl;have a:(vN n).text.length=0:=rfl;grind
theorem ayf(vs:aP)(c:vs.length<=1)(b:bH vs<=16):jy fA vs v0=0:=by
 rw[afj aaE,auu];have e:v0.bq=16:=rfl;have a:v0.text.length=0:=rfl;grind
def lA:List aB:=[vN (-2),v0]
def lB:List aB:=[vN 1,vN 40000]
theorem Te:Good fA lA 2:=by
 intro j x b a;rcases j with _|_|j
 ·simp[lA]at a;subst a;exact Vh [] (-2) aY aY
 ·simp[lA]at a;subst a;exact ayf [vN (-2)] aY aY
 ·omega
theorem aeY:jy fA (lB.take 1) (vN 40000)=7:=Vh [vN 1] 40000 aY aY
theorem atT:jy fA (lB.take 0) (vN 1)=0:=Vh [] 1 aY aY
theorem DP:fA.dn (fA.st lA)=.mk 2 0 1 [[1],[254,255,0,0]] [] []:=by
 rw[zP aY];have e1:(aK fA.k lA).ck=1:=by decide
 have b:dF (aK fA.k lA)=[1]:=by decide
 have a:laidB (aK fA.k lA).dV (wB fA.k)=[254,255,0,0]:=by decide
 rw[e1,b,a];rfl
theorem Zd{B d:Bool}{x y:Int}(k:aN h a #[.bool B,ah x,.string (bs []),.slice none 0 0,.bool d,ah y,.string (bs []),.slice none 0 0] el):aR (λ_=>True) h ⟨some (aJ a),2,2⟩ [.mk B x [] [],.mk d y [] []]:=by
 refine aR.of rfl (bP _) λ_=>⟨_,rfl,trivial,λj v c=>?_⟩;rcases j with _|_|j
 ·simp at c;subst c;refine VA.of (s:=bT) (λi w b=>?_) (qt _);rw[bw,bw,gW k];rcases i with _|_|_|_|i
  all_goals first|(simp[xo]at b;done)|(simpa[aB.row,xo,Sl.v,aB.au,aB.num,aB.text]using b)
 ·simp at c;subst c;refine VA.of (s:=bT) (λi w b=>?_) (qt _);rw[bw,bw,gW k];rcases i with _|_|_|_|i
  all_goals first|(simp[xo]at b;done)|(simpa[aB.row,xo,Sl.v,aB.au,aB.num,aB.text]using b)
 ·simp at c
theorem ax0{K:fJ}(y:n8 h)(B:jz h)(hk:∀v,az h v->K true v):XP h K Kp:=by
 have lG:(fA.dn (fA.st lA)).lG:=by rw[DP];exact⟨by decide,⟨by decide,trivial⟩,by decide,trivial⟩
 refine aFh (aG λa1 h1 e1 g1 m _=>oD m rfl λh2 o2 m=>dZ m (aG λd' h3 e3 F O _=>?_));have g2:=bE g1 o2 ag;have L:=ak g2 F;have G:∀{v:Hp},cH v bT fA.cs:=λ{v}=>by unfold fA aq.cs cH;simp
 have rA:mL lA:=⟨⟨by decide,trivial⟩,⟨by decide,trivial⟩,trivial⟩
 have rB:mL lB:=⟨⟨by decide,trivial⟩,⟨by decide,trivial⟩,trivial⟩
 refine VV (f:=fA) RQ RP P6 Ts uz Fk rA aY (y.k.ai L) (B.ai L) G (Zd O) (λq h4 z X _ D4=>?_) λi x v _ _ o r=>?_;rotate_left
 ·rcases i with _|_|i
  ·exact absurd (Te 0 x aY o) r
  ·exact absurd (Te 1 x aY o) r
  ·simp[lA]at o
 refine aG λa2 h5 e5 E e _=>jI e rfl λh6 U e=>aB8 (dZ ((m.ai F).ai (ak z (bE E U ag))) (aG λc' h7 e7 C N _=>?_));have g6:=bE E U ag;have u:=ak g6 C;have J:=ak L (ak z u);have m:=(m.ai F).ai (ak z u);have e:=e.ai C;refine VV (f:=fA) RQ RP P6 Ts uz Fk rB aY (y.k.ai J) (B.ai J) G (Zd N) (λq Y _ _ W _=>?_) λi x Y g8 W o r=>?_
 ·have:=W 1 _ aY rfl;rw[aeY]at this;omega
 obtain⟨rfl,rfl⟩:i=1/\x=vN 40000:=by
  rcases i with _|_|i
  ·simp[lB]at o;subst o;exact absurd atT r
  ·simp[lB]at o;grind
  ·simp[lB]at o
 rw[aeY];refine aG λa5 h9 e9 Z V _=>jI V rfl λQ M V=>?_;have T:=bE Z M ag;have c:=ak g8 T;have s:=ak J c;have m:=m.ai c;have e:=e.ai c;have g:=(D4.gr u).gr c;have el:(fA.dn (fA.st lA)).len=2:=by rw[DP];rfl
 have en:(fA.dn (fA.st lA)).au=1:=by rw[DP];rfl
 have w:(fA.dn (fA.st lA)).aX=[[1],[254,255,0,0]]:=by rw[DP];rfl
 have bn:=g.b.n;rw[w]at bn;refine aB7 (bO rfl (aj e rfl (aB6 (bO (by rw[el];rfl) ?_))))
 simp only[bw,cz];refine aj e rfl (aB5 (bO (by rw[en];rfl) ?_))
 simp only[bw,cz];refine aj e rfl (aB4 (bO (by rw[bn.1];rfl) ?_))
 simp only[bw,cz];refine aj e rfl (g.b.ix rfl (by rw[w];decide) λa t H A=>⟨t,H,zX A.1 (aB3 (bO (by rw[w,BU];rfl) ?_))⟩)
 simp only[bw,cz];refine aj e rfl (g.b.ix rfl (by rw[w];decide) λa t H A=>⟨t,H,zX A.1 (aB2 (bO (by rw[w,BU];rfl) (aB1 (bO rfl (aB0 (bO rfl (dZ m (gl e ?_))))))))⟩)
 have I:=ax3 uz aY lA X;have av:=ax1 mvA X;rw[DP]at g I av lG ⊢;refine aC7 (f:=fA) (D:=λ_=>True) RQ RP P6 Ts uz Fk (y.ai s) (B.ai s) G ?_ (apV uz Fk (y.ai s) ?_ I) apK I av rA lG λb P R hb=>?_
 ·exact g.fr (iX _ _) (λ_ _ _=>id) (λ_ _ _=>id) (λ_ _=>trivial) λ_ _=>trivial
 ·exact g.fr (iX _ _) (λ_ _ _=>id) (λ_ _ _=>id) (λ_ _=>trivial) λ_ _=>trivial
 ·obtain rfl:b=true:=hb.2 ⟨Te,DP⟩;exact hk P (ak s R)
open Go Go.Sh Go.ChangeShapes Go.WideShapes Go.RowKit
theorem own:ownKnob aD.godebug=none:=by kernel_rfl
theorem laidOut:laidOutB aD=true:=by kernel_rfl
theorem aq4:mapsRowed aD=true:=by kernel_rfl
theorem anu:((List.range aD.types.size).all λt=>match aD.underlying t with|some (.slice e)=>decide (0<aD.cellsOf e)|_=>true)=true:=by kernel_rfl
def wm(t:TypeId):Array Field:=match aD.underlying t with|some (.struct fs)=>fs|_=>#[]
abbrev fT(t:TypeId)(i:Nat)(ty:TypeId)(off:Nat):Prop:=((wm t)[i]?).map (λf=>(f.type,f.offset))=some (ty,off)
theorem u3:aD.underlying 3=some (.int .i64):=by kernel_rfl
theorem u4:aD.underlying 4=some (.bool):=by kernel_rfl
theorem u5:aD.underlying 5=some (.int .u8):=by kernel_rfl
theorem u9:aD.underlying 9=some (.string):=by kernel_rfl
theorem u23:aD.underlying 22=some (.slice 41):=by kernel_rfl
theorem als:aD.underlying 162=some (.array 21 161):=by kernel_rfl
theorem alr:aD.underlying 211=some (.array 256 5):=by kernel_rfl
theorem alq:aD.underlying 214=some (.array 16 213):=by kernel_rfl
theorem u25:aD.underlying 39=some (.struct (wm 39)):=by kernel_rfl
theorem awo:fT 39 0 3 0:=by unfold fT;kernel_rfl
theorem awn:fT 39 1 3 1:=by unfold fT;kernel_rfl
theorem awm:fT 39 2 3 2:=by unfold fT;kernel_rfl
theorem awl:fT 39 3 3 3:=by unfold fT;kernel_rfl
theorem awk:fT 39 4 22 4:=by unfold fT;kernel_rfl
theorem u27:aD.underlying 41=some (.struct (wm 41)):=by kernel_rfl
theorem awj:fT 41 0 9 0:=by unfold fT;kernel_rfl
theorem awi:fT 41 1 4 1:=by unfold fT;kernel_rfl
theorem awh:fT 41 2 39 2:=by unfold fT;kernel_rfl
theorem O6:aD.underlying 161=some (.struct (wm 161)):=by kernel_rfl
theorem awg:fT 161 1 3 1:=by unfold fT;kernel_rfl
theorem awf:fT 161 2 3 2:=by unfold fT;kernel_rfl
theorem awe:fT 161 3 4 3:=by unfold fT;kernel_rfl
theorem Y9:aD.underlying 213=some (.struct (wm 213)):=by kernel_rfl
theorem awd:fT 213 0 5 0:=by unfold fT;kernel_rfl
theorem awc:fT 213 1 5 1:=by unfold fT;kernel_rfl
theorem cz3:aD.cellsOf 3=1:=by kernel_rfl
theorem TG:aD.cellsOf 4=1:=by kernel_rfl
theorem cz5:aD.cellsOf 5=1:=by kernel_rfl
theorem TE:aD.cellsOf 9=1:=by kernel_rfl
theorem adG:aD.cellsOf 22=1:=by kernel_rfl
theorem awt:aD.cellsOf 39=5:=by kernel_rfl
theorem adF:aD.cellsOf 41=7:=by kernel_rfl
theorem aws:aD.cellsOf 161=4:=by kernel_rfl
theorem awr:aD.cellsOf 213=2:=by kernel_rfl
theorem F5{α:Type}{Q:Nat->α->Prop}:∀{n:Nat},(∀i,i<n->∃v,Q i v)->∃l:List α,l.length=n/\∀(i:Nat)v,l[i]? =some v->Q i v
  |0,_=>⟨[],rfl,λi v h=>by simp at h⟩
  | n+1,h=>by
    have⟨l,hl,b⟩:=F5 (n:=n) λi b=>h i ag;have⟨v,c⟩:=h n ag;refine⟨l++[v],by simp[hl],λi u a=>?_⟩
    by_cases d:i<n
    ·rw[iQ ag]at a;exact b i u a
    · have:i=n:=by have:=(cU.1 a).1;simp at this;omega
      subst this;rw[gm ag,hl]at a;simp only[wM,B9,mC]at a;subst a;exact c
theorem abB{α:Type}{l:List α}(h:l.length=2):∃b a,l=[b,a]:=by
 match l,h with
 |[b,a],_=>exact⟨_,_,rfl⟩
theorem arp{α:Type}{l:List α}(h:l.length=4):∃d c b a,l=[d,c,b,a]:=by
 match l,h with
 |[_,_,_,_],_=>exact⟨_,_,_,_,rfl⟩
theorem aro{α:Type}{l:List α}(h:l.length=7):∃g f e d c b a,l=[g,f,e,d,c,b,a]:=by
 match l,h with
 |[g,f,e,d,c,b,a],_=>exact⟨_,_,_,_,_,_,_,rfl⟩
section
variable {H:Type} {enc:TypeId×Value->H} {fuel:Nat} {cs:bg} {x:DataW H×List MemPlace}
abbrev Rd(enc:TypeId×Value->H)(W:World)(fuel:Nat)(t:TypeId)(cs:bg)(x:DataW H×List MemPlace):Prop:=DataW.trod enc aD W 0 (λ_=>true) true fuel t cs=some x
theorem JG{t:TypeId}(f:aD.underlying t=some (.slice e))(h:Rd enc W fuel t cs x):∃(s:Sl)(n:Nat),cs=[s.v]/\fuel=n+1/\s.n<=s.c/\s.n<=jP/\∀i,i<s.n->∃a b y,s.a=some a/\b.length=aD.cellsOf e/\Cs (aT W) (a.add (i*aD.cellsOf e)) b/\Rd enc W n e b y:=by
 obtain⟨s,BD,k,n,rfl,rfl,p,l,_,d⟩:=apU f h;refine⟨s,n,rfl,rfl,l,?_,λi q=>?_⟩
 ·rcases DataW.trod_slice f h with⟨e1,_⟩|⟨a,len,cap,_,_,_,_,e1,_,_,j,g,_⟩
  ·simp only[Sl.v,UR,Value.slice.injEq]at e1;omega
  ·simp only[Sl.v,UR,Value.slice.injEq]at e1;have:maxLen=9223372036854775807:=by decide
   show s.n<=9223372036854775807;omega
 ·have⟨a,b,j,g,o,m⟩:=d i BD[i] (bx ag);exact⟨a,b,BD[i],j,g,o,m⟩
theorem FK{t:TypeId}(j:aD.underlying t=some (.struct (wm t)))(h:Rd enc W fuel t cs x):∃n,fuel=n+1/\cs.length=aD.cellsOf t/\∀(i:Nat)(ty:TypeId)(off:Nat),fT t i ty off->∃y,Rd enc W n ty ((cs.drop off).take (aD.cellsOf ty)) y:=by
 obtain⟨d,n,rfl,rfl,hl,g,k⟩:=DataW.trod_struct j h;refine⟨n,rfl,hl,λi ty off b=>?_⟩;unfold fT at b;rw[tU]at b;have⟨f,a,e⟩:=b;cases e;have c:i<d.length:=by have:=(kS.1 a).1;omega
 have:=k i f a;rw[bx c]at this;exact⟨d[i],this⟩
theorem JH(h:Rd enc W fuel 3 cs x):∃v:Int,cs=[ah v]/\v<2^63:=by
 obtain⟨v,rfl,b,a⟩:=aaT u3 h;exact⟨v,rfl,by omega⟩
theorem aap(h:Rd enc W fuel 4 cs x):∃v,cs=[.bool v]:=by
 obtain⟨v,rfl,_⟩:=DataW.trod_bool u4 h;exact⟨v,rfl⟩
theorem JF(h:Rd enc W fuel 9 cs x):∃v:ByteArray,cs=[.string v]/\v.size<=jP:=by
 obtain⟨v,rfl,_,hl⟩:=DataW.trod_string u9 h;have:maxLen=9223372036854775807:=by decide
 exact⟨v,rfl,by show _<=9223372036854775807;omega⟩
theorem iu.of{a:Addr}:∀{fs:cC}{i:Nat},(∀(j:Nat)f,fs[j]? =some f->jR h (a.add ((i+j)*7)) f)->iu h a i fs
  |[],_,_=>by unfold iu;trivial
  | f::fs,i,b=>by
    unfold iu;refine⟨b 0 f rfl,iu.of λj g c=>?_⟩;have:=b (j+1) g (by simpa using c)
    have e:i+1+j=i+(j+1):=ag;rw[e];exact this
theorem cH.of{fs:cC}(q:s.n=fs.length)(B:s.n<=s.c)(z:∀(j:Nat)f,fs[j]? =some f->∃a,s.a=some a/\jR h (a.add (j*7)) f):cH h s fs:=by
  cases fs with
  |nil=>unfold cH;exact⟨q,B⟩
  | cons f fs=>
    unfold cH;have⟨a,d,l⟩:=z 0 f rfl;refine⟨q,B,a,d,by simpa[add_zero']using l,iu.of λj g i=>?_⟩
    have⟨m,b,k⟩:=z (j+1) g (by simpa using i)
    rw[d]at b;cases b;have e:1+j=j+1:=ag;rw[e];exact k
theorem ia.of:∀{fs:cC},(∀(j:Nat)f,fs[j]? =some f->f.gh)->ia fs
 |[],_=>by unfold ia;trivial
 |f::fs,h=>by unfold ia;exact⟨h 0 f rfl,ia.of λj g a=>h (j+1) g (by simpa using a)⟩
def ajB(H:Type)(enc:TypeId×Value->H)(W:World)(fuel:Nat):Prop:=∀{cs:bg}{x:DataW H×List MemPlace},Rd enc W fuel 22 cs x->∃(s:Sl)(fs:cC),cs=[s.v]/\cH (aT W) s fs/\ia fs/\fs.length<=jP
theorem ao0(B:∀n,n<fuel->ajB H enc W n)(h:Rd enc W fuel 41 cs x):∃(f:aq)(u:Sl),cs=[.string f.name,.bool f.au,ah f.k,ah f.w,ah f.id,ah f.ix,Sl.v u]/\cH (aT W) u f.cs/\f.gh:=by
 obtain⟨U,rfl,c,b⟩:=FK u27 h;rw[adF]at c;obtain⟨v0,T,S,R,Q,P,O,rfl⟩:=aro c;have⟨N,t⟩:=b 0 _ _ awj;have⟨M,s⟩:=b 1 _ _ awi;have⟨L,r⟩:=b 2 _ _ awh;have⟨z,e0,y⟩:=JF t;have⟨au,e1⟩:=aap s;obtain⟨A,rfl,_,a⟩:=FK u25 r;have⟨K,q⟩:=a 0 _ _ awo;have⟨J,p⟩:=a 1 _ _ awn;have⟨I,o⟩:=a 2 _ _ awm;have⟨G,m⟩:=a 3 _ _ awl;have⟨F,l⟩:=a 4 _ _ awk;have⟨k,j,_⟩:=JH q;have⟨w,i,_⟩:=JH p;have⟨id,g,_⟩:=JH o;have⟨ix,e,_⟩:=JH m;have⟨u,ds,d,E,D,C⟩:=B A ag l;simp[cz3,TG,TE,adG,awt]at e0 e1 j i g e d;subst e0 e1 j i g e d;exact⟨.mk z au k w id ix ds,u,rfl,E,by unfold aq.gh;exact⟨y,C,D⟩⟩
theorem aoZ:∀(fuel:Nat),ajB H enc W fuel:=by
  intro fuel
  induction fuel using Nat.strongRecOn with
  | _ fuel g=>
    intro cs x h;obtain⟨s,n,rfl,rfl,p,o,d⟩:=JG u23 h;obtain⟨l,hl,b⟩:=F5 (Q:=λi(f:aq)=>(∃a,s.a=some a/\jR (aT W) (a.add (i*7)) f)/\f.gh) λi b=>by
      have⟨a,z,y,r,B,e,q⟩:=d i b;rw[adF]at e;obtain⟨f,u,rfl,v,t⟩:=ao0 (λm o=>g m ag) q;exact⟨f,⟨a,r,by have⟨A,au,k,w,id,ix,ds⟩:=f;unfold jR;exact⟨u,e,v⟩⟩,t⟩
    exact⟨s,l,rfl,cH.of hl.symm p λj f c=>(b j f c).1,ia.of λj f c=>(b j f c).2,by omega⟩
end
def aqu:String:=Rows.buildBatchesRow.named.getD 2 ""
def aqs:String:=Rows.buildBatchesRow.named.getD 0 ""
def aqt:String:=Rows.buildBatchesRow.named.getD 1 ""
theorem acN:aD.globalNamed aqs=some 0:=by kernel_rfl
theorem acO:aD.globalNamed aqt=some 1:=by kernel_rfl
theorem acP:aD.globalNamed aqu=some 2:=by kernel_rfl
theorem atN:(aD.globals[0]?).map (·.type)=some 162:=by kernel_rfl
theorem atO:(aD.globals[1]?).map (·.type)=some 211:=by kernel_rfl
theorem atP:(aD.globals[2]?).map (·.type)=some 214:=by kernel_rfl
theorem R6{n:String}{e r z fuel:Nat}{d:DataW Unit}{cs:Array Value}{p:List MemPlace}(D:aD.globalNamed n=some j)(A:aD.underlying b=some (.array r e))(s:aD.cellsOf e=z)
  (f:W.var? aD n=some cs) (E:DataW.trod (λ_=>()) aD W 0 (λ_=>true) false fuel b cs.toList=some (d,p)) {i:Nat} (C:i<r):∃(l:List (DataW Unit))(m:Nat)(y:DataW Unit×List MemPlace)(c:bg),d=.agg l/\l[i]? =some y.1/\DataW.trod (λ_=>()) aD W 0 (λ_=>true) false m e c=some y/\∀(k:Nat)v,k<z->c[k]? =some v->cell (aT W) ⟨j,i*z+k,none⟩=some v:=by
 obtain⟨h,m,rfl,u,hl,F,o⟩:=DataW.trod_array A E;rw[s]at o;have a:h[i]? =some h[i]:=bx ag;have q:=o i C;rw[a]at q;refine⟨h.map _,m,h[i],(cs.toList.drop _).take z,tP Prod.fst u,by rw[fh,a];rfl,q,λk v B w=>?_⟩
 rw[adR];have:=World.var?_cell D f (i*z+k);rw[this]
 simpa[HL,B]using w
theorem an2:∀(i:Nat)(d:DataW Unit),i<21->(match(Rows.laid_colonnade_kind_says:DataW Unit)with|.agg l=>l[i]? |_=>none)=some d->∃a,d=.agg [a,.lit (.int .i64 (if i=0 then 0 else dL i)),.lit (.int .i64 (if i=0 then 0 else kO i)),.lit (.bool (decide (3<=i/\i<=10)))]:=by
 intro i d b h;rcases i with _|_|_|_|_|_|_|_|_|_|_|_|_|_|_|_|_|_|_|_|_|i
 all_goals first|(obtain rfl:=uW h;exact⟨_,rfl⟩)|omega
theorem F8{m n:Nat}{cs:bg}{y:DataW Unit×List MemPlace}{k:IntKind}{v:Int}(b:aD.underlying n=some (.int k))(h:DataW.trod (λ_=>()) aD W 0 (λ_=>true) false m n cs=some y)(a:y.1=.lit (.int k v)):cs=[.int k v]:=by
 obtain⟨w,rfl,e,_⟩:=DataW.trod_int b h;rw[e]at a;simp only[DataW.lit.injEq,Lit.int.injEq,true_and]at a;rw[a]
theorem arM{m n:Nat}{cs:bg}{y:DataW Unit×List MemPlace}{v:Bool}(b:aD.underlying n=some .bool)(h:DataW.trod (λ_=>()) aD W 0 (λ_=>true) false m n cs=some y)(a:y.1=.lit (.bool v)):cs=[.bool v]:=by
 obtain⟨w,rfl,e⟩:=DataW.trod_bool b h;rw[e]at a;simp only[DataW.lit.injEq,Lit.bool.injEq]at a;rw[a]
theorem F7{m:Nat}{cs:bg}{y:DataW Unit×List MemPlace}{l:List (DataW Unit)}(s:aD.underlying j=some (.struct (wm j)))(h:DataW.trod (λ_=>()) aD W 0 (λ_=>true) false m j cs=some y)(r:y.1=.agg l)
  {i:Nat} {ty:TypeId} {off:Nat} {d:DataW Unit} (g:fT j i ty off) (k:l[i]? =some d):∃n z,DataW.trod (λ_=>()) aD W 0 (λ_=>true) false n ty ((cs.drop off).take (aD.cellsOf ty))=some z/\z.1=d:=by
 obtain⟨c,n,rfl,q,hl,p,u⟩:=DataW.trod_struct s h;unfold fT at g;rw[tU]at g;have⟨f,b,e⟩:=g;cases e;have a:i<c.length:=by have:=(kS.1 b).1;omega
 have:=u i f b;rw[bx a]at this;refine⟨n,c[i],this,?_⟩;have o:y.1=.agg (c.map (·.1)):=by rw[q]
 rw[r]at o;rw[DataW.agg.inj o,fh,bx a]at k
 simpa using k
theorem F9{cs:bg}{off:Nat}{v:Value}(h:(cs.drop off).take 1=[v]):cs[off]? =some v:=by
 have:=tP (·[0]?) h
 simpa[HL]using this
theorem auw(i:Nat)(a:i<256):(match(Rows.laid_unicode_utf8_first:DataW Unit)with|.agg l=>l[i]? |_=>none)=some (.lit (.int .u8 (uF i))):=by
 have h:∀j:Fin 256,(Pinned.utf8FirstZ[j.1]?)=some (uF j.1):=by decide+kernel
 have:=h ⟨i,a⟩
 show _[i]? =_
 unfold Pinned.numbers;simp only[fh,this];rfl
theorem ayh:∀(i:Nat)(d:DataW Unit),i<16->(match(Rows.laid_unicode_utf8_acceptRanges:DataW Unit)with|.agg l=>l[i]? |_=>none)=some d->d=.agg [.lit (.int .u8 (Fe i)),.lit (.int .u8 (Ff i))]:=by
 intro i d a h;rcases i with _|_|_|_|_|_|_|_|_|_|_|_|_|_|_|_|i
 all_goals first|(obtain rfl:=uW h;rfl)|omega
theorem amb(h:laidMetH aD Rows.buildBatchesRow.laid W):n8 (aT W)/\jz (aT W):=by
 have h:=h;have⟨ps,⟨g1,Y,U,f1,p1,t,E,B,w,I,⟨g2,X,K5,f2,p2,q2,D,A,v,G,⟨g3,V,T,f3,p3,Z,C,z,u,F,_,_⟩,_⟩,_⟩,_⟩:=h;obtain rfl:=uW (acP.symm.trans E);obtain rfl:=uW (atP.symm.trans B);obtain rfl:=uW (acN.symm.trans D);obtain rfl:=uW (atN.symm.trans A);obtain rfl:=uW (acO.symm.trans C);obtain rfl:=uW (atO.symm.trans z);have d:∀i,i<21->cell (aT W) ⟨0,i*4+1,none⟩=some (.int .i64 (if i=0 then 0 else dL i))/\cell (aT W) ⟨0,i*4+2,none⟩=some (.int .i64 (if i=0 then 0 else kO i))/\cell (aT W) ⟨0,i*4+3,none⟩=some (.bool (decide (3<=i/\i<=10))):=by
  intro i e;have⟨l,m,y,o,e1,j,g,f⟩:=R6 acN als aws v G e;have⟨a,b⟩:=an2 i y.1 e (by rw[e1];exact j)
  have⟨P,L,s,q⟩:=F7 O6 g b awg rfl;have⟨O,K,r,p⟩:=F7 O6 g b awf rfl;have⟨n3,S,N,M⟩:=F7 O6 g b awe rfl;have n:=F8 u3 s q;have k:=F8 u3 r p;have J:=arM u4 N M;rw[cz3]at n k;rw[TG]at J;exact⟨f 1 _ ag (F9 n),f 2 _ ag (F9 k),f 3 _ ag (F9 J)⟩
 refine⟨⟨λi e=>(d i e).2.2,λi R Q=>?_,λi R Q=>?_⟩,⟨λi e=>?_,λi e=>?_⟩⟩
 ·have:=(d i ag).2.1;rwa [ay]at this
 ·have:=(d i ag).1;rwa [ay]at this
 ·obtain⟨l,m,y,o,e1,j,g,f⟩:=R6 acO alr cz5 u F e;have b:=auw i e;rw[e1]at b;have b:y.1=.lit (.int .u8 (uF i)):=uW (j.symm.trans b);have c:=F8 u5 g b;have:=f 0 (.int .u8 (uF i)) ag (by rw[c];rfl)
  simpa using this
 ·obtain⟨l,m,y,o,e1,j,g,f⟩:=R6 acP alq awr w I e;have b:=ayh i y.1 e (by rw[e1];exact j)
  obtain⟨P,L,s,q⟩:=F7 Y9 g b awd rfl;obtain⟨O,K,r,p⟩:=F7 Y9 g b awc rfl;have n:=F8 u5 s q;have k:=F8 u5 r p;rw[cz5]at n k;have t:=f 0 _ ag (F9 n);rw[Eo]at t;exact⟨t,f 1 _ ag (F9 k)⟩
section
theorem Dt{g:Raw->Int×Raw}(h:∀r,(g r).1≠5)(r:Raw):(di i g r).1≠5:=h _
theorem KL:∀{l:jG},(∀d∈l,d.lG)->uN l
 |[],_=>trivial
 |d::ds,h=>⟨h d (UG ..),KL λx a=>h x (UF _ a)⟩
theorem au3{w ix:Int}{D:List (Raw->bD)}(f:∀g∈D,∀r,(g r).lG)(hl:D.length<=1000)(r:Raw):(mT k w ix D r).lG:=by
 have ks:∀d∈(List.range D.length).map (λi=>(D.getD i λ_=>wu) (r.aL i)),d.lG:=λd e=>by
  obtain⟨i,b,rfl⟩:=lU.1 e;rw[wO]at b;have c:=bx b;rw[gL,c];exact f _ (kE b) _
 have j:((List.range D.length).map (λi=>(D.getD i λ_=>wu) (r.aL i))).length<=1000:=by rw[cm,Hy];exact hl
 have a:∀(n o u:Int)(aX:ig),aX.length<=1000->(bD.mk n o u aX [] []).lG:=λn o u aX h=>⟨ag,⟨aA,trivial⟩,aA,trivial⟩
 have kids:∀(n o u:Int)(aX:ig),aX.length<=1000->(bD.mk n o u aX _ []).lG:=λn o u aX h=>⟨ag,⟨ag,KL ks⟩,aA,trivial⟩
 unfold mT;split
 ·exact a _ _ _ _ aA
 split
 ·exact a _ _ _ _ aA
 split
 ·exact kids _ _ _ _ aA
 split
 ·exact kids _ _ _ _ aA
 split
 ·exact kids _ _ _ _ aA
 split
 ·exact⟨aA,⟨aA,trivial⟩,ag,KL ks⟩
 split
 ·exact⟨aA,⟨by rw[iq];omega,a _ _ _ _ aA,KL ks⟩,aA,trivial⟩
 split
 ·exact a _ _ _ _ aA
 split
 ·exact a _ _ _ _ aA
 ·exact a _ _ _ _ aA
theorem arV(e:bC f):f.cs.length<=32:=by
 obtain⟨_,_,_,_,_,_,_,i,h,g,d⟩:=e.right.1
 omega
theorem adu:∀f:aq,bC f->∀r,(f.dn r).lG
  | .mk h au k w id ix cs,b=>by
    have d:∀c∈cs,∀r,(c.dn r).lG:=λc a=>adu c (b.aL a);have hl:cs.length<=32:=arV b;intro r;rw[qX];refine au3 (λg e r=>?_) (by rw[cm];show cs.length<=1000;omega) r
    obtain⟨c,a,rfl⟩:=lU.1 e;exact d c a r
end
def IW(d:bD):Prop:=∀{D E D' E':aQ}{h:Hp}{p q:Sl×Sl×Sl}{K:fJ}{Kp:PK},d.lG->eU D E h p d->eU D' E' h q d->(∀h',az h h'->K true h')->
 XO d.len d.off d.au p.1 p.2.1 p.2.2 d.len d.off d.au q.1 q.2.1 q.2.2 h K Kp
theorem Tx{z:aQ}{t:Sl}{cs:jG}{K:fJ}{w:PK}(y:∀c∈cs,IW c)(r:uN cs)(l:dz D E h s cs)(k:dz A z h t cs)(hl:cs.length<=2^50)(o:∀e,az h e->K true e):IP s t h K w:=by
 have C:=l.n;have B:=k.n;refine aE6 (bu cj (azW (λx e=>az h e/\∃i:Nat,x=i/\i<=cs.length) (λx _=>cs.length-x.toNat) ⟨cK _,0,rfl,dN _⟩ ?_));rintro x e ⟨G,i,rfl,F⟩ N hN;refine aE (λg=>?_) λg=>o e G;have g:=aM g;have b:cs[i]? =some cs[i]:=aA;have f:cs[i]∈cs:=aA;generalize cs[i]=d at b f;refine(l.gr G).ix rfl b λa p v vp=>cr.c v ((k.gr G).ix rfl b λI q j m=>cr.c j (y d f (r.get d f) vp m λH u=>bu rfl (aW ag ag (hN _ _ ⟨ak G u,i+1,aA,ag⟩ ag))))
theorem auU{n y:Int}{cs ds:jG}(U:∀c∈cs,IW c)(T:∀c∈ds,IW c):IW (.mk n y k aX cs ds):=by
 intro D E D' E' h p q K Kp g v s L;refine aFf (aG λS Y e1 Q d _=>aG λR O Z C e _=>?_);have G:=ak Q C;have d:=d.ai C;have F:=(v.b.gr G);have b2:=(s.b.gr G);have J:=F.n;have I:=b2.n;have e1:(bD.mk n y k aX cs ds).aX=aX:=rfl;rw[e1]at J I;refine aj d rfl (aj e rfl (bu aA ?_));simp only[bw,cz];refine aj d rfl (aj e rfl (aBW (bu aA ?_)));simp only[bw,cz];refine aj d rfl (aj e rfl (aBV (bu aA ?_)));simp only[bw,cz];refine aj d rfl (aj e rfl (bu cj (aBY (az5 (λx r=>r=O/\∃i:Nat,x=i/\i<=aX.length) (λx _=>aX.length-x.toNat) ⟨rfl,0,rfl,dN _⟩ ?_))));rintro x r ⟨rfl,i,rfl,V⟩ N hN;simp only[bw,cz];refine aj d rfl (aE (λz=>?_) λz=>?_)
 ·have z:=aM z;have W:=g.1;refine aj d rfl (F.ix rfl (by rw[e1];omega) λa t w B=>⟨t,w,aj e rfl (b2.ix rfl (by rw[e1];omega) λa' H f m=>⟨H,f,?_⟩)⟩)
  have fin:If (!((bs (dD (bD.mk n y k aX cs ds).aX i)).toList==(bs (dD (bD.mk n y k aX cs ds).aX i)).toList)) (K false r) (aO ((i:Int)+1) λA=>N (FZ (aJ S) (aJ R) A) r):=by
   refine bu aA (aW ag ag (hN _ _ ⟨rfl,i+1,aA,ag⟩ ag))
  exact⟨zX B.1 (Cv f (cK _) (mF e e (zX m.1 (Cv w (cK _) (mF d d fin))))),zX m.1 (Cv w (cK _) (mF d d (zX B.1 (Cv f (cK _) (mF e e fin)))))⟩
 ·apply aBX;simp only[bw,cz];refine aj d rfl (aj e rfl (Tx U g.2.1.2 (v.c.gr G) (s.c.gr G) g.2.1.1 λX l=>bO rfl (aj (d.ai l) rfl (aj (e.ai l) rfl (Tx T g.2.2.2 ((v.x.gr G).gr l) ((s.x.gr G).gr l) g.2.2.1 λM P=>L M (ak (ak G l) P))))))
theorem Ty:∀d:bD,IW d
 |.mk n o u aX cs ds=>auU (λc _=>Ty c) λc _=>Ty c
theorem aag:∀{l:aP},(∀y∈l,y.nM)->mL l
 |[],_=>trivial
 |x::b,h=>⟨h x (UG ..),aag λy a=>h y (UF _ a)⟩
open Go Go.Sh Go.ChangeShapes Go.WideShapes
theorem u2:aD.underlying 2=some (.int .i64):=by kernel_rfl
theorem u28:aD.underlying 47=some (.slice 49):=by kernel_rfl
theorem u56:aD.underlying 49=some (.struct (wm 49)):=by kernel_rfl
theorem awb:fT 49 0 4 0:=by unfold fT;kernel_rfl
theorem awa:fT 49 1 2 1:=by unfold fT;kernel_rfl
theorem av9:fT 49 2 9 2:=by unfold fT;kernel_rfl
theorem av8:fT 49 3 47 3:=by unfold fT;kernel_rfl
theorem cz2:aD.cellsOf 2=1:=by kernel_rfl
theorem adE:aD.cellsOf 47=1:=by kernel_rfl
theorem adB:aD.cellsOf 49=4:=by kernel_rfl
section
variable {H:Type} {enc:TypeId×Value->H} {fuel:Nat} {cs:bg} {x:DataW H×List MemPlace}
def afD(H:Type)(enc:TypeId×Value->H)(W:World)(fuel:Nat):Prop:=∀{cs:bg}{x:DataW H×List MemPlace},Rd enc W fuel 47 cs x->∃(s:Sl)(l:aP),cs=[s.v]/\aR Tt (aT W) s l/\mL l/\l.length<=jP
theorem aoU(o:∀n,n<fuel->afD H enc W n)(h:Rd enc W fuel 49 cs x):∃(v:aB)(u:Sl),cs=v.row u/\aR Tt (aT W) u v.items/\v.nM:=by
 obtain⟨m,rfl,b,a⟩:=FK u56 h;rw[adB]at b;obtain⟨v0,A,z,y,rfl⟩:=arp b;have⟨w,i⟩:=a 0 _ _ awb;have⟨t,g⟩:=a 1 _ _ awa;have⟨s,f⟩:=a 2 _ _ av9;have⟨r,e⟩:=a 3 _ _ av8;have⟨au,e0⟩:=aap i;have⟨num,e1,k,j⟩:=aaT u2 g;have⟨tx,d,_⟩:=JF f;have⟨u,l,c,q,p,_⟩:=o m ag e;simp[TG,cz2,TE,adE]at e0 e1 d c;subst e0 e1 d c;exact⟨.mk au num tx.data.toList l,u,rfl,q,⟨k,j⟩,p⟩
theorem aoT:∀(fuel:Nat),afD H enc W fuel:=by
  intro fuel
  induction fuel using Nat.strongRecOn with
  | _ fuel p=>
    intro cs x h;obtain⟨s,n,rfl,rfl,w,r,f⟩:=JG u28 h;obtain⟨l,hl,b⟩:=F5 (Q:=λi(v:aB)=>(∃a,s.a=some a/\VA Tt (aT W) (a.add (i*4)) v)/\v.nM) λi b=>by
      have⟨a,D,y,A,E,k,z⟩:=f i b;rw[adB]at k;obtain⟨v,u,rfl,C,B⟩:=aoU (λm r=>p m ag) z;exact⟨v,⟨a,A,VA.of k C⟩,B⟩
    refine⟨s,l,rfl,aR.of hl.symm w λe=>?_,aag λy q=>?_,by omega⟩
    ·obtain⟨v,d⟩:∃v,l[0]? =some v:=⟨_,bx (LX.2 e)⟩;have⟨⟨a,g,_⟩,_⟩:=b 0 v d;refine⟨a,g,trivial,λj v d=>?_⟩;have⟨⟨F,c,o⟩,_⟩:=b j v d;rw[g]at c;cases c;exact o
    ·have⟨j,t⟩:=ri.1 q;exact(b j y t).2
end
def oV(vs:aP)(w:Nat)(e:Int):Int:=if 4096<=vs.length then 3 else if e≠0 then e else if 4194304<bH vs+w then 3 else 0
def jU(c:aq)(G:aB->Raw->Int×Raw):List aB->List aB->Int
 |_,[]=>0
 |kv,x::xs=>if(G x (c.st kv)).1=0 then jU c G (kv++[x]) xs else(G x (c.st kv)).1
def jY(g:Nat->Int):Nat->Int
 |0=>0
 |n+1=>if jY g n=0 then g n else jY g n
theorem vE(x:Int×Raw)(g:Raw->Int×Raw):(cR x g).1=if x.1=0 then(g x.2).1 else x.1:=by unfold cR;split <;> rfl
theorem Z0{c:aq}{G:aB->Raw->Int×Raw}:∀{b:aP},(∀x∈b,dU c (G x) x)->∀{r:Raw}{a:aP},i<r.kids.length->r.aL i=c.st a->c.can a->(fm (b.map λx=>di i (G x)) r).1=jU c G a b
  |[],_,_,_,_,_,_=>rfl
  | x::b,h,r,a,g,d,m=>by
    simp only[rm,fm,jU];have e:(di i (G x) r).1=(G x (c.st a)).1:=by unfold di;rw[d]
    rw[vE,e];split
    · rename_i n
      obtain⟨k,j⟩:=vW (h x aA) d m ag
      rw[j];exact Z0 (λy l=>h y (by simp[l])) (by rw[vJ];exact g) (lz g) k
    ·rfl
theorem Uz{cs:cC}{G:Nat->Raw->Int×Raw}{x:Nat->aB}{kv:Nat->List aB}(hl:r.kids.length=cs.length)(b:∀i c,cs[i]? =some c->r.aL i=c.st (kv i)/\c.can (kv i))(e:∀i c,cs[i]? =some c->dU c (G i) (x i)){g:Nat->Int}(d:∀i c,cs[i]? =some c->g i=(G i (c.st (kv i))).1):∀m,m<=cs.length->(fm ((List.range m).map λi=>di i (G i)) r).1=jY g m
  |0,_=>rfl
  | m+1,k=>by
    have a:cs[m]? =some cs[m]:=aA;rw[uX,kR,HA,JA,vE,Uz hl b e d m ag]
    show _=if jY g m=0 then g m else jY g m
    split
    · rename_i j
      have h:(fm ((List.range m).map λi=>di i (G i)) r).1=0:=by rw[Uz hl b e d m ag];exact j
      have:=(((D6 hl b e m ag h).2.2) m _ a).2;rw[ay]at this
      show(G m ((fm ((List.range m).map λi=>di i (G i)) r).2.aL m)).1=g m
      simp[*]
    ·rfl
theorem uq(n:Nat)(r:Raw):(fB n r).1=if 4194304<r.b.bB+n then 3 else 0:=rfl
theorem xq{vs:aP}{n:Bool}{F:Raw->Int×Raw}{w:Nat}{e:Int}(h:∀a,jj f vs v n a->(F a).1=if e≠0 then e else if 4194304<bH vs+w then 3 else 0):(cR (eO n (f.st vs)) F).1=oV vs w e:=by
 rw[vE];unfold oV
 by_cases q:4096<=vs.length
 ·rw[aI q];have b:(eO n (f.st vs)).1=3:=by unfold eO;simp_all[AT]
  rw[b];rfl
 ·rw[aC q];have e0:(eO n (f.st vs)).1=0:=by unfold eO;simp_all[aC,AT]
  simp_all[jj.of]
theorem jj.bB{vs:aP}{n:Bool}{a:Raw}(R:jj f vs v n a):a.b.bB=bH vs:=by rw[R.b];rfl
section
variable {c:aq} {vs:aP}
abbrev gv(f:aq)(vs:aP)(v:aB):Int:=(f.tk (f.st vs) v).1
abbrev gC(f:aq)(vs:aP):Int:=(f.zk (f.st vs)).1
abbrev cont(f:aq)(j:Nat)(vs:aP):List aB:=dJ f.k f.w (dI f.cs) j vs
theorem alT(d:f.k=1)(a:f.fit v=true):gv f vs v=oV vs v.bq 0:=by
 have b:v.au=true:=by
  cases b:v.au with
  |true=>rfl
  |false=>simp_all[eL,fD]
 have e:v=v0:=by rw[eL]at a;exact(kz a b).1
 unfold gv;rw[kD];unfold iE;rw[aI d];refine xq (v:=v) λg R=>?_;rw[uq,R.bB,e,OZ];rfl
theorem acV(a:f.fit v=true)(d:¬(15<=f.k/\f.k<=20)):v.items=[]:=by
  rw[eL]at a;cases b:v.au with
  |true=>rw[(kz a b).1];rfl
  | false=>
    unfold fD at a;grind
theorem alO(e:f.k=12\/f.k=13)(h:f.fit v=true):gv f vs v=oV vs v.bq (if 65536<(vs.flatMap aB.text).length+v.text.length then 4 else 0):=by
 have g:v.bq=16+v.text.length:=by rw[gV,acV h ag];rfl
 unfold gv;rw[kD];unfold iE;rw[ay,aI e];refine xq (v:=v) λd R=>?_;have a:d.b.all=vs.flatMap aB.text:=by rw[R.b];show(aK f.k vs).all=_;simp[aK,e]
 rw[a];split
 ·rfl
 ·rw[uq,gq,g]
  show _=_
  rw[R.bB];rfl
theorem alS(g:fH f.k=true)(e:f.fit v=true)(h:f.k<=20):gv f vs v=oV vs v.bq 0:=by
 have q:f.k≠1/\f.k≠12/\f.k≠13/\f.k≠15/\f.k≠16/\f.k≠17/\f.k≠18/\f.k≠19/\f.k≠20:=by simpa[fH,and_assoc]using g
 have d:v.bq=16+v.text.length:=by rw[gV,acV e ag];rfl
 unfold gv;rw[kD];unfold iE;rw[ay,ay,ay,ay,ay,ay,ay,ay];refine xq (v:=v) λa R=>?_;rw[uq,gq,d]
 show _=_
 rw[R.bB];rfl
theorem Jz{l:Raw}{n:Bool}{G:aB->Raw->Int×Raw}{xs:aP}{wg:Raw->Nat}{up:Rb->Rb}{w:Nat}(i:f.cs=[c])(t:f.can vs)(R:jj f vs v n l)(p:∀x∈xs,dU c (G x) x)(m:∀b,(up b).bB=b.bB)(s:∀h,(∃o,h=l.fk 0 (c.st o)/\o=cont f 0 vs++xs)->wg h=w):(cR (fm (xs.map λx=>di 0 (G x)) l) λh=>fB (wg h) (h.up up)).1=if jU c G (cont f 0 vs) xs≠0 then jU c G (cont f 0 vs) xs else if 4194304<bH vs+w then 3 else 0:=by
 have j:f.cs[0]? =some c:=by rw[i];rfl
 have a:0<l.kids.length:=by rw[R.len,i];simp
 have g:=R.aL j;have d:=fy j t;have e:=Z0 p a g d;rw[vE,e]
 by_cases q:jU c G (dJ f.k f.w (dI f.cs) 0 vs) xs=0
 ·obtain⟨u,r⟩:=Fm p a g d ag
  rw[aI q,aC (by simp[q]),r,s _ ⟨_,rfl,rfl⟩,uq,gq,m,m5,R.bB]
 grind
theorem alU(a:f.cs=[c])(d:f.k=15)(n:∀x,c.fit x=true->dU c (λr=>c.tk r x) x)(l:f.can vs)(h:f.fit v=true):gv f vs v=oV vs v.bq (jU c (λx r=>c.tk r x) (cont f 0 vs) v.items):=by
 obtain⟨i,j⟩:=ac3 a d h;unfold gv;rw[kD];unfold iE;rw[ay,ay,aI d];have hT:(f.cs.map aq.tk).getD 0 ou=c.tk:=by rw[a];rfl
 rw[hT];refine xq (v:=v) λe R=>Jz (wg:=λb=>16+(eJ b 0-eJ e 0)) a l R (λx g=>n x (j x g)) (λ_=>rfl) λb⟨o,e1,m⟩=>?_;grind[GA,gV]
theorem alQ(a:f.cs=[c])(j:f.k=16)(u:∀x,c.fit x=true->dU c (λr=>c.tk r x) x)(s:dU c c.zk c.bZ)(l:f.can vs)(e:f.fit v=true):gv f vs v=oV vs v.bq (if v.au then jU c (λ_=>c.zk) (cont f 0 vs) (List.replicate f.w.toNat c.bZ)else jU c (λx r=>c.tk r x) (cont f 0 vs) v.items):=by
  unfold gv;rw[kD];unfold iE;rw[ay,ay,ay,aI j];have hT:(f.cs.map aq.tk).getD 0 ou=c.tk:=by rw[a];rfl
  have p:(f.cs.map aq.zk).getD 0 og=c.zk:=by rw[a];rfl
  rw[hT,p];refine xq (v:=v) λm R=>?_;cases i:v.au with
  | true=>
    simp only[gu];rw[JE f.w.toNat c.bZ];have g:v=v0:=by rw[eL]at e;exact(kz e i).1
    exact Jz a l R (λx d=>by simp_all) (λ_=>rfl) λ_ _=>by rw[g];rfl
  | false=>
    simp only[mD,lJ];obtain⟨n,hl,o⟩:=KC a j e i;refine Jz a l R (λx d=>u x (o x d)) (λ_=>rfl) λh⟨t,e1,q⟩=>?_;grind[GA,gV]
end
section
variable {c:aq} {vs:aP}
def f0:aq:=.mk (bs []) false 0 0 0 0 []
theorem Uy{h:Raw}{n:Bool}{x:Nat->aB}{G:Nat->Raw->Int×Raw}{wg:Raw->Nat}{w:Nat}{g:Nat->Int}(u:f.can vs)(R:jj f vs v n h)(j:∀i c,f.cs[i]? =some c->dU c (G i) (x i))(s:∀i c,f.cs[i]? =some c->g i=(G i (c.st (cont f i vs))).1)
  (r:∀d,(total d-total h=((List.range f.cs.length).map λi=>(x i).bq).sum)->wg d=w):(cR (fm ((List.range f.cs.length).map λi=>di i (G i)) h) λd=>fB (wg d) d).1=if jY g f.cs.length≠0 then jY g f.cs.length else if 4194304<bH vs+w then 3 else 0:=by
 have k:∀i c,f.cs[i]? =some c->h.aL i=c.st (cont f i vs)/\c.can (cont f i vs):=λi c a=>⟨R.aL a,fy a u⟩;have e:=Uz R.len k j s f.cs.length (bP _);rw[vE,e]
 by_cases q:jY g f.cs.length=0
 ·obtain⟨p,o,m⟩:=D6 R.len k j f.cs.length (bP _) ag
  rw[aI q,aC (by simp[q])]
  generalize(fm ((List.range f.cs.length).map λi=>di i (G i)) h).2=d at p o m;have t:total d-total h=((List.range f.cs.length).map λi=>(x i).bq).sum:=by
   rw[pZ,pZ,o,R.len];have y:((List.range f.cs.length).map λi=>(d.aL i).b.bB).sum=((List.range f.cs.length).map λi=>(h.aL i).b.bB+(x i).bq).sum:=Jr λi l=>by
    simp_all[aI,qk,lN]
   rw[y,sum_add];omega
  rw[r d t,uq,p,R.bB]
 omega
def Gd(f:aq)(vs:aP)(v:aB)(i:Nat):Int:=if v.au then gC (f.cs.getD i f0) (cont f i vs)else gv (f.cs.getD i f0) (cont f i vs) (v.items.getD i v0)
theorem aIi(h:f.cs[i]? =some c):f.cs.getD i f0=c:=dM
theorem alP(l:f.k=17)(s:∀c∈f.cs,∀x,c.fit x=true->dU c (λr=>c.tk r x) x)(q:∀c∈f.cs,dU c c.zk c.bZ)(m:f.can vs)(d:f.fit v=true):gv f vs v=oV vs v.bq (jY (Gd f vs v) f.cs.length):=by
  unfold gv;rw[kD];unfold iE;rw[ay,ay,ay,ay,aI l,cm];refine xq (v:=v) λn R=>?_;cases b:v.au with
  | true=>
    simp only[gu];have e:v=v0:=by rw[eL]at d;exact(kz d b).1
    refine Uy (x:=λi=>(dI f.cs).getD i v0) m R (λi c a=>?_) (λi c a=>?_) λ_ _=>by rw[e];rfl
    ·rw[mS a,dI,mS a];grind
    ·simp_all[Gd,aI]
  | false=>
    simp only[mD,lJ];obtain⟨o,hl,p⟩:=DF l d b;refine Uy (x:=λi=>v.items.getD i v0) m R (λi c a=>?_) (λi c a=>?_) λj h=>?_
    ·rw[mS a];grind
    ·unfold Gd;simp[*]
    ·rw[h,<-hl,Fj aB.bq v0,RS,gV,o];rfl
theorem abK{code:Nat}{g:Raw->Int×Raw}{a:Raw}{n:Bool}{w:Nat}(R:jj f vs v n a)(d:f.cs[code]? =some c)(p:dU c g Y)(t:f.can vs)(o:16+Y.bq=w):(cR (di code g (a.up λb=>{b with all:=b.all++[UInt8.ofNat code],ends:=b.ends++[(a.aL code).b.rows]})) λl=>fB (16+(eJ l code-eJ a code)) l).1=if(g (c.st (cont f code vs))).1≠0 then(g (c.st (cont f code vs))).1 else if 4194304<bH vs+w then 3 else 0:=by
 have h:code<(a.up λb=>{b with all:=b.all++[UInt8.ofNat code],ends:=b.ends++[(a.aL code).b.rows]}).kids.length:=by rw[jS,R.len];exact(cU.1 d).1
 have i:(a.up λb=>{b with all:=b.all++[UInt8.ofNat code],ends:=b.ends++[(a.aL code).b.rows]}).aL code=c.st (cont f code vs):=by rw[iT];exact R.aL d
 generalize r:(a.up λb=>{b with all:=b.all++[UInt8.ofNat code],ends:=b.ends++[(a.aL code).b.rows]})=j at h i
 have u:j.b.bB=bH vs:=by rw[<-r,gq];exact R.bB
 have e:(di code g j).1=(g (c.st (cont f code vs))).1:=by unfold di;rw[i]
 rw[vE,e]
 by_cases q:(g (c.st (cont f code vs))).1=0
 ·obtain⟨y,m⟩:=vW p i (fy d t) ag
  rw[aI q,aC (by simp[q]),m,uq,m5,u]
  have s:eJ (j.fk code (c.st (cont f code vs++[Y]))) code-eJ a code=Y.bq:=by
   unfold eJ;have k:a.aL code=c.st (cont f code vs):=R.aL d;rw[lz h,k,qk,qk,lN];omega
  rw[s,o]
 omega
theorem alW(l:bC f)(e:f.k=18)(b:f.cs[fL v]? =some c)(a:v.items=[Y])(d:v.text=[])(g:dU c (λr=>c.tk r Y) Y)(h:f.can vs):gv f vs v=oV vs v.bq (gv c (cont f (fL v) vs) Y):=by
 unfold gv;rw[kD];unfold iE;rw[ay,ay,ay,ay,ay,aI e];have i:(f.cs.map aq.tk).getD v.num.toNat ou=c.tk:=mS b;rw[i,a];unfold tg;exact xq (v:=v) λj R=>abK R b g h (by rw[gV v,d,a];simp[bH])
open Classical in
theorem alV(wh:f.cs=[c])(hk:f.k=19)(IH:∀x,c.fit x=true->dU c (λr=>c.tk r x) x)(hc:f.can vs)(hv:f.fit v=true):gv f vs v=oV vs v.bq (if v.au then 0 else if v∈dS vs then 0 else if oB f.ix<=(dS vs).length then 102 else gv c (dS vs) v):=by
  have eB:f.cs[0]? =some c:=by rw[wh];rfl
  have SK:=fy eB hc
  have ce:cont f 0 vs=dS vs:=by show dJ f.k f.w (dI f.cs) 0 vs=_;rw[hk,BJ]
  unfold gv
  rw[kD];unfold iE
  rw[ay,ay,ay,ay,ay,ay,aI hk]
  have hT:(f.cs.map aq.tk).getD 0 ou=c.tk:=by rw[wh];rfl
  rw[hT]
  refine xq (v:=v) λr1 R=>?_
  have Ka:r1.b.aF=dS vs:=by rw[R.b];show(aK f.k vs).aF=_;simp[aK,hk]
  cases hn:v.au with
  | true=>
    have Gm:v=v0:=by rw[eL]at hv;exact(kz hv hn).1
    simp only[gu]
    rw[uq,gq,Gm]
    show(if 4194304<r1.b.bB+16 then(3:Int)else 0)=_
    rw[R.bB];rfl
  | false =>
    simp only[mD,lJ]
    rw[Ka]
    cases hp:gj v (dS vs)with
    | some i=>
      have hm:v∈dS vs:=yL λq=>by rw[vQ.2 q]at hp;cases hp
      rw[aI hm]
      show(fB v.bq _).1=_
      rw[uq,gq]
      show(if 4194304<r1.b.bB+v.bq then(3:Int)else 0)=_
      rw[R.bB];rfl
    | none=>
      rw[aC (vQ.1 hp)]
      show(if oB f.ix<=(dS vs).length then((102:Int),r1)else _).1=_
      split
      ·rfl
      · have hlen:0<r1.kids.length:=by rw[R.len,wh];simp
        have Gw:=R.aL eB
        have e:(di 0 (λr=>c.tk r v) r1).1=(c.tk (c.st (dS vs)) v).1:=by unfold di;rw[Gw,<-ce]
        rw[vE,e]
        by_cases q:(c.tk (c.st (dS vs)) v).1=0
        · have hcv:c.fit v=true:=KE wh (.inl hk) hv hn
          obtain⟨q1,q2⟩:=vW (IH v hcv) Gw SK ag
          rw[aI q,aC (by simp[q]),q2,uq,gq]
          show(if 4194304<r1.b.bB+v.bq then(3:Int)else 0)=_
          rw[R.bB]
        omega
open Classical in
theorem alR(wh:f.cs=[c])(hk:f.k=20)(IH:dU c (λr=>c.tk r v) v)(hc:f.can vs):gv f vs v=oV vs v.bq (if(cO vs).1.getLast? =some v then 0 else gv c (cO vs).1 v):=by
 have eB:f.cs[0]? =some c:=by rw[wh];rfl
 have SK:=fy eB hc
 have ce:cont f 0 vs=(cO vs).1:=by show dJ f.k f.w (dI f.cs) 0 vs=_;rw[hk,DQ]
 unfold gv
 rw[kD];unfold iE
 rw[ay,ay,ay,ay,ay,ay,ay,aI hk]
 have hT:(f.cs.map aq.tk).getD 0 ou=c.tk:=by rw[wh];rfl
 rw[hT]
 refine xq (v:=v) λr1 R=>?_
 have Ka:r1.b.aF=(cO vs).1:=by rw[R.b];show(aK f.k vs).aF=_;simp[aK,hk]
 rw[Ka]
 split
 ·rw[uq,gq]
  show(if 4194304<r1.b.bB+v.bq then(3:Int)else 0)=_
  rw[R.bB];rfl
 ·have hlen:0<r1.kids.length:=by rw[R.len,wh];simp
  have Gw:=R.aL eB
  have e:(di 0 (λr=>c.tk r v) r1).1=(c.tk (c.st (cO vs).1) v).1:=by unfold di;rw[Gw,<-ce]
  rw[vE,e]
  by_cases q:(c.tk (c.st (cO vs).1) v).1=0
  ·obtain⟨q1,q2⟩:=vW IH Gw SK ag
   rw[aI q,aC (by simp[q]),q2,uq,gq]
   show(if 4194304<r1.b.bB+v.bq then(3:Int)else 0)=_
   rw[R.bB]
  omega
def vD(vs:aP)(e:Int):Int:=if 4096<=vs.length then 3 else if e≠0 then e else 3
theorem EY{F:Raw->Int×Raw}{e:Int}(i:f.small=false)(S:vj f)(j:f.can vs)(d:f.zk (f.st vs)=cR (eO false (f.st vs)) F)(h:∀a,jj f vs v0 false a->(F a).1=e\/e=0/\(F a).1=3):gC f vs=vD vs e:=by
 have ne:gC f vs≠0:=λq=>by have:=S vs j q;grind
 unfold gC at ne ⊢;rw[d,vE]at ne ⊢;unfold vD
 by_cases q:4096<=vs.length
 ·rw[aI q];have g:(eO false (f.st vs)).1=3:=by unfold eO;simp_all[AT]
  rw[g];rfl
 ·rw[aC q];have e0:(eO false (f.st vs)).1=0:=by unfold eO;simp_all[aC,AT]
  rw[aI e0]at ne ⊢;grind[jj.of]
theorem asy{e:Int}{p:Prop}[Decidable p]:(if e≠0 then e else if p then(3:Int)else 0)=e\/e=0/\(if e≠0 then e else if p then(3:Int)else 0)=3:=by
 omega
theorem ans(b:bC f)(a:f.small=false):16<=f.k/\f.k<=20:=yL λq=>by rw[Pg b q]at a;cases a
theorem YJ(d:f.cs=[c])(l:f.k=16)(g:f.small=false)(S:vj f)(o:dU c c.zk c.bZ)(h:f.can vs):gC f vs=vD vs (jU c (λ_=>c.zk) (cont f 0 vs) (List.replicate f.w.toNat c.bZ)):=by
 have m:(f.cs.map aq.zk).getD 0 og=c.zk:=by rw[d];rfl
 refine EY g S h (by rw[sy];unfold nH;rw[aC dM,aI l]) λi R=>?_
 rw[m,JE f.w.toNat c.bZ];have:=Jz (xs:=List.replicate f.w.toNat c.bZ) (G:=λ_=>c.zk) (wg:=λa=>16+(eJ a 0-eJ i 0)) d h R (λx j=>bU) (λ_=>rfl) λa⟨p,e1,n⟩=>by rw[GA d R e1 n]
 have e:∀a:Raw,(a.up λb=>b)=a:=λa=>by cases a;rfl
 grind
theorem YI(l:f.k=17)(e:f.small=false)(S:vj f)(n:∀c∈f.cs,dU c c.zk c.bZ)(h:f.can vs):gC f vs=vD vs (jY (λi=>gC (f.cs.getD i f0) (cont f i vs)) f.cs.length):=by
 refine EY e S h (by rw[sy];unfold nH;rw[aC dM,ay,aI l]) λj R=>?_
 rw[cm];rw[Uy (g:=λi=>gC (f.cs.getD i f0) (cont f i vs)) (w:=16+((List.range f.cs.length).map λi=>((dI f.cs).getD i v0).bq).sum) h R (λi c a=>?_) (λi c a=>?_) λd b=>by rw[b]]
 ·omega
 ·rw[mS a,dI,mS a];grind
 simp[*]
theorem YK(l:f.k=18)(a:f.cs[0]? =some c)(h:f.small=false)(S:vj f)(n:dU c c.zk c.bZ)(j:f.can vs):gC f vs=vD vs (gC c (cont f 0 vs)):=by
 refine EY h S j (by rw[sy];unfold nH;rw[aC dM,ay,ay,aI l];rfl) λd R=>?_
 rw[mS a,abK R a n j rfl];exact asy
theorem OI(g:f.k=19\/f.k=20)(h:f.cs=[c])(j:f.small=false)(S:vj f)(n:f.can vs):gC f vs=vD vs (if f.k=19/\oB f.ix<=(dS vs).length then 102 else gC c (cont f 0 vs)):=by
 have m:(f.cs.map aq.zk).getD 0 og=c.zk:=by rw[h];rfl
 have l:f.cs[0]? =some c:=by rw[h];rfl
 have aL:∀a,jj f vs v0 false a->(cR _ λi=>(3,i)).1=gC c (cont f 0 vs)\/gC c (cont f 0 vs)=0/\(cR _ λi=>(3,i)).1=3:=λa R=>by
  have e:(di 0 c.zk a).1=gC c (cont f 0 vs):=by unfold di;rw[R.aL l]
  rw[vE,e];omega
 rcases g with g|g
 ·refine EY j S n (by rw[sy];unfold nH;rw[aC (by simp[j];omega),ay,ay,ay,aI g]) λa R=>?_
  have d:a.b.aF=dS vs:=by rw[R.b];show(aK f.k vs).aF=_;simp[aK,g]
  simp only[d,g,true_and,m];split
  ·exact .inl rfl
  ·exact aL a R
 ·rw[ay];refine EY j S n (by rw[sy];unfold nH;rw[aC (by simp[j];omega),ay,ay,ay,ay]) λa R=>?_
  rw[m];exact aL a R
end
abbrev BF:=(Nat->Prop)->(Nat->Prop)->Hp->Nat->List aB->Prop
structure Bx where
 vl:List UInt8
 cd:List UInt8
 fx:List UInt8
 os:List Nat
 tx:List UInt8
 ix:List Nat
 en:List Nat
def Bx.fj(X:Bx):List (List Value×TypeId):=[(bv X.vl,Y8),(bv X.cd,Y8),(bv X.fx,Y8),(ints X.os,Y6),(bv X.tx,Y8),(ints X.ix,Y6),(ints X.en,Y6)]
structure dK where
 sf:Sl
 SS:List Sl
 sv:Sl
 sp:Sl
 kp:List Nat
 ST:List (Nat->Prop)
 VT:Nat->Prop
 PT:Nat->Prop
 KT:List (Nat->Prop)
def dK.Ls(g:dK):List (Nat->Prop):=g.VT::g.PT::(g.ST++g.KT)
structure Bn where
 r:Nat
 u:Nat
 w:Nat
def dK.row(f:aq)(g:dK)(n:Bn):List Value:=f.row g.sf++[ah (n.r:Int),ah (n.u:Int),ah (n.w:Int)]++(g.SS.map Sl.v++[Sl.v g.sv,Sl.v g.sp])
def oz(b:Nat):Value:=bI b
def vi(A Q:aQ)(h:Hp)(s:Sl)(aF:aP):Prop:=
 ∃ss:List Sl,ss.length=aF.length/\eT 0 4 h s (List.zipWith aB.row aF ss) dh/\(∀c,s.at c->A c)/\∀(j:Nat)(z:aB)(u:Sl),aF[j]? =some z->ss[j]? =some u->aR Q h u z.items
structure gf(f:aq)(KM:List BF)(Q T:aQ)(h:Hp)(p:Nat)(g:dK)(n:Bn)(X:Bx)(vl:aP)(kc:Nat->List aB):Prop where
 t:iR T h p g.Ls
 q:∀c,Q c->¬T c/\c<h.size
 k:aN h p (g.row f n).toArray Et
 fs:bY Q h g.sf f.cs
 ls:g.SS.length=7/\g.ST.length=7
 sl:∀(i:Nat)s A x,g.SS[i]? =some s->g.ST[i]? =some A->X.fj[i]? =some x->Os A h s x.1 x.2
 aF:vi g.VT Q h g.sv vl
 pt:Os g.PT h g.sp (g.kp.map oz) vh
 lk:g.kp.length=KM.length/\g.KT.length=KM.length
 aL:∀(j:Nat)(M:BF)A w,KM[j]? =some M->g.KT[j]? =some A->g.kp[j]? =some w->M Q A h w (kc j)
structure od(M:BF):Prop where
 fr:∀{Q T S:aQ}{h h':Hp}{p:Nat}{vs:aP},M Q T h p vs->Tn S h h'->(∀c,T c->¬S c)->(∀c,Q c->¬S c)->M Q T h' p vs
 q:∀{Q Q' T:aQ}{h:Hp}{p:Nat}{vs:aP},M Q T h p vs->(∀c,Q c->Q' c)->(∀c,Q' c->¬T c/\c<h.size)->M Q' T h p vs
 d:∀{Q T:aQ}{h:Hp}{p:Nat}{vs:aP},M Q T h p vs->∀c,Q c->¬T c/\c<h.size
 r:∀{Q T:aQ}{h:Hp}{p:Nat}{vs:aP},M Q T h p vs->cell h ⟨p,7,none⟩=some (ah (vs.length:Int))
structure Ext(Q Q' T T':aQ)(h h':Hp):Prop where
 tn:Tn T h h'
 q:∀c,Q c->Q' c
 q':∀c,Q' c->Q c\/(h.size<=c/\c<h'.size)
 t:∀c,T c->T' c
 t':∀c,T' c->Tr T h h' c
section
variable {Q Q' Q2 T T' T2 S A':aQ} {h' h2:Hp} {p:Nat} {Ls:List (Nat->Prop)}
theorem Ext.refl:Ext Q Q T T h h:=⟨iX _ _,λ_ q=>q,λ_ q=>.inl q,λ_ q=>q,λ_ q=>.inl q⟩
theorem Ext.trans(x:Ext Q Q' T T' h h')(y:Ext Q' Q2 T' T2 h' h2):Ext Q Q2 T T2 h h2:=by
 have e:=x.tn.1;have d:=y.tn.1;refine⟨x.tn.trans' y.tn λc z a=>(x.t' c z).elim id λz=>ag,λc z=>y.q c (x.q c z),λc z=>?_,λc z=>y.t c (x.t c z),λc z=>?_⟩
 ·rcases y.q' c z with z|z
  ·exact(x.q' c z).imp id λz=>⟨z.1,ag⟩
  omega
 ·rcases y.t' c z with z|z
  ·exact(x.t' c z).imp id λz=>⟨z.1,ag⟩
  omega
theorem iR.put(t:iR T h b Ls){i:Nat}(s:Ls[i]? =some A)(C:h.size<=h'.size)(o:∀c,A' c->Tr A h h' c):iR (λc=>T c\/A' c) h' b (Ls.set i A'):=by
 have sub:=t.sub A (bL s);have x:=t.lt b t.tb;refine⟨.inl t.tb,λc d=>?_,λB hB c d=>?_,?_⟩
 ·rcases d with z|z
  ·have:=t.lt c z;omega
  ·rcases o c z with z|z
   ·have:=t.lt c (sub c z).1;omega
   omega
 ·obtain⟨j,q,rfl⟩:=List.getElem_of_mem hB;have a:j<Ls.length:=by simpa using q
  rw[UE]at d;split at d
  ·exact⟨.inr d,(o c d).elim (λz=>(sub c z).2) λz=>ag⟩
  ·have:=t.sub _ (kE a) c d;simp[*]
 ·rw[uZ];intro j k q w r c;have a:j<Ls.length:=by simpa using q
  have l:k<Ls.length:=by simpa using w
  have e:=uZ.1 t.ap j k a l r c;have v:=λz=>t.lt c (t.sub _ (kE a) c z).1;have lk:=λz=>t.lt c (t.sub _ (kE l) c z).1;have m:∀(hl:i<Ls.length),Ls[i]=A:=by grind[List.getElem?_eq_getElem,Option.some.inj]
  rw[UE,UE]
  by_cases e1:i=j
  ·subst e1;rw[aI rfl,ay];intro z y;rcases o c z with z|z
   ·exact e dM y
   ·have:=lk y;omega
  ·rw[aC e1]
   by_cases u:i=k
   ·subst u;rw[aI rfl];intro z y;rcases o c y with y|y
    ·exact e z (by rw[m l];exact y)
    ·have:=v z;omega
   ·rw[aC u];exact e
theorem vi.fr(o:vi A Q h s aF)(f:Tn S h h')(B:∀c,A c->¬S c)(hQ:∀c,Q c->¬S c):vi A Q h' s aF:=by
 obtain⟨i,e,r,a,v⟩:=o;refine⟨i,e,⟨r.len,r.n,?_⟩,a,λj z u l h2=>aR.fr f (λc k _=>hQ c k) (λ_ q=>q) _ (v j z u l h2)⟩;rcases r.sh with e|⟨b,m,b2,d⟩
 ·exact .inl e
 ·exact .inr ⟨b,m,by have:=f.1;omega,d.fr f (B b (a b ⟨_,d.1,rfl⟩))⟩
theorem vi.q(o:vi A Q h s aF)(hQ:∀c,Q c->Q' c):vi A Q' h s aF:=by
 obtain⟨d,e,r,a,v⟩:=o;exact⟨d,e,r,a,λj z u i h2=>sA (v j z u i h2) hQ⟩
end
section
variable {KM:List BF} {Q Q' T S:aQ} {h':Hp} {p:Nat} {g:dK} {n:Bn} {X:Bx} {vl:aP} {kc:Nat->List aB}
theorem dK.ic(g:dK){i:Nat}{A:aQ}(c:g.ST[i]? =some A):g.Ls[2+i]? =some A:=by
 grind[List.getElem?_eq_some_iff,dK.Ls]
theorem dK.fC(g:dK){j:Nat}{A:aQ}(a:g.KT[j]? =some A):g.Ls[2+g.ST.length+j]? =some A:=by
 unfold dK.Ls;grind
theorem gf.fr(G:gf f KM Q T h p g n X vl kc)(KF:∀M∈KM,od M)(t:Tn S h h')(hT:∀c,T c->¬S c)(hQ:∀c,Q c->¬S c):gf f KM Q T h' p g n X vl kc:=by
 have sub:∀{A:aQ}(i:Nat),g.Ls[i]? =some A->∀c,A c->¬S c:=λi e c l=>hT c (G.t.sub _ (bL e) c l).1;exact⟨G.t.grow t.1,λc z=>⟨(G.q c z).1,by have:=(G.q c z).2;have:=t.1;omega⟩,t.aZ G.k (hT p G.t.tb),bY.fr t (λc z=>hQ c z) (λ_ z=>z) _ G.fs,G.ls,λi s A x a h2 d=>(G.sl i s A x a h2 d).fr t λc z _=>sub _ (g.ic h2) c z,
  G.aF.fr t (sub 0 rfl) hQ,G.pt.fr t λc z _=>sub 1 rfl c z,G.lk,λj M A w a h2 d=>(KF M (bL a)).fr (G.aL j M A w a h2 d) t (sub _ (g.fC h2)) hQ⟩
theorem gf.anF(G:gf f KM Q T h p g n X vl kc)(KF:∀M∈KM,od M)(a:∀c,Q c->Q' c)(h2:∀c,Q' c->¬T c/\c<h.size):gf f KM Q' T h p g n X vl kc:=
 ⟨G.t,h2,G.k,bY.fr (iX _ _) (λ_ _=>id) a _ G.fs,G.ls,G.sl,G.aF.q a,G.pt,G.lk,λj M A w e1 d e=>(KF M (bL e1)).q (G.aL j M A w e1 d e) a λc z=>⟨λy=>(h2 c z).1 (G.t.sub _ (bL (g.fC d)) c y).1,(h2 c z).2⟩⟩
end
structure gp(f:aq)(KM:List BF)(p:Nat)(Q0 T0:aQ)(h0:Hp)(Q T:aQ)(h:Hp)(g:dK)(n:Bn)(X:Bx)(vl:aP)(kc:Nat->List aB)(E:aQ):Prop where
 S:gf f KM Q T h p g n X vl kc
 x:Ext Q0 Q T0 T h0 h
 e:∀c,E c->c<h.size/\¬T c
section
variable {KM:List BF} {p:Nat} {Q0 T0 Q T S A':aQ} {h0 h' h1:Hp} {g:dK} {n:Bn} {X X':Bx} {vl:aP} {kc:Nat->List aB} {s':Sl}
theorem gp.of(S:gf f KM Q T h p g n X vl kc)(q:∀c,E c->c<h.size/\¬T c):gp f KM p Q T h Q T h g n X vl kc E:=⟨S,Ext.refl,q⟩
theorem gp.vX{cs:Array Value}(t:Tn (λc=>¬E c) h h')(k:aN h a cs ty)(b:E a):aN h' a cs ty:=t.aZ k λq=>q b
abbrev pz:=@gp.vX
theorem gp.ai(KF:∀M∈KM,od M)(s:gp f KM p Q0 T0 h0 Q T h g n X vl kc E)(gr:az h h'):gp f KM p Q0 T0 h0 Q T h' g n X vl kc (λc=>E c\/(h.size<=c/\c<h'.size)):=by
 have a:=gr.1;refine⟨s.S.fr KF (bh gr) (λ_ _=>id) λ_ _=>id,s.x.trans ⟨bh gr,λ_ z=>z,λ_ z=>.inl z,λ_ z=>z,λ_ z=>.inl z⟩,λc z=>?_⟩;rcases z with z|z
 ·exact⟨by have:=(s.e c z).1;omega,(s.e c z).2⟩
 ·exact⟨z.2,λy=>by have:=s.S.t.lt c y;omega⟩
theorem gf.dG{K:Sl->Prop}(G:gf f KM Q T h p g n X vl kc)(a:g.SS[i]? =some s)(c:K s):Ld h ⟨p,10+i,none⟩ Sl.v K:=by
 have b:=(cU.1 a).1;refine aj G.k ?_ c;rw[qZ];unfold dK.row;rw[gm (by show 10<=_;omega),iQ (by show 10+i-10<_;simp[*]),fh]
 show Option.map Sl.v g.SS[10+i-10]? =_
 grind
theorem gf.mQ{K:Sl->Prop}(G:gf f KM Q T h p g n X vl kc)(a:K g.sv):Ld h ⟨p,17,none⟩ Sl.v K:=by
 refine aj G.k ?_ a;rw[qZ];unfold dK.row;rw[gm (by show 10<=17;omega),gm (by show _<=17-10;rw[cm,G.ls.1];omega),cm,G.ls.1];rfl
theorem gf.jX{K:Sl->Prop}(G:gf f KM Q T h p g n X vl kc)(a:K g.sp):Ld h ⟨p,18,none⟩ Sl.v K:=by
 refine aj G.k ?_ a;rw[qZ];unfold dK.row;rw[gm (by show 10<=18;omega),gm (by show _<=18-10;rw[cm,G.ls.1];omega),cm,G.ls.1];rfl
theorem gp.own{d:Bn}(s:gp f KM p Q0 T0 h0 Q T h g n X vl kc E)(o:eD p h h')(KF:∀M∈KM,od M)(k:aN h' p (g.row f d).toArray Et):gp f KM p Q0 T0 h0 Q T h' g d X vl kc E/\Tn (λc=>¬E c) h h':=by
 have G:=s.S;have t:=o.fr;have sub:∀{A:aQ}(i:Nat),g.Ls[i]? =some A->∀c,A c->¬c=p:=λi l c m=>(G.t.sub _ (bL l) c m).2;have hQ:∀c,Q c->¬c=p:=λc z e=>(G.q c z).1 (e▸G.t.tb);refine⟨⟨⟨G.t.grow t.1,λc z=>⟨(G.q c z).1,by have:=(G.q c z).2;have:=t.1;omega⟩,k,bY.fr t hQ (λ_ z=>z) _ G.fs,G.ls,λi s A x h1 a b=>(G.sl i s A x h1 a b).fr t λc z _=>sub _ (g.ic a) c z,
  G.aF.fr t (sub 0 rfl) hQ,G.pt.fr t λc z _=>sub 1 rfl c z,G.lk,λj M A w h1 a b=>(KF M (bL h1)).fr (G.aL j M A w h1 a b) t (sub _ (g.fC a)) hQ⟩,?_,λc z=>?_⟩,?_⟩
 ·exact s.x.trans ⟨t.mono λc e _=>e▸G.t.tb,λ_ z=>z,λ_ z=>.inl z,λ_ z=>z,λ_ z=>.inl z⟩
 ·have:=s.e c z;exact⟨by have:=t.1;omega,this.2⟩
 ·exact t.mono λc e _ z=>(s.e c z).2 (e▸G.t.tb)
theorem gp.num{K:HP}{m:Nat}{x:Int}{b:Bn}(KF:∀M∈KM,od M)(s:gp f KM p Q0 T0 h0 Q T h g n X vl kc E)(d:x=m)(q:(i=7/\b={n with r:=m})\/(i=8/\b={n with u:=m})\/(i=9/\b={n with w:=m}))
  (y:∀h',Tn (λc=>¬E c) h h'->gp f KM p Q0 T0 h0 Q T h' g b X vl kc E->K h'):St h ⟨p,i,none⟩ (ah x) K:=by
 subst d;have a:∀n:Bn,(g.row f n).length=10+(g.SS.length+2):=λn=>by unfold dK.row;simp[FF];omega
 refine dc s.S.k bU rfl λh' o k=>?_
 have e:(g.row f n).toArray.setIfInBounds i (ah (m:Int))=(g.row f b).toArray:=by
  rw[nZ];rcases q with⟨rfl,rfl⟩|⟨rfl,rfl⟩|⟨rfl,rfl⟩ <;> rfl
 rw[e]at k;obtain⟨s',t⟩:=s.own o KF k;simp[*]
theorem gp.slot{K:HP}(KF:∀M∈KM,od M)(C:gp f KM p Q0 T0 h0 Q T h g n X vl kc E)(Z:g.SS[i]? =some s)(O:g.ST[i]? =some A)(t:Tn A h h1)(o:Os (Tr A h h1) h1 s' x'.1 x'.2)(hX:X'.fj=X.fj.set i x')
  (hk:∀h',Tn (λc=>¬E c) h h'->gp f KM p Q0 T0 h0 Q (λc=>T c\/Tr A h h1 c) h' {g with SS:=g.SS.set i s',ST:=g.ST.set i (Tr A h h1)} n X' vl kc E->K h'):St h1 ⟨p,10+i,none⟩ (Sl.v s') K:=by
 have G:=C.S;have hi:=(cU.1 Z).1;have d:=g.ic O;have H:=t.1;have I:¬A p:=λz=>(G.t.sub _ (bL d) p z).2 rfl;have W:=t.aZ G.k I;have F:∀(g:dK)n,(g.row f n).length=10+(g.SS.length+2):=λg n=>by unfold dK.row;simp[FF];omega
 refine dc W (by rw[LU,F];omega) rfl λh' D J=>?_
 have R:=D.1;have e:(g.row f n).toArray.setIfInBounds (10+i) (Sl.v s')=(({g with SS:=g.SS.set i s',ST:=g.ST.set i (Tr A h h1)}:dK).row f n).toArray:=by
  rw[nZ];unfold dK.row;rw[wK _ _ (by show 10<=_;omega),List.set_append_left _ _ (by show 10+i-10<_;rw[cm];omega),List.map_set]
  congr 5
  show 10+i-10=i;omega
 rw[e]at J;have u:Tn (λc=>A c\/c=p) h h':=(t.mono λc z _=>.inl z).trans (D.fr.mono λc z _=>.inr z);have r:∀c,Q c->¬(A c\/c=p):=λc z y=>by
  rcases y with y|y
  ·exact(G.q c z).1 (G.t.sub _ (bL d) c y).1
  ·exact(G.q c z).1 (y▸G.t.tb)
 have b:∀{B:aQ}(j:Nat),g.Ls[j]? =some B->j≠2+i->∀c,B c->¬(A c\/c=p):=λ{B}j N ne c z y=>by
  rcases y with y|y
  ·exact G.t.ne N d ne c z y
  ·exact(G.t.sub _ (bL N) c z).2 y
 have L:=(cU.1 O).1;have tr:iR (λc=>T c\/Tr A h h1 c) h' p (({g with SS:=g.SS.set i s',ST:=g.ST.set i (Tr A h h1)}:dK).Ls):=by
  have:=(G.t.put d H λc z=>z).grow (h':=h') ag;have e2:g.Ls.set (2+i) (Tr A h h1)=({g with SS:=g.SS.set i s',ST:=g.ST.set i (Tr A h h1)}:dK).Ls:=by
   unfold dK.Ls;rw[show 2+i=i+1+1 by omega]
   simp only[tO];rw[List.set_append_left _ _ L]
  rwa [e2]at this
 have V:∀c,Q c->¬(T c\/Tr A h h1 c)/\c<h'.size:=λc z=>⟨λy=>by
  have:=G.q c z;rcases y with y|y|y
  ·exact this.1 y
  ·exact r c z (.inl y)
  ·omega,by have:=(G.q c z).2;omega⟩
 refine hk h' (u.mono λc z _ y=>?_) ⟨⟨tr,V,J,bY.fr u r (λ_ z=>z) _ G.fs,by simp[G.ls],λj U B x l a m=>?_,G.aF.fr u (b 0 rfl ag) r,G.pt.fr u λc z _=>b 1 rfl ag c z,G.lk,λj M B w l a m=>?_⟩,?_,λc z=>?_⟩
 ·rcases z with z|z
  ·exact(C.e c y).2 (G.t.sub _ (bL d) c z).1
  ·exact(C.e c y).2 (z▸G.t.tb)
 ·rw[hX]at m;simp only at l a
  by_cases P:i=j
  ·subst P;rw[El ag]at l;rw[El L]at a;have Y:i<X.fj.length:=by show i<7;rw[<-G.ls.1];exact hi
   rw[El Y]at m;cases l;cases a;cases m;exact o.fr D.fr λc z a' e=>by
    subst e;rcases z with z|z
    ·exact I z
    ·have:=G.t.lt c G.t.tb;omega
  ·rw[HU P]at l a m;exact(G.sl j U B x l a m).fr u λc z _=>b _ (g.ic a) ag c z
 ·have hl:({g with SS:=g.SS.set i s',ST:=g.ST.set i (Tr A h h1)}:dK).KT=g.KT:=rfl
  exact(KF M (bL l)).fr (G.aL j M B w l a m) u (b _ (g.fC a) ag) r
 ·refine C.x.trans ⟨u.mono λc z _=>?_,λ_ z=>z,λ_ z=>.inl z,λ_ z=>.inl z,λc z=>?_⟩
  ·rcases z with z|z
   ·exact(G.t.sub _ (bL d) c z).1
   ·exact z▸G.t.tb
  ·rcases z with z|z|z
   ·exact .inl z
   ·exact .inl (G.t.sub _ (bL d) c z).1
   omega
 ·have:=C.e c z;refine⟨ag,λy=>?_⟩
  rcases y with y|y|y
  ·exact this.2 y
  ·exact this.2 (G.t.sub _ (bL d) c y).1
  ·omega
end
end
end Go.Proofs.YtmjochipbmgljaaGreatDoor
