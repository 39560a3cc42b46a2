import Derived.Test.YtbahbhkogflhbaaGreatDoorMakesJ3
import Derived.Shelf.Strings.Repeat
import Derived.Test.YtbahbhkogflhbaaGreatDoorMakesShGlue
import Derived.SizedLaws
import Derived.Test.YtbahbhkogflhbaaGreatDoorCards
import Derived.Test.YtbahbhkogflhbaaGreatDoorTie
set_option linter.all false
set_option maxRecDepth 99999
set_option maxHeartbeats 999999
noncomputable section
namespace Go.Proofs.YtbahbhkogflhbaaGreatDoor
open Go Go.Sh Go.WideShapes
section
variable {C sp':bq} {r:Raw} {Kp:PK} {v Y:aB} {i j b a:Nat} {Z:Array Value} {e el ty:TypeId} {aY:iz} {s:Sl} {D A E:aQ} {G h:Hp} {k:Int} {x':List Value×TypeId} {aH:aR} {f:aq} {W:World}
def wM(KM:List cO)(KT:List (Nat->Prop))(kv:bq)(r:Raw):qD:=λF l u h=>(one F=true/\F.cells=#[F])/\∃(qS:List Mem)(lo hi:Nat->Nat),qS.length=KM.length/\(∀j,j<KM.length->l<=lo j/\hi j<=u)/\
  (∀i j,i<KM.length->j<KM.length->i≠j->hi i<=lo j\/hi j<=lo i)/\CX (λc=>l<=c/\c<u/\∀j,j<KM.length->¬(lo j<=c/\c<hi j)) h F (qS.map Mem.F)/\
  ∀(j:Nat)M A w,KM[j]? =some M->KT[j]? =some A->kv[j]? =some w->∃m,qS[j]? =some m/\m.r=r.aM j/\M (λc=>A c\/(lo j<=c/\c<hi j)) h w (r.aM j) (some m)
theorem wM.one{KM:List cO}{d:List (Nat->Prop)}:One (wM KM d C r):=λ_ _ _ _ q=>q.1
theorem wM.qo{KM:List cO}{n:List (Nat->Prop)}{h0:Hp}(KF:∀(j:Nat)M,KM[j]? =some M->gG M)(G:∀(j:Nat)A,n[j]? =some A->∀c,A c->c<h0.size):l9 h0 (wM KM n C r):=by
 rintro S F l u h h' ⟨q,d,B,E,v,e,s,p,o⟩ hl I t i;refine⟨q,d,B,E,v,e,s,p.fr t λc a _ b=>(i c b).2 ⟨a.1,a.2.1⟩,λj M A w e1 k H=>?_⟩;obtain⟨m,z,y,x⟩:=o j M A w e1 k H;have D:=(de.1 e1).1;refine⟨m,z,y,KF j M e1 x t λc a _ b=>?_⟩;have:=i c b;have:=e j D;rcases a with a|a
 ·have:=G j A k c a;omega
 ·omega
section
variable {c:aq} {KM:List cO} {M:cO} {T:aQ} {h0 h':Hp} {vs:aR} {g:dP} {w:Value}
theorem ab3{K:di}(G:bW f KM T h0 r none g)(C:kK f.cs KM)(n':f.k=17\/f.k=18)(hn:KM.length<=4096)(hc:∀(j:Nat)c,f.cs[j]? =some c->∃us,c.can us/\r.aM j=c.st us)(gr:az h0 h)
  (hk:∀F h',az h h'->wM KM g.KT g.kv r F h.size h'.size h'->K F h'):OC g.ks h K Kp:=by
 have o':=C.qY;have lk:=G.lk;have kl:=G.kl n';have ns:g.ks.n=KM.length:=by rw[kl.1.1,lk.1]
 have CL:=C.1;refine aEL (aF λy h1 e3 g1 B _=>?_);have s0:=gr.1;refine aAc (λx h'=>∃(i:Nat)(b:List Mem)(o u:Nat->Nat)(s:Sl),x=i/\i<=KM.length/\b.length=i/\az h h'/\aN h' y #[Sl.v s] VH/\
   Os (λc=>h.size<=c/\c<h'.size/\c≠y/\∀j,j<i->¬(o j<=c/\c<u j)) h' s (b.map Mem.F) Y4/\(∀j,j<i->y<o j/\u j<=h'.size)/\(∀j k,j<i->k<i->j≠k->u j<=o k\/u k<=o j)/\
   ∀(j:Nat)M A w,j<i->KM[j]? =some M->g.KT[j]? =some A->g.kv[j]? =some w->∃m,b[j]? =some m/\m.r=r.aM j/\M (λc=>A c\/(o j<=c/\c<u j)) h' w (r.aM j) (some m))
  (λx _=>KM.length-x.toNat) ⟨0,[],λ_=>0,λ_=>0,Sl.nil,rfl,eu _,rfl,g1,B,Os.nil,λj d=>ag,λj k d=>ag,λj M A w d=>ag⟩ ?_
 rintro x I ⟨i,b,o,u,s,rfl,z',hm,V,B,os,H,hd,Y⟩ N hN;have f':=B.lt;refine cE (λU=>?_) λU=>?_
 ·have k':i<KM.length:=ag;have l':i<f.cs.length:=ag;have hM:=bJ k';have hA:g.KT[i]? =some g.KT[i]:=bJ ag;have hw:g.kv[i]? =some g.kv[i]:=bJ ag;have L:=bJ l';generalize KM[i]=M at hM;generalize g.KT[i]=A at hA;generalize g.kv[i]=w at hw;generalize f.cs[i]=ci at L;have Ci:=C.2 i ci M L hM;obtain⟨us,j',J⟩:=hc i ci L;have m':∀c,A c->c<h0.size:=λc q=>G.t.l (bT (g.fF hA)) q;have aM:=G.aM i M A w hM hA hw;have D:=Ci.fr aM (bg (ak gr V)) λ_ _ _=>id;rw[J]at D;have e':=kl.fr (bg (ak gr V)) (λ_ _ _=>id) λ_ z=>z;refine e'.1.ix ag (by rw[ns];omega) (by rw[gf];exact hw) λp cp=>⟨_,cp,aj B rfl (Ci.mark j' D λmm h3 Q o3 c3 er M3=>bQ B Q ⟨c3,aF λVG h4 e4 P i' _=>bQ (B.ai Q) P ?_⟩)⟩
  have s3:=Q.1;have v':s.n=i:=by have:=os.n;rw[cr,hm]at this;exact this
  have d':=(os.gr Q).gr P;refine d'.ap rfl o3 (iJ i' rfl) ag ag λs5 h5 t5 c' _=>?_;have s':=t5.1;have g':=t5.aZ ((B.ai Q).ai P) λq=>q.2.2.1 rfl;refine dI g' aA rfl λh6 o6 k6=>?_;have s6:=o6.1;have k6:aN h6 y #[Sl.v s5] VH:=by simpa using k6
  -- of b' q' blocks only p' of b' r',and t' cell,have a'
  have W:Tn (λc=>(h.size<=c/\c<I.size/\c≠y/\∀j,j<i->¬(o j<=c/\c<u j))\/c=y) h4 h6:=(t5.mono λc q _=>.inl q).trans (o6.fr.mono λc q _=>.inr q);have X:=((bg (ak Q P):Tn _ I h4)).trans W;refine aX ag ag (hN _ _ ⟨i+1,b++[mm],λj=>if j=i then I.size else o j,λj=>if j=i then h3.size else u j,s5,aA,ag,by simp[hm],?_,k6,?_,λj d=>?_,λj k d y' ne=>?_,λj M' A' w' d E O R=>?_⟩ ag)
  ·exact((bg V:Tn No h I).trans' X λc q x'=>by rcases q with q|q <;> omega).ai
  ·rw[kq];refine(c'.tr.fr o6.fr λc q _ e=>?_).mono λc q=>?_
   ·rcases q with q|q
    ·exact q.2.2.1 e
    ·omega
   ·rcases q with q|q
    ·refine⟨q.1,ag,q.2.2.1,λj d z=>?_⟩
     by_cases e:j=i
     ·simp only[e,gB]at z;omega
     ·simp only[aC e]at z;exact q.2.2.2 j ag z
    ·refine⟨ag,ag,ag,λj d z=>?_⟩
     by_cases e:j=i
     ·simp only[e,gB]at z;omega
     ·simp only[aC e]at z;have:=H j ag;omega
  ·by_cases e:j=i
   ·simp only[e,gB];exact⟨ag,ag⟩
   ·simp only[aC e];have:=H j ag;exact⟨this.1,ag⟩
  ·by_cases e1:j=i
   ·have e2:k≠i:=λe=>ne (e1.trans e.symm);have:=H k ag;simp only[e1,gB,aC e2];omega
   ·by_cases e2:k=i
    ·have:=H j ag;simp only[e2,gB,aC e1];omega
    ·simp only[aC e1,aC e2];exact hd j k ag ag ne
  ·by_cases e:j=i
   ·subst e;rw[hM]at E;cases E;rw[hA]at O;cases O;rw[hw]at R;cases R;simp only[gB];refine⟨mm,by rw[fU ag,hm];simp,by rw[er,J],?_⟩
    rw[J];refine Ci.fr M3 ((bg P:Tn _ h3 h4).trans W) λc q _ z=>?_;rcases q with q|q
    ·have:=m' c q;rcases z with z|z <;> omega
    ·rcases z with z|z <;> omega
   ·simp only[aC e];obtain⟨m,m1,m2,m3⟩:=Y j M' A' w' ag E O R;refine⟨m,by rw[gN ag];exact m1,m2,o' j M' E m3 X λc q _ z=>?_⟩
    have Z:=G.t.l (bT (g.fF O)) (c:=c);rcases q with q|q
    ·have:=Z q;rcases z with z|z <;> omega
    ·rcases z with z|z
     ·exact z.2.2.2 j ag q
     ·have:=H j ag;omega
 ·have:i=KM.length:=ag;subst this;refine hk _ I V ⟨⟨rfl,rfl⟩,b,o,u,hm,λj d=>by have:=H j d;exact⟨ag,this.2⟩,hd,⟨y,_,s,rfl,⟨ag,f',λj d z=>by have:=H j d;omega⟩,B,os.sv,λu' a ha=>?_⟩,λj M A w E O R=>Y j M A w (de.1 E).1 E O R⟩
  have:=os.at ⟨a,ha,rfl⟩;exact⟨this.1.1,this.1.2.1,this.1.2.2.2⟩
theorem aet(d:f.can vs):∀(j:Nat)c,f.cs[j]? =some c->∃a,c.can a/\(f.st vs).aM j=c.st a:=λj c b=>⟨_,fC b d,mY b vs⟩
theorem bW.ab4{N:cU}{cs:List (Array Value)}{v KF:Value}{n u2:Nat}{K:di}(G:bW f KM T h r none g)(C:kK f.cs KM)(Q:ua h h' N cs (sG f g.b g.sf g.sn g.sb r.b) (wM KM g.KT g.kv r) v KF n i j u2)(x:f.k=17\/f.k=18)(d:eN f.k r.b r.b)
  (e:∀F m,jv f.k g.b v KF (.mk F r g.sb m [])=cs) (u:∀a h',az h h'->one a.F=true->a.F.cells=#[a.F]->a.r=r->cV f KM (Tr T h h') h' (.iface (bK f.k) (bH g.b)) r (some a)->K a.F h'):K (.func (.func (gL f.k)) #[] (N.map pA).toArray) h':=by
 obtain⟨⟨_,qS,lo,hi,t,s,p,o,l⟩,z,y⟩:=Q.k;exact u _ h' Q.g rfl rfl rfl (G.Sq C.qY Q s p l t C.1 ag (λq=>ag) (λ_=>o) d (λq=>ag) (e _ qS))
theorem arO(n:bB f)(a:f.k=17)(C:kK f.cs KM):wS f (cV f KM):=by
 intro T h v vs K J y H x;obtain⟨g,rfl,G⟩:=H;have p:=C.qY;have L:=n.right.1.2.2.2.2.2.2.2.2.1 a;have U:=C.1;have E:bK f.k=oT:=by unfold bK;simp_all
 have I:gL f.k=212:=by unfold gL;simp_all
 have D:∀o:Rb,cC f.k o=[]:=λo=>by simp_all[cC,aC]
 have e:=P0 G.ls (D _);have q:kU (.iface oT (bH g.b)) h K J:=by
  refine awL (OF.mk (λgr u=>(G.fr p (bg gr) λ_ _ _=>id).uG (i:=0) rfl (.inl a) (by simp[e]) u) Ak Al (λgr d=>yj G.B gr d) (wM.qo p λj A z c q=>G.t.l (bT (g.fF z)) q) wM.one (λgr d=>ab3 G C (.inl a) ag (aet y) gr d) λs R KF P N O u2 h' Q=>?_)
  have:=G.ab4 C Q (.inl a) (by simp_all[eN,aC]) (λF m=>?_) x
  ·rw[I]at this;exact this
  ·simp_all[jv,aC]
 rw[<-E]at q;exact q
theorem arV(y:bB f)(a:f.k=18)(C:kK f.cs KM):wS f (cV f KM):=by
 intro T h v vs K P J H I;obtain⟨g,rfl,G⟩:=H;have x:=C.qY;have R:=(y.right.1.2.2.2.2.2.2.2.2.2.1 a).2;have Z:=C.1;have N:bK f.k=qC:=by unfold bK;simp_all
 have O:gL f.k=219:=by unfold gL;simp_all
 have z:∀e:Rb,cC f.k e=[(bv e.all,Y8),(ints e.ends,Y6)]:=λe=>by simp_all[cC,aC]
 obtain⟨o,V,d⟩:=Dq G.ls (z _);have E:o.n=(f.st vs).b.all.length:=by have:=G.oI (i:=0) (s:=o) (by simp[d]) (by rw[z];rfl);rw[this,fP]
 have q:kU (.iface qC (bH g.b)) h K P:=by
  refine awS (OB.mk (eT:=o) (λgr p=>G.BB (i:=0) x gr rfl (by simp[d]) p) (λgr p=>(G.fr x (bg gr) λ_ _ _=>id).uG (i:=2) rfl (.inr a) (by simp[d]) p) Ak Al (λgr u=>yj G.B gr u) (wM.qo x λj A L c q=>G.t.l (bT (g.fF L)) q) wM.one (λgr u=>ab3 G C (.inr a) ag (aet J) gr u) λD Y KF X U W u2 h' Q=>?_)
  have:=G.ab4 C Q (.inr a) (by unfold eN;rw[ay,ay,ay,aK a];exact⟨jI _,jI _,by rw[fI];simp only[aL];simp_all⟩) (λF m=>?_) I
  ·rw[O]at this;exact this
  ·unfold jv;simp only;rw[ay,ay,ay,aK a,E];rfl
 rw[<-N]at q;exact q
end
section
variable {c:aq} {KM:List cO} {M:cO} {T:aQ} {h0 h':Hp} {vs:aR} {m:fT} {g:dP} {w:Value}
theorem afI{K:Sl->HP}(G:bW f KM T h0 (f.st vs) m g)(C:kK f.cs KM)(e':f.k=17\/f.k=18)(hn:KM.length<=4096)(hc:f.can vs)(gr:az h0 h)
  (hk:∀t h',az h h'->dD (Nw h) (Nw h) h' t (iy f vs)->K t h'):OD g.ks h K Kp:=by
 have lk:=G.lk;have kl:=G.kl e';have ns:g.ks.n=KM.length:=by rw[kl.1.1,lk.1]
 have CL:=C.1;have dl:(iy f vs).length=KM.length:=by rw[DW,CL]
 have Z:=λ(j:Nat)c(D:f.cs[j]? =some c)=>uH (vs:=vs) D;generalize i':iy f vs=ds at hk dl Z;refine aEM (aAd (λy x o=>∃(i:Nat)(E:List (Sl×Sl×Sl)),x=i/\i<=ds.length/\E.length=i/\az h o/\eW h.size 6 o y (List.zipWith bG.row (ds.take i) E) ck/\
   ∀(j:Nat)(d:bG)(p:Sl×Sl×Sl),ds[j]? =some d->E[j]? =some p->eR (λb=>h.size<=b/\¬y.at b) (λb=>h.size<=b/\¬y.at b) o p d)
  (λy x _=>ds.length-x.toNat) ⟨0,[],rfl,ag,rfl,cQ _,tL _ _ _ _,aA⟩ ?_)
 rintro y x o ⟨i,E,rfl,hi,u,I,B,hu⟩ N1 hN;have a':=B.n;rw[m7,m8]at a';have s1:=I.1;refine cE (λL=>?_) λL=>?_
 ·have X:KM[i]? =some KM[i]:=aA;have hA:g.KT[i]? =some g.KT[i]:=aA;have U:g.kv[i]? =some g.kv[i]:=aA;have l:f.cs[i]? =some f.cs[i]:=aA;generalize KM[i]=M at X;generalize g.KT[i]=A at hA;generalize g.kv[i]=w at U;generalize f.cs[i]=J at l;have Ci:=C.2 i J M l X;have D:=Z i J l;have aM:=Ci.fr (G.aM i M A w X hA U) (bg (ak gr I)) λ_ _ _=>id;rw[mY l vs]at aM;have b':=kl.fr (bg (ak gr I)) (λ_ _ _=>id) λ_ z=>z;generalize J.dn _=d at D;refine b'.1.ix ag ag (by rw[gf];exact U) λp cp=>⟨_,cp,?_⟩
  have P:=Z i J l;rw[D]at P;refine Ci.done (fC l hc) aM λR h3 g3 v3=>aF λj' H e4 g4 O _=>?_;rw[<-uW P]at v3 O;have N:=ak g3 g4;have s4:=N.1;have v4:=(v3.gr g4).lt;refine(B.ai N).ap ag rfl (new:=[d.row R]) rfl (λr F=>by simp at F;subst F;rfl) (λr F=>by simp at F;subst F;exact ad5 d R) (by simpa[bG.row,zd]using iJ O rfl) ag ag λs' h5 Y f' o5=>aX ag ag (hN _ _ _ ⟨i+1,E++[R],aA,ag,by simp[u],?_,?_,?_⟩ ag)
  ·exact(((bg (ak I N):Tn No h H)).trans' Y λb hd c'=>by have:=((B.ai N).at hd).1;omega).ai
  ·rw[PR D u];exact o5
  ·intro j e v W V;have s:∀b,s'.at b->b<H.size->y.at b:=λb q a=>(f' b q).resolve_right ag;rcases zn u V with⟨c',V⟩|⟨rfl,rfl⟩
   ·refine((hu j e v W V).lt.gr N).fr Y (λb a _=>a.1.2) (λb a _=>a.1.2) (λb a=>⟨a.1.1,λq=>a.1.2 (s b q ag)⟩) (λb a=>⟨a.1.1,λq=>a.1.2 (s b q ag)⟩)
   ·rw[D]at W;cases W;have Q:∀b,y.at b->h.size<=b/\b<o.size:=λb a=>B.at a;refine v4.fr Y (λb(a:o.size<=b/\_)_ q=>by have:=Q b q;omega) (λb(a:o.size<=b/\_)_ q=>by have:=Q b q;omega) (λb(a:o.size<=b/\b<H.size)=>⟨ag,λq=>?_⟩) (λb(a:o.size<=b/\b<H.size)=>⟨ag,λq=>?_⟩)
    ·have:=Q b (s b q a.2);omega
    ·have:=Q b (s b q a.2);omega
 ·have:i=ds.length:=ag;subst this;rw[m5]at B;exact hk _ _ I (dD.snoc B u (λb a=>a) λj d p o h2=>(hu j d p o h2).mo (λb a=>a.1) λb a=>a.1)
theorem Qx{K:Int->Int->Int->Sl->Sl->Sl->HP}{n x u:Int}{b t:Sl}(O:aN h i Z e)(Q:Z.size=6)(N:aN h j #[ah n,ah x,ah u,Sl.v b,Sl.v Sl.nil,Sl.v Sl.nil] ck)(ne:i≠j)
  (P:∀h',Tn (λc=>c=j\/c=i) h h'->K n x u b t Sl.nil h'):St h ⟨j,4,none⟩ (Sl.v t) λk=>cg k (aJ j) λD C B z y s=>cL k (aJ i) D C B z y s λd=>cg d (aJ i) λr0 I H G F E=>K r0 I H G F E d:=by
 refine dI N aA rfl λk p l=>?_;have a:aN k j #[ah n,ah x,ah u,Sl.v b,Sl.v t,Sl.v Sl.nil] ck:=by simpa[Sl.v]using l
 exact fJ a (ig (p.aZ O ne) Q λd J L=>fJ L (P d ((p.fr.mono λc q _=>.inl q).trans (J.fr.mono λc q _=>.inr q))))
theorem ap7{K:Int->Int->Int->Sl->Sl->Sl->HP}{n x u:Int}{b t:Sl}(O:aN h i Z e)(Q:Z.size=6)(N:aN h j #[ah n,ah x,ah u,Sl.v b,Sl.v Sl.nil,Sl.v Sl.nil] ck)(ne:i≠j)
  (P:∀h',Tn (λc=>c=j\/c=i) h h'->K n x u b Sl.nil t h'):St h ⟨j,5,none⟩ (Sl.v t) λk=>cg k (aJ j) λD C B z y s=>cL k (aJ i) D C B z y s λd=>cg d (aJ i) λr0 I H G F E=>K r0 I H G F E d:=by
 refine dI N aA rfl λk p l=>?_;have a:aN k j #[ah n,ah x,ah u,Sl.v b,Sl.v Sl.nil,Sl.v t] ck:=by simpa[Sl.v]using l
 exact fJ a (ig (p.aZ O ne) Q λd J L=>fJ L (P d ((p.fr.mono λc q _=>.inl q).trans (J.fr.mono λc q _=>.inr q))))
structure AX(h0 h:Hp)(a2 a3:Nat)(n u:Nat)(b:Sl)(aY:iz):Prop where
 g:az h0 h
 k2:∃c2 t2,aN h a2 c2 t2/\c2.size=6
 k3:aN h a3 #[ah (n:Int),ah 0,ah (u:Int),Sl.v b,Sl.v Sl.nil,Sl.v Sl.nil] ck
 bf:fH (λc=>h0.size<=c/\c≠a2/\c≠a3) (λc=>h0.size<=c/\c≠a2/\c≠a3) h b aY
 l:h0.size<=a2/\h0.size<=a3/\a2≠a3
theorem AX.end{n u:Nat}{b:Sl}(B:AX h0 h i j n u b aY)(gr:az h h'){a:Hp}(t:Tn (λc=>c=j\/c=i) h' a):az h0 a/\fH (Nw h0) (Nw h0) a b aY:=by
 have l:=B.l;refine⟨((bg (ak B.g gr):Tn No h0 h').trans' t λc q d=>ag).ai,(B.bf.gr gr).fr t (λc q _ z=>?_) (λc q _ z=>?_) (λc q=>q.1) λc q=>q.1⟩
 all_goals omega
theorem acD{K:Addr->HP}(x:f.k=15\/f.k=16\/f.k=19\/f.k=20)(j:f.cs=[c])(C:MC c M)(L:f.can vs)(G:bW f [M] T h (f.st vs) m g)(hl:g.SS.length=i)(P:g.b=b)
  (z:∀a h',az h h'->h.size<=a->dD (Nw h) (Nw h) h' ⟨some (aJ a),1,1⟩ (iy f vs)->K (aJ a) h'):Ld h ⟨b,16+i,none⟩ id λq=>mM q h (λI H F E D B e=>aI e #[ah I,ah H,ah F,Sl.v E,Sl.v D,Sl.v B] ck K) Kp:=by
 obtain⟨A,w,N,t,R⟩:=tj G rfl;have aM:=G.aM 0 M A w rfl N t;have d:f.cs[0]? =some c:=by rw[j];rfl
 rw[mY d vs]at aM;have O:iy f vs=[c.dn (c.st (dK f.k f.w (dJ f.cs) 0 vs))]:=by
  have e:=uH (vs:=vs) d;have n:=DW f vs;rw[j]at n
  match J:iy f vs,n with
  |[y],_=>rw[J]at e;simp at e;rw[e]
 rw[O]at z;refine G.lW P x hl t (C.done (fC d L) aM λp e o Q=>aF λl n S u s _=>z l n (ak o u) ?_ ?_)
 ·have:=o.1;omega
 ·exact dD.one s (by have:=o.1;omega) (Q.gr u)
end
section
variable {c:aq} {KM:List cO} {M:cO} {T:aQ} {h0 h':Hp} {vs:aR} {m:fT} {g:dP} {w:Value}
abbrev Ex(h1:Hp)(a:Nat):Nat->Prop:=λc=>h1.size<=c/\c≠a
theorem eD.kP{l:bq}{H:Hp}(v:eD D H s l)(gr:az H G)(e:H.size<=a){b:Hp}(d:∀c,D c->b.size<=c):eD (Ex b a) G s l:=
 (v.lt.gr gr).mo λc q=>⟨d c q.1,ag⟩
theorem fH.kP{l:iz}{H:Hp}(v:fH D D H s l)(gr:az H G)(e:H.size<=a){b:Hp}(d:∀c,D c->b.size<=c):fH (Ex b a) (Ex b a) G s l:=
 (v.lt.gr gr).mo (λc q=>⟨d c q.1,ag⟩) λc q=>⟨d c q.1,ag⟩
theorem Ig{J:HP}{H:Hp}{k:TypeId}{b:Sl}{n u:Nat}(p:az h H)(l:aN H i Z k)(z:Z.size=6)(v:h.size<=i)(o:az H G)(x:aN G j cX ck)(t:H.size<=j)(B:fH (Ex H j) (Ex H j) G b aY)
  (y:∀h',AX h h' i j n u b aY->J h'):cL G (aJ j) (n:Int) 0 (u:Int) b Sl.nil Sl.nil J:=by
 have C:=l.lt;refine ig x rfl λs a d=>y s ⟨ak p (bI o a t),⟨Z,k,a.aZ (l.ai o) ag,z⟩,d,B.fr a.fr (λc q _ e=>q.2 e) (λc q _ e=>q.2 e) (λc q=>⟨ag,ag,q.2⟩) λc q=>⟨ag,ag,q.2⟩,⟨v,ag,ag⟩⟩
theorem awc(J:f.k=15)(b':f.cs=[c])(C:MC c M):wW f (cV f [M]):=by
 intro T h v vs m K Kp hc H hk;obtain⟨g,rfl,G⟩:=H;have KF:=nE C;have ed:bK f.k=pU:=by unfold bK;rw[ay,ay,aK J]
 have es:∀rb:Rb,cC f.k rb=[(ints rb.ends,Y6)]:=λrb=>by simp_all[cC,aC]
 obtain⟨s0,V⟩:=rV G.ls (es _);obtain⟨A0,d'⟩:∃A,g.ST[0]? =some A:=⟨_,bJ (by rw[G.ls.2,es];exact Nat.one_pos)⟩
 have ef:f.dn (f.st vs)=.mk (f.st vs).b.rows 0 (f.st vs).b.cz [dF (f.st vs).b,laidB (f.st vs).b.ends 4] (iy f vs) []:=by rw[HM J,fI];rfl
 rw[ef]at hk;have el:(f.st vs).b.ends.length<=70000:=by have:=((gj f vs).1 hc).n4;rw[fI];simp only[aL];rw[ay,aK J,Dl];omega
 have eb:∀x∈(f.st vs).b.ends,x<2^63:=by
  rw[fI];simp only[aL];rw[ay,aK J];intro x d;unfold kr at d;simp only[kZ,wF]at d;obtain⟨i,_,rfl⟩:=d;have q1:=JV (λv:aB=>v.items.length) vs i;have q2:(vs.map λv:aB=>v.items.length).sum=(vs.flatMap aB.items).length:=by rw[Cw]
  have c':=fC (j:=0) (by rw[b'];rfl) hc
  have Z:=((gj c _).1 c').n4;unfold dK at Z;rw[aK J]at Z;omega
 have q:mM (.iface pU (bH g.b)) h K Kp:=by
  refine awZ (aEX (aF λa2 o e1 g1 k2 _=>?_));refine bO ?_;have P:∀{d:Hp},az o d->bW f [M] T d _ m g:=λy=>G.fr KF (bg (ak g1 y)) λ_ _ _=>id;have kb:=(P (cQ _)).B.k;have o0:∀{d:Hp},az o d->Os A0 d s0 _ Y6:=λy=>(P y).sl 0 s0 A0 _ (by simp[V]) d' (by rw[es];rfl)
  have fin:∀{d:Hp}{e:Nat}{b:Sl},AX h d a2 e (f.st vs).b.rows (f.st vs).b.cz b [dF (f.st vs).b,laidB (f.st vs).b.ends 4]->AL K Kp (bC g.b) (aJ a2) (aJ e) d:=by
   intro d e b B;apply aBP;refine bO ?_;obtain⟨c2,Y,a',e2⟩:=B.k2;have f':=a'.lt;have e':=B.k3.lt;have Gh:=G.fr KF (bg B.g) λ_ _ _=>id;refine acD (i:=1) (.inl J) b' C hc Gh (by simp[V]) rfl λa h' gr la ds=>Qx (t:=⟨some (aJ a),1,1⟩) (a'.ai gr) e2 (B.k3.ai gr) B.l.2.2 λX Y=>?_
   obtain⟨ge,be⟩:=B.end gr Y;have:=B.g.1;exact hk (b,_,Sl.nil) X ge ⟨be,dD.fr Y (λc(q:d.size<=c)_ z=>ag) (λc(q:d.size<=c)_ z=>ag) (λc(q:d.size<=c)=>ag) (λc(q:d.size<=c)=>ag) _ ds,jA _⟩
  have q5:=λ{d:Hp}{e:Nat}{b:Sl}(y:az o d)(p:aN d e cX ck)(R:o.size<=e)(O:fH (Ex o e) (Ex o e) d b [dF (f.st vs).b,laidB (f.st vs).b.ends 4])=>Ig g1 k2 rfl ag y p R O λh'=>fin;have q4:∀{d:Hp}{e:Nat}{b:Sl},az o d->aN d e cX ck->o.size<=e->fH (Ex o e) (Ex o e) d b [dF (f.st vs).b,laidB (f.st vs).b.ends 4]->
    iF (bC g.b) b d (λt0 t1 Y t3 t4 t5 W=>cL W (aJ e) t0 t1 Y t3 t4 t5 (AL K Kp (bC g.b) (aJ a2) (aJ e))) Kp:=λy p R O=>qv (P y).B λW E=>q5 (ak y E) (p.ai E) R (O.gr E)
  have Z:=λ{d:Hp}{e:Nat}{u t:Sl}(y:az o d)(p:aN d e cX ck)(R:o.size<=e)(N:eD (Ex o e) d u (bv (dF (f.st vs).b)))(vt:eD (Ex o e) d t (bv (laidB (f.st vs).b.ends 4)))=>
   oM N vt ⟨y.1,by have:=p.lt;omega⟩ λa W E O=>q4 (ak y E) (p.ai E) R O
  have q2:=λ{d:Hp}{e:Nat}{u:Sl}(y:az o d)(p:aN d e cX ck)(R:o.size<=e)(N:eD (Ex o e) d u (bv (dF (f.st vs).b)))=>
   xz (Kp:=Kp) (o0 y) el bw eb λt W I=>Z (ak y I.g) (p.ai I.g) R (N.gr I.g) (I.lq.mo λc(q:d.size<=c)=>⟨by have:=y.1;omega,by have:=p.lt;omega⟩)
  have kx:=λ{d:Hp}(y:az o d)=>(P y).B.k;refine(P (cQ _)).dH (i:=0) rfl (by simp[V]) ⟨wv (P (cQ _)).B λu X F N=>bQ kb F ⟨xz (o0 F) el bw eb λt h3 I=>⟨?_,?_⟩,aF λe h3 e3 U p _=>bQ (kx F) U ?_⟩,aF λe X e2 F p _=>bQ kb F (wv (P F).B λu h3 U N=>bQ (kx F) U ?_)⟩
  ·have z2:=F.1;have Q:=ak F I.g;have z3:=I.g.1;refine oM ((N.gr I.g).mo λc q=>q) (I.lq.mo λc(q:X.size<=c)=>ag) ag λa h4 L O=>⟨qv (P (ak Q L)).B λW E=>aF λe h6 e6 g6 p _=>bQ (kx (ak (ak Q L) E)) g6 ?_,aF λe W e5 E p _=>bQ (kx (ak Q L)) E ?_⟩
   ·have z4:=L.1;have z5:=E.1;exact q5 (ak (ak (ak Q L) E) g6) p ag (O.kP (ak E g6) ag λc q=>q)
   ·have z4:=L.1;exact q4 (ak (ak Q L) E) p ag (O.kP E ag λc q=>q)
  ·have z2:=F.1;have z3:=I.g.1;have Q:=ak F I.g;refine aF λe h4 e4 L p _=>bQ (kx Q) L (Z (ak Q L) p ag (N.kP (ak I.g L) ag λc q=>q) (I.lq.kP L ag λc(q:X.size<=c)=>ag))
  ·have z2:=F.1;exact q2 (ak F U) p ag (N.kP U ag λc q=>q)
  ·have z2:=F.1;exact q2 (ak F U) (p.ai U) ag (N.mo λc(q:X.size<=c)=>⟨ag,ag⟩)
 rw[<-ed]at q;exact q
end
section
variable {c:aq} {KM:List cO} {M:cO} {T:aQ} {h0 h':Hp} {vs:aR} {m:fT} {g:dP} {w:Value}
theorem av7(b':bB f)(x:f.k=17)(C:kK f.cs KM):wW f (cV f KM):=by
 intro T h v vs m K Kp hc H hk;obtain⟨g,rfl,G⟩:=H;have KF:=C.qY;have e':=b'.right.1.2.2.2.2.2.2.2.2.1 x;have CL:=C.1;have ed:bK f.k=oT:=by unfold bK;simp[*]
 have es:∀rb:Rb,cC f.k rb=[]:=λrb=>by unfold cC;simp[*]
 have a':=P0 G.ls (es _);have ef:f.dn (f.st vs)=.mk (f.st vs).b.rows 0 (f.st vs).b.cz [dF (f.st vs).b] (iy f vs) []:=by rw[BY (.inr x),fI];rfl
 rw[ef]at hk;have q:mM (.iface oT (bH g.b)) h K Kp:=by
  refine awU (aEP (aF λQ o e1 g1 k2 _=>?_));simp only[nH];have R:∀{e:Hp},az o e->bW f KM T e _ m g:=λE=>G.fr KF (bg (ak g1 E)) λ_ _ _=>id;have fin:∀{e:Hp}{d:Nat}{b:Sl},AX h e Q d (f.st vs).b.rows (f.st vs).b.cz b [dF (f.st vs).b]->AK K Kp (bC g.b) (aJ Q) (aJ d) e:=by
   intro e d b B;apply aBJ;refine bO ?_;obtain⟨c2,J,O,e2⟩:=B.k2;have d':=O.lt;have c':=B.k3.lt;have Gh:=G.fr KF (bg B.g) λ_ _ _=>id;refine Gh.uG (i:=0) rfl (.inl x) (by simp[a']) (afI G C (.inl x) ag hc B.g λt h' gr ds=>Qx (O.ai gr) e2 (B.k3.ai gr) B.l.2.2 λP J=>?_)
   obtain⟨ge,be⟩:=B.end gr J;have:=B.g.1;exact hk (b,t,Sl.nil) P ge ⟨be,dD.fr J (λc(q:e.size<=c)_ z=>ag) (λc(q:e.size<=c)_ z=>ag) (λc(q:e.size<=c)=>ag) (λc(q:e.size<=c)=>ag) _ ds,jA _⟩
  have q5:=λ{e:Hp}{d:Nat}{b:Sl}(E:az o e)(j:aN e d cX ck)(N:o.size<=d)(I:fH (Ex o d) (Ex o d) e b [dF (f.st vs).b])=>Ig g1 k2 rfl ag E j N I λh'=>fin;have q4:∀{e:Hp}{d:Nat}{b:Sl},az o e->aN e d cX ck->o.size<=d->fH (Ex o d) (Ex o d) e b [dF (f.st vs).b]->
    iF (bC g.b) b e (λZ Y J X W V y=>cL y (aJ d) Z Y J X W V (AK K Kp (bC g.b) (aJ Q) (aJ d))) Kp:=λE j N I=>qv (R E).B λy p=>q5 (ak E p) (j.ai p) N (I.gr p)
  have q3:∀{e:Hp}{d:Nat}{u:Sl},az o e->aN e d cX ck->o.size<=d->eD (Ex o d) e u (bv (dF (f.st vs).b))->aI e #[Sl.v u] fQ λa y=>
    iF (bC g.b) ⟨some a,1,1⟩ y (λZ Y J X W V y=>cL y (aJ d) Z Y J X W V (AK K Kp (bC g.b) (aJ Q) (aJ d))) Kp:=
   λ{e d u}E j N L=>EB L ⟨E.1,by have:=j.lt;omega⟩ λa y p _ I=>q4 (ak E p) (j.ai p) N I
  refine⟨wv (R (cQ _)).B λu P s L=>⟨EB (L.mo λc q=>q) s.1 λa h4 F e4 I=>⟨qv (R (ak s F)).B λy p=>aF λd h6 e6 g6 j _=>?_,aF λd y e5 p j _=>?_⟩,aF λd h4 e4 F j _=>?_⟩,aF λd P e2 s j _=>wv (R s).B λu h3 g3 L=>?_⟩
  ·have U:=s.1;have z4:=F.1;have z5:=p.1;exact q5 (ak (ak (ak s F) p) g6) j ag (I.kP (ak p g6) ag λc q=>q)
  ·have U:=s.1;have z4:=F.1;exact q4 (ak (ak s F) p) j ag (I.kP p ag λc q=>q)
  ·have U:=s.1;exact q3 (ak s F) j ag (L.kP F ag λc q=>q)
  ·exact q3 (ak s g3) (j.ai g3) ag (L.mo λc(q:P.size<=c)=>⟨ag,ag⟩)
 grind
theorem awe(b':bB f)(y:f.k=18)(C:kK f.cs KM):wW f (cV f KM):=by
 intro T h v vs m K Kp hc H hk;obtain⟨g,rfl,G⟩:=H;have KF:=C.qY;have g':=(b'.right.1.2.2.2.2.2.2.2.2.2.1 y).2;have CL:=C.1;have ed:bK f.k=qC:=by unfold bK;simp[*]
 have es:∀rb:Rb,cC f.k rb=[(bv rb.all,Y8),(ints rb.ends,Y6)]:=λrb=>by unfold cC;simp[*]
 obtain⟨s1,s0,N⟩:=Dq G.ls (es _);obtain⟨A1,c'⟩:∃A,g.ST[0]? =some A:=⟨_,bJ (by rw[G.ls.2,es];simp)⟩
 obtain⟨A0,d'⟩:∃A,g.ST[1]? =some A:=⟨_,bJ (by rw[G.ls.2,es];simp)⟩
 have ef:f.dn (f.st vs)=.mk (f.st vs).b.rows 0 (f.st vs).b.cz [(f.st vs).b.all,laidB (f.st vs).b.ends 4] (iy f vs) []:=by rw[LI y,fI];rfl
 rw[ef]at hk;have W:=(gj f vs).1 hc;have al:(f.st vs).b.all.length<=70000:=by have:=W.n4;rw[fI];simp only[aL];rw[ay,aK y,cr];omega
 have el:(f.st vs).b.ends.length<=70000:=by have:=W.n4;rw[fI];simp only[aL];rw[ay,ay,aK y,cr,Il];omega
 have eb:∀x∈(f.st vs).b.ends,x<2^63:=by
  rw[fI];simp only[aL];rw[ay,ay,aK y];intro x d;simp only[kZ,wF]at d;obtain⟨i,hi,rfl⟩:=d;have:=Va (λv=>decide (fO v=fO (vs.getD i v0))) (vs.take i);have:=W.n4;rw[m8]at *;omega
 have q:mM (.iface qC (bH g.b)) h K Kp:=by
  refine aw1 (aEH (aF λa2 j e1 g1 k2 _=>?_));refine bO ?_;have U:∀{d:Hp},az j d->bW f KM T d _ m g:=λp=>G.fr KF (bg (ak g1 p)) λ_ _ _=>id;have kb:=(U (cQ _)).B.k;have o0:∀{d:Hp},az j d->Os A0 d s0 _ Y6:=λp=>(U p).sl 1 s0 A0 _ (by simp[N]) d' (by rw[es];rfl)
  have o1:∀{d:Hp},az j d->Os A1 d s1 _ Y8:=λp=>(U p).sl 0 s1 A1 _ (by simp[N]) c' (by rw[es];rfl)
  have fin:∀{d:Hp}{e:Nat}{b:Sl},AX h d a2 e (f.st vs).b.rows (f.st vs).b.cz b [(f.st vs).b.all,laidB (f.st vs).b.ends 4]->AJ K Kp (bC g.b) (aJ a2) (aJ e) d:=by
   intro d e b B;apply aBG;refine bO ?_;obtain⟨c2,Z,a',e2⟩:=B.k2;have f':=a'.lt;have e':=B.k3.lt;have Gh:=G.fr KF (bg B.g) λ_ _ _=>id;refine Gh.uG (i:=2) rfl (.inr y) (by simp[N]) (afI G C (.inr y) ag hc B.g λt h' gr ds=>Qx (a'.ai gr) e2 (B.k3.ai gr) B.l.2.2 λY Z=>?_)
   obtain⟨ge,be⟩:=B.end gr Z;have:=B.g.1;exact hk (b,t,Sl.nil) Y ge ⟨be,dD.fr Z (λc(q:d.size<=c)_ z=>ag) (λc(q:d.size<=c)_ z=>ag) (λc(q:d.size<=c)=>ag) (λc(q:d.size<=c)=>ag) _ ds,jA _⟩
  have q5:=λ{d:Hp}{e:Nat}{b:Sl}(p:az j d)(o:aN d e cX ck)(V:j.size<=e)(R:fH (Ex j e) (Ex j e) d b [(f.st vs).b.all,laidB (f.st vs).b.ends 4])=>Ig g1 k2 rfl ag p o V R λh'=>fin;have q4:∀{d:Hp}{e:Nat}{b:Sl},az j d->aN d e cX ck->j.size<=e->fH (Ex j e) (Ex j e) d b [(f.st vs).b.all,laidB (f.st vs).b.ends 4]->
    iF (bC g.b) b d (λt0 t1 Z t3 t4 t5 X=>cL X (aJ e) t0 t1 Z t3 t4 t5 (AJ K Kp (bC g.b) (aJ a2) (aJ e))) Kp:=λp o V R=>qv (U p).B λX E=>q5 (ak p E) (o.ai E) V (R.gr E)
  have q3:=λ{d:Hp}{e:Nat}{u t:Sl}(p:az j d)(o:aN d e cX ck)(V:j.size<=e)(O:eD (Ex j e) d u (bv ((f.st vs).b.all)))(vt:eD (Ex j e) d t (bv (laidB (f.st vs).b.ends 4)))=>
   oM O vt ⟨p.1,by have:=o.lt;omega⟩ λa X E R=>q4 (ak p E) (o.ai E) V R
  have q2:=λ{d:Hp}{e:Nat}{u:Sl}(p:az j d)(o:aN d e cX ck)(V:j.size<=e)(O:eD (Ex j e) d u (bv ((f.st vs).b.all)))=>
   xz (Kp:=Kp) (o0 p) el bw eb λt X J=>q3 (ak p J.g) (o.ai J.g) V (O.gr J.g) (J.lq.mo λc(q:d.size<=c)=>⟨by have:=p.1;omega,by have:=o.lt;omega⟩)
  have P:=λ{d:Hp}(p:az j d)=>(U p).B.k;refine(U (cQ _)).dH (i:=0) rfl (by simp[N]) ((U (cQ _)).dH (i:=1) rfl (by simp[N]) ⟨Mo (o1 (cQ _)) al λu Y F O=>bQ kb F ⟨xz (o0 F) el bw eb λt h3 J=>⟨?_,?_⟩,aF λe h3 e3 Q o _=>bQ (P F) Q (bQ (P F) Q ?_)⟩,aF λe Y e2 F o _=>bQ kb F (bQ kb F (Mo (o1 F) al λu h3 Q O=>bQ (P F) Q ?_))⟩)
  ·have z2:=F.1;have L:=ak F J.g;have z3:=J.g.1;refine oM ((O.gr J.g).mo λc q=>q) (J.lq.mo λc(q:Y.size<=c)=>ag) ag λa h4 I R=>⟨qv (U (ak L I)).B λX E=>aF λe h6 e6 g6 o _=>bQ (P (ak (ak L I) E)) g6 (bQ (P (ak (ak L I) E)) g6 ?_),aF λe X e5 E o _=>bQ (P (ak L I)) E (bQ (P (ak L I)) E ?_)⟩
   ·have z4:=I.1;have z5:=E.1;exact q5 (ak (ak (ak L I) E) g6) o ag (R.kP (ak E g6) ag λc q=>q)
   ·have z4:=I.1;exact q4 (ak (ak L I) E) o ag (R.kP E ag λc q=>q)
  ·have z2:=F.1;have z3:=J.g.1;have L:=ak F J.g;refine aF λe h4 e4 I o _=>bQ (P L) I (bQ (P L) I<|q3 (ak L I) o ag (O.kP (ak J.g I) ag λc q=>q) (J.lq.kP I ag λc(q:Y.size<=c)=>ag))
  ·have z2:=F.1;exact q2 (ak F Q) o ag (O.kP Q ag λc q=>q)
  ·have z2:=F.1;exact q2 (ak F Q) (o.ai Q) ag (O.mo λc(q:Y.size<=c)=>⟨ag,ag⟩)
 rw[<-ed]at q;exact q
end
def mB(l:cU)(i:Nat):List UInt8:=(l.take i).zipIdx.foldl (λb x=>if x.1%2=1 then pF b x.2 else b) (List.replicate ((l.length+7)/8) 0)
theorem Mj{l:cU}{n:Nat}(a:l[i]? =some n):mB l (i+1)=if n%2=1 then pF (mB l i) i else mB l i:=by
 grind[List.getElem?_eq_some_iff,List.take_succ_eq_append_getElem,List.getElem?_eq_getElem,mB]
theorem afr(l:cU):mB l l.length=ri l:=by unfold mB ri;simp
theorem Mk(l:cU):∀i,i<=l.length->(mB l i).length=(l.length+7)/8
  |0,_=>by simp[mB]
  | i+1,h=>by
    rw[Mj (bJ ag)];split
    ·rw[Ds];exact Mk l i ag
    ·exact Mk l i ag
theorem afl{l:dy}(h:i<l.length):(bv l)[i]? =some (.int .u8 ((l.getD i 0).toNat:Int)):=by
 unfold bv;simp[*]
theorem UI{l:dy}{y:UInt8}:(bv l).set i (.int .u8 (y.toNat:Int))=bv (l.set i y):=by simp only[bv,Ct]
section
variable {c:aq} {T:aQ} {h0 h':Hp} {vs:aR} {m:fT} {g:dP}
theorem ayv{a2:Nat}{t:Sl}{bb:Nat}{l:cU}{K:Int->Int->Int->Sl->Sl->Sl->HP}(os:Os A h0 s (mh l) pX)(hb:∀x∈l,x<=1)(hl:l.length<=70000)(gr:az h0 h)(o:gZ h t bb (bv (mB l 0)) Y8)(lb:h0.size<=bb)
  (hk:∀h',az h0 h'->gZ h' t bb (bv (ri l)) Y8->C0 K Kp (bC b) (aJ a2) t h'):Ww K Kp (bC b) (aJ a2) t s (s.n:Int) 0 h:=by
 have hn:=os.n;rw[mh,cr]at hn;apply az2 (λx h'=>∃i:Nat,x=i/\i<=l.length/\az h0 h'/\gZ h' t bb (bv (mB l i)) Y8) (λx _=>l.length-x.toNat) ⟨0,rfl,eu _,gr,o⟩;rintro x h1 ⟨i,rfl,hi,g1,o1⟩ N hN;refine aG (λcc=>?_) λcc=>?_
 ·have cc:=aS cc;have dQ:i<l.length:=ag;have hx:=bJ dQ;generalize l[i]=y at hx;have hy:=hb y (bT hx);have bl:=Mk l i hi;have tn:t.n=(l.length+7)/8:=by rw[o1.2.1,fP,bl]
  have hd:i/8<(mB l i).length:=ag;have sv:=(os.gr g1).sv;refine sv.ix ag ag (by rw[gf,mh,eY,hx];rfl) λa ca=>⟨_,ca,pg bw ?_⟩
  have e1:Int.tdiv (i:Int) 8=((i/8:Nat):Int):=rfl;have e2:Int.tmod (i:Int) 8=((i%8:Nat):Int):=rfl;rw[e1];refine aX ag ag (o1.vX ag ag ?_);have ei:(((i/8:Nat):Int)).toNat=i/8:=ag;refine o1.ld ag (by rw[ei];exact afl hd) (pY rfl (by omega:y<2^8) (pg bw ?_))
  rw[e2];refine yO (jw ag ?_);have em:min (Int.toNat ((i%8:Nat):Int)) (IntKind.bits .u8)=i%8:=by
   rw[gf];have:=yE i (show 8>0 by decide);show min _ 8=_;omega
  rw[em];have hp:2^(i%8)<2^8:=Mx bw (yE _ bw);have Hu:=((mB l i).getD (i/8) 0).toNat_lt;have hle:y*2^(i%8)<2^8:=by
   have:y=0\/y=1:=ag;rcases this with rfl|rfl
   ·simp
   ·omega
  have es:(y:Int)*2^(i%8)=((y*2^(i%8):Nat):Int):=by push_cast;rfl
  rw[es];refine pY rfl hle (yO ?_);rw[UL _ _ Hu hle];refine o1.vX ag ag (o1.st ag rfl λh2 w2 o2=>aX ag ag (hN _ _ ⟨i+1,aA,ag,bI g1 w2 lb,?_⟩ ag))
  rw[Mj hx];rw[ei]at o2;have:y=0\/y=1:=ag;rcases this with rfl|rfl
  ·rw[aC bw];simp_all[Nat.or_zero,UI]
  ·rw[aK bw];rw[Nat.one_mul]at o2;have e:(((mB l i).getD (i/8) 0).toNat|||2^(i%8))=(UInt8.ofNat (((mB l i).getD (i/8) 0).toNat|||2^(i%8))).toNat:=by
    rw[tN,uY (Iv Hu hp)]
   rw[e,UI]at o2;exact o2
 ·have cc:=aS cc;have:i=l.length:=ag;grind[afr]
theorem avf(w:Nat)(l:iz)(t:dy):mu w (l++[t])=mu w l++(if t=[]then List.replicate w 0 else t):=by simp[mu]
theorem avd{a2 a4 w:Nat}{t:Sl}{bb:Nat}{l:iz}{K:Int->Int->Int->Sl->Sl->Sl->HP}{c4:Array Value}{t4:TypeId}(os:Os A h0 s (strs l) rF)(hb:∀x∈l,x=[]\/x.length=w)(hl:l.length<=70000)(hw:1<=w/\w<=16)(gr:az h0 h)
  (o:gZ h t bb (bv (List.replicate (l.length*w) 0)) Y8) (lb:h0.size<=bb) (k4:aN h a4 c4 t4) (e4:c4[1]? =some (ah (w:Int))) (ne:a4≠bb) (hk:∀h',az h0 h'->gZ h' t bb (bv (mu w l)) Y8->C0 K Kp (bC b) (aJ a2) t h'):Wv K Kp (bC b) (aJ a2) t (aJ a4) s (s.n:Int) 0 h:=by
 have hn:=os.n;rw[strs,cr]at hn;apply az1 (λx h'=>∃i:Nat,x=i/\i<=l.length/\az h0 h'/\aN h' a4 c4 t4/\gZ h' t bb (bv (mu w (l.take i)++List.replicate ((l.length-i)*w) 0)) Y8) (λx _=>l.length-x.toNat) ⟨0,rfl,eu _,gr,k4,by simpa[mu]using o⟩
 rintro x h1 ⟨i,rfl,hi,g1,k4,o1⟩ N hN;have fl:(mu w (l.take i)).length=i*w:=by rw[Li λx hx=>hb x (List.mem_of_mem_take hx),m8,Cr hi]
 refine cE (λcc=>?_) λcc=>?_
 ·have dQ:i<l.length:=ag;have hx:=bJ dQ;have lH:=kS dQ;generalize l[i]=y at hx lH;have hy:=hb y (bT hx);have hyl:y.length<=w:=by rcases hy with rfl|e;simp;omega
  have sv:=(os.gr g1).sv;have tn:t.n=l.length*w:=by
   have:=o1.2.1;rw[fP,iA,fl,Ip,<-IC]at this;rw[this];congr 1;omega
  obtain⟨q1,q2,cs,q3,q4,q5,q6⟩:=o1;have hm1:i*w+w<=l.length*w:=by rw[<-rC];exact oQ _ dQ
  have Hg:l.length*w<=70000*16:=tO hl hw.2;have em:(i:Int)*(w:Int)=((i*w:Nat):Int):=by push_cast;rfl
  refine sv.ix ag ag (by rw[gf,strs,eY,hx];rfl) λa ca=>⟨_,ca,?_⟩
  simp only[cF];apply aj k4 e4;rw[em];refine aX ag ag ⟨by simp only[pQ];omega,by simp only[pQ,wG];omega,by simp only[wG];omega,AA _,?_⟩
  simp only[pQ,wG,gf];have ea:kV t.a (i*w) t.c 1=some ⟨bb,i*w,none⟩:=by
   unfold kV;rw[ay,q1,pP,bz];simp
  rw[ea];have ex:((bs y).extract 0 (Nat.min (bs y).size (t.n-i*w))).data.toList.map (λb=>Value.int .u8 b.toNat)=bv y:=by
   have:Nat.min (bs y).size (t.n-i*w)=y.length:=by rw[jl,tn];show min _ _=_;omega
   rw[this];have e2:(bs y).extract 0 y.length=bs y:=by
    have:y.length=(bs y).size:=by rw[jl]
    rw[this,ByteArray.extract_zero_size]
   rw[e2];rfl
  refine⟨bv y,ex.symm,wP _ q3 (by rw[fP];omega) (λv hv=>by simp only[bv,kZ]at hv;obtain⟨z,_,rfl⟩:=hv;rfl) λh2 LL w2 k2 s2 c2=>aX ag ag (hN _ _ ⟨i+1,aA,ag,bI g1 w2 lb,w2.aZ k4 ne,q1,?_,LL,k2,q4,by rw[s2,q5],λj hj=>?_⟩ ag)⟩
  ·have:(mu w (l.take (i+1))).length=(i+1)*w:=by rw[Li λx hx=>hb x (List.mem_of_mem_take hx),m8,Cr ag]
   rw[fP,iA,this,Ip,<-IC,tn];congr 1;omega
  ·rw[c2 j,q6 j hj,lH,avf,fP];have er:(List.replicate ((l.length-i)*w) (0:UInt8))=List.replicate w 0++List.replicate ((l.length-(i+1))*w) 0:=by
    rw[List.replicate_append_replicate];congr 1;rw[show l.length-i=(l.length-(i+1))+1 by omega,rC,Mw]
   by_cases ey:y=[]
   ·subst ey;rw[aC (by simp_all),aK rfl,er,rz]
   ·have hyw:=hy.resolve_left ey;rw[aC ey,er];simp only[ES,hyw];unfold bv
    by_cases hj1:j<i*w
    ·rw[ay,eY,eY,rz,gN ag,gN ag]
    ·by_cases hj2:j<i*w+w
     ·rw[dV,eY,eY,rz,fU ag,gN ag,fl]
     ·rw[ay,eY,eY,rz,fU ag,fU (by rw[Ip];omega),fU ag,fU ag,Ip,hyw]
 ·have:i=l.length:=ag;simp_all
end
section
variable {c:aq} {T:aQ} {h0 h' hx:Hp} {vs:aR} {m:fT} {mm:Mem} {g:dP}
theorem QD{K:Int->Int->Int->Sl->Sl->Sl->HP}{n:Nat}{y:TypeId}{t:Sl}{out:dy}(G:bW f [] T h r m g)(gr:az h hx)(l:aN hx n Z y)(I:Z.size=6)(z:h.size<=n)(x:eD (λc=>h.size<=c/\c≠n) hx t (bv out))
  (E:∀p h',az h h'->eR (Nw h) (Nw h) h' p (.mk r.b.rows 0 r.b.cz [dF r.b,out] [] [])->K r.b.rows 0 r.b.cz p.1 p.2.1 p.2.2 h'):C0 K Kp (bC g.b) (aJ n) t hx:=by
 have Bx:∀{o:Hp},az h o->mN g.T0 o g.b _ f g.sf g.sn g.sb r.b _:=λH=>G.B.fr (bg H) id λ_ _ _=>id;have L:=l.lt;apply aBs;simp only[nH];refine wv (Bx gr) λu Q d w=>?_;have M:=d.1;refine oM (w.mo λc(q:hx.size<=c)=>⟨ag,ag⟩) (x.gr d) ⟨ag,ag⟩ λa P s J=>?_
 have v:=ak gr (ak d s);refine qv (Bx v) λO i=>ig (((l.ai d).ai s).ai i) I λF j C=>fJ C (E (_,Sl.nil,Sl.nil) F (bI (ak v i) j z) ⟨(J.gr i).fr j.fr (λc q _ e=>q.2 e) (λc q _ e=>q.2 e) (λc q=>q.1) λc q=>q.1,jA _,jA _⟩)
theorem awa(f':bB f)(hp:fL f.k=true):wW f (cV f []):=by
 intro T h v vs m K Kp hc H M;obtain⟨g,rfl,G⟩:=H;obtain⟨k1,n',m',e',d',c',X,b',a'⟩:=zw hp;have ed:bK f.k=pS:=by unfold bK;simp[*]
 have V:∀Y:Rb,cC f.k Y=[(mh Y.dY,pX),(strs Y.texts,rF)]:=λY=>by unfold cC;simp[*]
 obtain⟨J,O,j⟩:=Dq G.ls (V _);obtain⟨A0,j'⟩:∃A,g.ST[0]? =some A:=⟨_,bJ (by rw[G.ls.2,V];simp)⟩
 obtain⟨A1,i'⟩:∃A,g.ST[1]? =some A:=⟨_,bJ (by rw[G.ls.2,V];simp)⟩
 have F:=(gj f vs).1 hc;have n4:=F.n4;have nC:=f'.right.1;have N:(f.st vs).b.dY=vs.map λv=>(v.num%2^64).toNat:=by rw[fI];simp only[aL,hp,gB]
 have et:(f.st vs).b.texts=vs.map aB.text:=by rw[fI];simp only[aL,hp,gB]
 have q:mM (.iface pS (bH g.b)) h K Kp:=by
  refine awX (aEl (aF λa2 h1 e1 g1 L _=>?_));refine bO ?_;have u:∀{hx:Hp},az h hx->bW f [] T hx _ m g:=λU=>G.fr qJ (bg U) λ_ _ _=>id;have o0:∀{hx:Hp},az h hx->Os A0 hx J _ pX:=λU=>(u U).sl 0 J A0 _ (by simp[j]) j' (by rw[V];rfl)
  have o1:∀{hx:Hp},az h hx->Os A1 hx O _ rF:=λU=>(u U).sl 1 O A1 _ (by simp[j]) i' (by rw[V];rfl)
  refine nF (BV.LL (u g1).B.k) (aF λa4 h2 e2 g2 C _=>pM C rfl λy w3 C=>aj C rfl ?_);have k':=C.lt;have I:=bI g2 w3 ag;have l:=ak g1 I;have L:=L.ai I;refine aG (λE=>?_) λE=>?_
  ·have E:=aS E;have W:f.dn (f.st vs)=.mk (f.st vs).b.rows 0 (f.st vs).b.cz [dF (f.st vs).b,ri (f.st vs).b.dY] [] []:=by rw[BX E,fI];rfl
   rw[W]at M;have n0:=(o0 l).n;rw[mh,cr,N,cr]at n0;refine(u l).dH (i:=0) (s:=J) rfl (by simp[j]) (aX ag ag (pg bw ?_))
   have e1:Int.tdiv ((J.n:Int)+7) 8=(((vs.length+7)/8:Nat):Int):=by rw[n0];rfl
   rw[e1];refine aX ag ag (Fb ag ag ag λt h4 z P _=>?_);have z4:=z.1;have G4:=ak l z;refine(u G4).dH (i:=0) rfl (by simp[j]) (ayv (o0 l) (λx hx=>?_) (by rw[N,cr];omega) z ?_ (bX _) λh' D Q=>?_)
   ·rw[N,kZ]at hx;obtain⟨v,Z,rfl⟩:=hx;have d:=F.fit v Z;rw[eM]at d;unfold fG at d;simp only[dw]at d;have q:=d.2
    by_cases o:v.au=true
    ·rw[aK o]at q;simp only[dw,dR]at q;have:=q.1.1.1;omega
    ·rw[aC o,ay,ay,ay,ay,ay,ay,aK E]at q;simp only[dw,dR]at q;have:=q.2.2;omega
   ·rw[gf]at P;unfold mB;rw[IB];simp only[List.zipIdx_nil,List.foldl_nil,N,cr,bv,U8];exact P
   ·have z5:=D.1;exact QD G (ak l D) (L.ai D) rfl ag ⟨Q.sv,λ_ a R=>by rw[Q.1]at R;cases R;exact⟨by show h.size<=y.size;omega,by show y.size≠a2;omega⟩⟩ M
  ·have E:=aS E;refine cE (λp=>?_) λp=>?_
   ·have hw:=nC.2.2.1 p;have W:f.dn (f.st vs)=.mk (f.st vs).b.rows 0 (f.st vs).b.cz [dF (f.st vs).b,mu f.w.toNat (f.st vs).b.texts] [] []:=by rw[BZ p,fI];rfl
    rw[W]at M;have n1:=(o1 l).n;rw[strs,cr,et,cr]at n1;refine(u l).dH (i:=1) (s:=O) rfl (by simp[j]) (aj C rfl ?_)
    have hm:vs.length*f.w.toNat<=4096*16:=tO n4 ag;have em:(O.n:Int)*f.w=((vs.length*f.w.toNat:Nat):Int):=by rw[n1];push_cast;rw[yy ag]
    rw[em];refine aX ag ag (Fb ag ag ag λt h4 z P _=>?_);have z4:=z.1;have G4:=ak l z;refine(u G4).dH (i:=1) rfl (by simp[j]) (avd (w:=f.w.toNat) (o1 l) (λx hx=>?_) (by rw[et,cr];omega) ⟨ag,ag⟩ z ?_ (bX _) (C.ai z) ?_ ag λh' D Q=>?_)
    ·rw[et,kZ]at hx;obtain⟨v,Z,rfl⟩:=hx;have d:=F.fit v Z;rw[eM]at d;unfold fG at d;simp only[dw]at d;have q:=d.2
     by_cases o:v.au=true
     ·rw[aK o]at q;simp only[dw,dR]at q;exact .inl (jB.1 q.1.1.2)
     ·rw[aC o,ay,ay,ay,ay,ay,aK (.inr (.inr p))]at q;simp only[dw,IE,dR]at q;exact .inr (q.2.2.2.resolve_left λe=>e p)
    ·rw[gf]at P;simp only[et,cr,bv,U8];exact P
    ·rw[yy ag];rfl
    ·have z5:=D.1;exact QD G (ak l D) (L.ai D) rfl ag ⟨Q.sv,λ_ a R=>by rw[Q.1]at R;cases R;exact⟨by show h.size<=y.size;omega,by show y.size≠a2;omega⟩⟩ M
   ·have hf:3<=f.k/\f.k<=11:=by have:=nC.1;have:=nC.2.1;omega
    have W:f.dn (f.st vs)=.mk (f.st vs).b.rows 0 (f.st vs).b.cz [dF (f.st vs).b,laidB (f.st vs).b.dY (wB f.k)] [] []:=by rw[Ab hf,fI];rfl
    rw[W]at M;refine(u l).dH (i:=0) (s:=J) rfl (by simp[j]) (aj C rfl (ayo (bQ (u l).B.k (cQ _) (asG (w:=wB f.k) (o0 l) (by rw[N,cr];omega) (by grind[wB]) (λx hx=>?_) λt h4 gb=>?_))))
    ·rw[N,kZ]at hx;obtain⟨v,Z,rfl⟩:=hx;omega
    ·have z4:=gb.g.1;exact QD G (ak l gb.g) (L.ai gb.g) rfl ag (gb.lq.mo λc(q:y.size<=c)=>⟨ag,ag⟩) M
 simp[*]
theorem aei{α:Type}{a b:List α}(p:a <+: b):b.take a.length=a:=(U7.1 p).symm
theorem ayK{K:HP}(hp:fL f.k=true)(e':f.cs=[])(G:bW f [] T h r (some mm) g)(hk:∀h',Tn T h h'->cV f [] T h' (.iface (bK f.k) (bH g.b)) mm.r (some mm)->K h'):cZ aE mm.F [] h (λr h1=>r=.tuple #[]/\K h1) Kp:=by
 obtain⟨p,k',j',H,d',c',o,E,D⟩:=zw hp;have KF:=qJ;obtain⟨⟨F0,i',bm,c1,c2,c3,c4⟩,y,ks⟩:=G.mm mm rfl;obtain⟨x,eF,mc⟩:=c4 p;have f':jv f.k g.b F0 i' mm=[#[F0],#[bH g.b],pI mm.r.b.dY.length]:=by unfold jv;simp only;simp[*]
 rw[f']at mc;obtain⟨a0,t0,e0,r0,k0⟩:=mc.2 0 _ rfl;obtain⟨a1,t1,e1,r1,Q⟩:=mc.2 1 _ rfl;obtain⟨a2,t2,I,r2,z⟩:=mc.2 2 _ rfl;have ec:x=[bH a0,bH a1,bH a2]:=by
  match x,mc.1,e0,e1,I with
  |[u,v,w],_,e0,e1,I=>simp at e0 e1 I;subst e0 e1 I;rfl
 have g':gL f.k=247:=by unfold gL;simp[*]
 have l:∀U:Rb,cC f.k U=[(mh U.dY,pX),(strs U.texts,rF)]:=λU=>by unfold cC;simp[*]
 have V:∀a b:Rb,eN f.k a b↔b.dY <+: a.dY/\b.texts <+: a.texts/\b.dY.length=b.texts.length:=λa b=>by unfold eN;simp[*]
 rw[V]at y;obtain⟨s0,Z,d⟩:=Dq G.ls (l _);obtain⟨X,W,j⟩:∃X W,g.ST=[X,W]:=by
  have:=G.ls.2;rw[l]at this
  match hg:g.ST,this with
  |[a,b],_=>simp
 rw[eF,ec,g'];have hS:∀c,(c=g.b\/g.T0 c)->c<h.size->c=g.b\/g.T0 c:=λc q _=>q;have S:=G.av g.gC hS g.fM ag;have nR:∀{c:Nat},g.R c->c≠g.b:=λq e=>G.t.kX g.fM (e▸q);refine ax0 (aEh (aj k0 rfl ?_))
 show cZ aE F0 [] h _ _
 refine x9 G KF bm λh1 Y C=>?_;have p:=Y.aZ Q (S _ r1 Q.lt);have z:=Y.aZ z (S _ r2 z.lt);have o0:=C.sl 0 s0 X (mh r.b.dY,pX) (by simp[d]) (by simp[j]) (by rw[l];rfl)
 have o1:=C.sl 1 Z W (strs r.b.texts,rF) (by simp[d]) (by simp[j]) (by rw[l];rfl)
 have n0:=o0.n;have n1:=o1.n;have p0:=y.1.length_le;have p1:=y.2.1.length_le;simp only[mh,cr]at n0;simp only[strs,cr]at n1;refine aj p rfl (aj p rfl (aj p rfl ?_));refine bO ?_;refine C.dH (i:=0) rfl (by simp[d]) (aj z rfl (o0.cut ag rfl λM e0 O=>aj p rfl ?_))
 refine bO ?_;refine C.dH (i:=1) rfl (by simp[d]) (aj z rfl (o1.cut ag rfl λL e1 N=>?_))
 have q0:(mh r.b.dY).take mm.r.b.dY.length=mh mm.r.b.dY:=by unfold mh;rw[<-It,aei y.1]
 have q1:(strs r.b.texts).take mm.r.b.dY.length=strs mm.r.b.texts:=by unfold strs;rw[<-It,y.2.2,aei y.2.1]
 rw[q0]at O;rw[q1]at N;refine C.vH (i:=0) (s:=s0) (by simp[d]) C.B.k λh2 J b'=>?_
 have G2:=C.w9 (x':=(mh mm.r.b.dY,pX)) (r':=(r.qN mm.r).up λb=>{b with dY:=mm.r.b.dY}) KF (by simp[j]) O J b' ⟨rfl,rfl,rfl,rfl⟩ (by rw[l,l];rfl) rfl rfl λP e q=>by rw[V]at q ⊢;cases e;exact⟨jI _,q.2⟩
 refine mK z (J.aZ z (nR r2)) (mK p (J.aZ p (nR r1)) (G2.vH (i:=1) (s:=Z) (by simp[d]) G2.B.k λh3 w3 a'=>?_))
 have G3:=G2.w9 (i:=1) (s':=L) (A:=W) (x':=(strs mm.r.b.texts,rF)) (r':=(r.qN mm.r).up λb=>{b with dY:=mm.r.b.dY,texts:=mm.r.b.texts}) KF (by simp[j]) (N.fr J.fr λc q _ e=>G.t.kX (g.iw (i:=1) (by simp[j])) (e▸q)) w3 a' ⟨rfl,rfl,rfl,rfl⟩ (by rw[l,l];rfl) rfl rfl λP e q=>by rw[V]at q ⊢;cases e;exact⟨q.1,jI _,q.2.2⟩
 refine hk h3 ?_ ⟨_,by rfl,G3.conv (r':=mm.r) ⟨rfl,rfl,rfl,rfl⟩ (by rw[l,l];rfl) ?_ (λq=>ag) λP e q=>?_⟩
 ·exact((Y.mono λc q _=>q.elim (λe=>e▸G.t.tb) λq=>G.kA g.gC q).trans (J.fr.mono λc q _=>q▸G.t.tb)).trans (w3.fr.mono λc q _=>q▸G.t.tb)
 ·have e1:mm.r.kids=[]:=by
   rw[ks.1];have:=ks.2;rw[e']at this;rw[jB.1 this];rfl
  have I:r.kids=[]:=jB.1 G.lk.2.2;rw[e1];exact I.symm
 ·cases e;rw[V];exact⟨jI _,jI _,y.2.2⟩
end
theorem GR(v:aB):v.items.length*16<=bL v.items:=by
 have:∀l:List aB,l.length*16<=bL l:=by
  intro l
  induction l with
  |nil=>simp
  |cons z l a=>have:=hO z;simp only[bL,iN];omega
 simp[*]
def VX(v:aB):Prop:=∀{D:aQ}{h:Hp}{s:Sl}{K:cK}{Kp:PK},aO D h s v.items->v.bx<=2^50->(∀h',az h h'->K (v.bx:Int) h')->Ft v.au v.num (bs v.text) s h K Kp
theorem alA(J:∀x∈v.items,VX x):VX v:=by
 intro D h s K Z p Q A;have m:=hO v;have O:=GR v;have R:=p.n;refine aFK (aF λY V e1 G o _=>?_);simp only[bz,cF];refine aj o rfl (aX (by rw[jl];omega) (by rw[jl];omega) (aj o rfl ?_))
 rw[jl];apply aAI (λy x C=>∃i:Nat,x=i/\i<=v.items.length/\y=((16+v.text.length+bL (v.items.take i):Nat):Int)/\az h C) (λ_ x _=>v.items.length-x.toNat) ⟨0,rfl,eu _,by simp[bL],G⟩
 rintro y x q ⟨i,rfl,S,rfl,j⟩ N hN;refine cE (λe=>?_) λe=>?_
 ·have g:i<v.items.length:=ag;have l:=bJ g;have f:=kS g;generalize v.items[i]=z at l f;have d:=bT l;have M:bL (v.items.take (i+1))<=bL v.items:=by
   have:=pq (v.items.take (i+1)) (v.items.drop (i+1));rw[EL]at this;omega
  have H:bL (v.items.take (i+1))=bL (v.items.take i)+z.bx:=by rw[f,pq];simp[bL]
  refine(dU p j).ix rfl l λa u I w=>gY I (aF λX U W F k _=>mC k rfl λB t k=>fk k ?_);have r:=bI F t ag;refine J z d (dU w r) ag λT E=>aX ag ag (aX ag ag (hN _ _ _ ⟨i+1,aA,ag,?_,ak j (ak r E)⟩ ag))
  rw[H];push_cast;omega
 ·have:i=v.items.length:=ag;simp_all
theorem JL:∀v:aB,VX v
 |.mk a b c items=>alA (v:=.mk a b c items) λx(_:x∈items)=>JL x
def V9(x:aB):Prop:=∀{y:aB}{D E:aQ}{h:Hp}{s t:Sl}{K:fB}{Kp:PK},aO D h s x.items->aO E h t y.items->x.bx<=2^50->(∀b h',az h h'->(b=true↔x=y)->K b h')->
 Jh x.au x.num (bs x.text) s y.au y.num (bs y.text) t h K Kp
theorem Zv{x:aB}:x=Y↔x.au=Y.au/\x.num=Y.num/\x.text=Y.text/\x.items=Y.items:=by
 cases x;cases Y;simp[aB.au,aB.num,aB.text,aB.items]
theorem aoL{x:aB}(IH:∀z∈x.items,V9 z):V9 x:=by
 intro y D E h s t K V O M hw P;have b':=hO x;have c':=GR x;have Z:=O.n;have hm:=M.n;refine aEs (aF λU h1 e1 g1 d _=>aF λT I e2 S k _=>?_);have d:=d.ai S;have G:=ak g1 S;have A:∀{B:Hp},az h B->x≠y->K false B:=λg ne=>P false _ g ⟨λe=>(by cases e),λe=>absurd e ne⟩
 have L:x≠y->MW K V (aJ U) (aJ T) true I:=λne=>ah4 (bS rfl (A G ne));have W:x≠y->MX K V _ _ true I:=λne=>ah5 (bS rfl (L ne));refine aj d rfl (aj k rfl (aG (λc=>?_) λc=>?_))
 ·exact W λe=>by subst e;simp at c
 have c1:x.au=y.au:=by simpa using c
 simp only[bz,cF];refine aj d rfl (aj k rfl (ah5 (aG (λc=>?_) λc=>?_)))
 ·exact L λe=>by subst e;simp at c
 have c2:x.num=y.num:=by simpa using c
 simp only[bz,cF];refine aj d rfl (aj k rfl ?_);rw[Cm];refine ah4 (aG (λc=>A G λe=>by subst e;simp at c) λc=>?_)
 have c3:x.text=y.text:=by simpa using c
 simp only[bz,cF];refine aj d rfl (aj k rfl (aG (λJ=>A G λe=>?_) λc=>?_))
 ·simp_all
 have c:=aS c;apply aBx;simp only[bz,cF];refine aj d rfl (az4 (λz B=>∃i:Nat,z=i/\i<=x.items.length/\az I B/\x.items.take i=y.items.take i) (λz _=>x.items.length-z.toNat) ⟨0,rfl,eu _,cQ _,rfl⟩ ?_);rintro z h3 ⟨i,rfl,hi,C,v⟩ N hN;have H:=ak G C;refine aG (λl=>?_) λl=>?_
 ·have l:=aS l;have r:i<x.items.length:=ag;have a:=bJ r;have j:y.items[i]? =some y.items[i]:=bJ ag;have o:=kS r;have m:y.items.take _=y.items.take i++[y.items[i]]:=kS ag;generalize x.items[i]=u at a o;generalize y.items[i]=w at j m;have f:=bT a;have a':=oB f;simp only[bz,cF];refine aj (d.ai C) rfl ((dU O H).ix rfl a λp p' cp Y=>gY cp (aj (k.ai C) rfl ((dU M H).ix rfl j λq q' cq X=>gY cq (IH u f Y X ag λb h4 R Q=>aG (λF=>?_) λF=>?_))))
  ·refine A (ak H R) λe=>?_;have:u=w:=by rw[e,j]at a;cases a;rfl
   rw[Q.2 this]at F;cases F
  ·have:u=w:=Q.1 (by simpa using F)
   exact aX ag ag (hN _ _ ⟨i+1,aA,ag,ak C R,by rw[o,m,v,this]⟩ ag)
 ·have l:=aS l;have:i=x.items.length:=ag;grind[Zv,List.take_length]
theorem P8:∀x:aB,V9 x
 |.mk a b c items=>aoL (x:=.mk a b c items) λx(_:x∈items)=>P8 x
def VY(v:aB):Prop:=∀{D:aQ}{h:Hp}{s:Sl}{K:Bool->Int->ByteArray->Sl->HP}{Kp:PK},aO D h s v.items->v.bx<=2^40->(∀t h',az h h'->aO (Nw h) h' t v.items->K v.au v.num (bs v.text) t h')->AO v.au v.num (bs v.text) s h K Kp
theorem aqy(IH:∀x∈v.items,VY x):VY v:=by
 intro D h s K Kp hv hw hk;have i':=hO v;have j':=GR v;have hn:=hv.n;refine aEu (aF λa1 h1 e1 g1 F _=>aF λa2 g e2 X k2 _=>?_);have F:=F.ai X;have G:=ak g1 X;simp only[bz,cF];refine aj F rfl (az7 (λl x V=>∃(i:Nat)(E:List Sl),x=i/\i<=v.items.length/\E.length=i/\az g V/\eW g.size 4 V l (List.zipWith aB.row (v.items.take i) E) dh/\
   ∀(j:Nat)(z:aB)(t:Sl),v.items[j]? =some z->E[j]? =some t->aO (λb=>g.size<=b/\¬l.at b) V t z.items)
  (λ_ x _=>v.items.length-x.toNat) ⟨0,[],rfl,eu _,rfl,cQ _,tL _ _ _ _,aA⟩ ?_)
 rintro l x J ⟨i,E,rfl,hi,k,C,A,hu⟩ N hN;have on:=A.n;rw[m7,m8]at on;have s3:=C.1;refine cE (λL=>?_) λL=>?_
 ·have c':i<v.items.length:=ag;have I:=bJ c';generalize v.items[i]=z at I;have m:=bT I;have g':=oB m;refine(dU hv (ak G C)).ix rfl I λa u cx hz=>gY cx (aF λa5 h4 e4 g4 T _=>mC T rfl λB P T=>fk T ?_);have W:=bI g4 P ag;have s5:=W.1;refine IH z m (dU hz W) ag λt h6 g6 R=>aF λk' Q e7 g7 a' _=>?_;have M:=ak W (ak g6 g7);have s7:=M.1;refine(A.ai M).ap ag rfl (new:=[z.row t]) rfl (λr H=>by simp at H;subst H;rfl) (λr H=>by simp at H;subst H;exact A5 z t) (by simpa[aB.row,uu]using iJ a' rfl) ag ag λs' h8 Y d' o8=>aX ag ag (hN _ _ _ ⟨i+1,E++[t],aA,ag,by simp[k],?_,?_,?_⟩ ag)
  ·exact(((bg (ak C M):Tn No g Q)).trans' Y λb hd b'=>by have:=((A.ai M).at hd).1;omega).ai
  ·rw[PR I k];exact o8
  ·intro j e w U y;have O:∀b,s'.at b->b<Q.size->l.at b:=λb q f=>(d' b q).resolve_right ag;rcases zn k y with⟨b',y⟩|⟨rfl,rfl⟩
   ·exact aO.fr Y (λb f _=>f.1.2) (λb f=>⟨f.1.1,λq=>f.1.2 (O b q ag)⟩) _ (dU (aO.lt _ (hu j e w U y)) M)
   ·rw[I]at U;cases U;have ax:∀b,l.at b->g.size<=b/\b<J.size:=λb f=>A.at f;refine aO.fr Y (λb(f:B.size<=b/\_)_ q=>by have:=ax b q;omega) (λb(f:B.size<=b/\b<Q.size)=>⟨ag,λq=>?_⟩) _ (aO.lt _ (dU R g7))
    have:=ax b (O b q f.2);omega
 ·have:i=v.items.length:=ag;subst this;rw[m5]at A;have R:=aO.snoc A k (λb f=>f) λj d p h1 g=>sD (hu j d p h1 g) λb f=>f.1;simp only[bz,cF];refine dI (F.ai C) aA rfl λh4 S o=>?_;have o:aN h4 a1 #[.bool v.au,ah v.num,.string (bs v.text),Sl.v l] dh:=by simpa using o
  refine fk o (mC (S.aZ (k2.ai C) ag) rfl λB P Z=>fk Z (hk l B (bI (bI (ak G C) S ag) P ag) ?_));have t5:Tn (λc=>c=a1\/c=a2) J B:=(S.fr.mono λc q _=>.inl q).trans (P.fr.mono λc q _=>.inr q);exact aO.fr t5 (λc(q:g.size<=c)_ z=>ag) (λc(q:g.size<=c)=>by show h.size<=c;omega) _ R
theorem JM:∀v:aB,VY v
 |.mk a b c items=>aqy (v:=.mk a b c items) λx(_:x∈items)=>JM x
section
variable {c:aq} {KM:List cO} {M:cO} {T:aQ} {h0 h':Hp} {r':Raw} {vs:aR} {m:fT} {g:dP} {x:aB}
theorem bW.J7(G:bW f KM T h r m g)(KF:∀(j:Nat)M,KM[j]? =some M->gG M)(t:Tn (λc=>c=g.b\/g.X c) h h')
  (H:aN h' g.b (cj f g.sf g.sn g.sb r.b.rows r.b.cz r.b.bF (iK f.k g.SS g.kv g.ks sp')).toArray (iU f.k)) (a:r'.b.rows=r.b.rows/\r'.b.cz=r.b.cz/\r'.b.bits=r.b.bits/\r'.b.bF=r.b.bF) (e1:cC f.k r'.b=cC f.k r.b) (e0:r'.kids=r.kids)
  (C:iO f.k (Tr g.X h h') h' sp' r'.b) (L:∀d,m=some d->eN f.k r.b d.r.b->eN f.k r'.b d.r.b) (oa:f.k=20->Tn (λc=>c=g.b) h h'):bW f KM (Tr T h h') h' r' m {g with sp:=sp',X:=Tr g.X h h'}:=by
 have K:∀c,(c=g.b\/g.X c)->c<h.size->c=g.b\/g.X c:=λc q _=>q;have av:∀{j:Nat}{B:aQ},g.Ls[j]? =some B->2≠j->∀c,B c->c<h.size->¬(c=g.b\/g.X c):=λI ne=>G.av g.iR K I ne;have n:=av g.fM ag;refine⟨G.t.step 2 t.1,⟨dG,by rw[a.2.2.1];exact G.B.o.fr t (av g.gC ag),G.B.nT,by rw[a.2.2.1,a.1];exact G.B.len,by rw[a.2.1,a.1];exact G.B.nl,by rw[a.1];exact G.B.rl⟩,by rw[e1];exact G.ls,λi s A x u l v=>(G.sl i s A x u l (e1▸v)).fr t (av (g.iw l) ag),by rw[e0];exact G.lk,λj M A w u l v=>?_,
  aO.fr t n (λ_ z=>z) _ G.no,λz=>(G.kl z).fr t n λ_ z=>z,C,λd e=>?_⟩
 ·have:=KF j M u (G.aM j M A w u l v) t (av (g.fF l) ag);unfold Raw.aM at this ⊢;grind
 ·obtain⟨⟨S,y,R,Q,P,O,N⟩,F,ks,sp⟩:=G.mm d e;exact⟨⟨S,y,R.fr t n (av g.gC ag),Q,λz=>(P z).fr t n,O,λz=>by obtain⟨p,e,mc⟩:=N z;exact⟨p,e,mc.fr t n⟩⟩,L d e F,ks,λz=>((sp z).fr (oa z) λc J hl e=>G.t.kX g.iR (e▸J)).mono λc q=>.inl q⟩
theorem fj.J7(KF:∀(j:Nat)M,KM[j]? =some M->gG M)(S:fj f KM T h0 h r m g E)(t:Tn (λc=>c=g.b\/g.X c) h h')
  (e:aN h' g.b (cj f g.sf g.sn g.sb r.b.rows r.b.cz r.b.bF (iK f.k g.SS g.kv g.ks sp')).toArray (iU f.k)) (o:r'.b.rows=r.b.rows/\r'.b.cz=r.b.cz/\r'.b.bits=r.b.bits/\r'.b.bF=r.b.bF) (e1:cC f.k r'.b=cC f.k r.b) (e0:r'.kids=r.kids)
  (d:iO f.k (Tr g.X h h') h' sp' r'.b) (p:∀a,m=some a->eN f.k r.b a.r.b->eN f.k r'.b a.r.b) (oa:f.k=20->Tn (λc=>c=g.b) h h'):fj f KM T h0 h' r' m {g with sp:=sp',X:=Tr g.X h h'} E/\Tn (λc=>¬E c) h h':=by
 exact S.next (S.G.J7 KF t e o e1 e0 d p oa) t (λc q _ z=>q.elim z.1 (z.2 2 _ g.iR bw)) λc l z=>z.set rfl rfl g.iR l
theorem bW.J8(G:bW f KM T h r m g)(KF:∀(j:Nat)M,KM[j]? =some M->gG M)(u:g.ST[i]? =some A)(C:g.SS[i]? =some s)(t:Tn A h h')(os:Os A h' s x'.1 x'.2)
  (a:r'.b.rows=r.b.rows/\r'.b.cz=r.b.cz/\r'.b.bits=r.b.bits/\r'.b.bF=r.b.bF) (e1:cC f.k r'.b=(cC f.k r.b).set i x') (e0:r'.kids=r.kids) (J:r'.b.aH=r.b.aH) (I:∀p,m=some p->eN f.k r.b p.r.b->eN f.k r'.b p.r.b):bW f KM T h' r' m g:=by
 have K:=(de.1 u).1;have H:∀c,A c->c<h.size->c=g.b\/A c:=λc q _=>.inr q;have v:=g.iw u;have nb:=G.t.kX v;have av:∀{j:Nat}{B:aQ},g.Ls[j]? =some B->3+i≠j->∀c,B c->c<h.size->¬A c:=λF ne=>G.av v H F ne;refine⟨G.t.grow t.1,⟨by rw[a.1,a.2.1,a.2.2.2];exact t.aZ G.B.k nb,by rw[a.2.2.1];exact G.B.o.fr t (av g.gC ag),G.B.nT,by rw[a.2.2.1,a.1];exact G.B.len,by rw[a.2.1,a.1];exact G.B.nl,by rw[a.1];exact G.B.rl⟩,?_,λj y B x n l d=>?_,by rw[e0];exact G.lk,λj M B w n l d=>?_,
  aO.fr t (av g.fM ag) (λ_ z=>z) _ G.no,λz=>(G.kl z).fr t (av g.fM ag) λ_ z=>z,(G.sp.fr t (av g.iR ag)).eq J,λp e=>?_⟩
 ·simp only[Ay,e1];exact G.ls
 ·rw[e1,vh]at d
  by_cases e:i=j
  ·grind
  ·rw[aC e]at d;exact(G.sl j y B x n l d).fr t (av (g.iw l) ag)
 ·have:=KF j M n (G.aM j M B w n l d) t (av (g.fF l) ag);unfold Raw.aM at this ⊢;grind
 ·have M:=(G.mm p e).fr t (av g.fM ag) (av g.gC ag) (av g.iR ag);exact⟨M.c,I p e M.pr,M.ks,M.sp⟩
theorem fj.J8(KF:∀(j:Nat)M,KM[j]? =some M->gG M)(S:fj f KM T h0 h r m g E)(d:g.ST[i]? =some A)(l:g.SS[i]? =some s)(t:Tn A h h')(os:Os A h' s x'.1 x'.2)
  (p:r'.b.rows=r.b.rows/\r'.b.cz=r.b.cz/\r'.b.bits=r.b.bits/\r'.b.bF=r.b.bF) (e1:cC f.k r'.b=(cC f.k r.b).set i x') (e0:r'.kids=r.kids) (v:r'.b.aH=r.b.aH) (u:∀a,m=some a->eN f.k r.b a.r.b->eN f.k r'.b a.r.b):fj f KM T h0 h' r' m g E/\Tn (λc=>¬E c) h h':=by
 have e:=S.G.J8 KF d l t os p e1 e0 v u;exact S.next (e.mono (λc q=>.inl q) λc q=>q.elim (λq=>e.t.lt c q) λq=>q.2) t (λc q _ z=>z.2 (3+i) A (g.iw d) ag q) λc _ o=>o
theorem bW.Uj(G:bW f [M] T h r m g)(l:f.k=19\/f.k=20)(hl:g.SS.length=1):Cs h ⟨g.b,18,none⟩ g.sp:=by
 intro i v j;rw[bz,ia G.B.k,pO];have e:∀d,cj f g.sf g.sn g.sb r.b.rows r.b.cz r.b.bF d=cj f g.sf g.sn g.sb r.b.rows r.b.cz r.b.bF []++d:=λ_=>rfl;rw[e,fU (by show 16<=_;omega)]
 show _[18+i-16]? =_
 rw[fU cy,cr,hl];unfold nW;have a:=G.lk.1;grind
theorem bW.aab{K:HP}{H:Hp}{V U y u o n b2 j:Value}(G:bW f [M] T h r m g)(L:f.k=19\/f.k=20)(hl:g.SS.length=1)(q:g.sp=[V,U,y,u])(F:∀v∈[o,n,b2,j],one v=true)
  (k:aN H g.b (cj f g.sf g.sn g.sb r.b.rows r.b.cz r.b.bF (iK f.k g.SS g.kv g.ks g.sp)).toArray (iU f.k)) (I:∀h',eJ g.b H h'->aN h' g.b (cj f g.sf g.sn g.sb r.b.rows r.b.cz r.b.bF (iK f.k g.SS g.kv g.ks [o,n,b2,j])).toArray (iU f.k)->K h'):iZ H ⟨g.b,18,none⟩ 0 [o,n,b2,j] K:=by
 obtain⟨d,p⟩:∃d,g.SS=[d]:=by
  match J:g.SS,hl with
  |[a],_=>simp
 obtain⟨w,C⟩:∃w,g.kv=[w]:=by
  match J:g.kv,G.lk.1 with
  |[a],_=>simp
 have t:∀sp,iK f.k g.SS g.kv g.ks sp=Sl.v d::w::sp:=λsp=>by unfold iK nW;simp[*]
 rw[t,q]at k;refine wP _ k (by simp[cj]) F λh' cs B A O z=>I h' B ?_
 rw[t];have:cs=(cj f g.sf g.sn g.sb r.b.rows r.b.cz r.b.bF (Sl.v d::w::[o,n,b2,j])).toArray:=by
  apply wH;intro i;rw[z i,pO,pO];have e:∀x,cj f g.sf g.sn g.sb r.b.rows r.b.cz r.b.bF (Sl.v d::w::x)=cj f g.sf g.sn g.sb r.b.rows r.b.cz r.b.bF [Sl.v d,w]++x:=λ_=>rfl;rw[e [V,U,y,u],e [o,n,b2,j]];have l:(cj f g.sf g.sn g.sb r.b.rows r.b.cz r.b.bF [Sl.v d,w]).length=18:=rfl
  by_cases P:i<18
  ·grind
  ·grind
 grind
end
section
variable {c:aq} {KM:List cO} {M:cO} {T:aQ} {h0 h':Hp} {r':Raw} {vs:aR} {m:fT} {g:dP} {x:aB} {K:cK}
open Classical in
theorem amk(Tq:f.k=20)(vY:f.cs=[c])(r:Raw)(v:aB):f.tk r v=cW (eU false r) λr1=>if r1.b.aH.getLast? =some v then fE v.bx (r1.up λb=>{b with ends:=b.ends.dropLast++[b.rows]})
  else cW (dm 0 (λq=>c.tk q v) r1) λr2=>fE v.bx (r2.up λb=>{b with ends:=b.ends++[b.rows],aH:=b.aH++[v]}):=by
 rw[kG];unfold iI;simp[*]
theorem adL(b:f.k=19\/f.k=20)(d:f.cs=[c])(a:f.fit x=true)(e:x.au=false):c.fit x=true:=by
 rw[eM]at a;simp_all[fG,dw]
theorem adI(i:bB f)(b:f.k=20)(d:f.cs=[c])(a:f.fit x=true):c.fit x=true:=by
  cases e:x.au with
  |false=>exact adL (.inr b) d a e
  | true=>
    rw[eM]at a;unfold fG at a;simp only[dw]at a;have q:=a.2;rw[aK e]at q;simp only[dw,dR]at q;have el:f.lets=c.lets:=by rw[ym];unfold ny;rw[d,aK ⟨b,rfl⟩];rfl
    rw[eM];unfold fG;grind
theorem ZR(ff:bB f)(j:f.k=20)(k':f.cs=[c])(C:MC c M)(PC:jr c)(hc:f.can vs)(TB:f.fit x=true)(hw:x.bx<=4194304)(G:bW f [M] T h (f.st vs) m g)(hv:aO D h s x.items)(hD:∀c,D c->c<h.size->Out g c)
  (H:∀h',Tn T h h'->cV f [M] (Tr T h h') h' (.iface (bK f.k) (bH g.b)) (f.tk (f.st vs) x).2 m->K (f.tk (f.st vs) x).1 h'):Ot (bC g.b) x.au x.num (bs x.text) s h K Kp:=by
 have KF:=nE C;have ed:bK f.k=pT:=by unfold bK;rw[ay,ay,ay,ay,ay,ay,ay,aK j]
 rw[ed]at H;rw[amk j k']at H;have P:∀W:Rb,cC f.k W=[(ints W.ends,Y6)]:=λW=>by unfold cC;rw[ay,dV]
 have ep:∀a b:Rb,eN f.k a b↔b.ends.length<=a.ends.length/\b.ends.dropLast <+: a.ends/\b.ends.length<=4096:=λa b=>by unfold eN;rw[ay,ay,ay,ay,ay,aK j]
 have eS:∀X h sp(W:Rb),iO f.k X h sp W↔∃t,sp=[.bool (lE W).au,ah (lE W).num,.string _,Sl.v t]/\aO X h t (lE W).items:=λX h sp W=>by unfold iO;rw[ay,aK j]
 obtain⟨O,p⟩:=rV G.ls (P _);obtain⟨A,w,hA,f',hkv⟩:=tj G rfl;obtain⟨A0,v'⟩:∃A,g.ST[0]? =some A:=⟨_,bJ (by rw[G.ls.2,P];exact Nat.one_pos)⟩
 have s':f.cs[0]? =some c:=by rw[k'];rfl
 have ev:(f.st vs).b.aH=(cR vs).1:=by rw[fI];simp only[aL];rw[ay,aK j]
 have ee:(f.st vs).b.ends=(cR vs).2:=by rw[fI];simp only[aL];rw[ay,ay,ay,ay,aK j]
 have I:(f.st vs).b.aH.length=(f.st vs).b.ends.length:=by rw[ev,ee];exact(Bf _ vs rfl).2
 have U:(f.st vs).aM 0=c.st (f.st vs).b.aH:=by rw[mY s' vs,ev,j,Er]
 have c':c.can (f.st vs).b.aH:=by have:=fC s' hc;rw[j,Er,<-ev]at this;exact this
 have hkn:=((gj c _).1 c').n4;have hh:=(iM hc).1;generalize hrv:f.st vs=J at G H I U c' hkn hh;refine aEo (aF λa h1 ea g1 F _=>?_);refine bO ?_;have S1:=(fj.of (E:=λc=>D c/\c<h.size) G λc q=>⟨q.2,hD c q.1 q.2⟩).ai KF g1;generalize hE:(λc=>(D c/\c<h.size)\/(h.size<=c/\c<h1.size))=E at S1;have E1:E a:=by rw[<-hE];exact .inr ⟨ag,F.lt⟩
 have u':∀c,D c/\c<h.size->E c:=λc q=>by rw[<-hE];exact .inl q
 have uM:=dU (aO.lt _ hv) g1;have Q:∀{ha hb:Hp},Tn (λc=>¬E c) ha hb->aO _ ha s x.items->aO _ hb s x.items:=λt v=>aO.fr t (λc q _ z=>z (u' c q)) (λ_ z=>z) _ v;refine S1.row KF rfl (λq=>bS rfl ?_) λq qO A' h2 t2 S2=>bu rfl ?_
 ·rw[rZ q]at H;exact H h1 S1.t ⟨g,by rw[ed],S1.G⟩
 rw[rY q]at H;have F:=lJ t2 F E1;have i':=Q t2 uM;generalize hr1:J.up _=d at H S2;have L:d.b.aH=J.b.aH/\d.b.ends=J.b.ends/\d.b.bF=J.b.bF/\d.aM 0=J.aM 0/\d.b.rows=J.b.rows+1:=by rw[<-hr1];exact⟨rfl,rfl,rfl,rfl,rfl⟩
 have n0:O.n=J.b.ends.length:=by have:=S2.G.oI (i:=0) (s:=O) (by simp[p]) (by rw[P];rfl);rw[this,ints,cr,L.2.1]
 have m':d.b.aH.length=d.b.ends.length:=by rw[L.1,L.2.1];exact I
 -- another value than the last
 have V:∀{h3:Hp},az h2 h3->d.b.aH.getLast? ≠some x->WI K Kp (bC g.b) (aJ a) h3:=by
  intro h3 g3 j';rw[aC j']at H;have Z:=S2.ai KF g3;have F:=F.ai g3;have a':=dU i' g3;have R:=Z.G.aM 0 M A w rfl hA f';rw[L.2.2.2.1,U]at R;apply aBv;refine bO ?_;obtain⟨kk,bb,rfl⟩:=C.na R;refine Z.G.lW (i:=1) rfl (.inr (.inr (.inr j))) (by simp[p]) f' (fk F ?_)
  have hgo:dm 0 (λq=>c.tk q x) d=((c.tk (c.st J.b.aH) x).1,d.fo 0 (c.tk (c.st J.b.aH) x).2):=by unfold dm;rw[L.2.2.2.1,U]
  rw[hgo]at H;refine C.take c' (adI ff j k' TB) hw R a' (λY q z=>(Z.e Y (.inl (u' Y q))).2.2 _ A (dP.fF _ hA) ag z) λh4 t4 M4=>?_;obtain⟨S4,e'⟩:=Z.aM KF hA t4 λM' w' q1 q2=>by
   simp at q1;subst q1;have q2:=q2;rw[f']at q2;cases q2;exact M4
  have N:=e'.mono λc q _ z=>q (.inl z);refine cE (λc2=>?_) λc2=>?_
  ·unfold cW at H;rw[aC c2]at H;exact H h4 S4.t ⟨_,by rw[ed],S4.G⟩
  unfold cW at H;rw[aK c2]at H;have F:=lJ N F E1;have q':=S4.G.B.k;refine S4.G.dH (i:=0) (s:=O) rfl (by simp[p]) (wA q' (aF λa5 h5 e5 g5 k5 _=>bQ q' g5 ?_))
  have S5:=S4.ai KF g5;refine S5.app (i:=0) (x:=(ints d.b.ends,Y6)) (x':=(ints (d.b.ends++[d.b.rows]),Y6)) (r':=(d.fo 0 (c.tk (c.st J.b.aH) x).2).up λb=>{b with ends:=b.ends++[b.rows]}) (news:=[ah (d.b.rows:Int)]) KF rfl (by simp[p]) (by rw[P];rfl) rfl ?_ rfl (iJ k5 rfl) ag ag (by simp[ints])
   ⟨rfl,rfl,rfl,rfl⟩ (by rw[P,P];rfl) rfl rfl (λmm _ q=>?_) λs0' A0' h6 t6 S6=>?_
  ·intro v hv;simp only[ng]at hv;subst hv;rfl
  ·rw[ep]at q ⊢;exact⟨jE q.1 (by show _<=(d.b.ends++[d.b.rows]).length;rw[iA];exact Nat.le_add_right _ _),q.2.1.trans (tM _ _),q.2.2⟩
  have d':Tn (λc=>¬E c) h5 h6:=t6.mono λc q _ z=>q (.inl (.inl z));have F:=lJ d' (F.ai g5) E1;have g':=Q d' (dU (Q N a') g5);refine aBu (fk F (JM x g' ag λt h7 g7 vt=>?_));refine bO ?_;have S7:=S6.ai KF g7;have F:=F.ai g7;have hv7:=dU g' g7;have sp7:=(eS _ _ _ _).1 S6.G.sp;obtain⟨t0,l',_⟩:=sp7;refine yp (S7.G.aab (.inr j) (by simp[p]) l' (by simp[one,Sl.v]) S7.G.B.k λh8 o8 k8=>?_)
  have s7:=g7.1;have hgl:g.b<h6.size:=S6.G.t.lt _ S6.G.t.tb;have o':Tn (λc=>c=g.b) h6 h8:=(bg g7:Tn _ h6 h7).trans o8.fr;have S68:=S6.J7 (r':=(d.fo 0 (c.tk (c.st J.b.aH) x).2).up λb=>{b with ends:=b.ends++[b.rows],aH:=b.aH++[x]}) KF (o'.mono λc q _=>.inl q) k8 ⟨rfl,rfl,rfl,rfl⟩ (by rw[P,P];rfl) rfl ((eS _ _ _ _).2 ?_) (λmm _ q=>?_) λ_=>o'
  rotate_left
  ·have el:lE ((d.fo 0 (c.tk (c.st J.b.aH) x).2).up λb=>{b with ends:=b.ends++[b.rows],aH:=b.aH++[x]}).b=x:=by
    show((d.b.aH++[x]).getLast?).getD A6=x
    simp
   rw[el];refine⟨t,rfl,aO.fr o8.fr (λc(q:h6.size<=c/\c<h7.size)_(e:c=g.b)=>ag) (λc q=>.inr ⟨q.1,by have:=o8.1;omega⟩) _ (sD (aO.lt _ vt) λc q=>⟨q.1,q.2⟩)⟩
  ·rw[ep]at q ⊢;exact q
  obtain⟨S8,t8⟩:=S68;have n':Tn (λc=>¬E c) h6 h8:=t8.mono λc q _ z=>q (.inl (.inl z));exact fk (lJ n' (lJ d' ((lJ N ‹aN h3 a _ _› E1).ai g5) E1) E1) (JL x (Q n' g') ag λh9 g9=>(S8.ai KF g9).ql KF rfl (n:=x.bx) rfl (by show d.b.bF+x.bx<2^62;rw[L.2.2.1];omega) λsr t10 z'=>H sr z'.t ⟨_,by rw[ed],z'.G⟩)
 refine S2.G.dH (i:=0) (s:=O) rfl (by simp[p]) (cE (λY=>?_) λY=>?_)
 ·obtain⟨t0,l',GY⟩:=(eS _ _ _ _).1 S2.G.sp;have y':=S2.G.Uj (.inr j) (by simp[p])
  rw[l']at y';have j':d.b.aH≠[]:=λe=>by rw[L.1]at e;rw[e]at I;simp at I;omega
  have u:d.b.aH.getLast? =some (lE d.b):=by
   unfold lE;rw[U6 j'];rfl
  have hlw:(lE d.b).bx<=4194304:=by
   have hm:=List.mem_of_getLast? u;rw[L.1]at hm;have h1:=oB hm;have h2:=(iM c');omega
  refine gY y' (fk F (P8 (lE d.b) GY i' ag λb h3 g3 hb=>ah2 (aG (λcb=>?_) λcb=>V g3 λe=>?_)))
  ·have hx:lE d.b=x:=hb.1 cb;rw[hx]at u;rw[aK u]at H;have Z:=S2.ai KF g3;have F:=F.ai g3;have a':=dU i' g3;refine bO ?_;refine Z.G.dH (i:=0) (s:=O) rfl (by simp[p]) (Z.G.dH (i:=0) (s:=O) rfl (by simp[p]) (aX ag ag (wA Z.G.B.k ?_)))
   have os:=Z.G.sl 0 O A0 (ints d.b.ends,Y6) (by simp[p]) v' (by rw[P];rfl)
   obtain⟨bb,t'⟩:∃bb,O.a=some (aJ bb):=by
    rcases os with⟨e,_⟩|⟨bb,_,o⟩
    ·rw[e]at Y;simp[Sl.nil]at Y
    ·exact⟨bb,o.1⟩
   unfold Ix;rw[t'];refine⟨ag,ag,?_⟩
   rw[bz];refine os.J9 ag ⟨bb,t',by congr 1;omega⟩ rfl λh4 t4 p' _=>?_
   have e4:(ints d.b.ends).set (O.n-1) (ah (d.b.rows:Int))=ints (d.b.ends.dropLast++[d.b.rows]):=by
    have S:d.b.ends≠[]:=λe=>by rw[<-L.2.1,e]at n0;simp at n0;omega
    obtain⟨l,y,b'⟩:∃l y,d.b.ends=l++[y]:=⟨_,_,(At S).symm⟩;have hn:O.n-1=l.length:=by rw[n0,<-L.2.1,b'];simp
    rw[hn,b'];simp[ints]
   rw[e4]at p';obtain⟨S4,e'⟩:=Z.J8 (r':=d.up λb=>{b with ends:=b.ends.dropLast++[b.rows]}) KF v' (by simp[p]) t4 (x':=(ints (d.b.ends.dropLast++[d.b.rows]),Y6)) p' ⟨rfl,rfl,rfl,rfl⟩ (by rw[P,P];rfl) rfl rfl λmm _ q=>by
    rw[ep]at q ⊢;have S:d.b.ends≠[]:=λe=>by rw[<-L.2.1,e]at n0;simp at n0;omega
    obtain⟨l,y,b'⟩:∃l y,d.b.ends=l++[y]:=⟨_,_,(At S).symm⟩
    show mm.r.b.ends.length<=(d.b.ends.dropLast++[d.b.rows]).length/\mm.r.b.ends.dropLast <+: d.b.ends.dropLast++[d.b.rows]/\mm.r.b.ends.length<=4096
    rw[b']at q ⊢;rw[List.dropLast_concat];refine⟨by simp at q ⊢;omega,?_,q.2.2⟩
    have hq2:mm.r.b.ends.dropLast.length<=l.length:=by have:=q.1;simp at this ⊢;omega
    exact(afN q.2.1 (tM l [y]) hq2).trans (tM _ _)
   have N:Tn (λc=>¬E c) h3 h4:=e'.mono λc q _ z=>q (.inl z);refine fk (lJ N F E1) (JL x (Q N a') ag λh5 g5=>?_);have S5:=S4.ai KF g5;exact S5.ql KF rfl (n:=x.bx) rfl (by show d.b.bF+x.bx<2^62;rw[L.2.2.1];omega) λh6 t6 S6=>H h6 S6.t ⟨_,by rw[ed],S6.G⟩
  ·rw[u]at e;rw[hb.2 (uW e)]at cb;cases cb
 ·refine ah2 (bu rfl (V (cQ _) λe=>?_));have:d.b.aH=[]:=jB.1 (by rw[m',L.2.1];omega)
  rw[this]at e;simp at e
theorem akw(e:¬f.small=true)(j:f.k=20)(a:f.cs=[c])(r:Raw):f.zk r=cW (eU false r) λd=>cW (dm 0 c.zk d) λb=>(3,b):=by
 rw[sC];unfold nQ;simp[*]
theorem akF(u:bB f)(n:f.k=20)(o:f.cs=[c])(C:MC c M)(W:jr c)(P:f.can vs)(G:bW f [M] T h (f.st vs) m g)
  (a:∀h',Tn T h h'->cV f [M] (Tr T h h') h' (.iface (bK f.k) (bH g.b)) (f.zk (f.st vs)).2 m->K (f.zk (f.st vs)).1 h'):XK (bC g.b) h K Kp:=by
 apply aEn;refine bO ?_;refine aj G.B.k (by simp[cj];rfl) ?_
 by_cases p:f.small=true
 ·rw[vA (.inl p)]at a;obtain⟨_,R,h3,H⟩:=sS u p;exact bS p (gY G.uR (ZR u n o C W P R ag G G.no (λc q _=>G.DK q) a))
 rw[akw p n o]at a;apply bu (by simpa using p)
 have KF:=nE C;have V:∀F:Rb,cC f.k F=[(ints F.ends,Y6)]:=λF=>by simp_all[cC,aC]
 obtain⟨s0,L⟩:=rV G.ls (V _);obtain⟨A,w,Q,l,Z⟩:=tj G rfl;have v:f.cs[0]? =some c:=by rw[o];rfl
 have e:=mY v vs;have J:=fj.of (E:=λ_=>False) G λ_ q=>q.elim;refine J.row KF rfl (λq=>bS rfl ?_) λq Y A' R t2 I=>bu rfl ?_
 ·rw[rZ q]at a;exact a h J.t ⟨g,rfl,J.G⟩
 rw[rY q]at a;have d:=I.G.aM 0 M A w rfl Q l;rw[ji,e]at d;have N:dm 0 c.zk ((f.st vs).up (Rb.row false))=((c.zk (c.st (dK f.k f.w (dJ f.cs) 0 vs))).1,((f.st vs).up (Rb.row false)).fo 0 (c.zk (c.st (dK f.k f.w (dJ f.cs) 0 vs))).2):=by unfold dm;rw[ji,e]
 rw[N]at a;refine I.G.lW (i:=1) rfl (.inr (.inr (.inr n))) (by simp[L]) l (C.zero (fC v P) d λH U X=>?_)
 obtain⟨z,_⟩:=I.aM KF Q U λM' S O y=>by
  simp at O;subst O;have y:=y;rw[l]at y;cases y;exact X
 refine cE (λj=>?_) λj=>?_
 ·unfold cW at a;rw[aC j]at a;exact a H z.t ⟨_,by rfl,z.G⟩
 ·unfold cW at a;rw[aK j]at a;exact a H z.t ⟨_,by rfl,z.G⟩
end
theorem ax1{c0 p q d b a:Addr}{K:HP}(H:ajy c0 p q d b a h K Kp):cZ aE (.func (.func 241) #[] #[c9 c0,c9 p,c9 q,c9 d,c9 b,c9 a]) [] h (λr e=>r=.tuple #[]/\K e) Kp:=by
 unfold cZ;exact cast aW H
section
variable {c:aq} {KM:List cO} {M:cO} {T R:aQ} {h0 h':Hp} {r':Raw} {vs:aR} {m:fT} {mm:Mem} {g:dP} {caps:bq}
theorem arI{p o n l k:Array Value}(mc:AI R h caps [Z,p,o,n,l,k]):∃j i e d b a C B A t s q,caps=[bH j,bH i,bH e,bH d,bH b,bH a]/\
    (R j/\aN h j Z C)/\(R i/\aN h i p B)/\(R e/\aN h e o A)/\(R d/\aN h d n t)/\(R b/\aN h b l s)/\(R a/\aN h a k q):=by
  obtain⟨j,C,e0,P⟩:=mc.2 0 Z rfl;obtain⟨i,B,e1,O⟩:=mc.2 1 p rfl;obtain⟨e,A,I,N⟩:=mc.2 2 o rfl;obtain⟨d,t,H,L⟩:=mc.2 3 n rfl;obtain⟨b,s,G,K⟩:=mc.2 4 l rfl;obtain⟨a,q,F,J⟩:=mc.2 5 k rfl
  match caps,mc.1 with
  | [u,v,w,z,y,x],_=>
    simp at e0 e1 I H G F;grind
theorem bW.spB(G:bW f KM T h r m g)(KF:∀(j:Nat)M,KM[j]? =some M->gG M)(t:Tn (λc=>c=g.b\/g.X c) h h')
  (C:aN h' g.b (cj f g.sf g.sn g.sb r.b.rows r.b.cz r.b.bF (iK f.k g.SS g.kv g.ks sp')).toArray (iU f.k)) (a:r'.b.rows=r.b.rows/\r'.b.cz=r.b.cz/\r'.b.bits=r.b.bits/\r'.b.bF=r.b.bF) (e1:cC f.k r'.b=cC f.k r.b) (e0:r'.kids=r.kids)
  (v:iO f.k g.X h' sp' r'.b) (J:∀mm,m=some mm->eN f.k r.b mm.r.b->eN f.k r'.b mm.r.b) (oa:f.k=20->Tn (λc=>c=g.b) h h'):bW f KM T h' r' m {g with sp:=sp'}:=by
 have I:∀c,(c=g.b\/g.X c)->c<h.size->c=g.b\/g.X c:=λc q _=>q;have av:∀{j:Nat}{B:aQ},g.Ls[j]? =some B->2≠j->∀c,B c->c<h.size->¬(c=g.b\/g.X c):=λF ne=>G.av g.iR I F ne;have l:=av g.fM ag;refine⟨G.t.grow t.1,⟨dG,by rw[a.2.2.1];exact G.B.o.fr t (av g.gC ag),G.B.nT,by rw[a.2.2.1,a.1];exact G.B.len,by rw[a.2.1,a.1];exact G.B.nl,by rw[a.1];exact G.B.rl⟩,by rw[e1];exact G.ls,λi s A x n d p=>(G.sl i s A x n d (e1▸p)).fr t (av (g.iw d) ag),by rw[e0];exact G.lk,λj M A w n d p=>?_,
  aO.fr t l (λ_ z=>z) _ G.no,λz=>(G.kl z).fr t l λ_ z=>z,v,λmm e=>?_⟩
 ·have:=KF j M n (G.aM j M A w n d p) t (av (g.fF d) ag);unfold Raw.aM at this ⊢;grind
 ·obtain⟨⟨Q,u,P,O,N,L,K⟩,y,ks,sp⟩:=G.mm mm e;exact⟨⟨Q,u,P.fr t l (av g.gC ag),O,λz=>(N z).fr t l,L,λz=>by obtain⟨caps,e,mc⟩:=K z;exact⟨caps,e,mc.fr t l⟩⟩,J mm e y,ks,λz=>(sp z).fr (oa z) λc H hl e=>G.t.kX g.iR (e▸H)⟩
theorem ayJ{K:HP}(x:f.k=20)(z':f.cs=[c])(C:MC c M)(G:bW f [M] T h r (some mm) g)(hk:∀h',Tn T h h'->cV f [M] T h' (.iface (bK f.k) (bH g.b)) mm.r (some mm)->K h'):cZ aE mm.F [] h (λr h1=>r=.tuple #[]/\K h1) Kp:=by
  have KF:=nE C;obtain⟨⟨F0,KF',bm,c1,c2,c3,c4⟩,pr,ks,d⟩:=G.mm mm rfl;obtain⟨caps,eF,mc⟩:=c4 ag;obtain⟨P,em,rfl⟩:=c1 ag;have q':jv f.k g.b F0 P.F mm=[#[F0],#[P.F],#[bH g.b],pI mm.r.b.ends.length,mm.sp.toArray,pI (mm.r.b.ends.getLastD 0)]:=by unfold jv;simp only;simp_all
  rw[q']at mc;obtain⟨a0,a1,a2,a3,a4,a5,t0,t1,t2,t3,t4,t5,ec,⟨r0,k0⟩,⟨r1,k1⟩,⟨r2,H⟩,⟨r3,J⟩,⟨r4,S⟩,⟨r5,Q⟩⟩:=arI mc;have t':gL f.k=241:=by unfold gL;rw[ay,ay,ay,ay,ay,ay,aK x]
  have I:∀O:Rb,cC f.k O=[(ints O.ends,Y6)]:=λO=>by simp_all[cC,aC]
  have ep:∀a b:Rb,eN f.k a b↔b.ends.length<=a.ends.length/\b.ends.dropLast <+: a.ends/\b.ends.length<=4096:=λa b=>by simp_all[eN,aC]
  have eS:∀X h sp(O:Rb),iO f.k X h sp O↔∃t,sp=[.bool (lE O).au,ah (lE O).num,.string _,Sl.v t]/\aO X h t (lE O).items:=λX h sp O=>by unfold iO;rw[ay,aK x]
  have d:=d x;rw[<-x]at d;rw[ep]at pr;obtain⟨s0,p⟩:=rV G.ls (I _);obtain⟨A0,L⟩:∃A0,g.ST=[A0]:=by
    have:=G.ls.2;rw[I]at this
    match hg:g.ST,this with
    |[a],_=>exact⟨a,rfl⟩
  obtain⟨A,w,hA,hw,y'⟩:=tj G rfl;rw[eF,ec,t'];have hS:∀c,(c=g.b\/g.T0 c)->c<h.size->c=g.b\/g.T0 c:=λc q _=>q;have N:=G.av g.gC hS g.fM ag;have nA:∀c,g.R c->¬A c:=λc q=>G.t.ne g.fM (g.fF hA) ag c q;have nR:∀{c:Nat},g.R c->c≠g.b:=λq e=>G.t.kX g.fM (e▸q);have nX:=G.av g.gC hS g.iR ag;have j':∀c,g.X c->¬A c:=λc q=>G.t.ne g.iR (g.fF hA) ag c q;have d':∀c,g.X c->c≠g.b:=λc q e=>G.t.kX g.iR (e▸q);refine ax1 (aEm (aj k0 rfl ?_))
  show cZ aE F0 [] h _ _
  refine x9 G KF bm λh1 u1 G1=>?_;have k1:=u1.aZ k1 (N _ r1 k1.lt);have H:=u1.aZ H (N _ r2 H.lt);have J:=u1.aZ J (N _ r3 J.lt);have S:=u1.aZ S (N _ r4 S.lt);have Q:=u1.aZ Q (N _ r5 Q.lt);have d:=d.fr u1 nX;have W:=G1.aM 0 M A w rfl hA hw;have e0:((some mm).bind λmm=>mm.ks[0]?)=some P:=by show mm.ks[0]? =some P;rw[em];rfl
  rw[e0]at W;apply aj k1 rfl
  show cZ aE P.F [] h1 _ _
  refine C.back W λh2 u2 M2=>?_;have G2:=G1.GN KF hA u2 λM' w' q1 q2=>by
    simp at q1;subst q1;have q2:=q2;rw[hw]at q2;cases q2;rw[e0];exact M2
  have H:=u2.aZ H (nA _ r2);have J:=u2.aZ J (nA _ r3);have S:=u2.aZ S (nA _ r4);have Q:=u2.aZ Q (nA _ r5);have d:=d.fr u2 λc q _=>j' c q;have o0:=G2.sl 0 s0 A0 (ints r.b.ends,Y6) (by simp[p]) (by simp[L]) (by rw[I];rfl)
  have n0:=o0.n;have p1:=pr.2.2;simp only[ints,cr]at n0;refine aj H rfl (aj H rfl (aj H rfl ?_));refine bO ?_;obtain⟨t,g',v'⟩:=(eS _ _ _ _).1 d;rw[g']at S;refine G2.dH (i:=0) rfl (by simp[p]) (aj J rfl (o0.cut ag rfl λj u' c'=>fk S ?_))
  have p':(ints r.b.ends).take mm.r.b.ends.length=ints (r.b.ends.take mm.r.b.ends.length):=by unfold ints;rw[<-It]
  rw[p']at c';have a':(r.b.ends.take mm.r.b.ends.length).length=mm.r.b.ends.length:=by rw[m8];omega
  have U:mm.r.b.ends.dropLast <+: r.b.ends.take mm.r.b.ends.length:=afN pr.2.1 (List.take_prefix _ _) (by rw[a'];simp)
  refine G2.vH (i:=0) (s:=s0) (by simp[p]) G2.B.k λh3 Z m'=>?_
  have G3:=G2.w9 (x':=(ints (r.b.ends.take mm.r.b.ends.length),Y6)) (r':=((r.qN mm.r).fo 0 P.r).up λb=>{b with ends:=r.b.ends.take mm.r.b.ends.length}) KF (by simp[L]) c' Z m' ⟨rfl,rfl,rfl,rfl⟩ (by rw[I,I];rfl) rfl rfl λV e _=>by rw[ep];cases e;exact⟨by show _<=(r.b.ends.take mm.r.b.ends.length).length;omega,U,p1⟩
  have H:=Z.aZ H (nR r2);have J:=Z.aZ J (nR r3);have Q:=Z.aZ Q (nR r5);have d:=d.fr Z.fr λc q _ e=>d' c q e;refine mK S (Z.aZ S (nR r4)) (mK (by assumption) H ?_)
  obtain⟨t6,i',_⟩:=(eS _ _ _ _).1 G3.sp;refine yp (G3.aab (.inr x) (by simp[p]) i' (by simp[one,Sl.v]) G3.B.k λh4 Y l'=>?_)
  have d:=d.fr Y.fr λc q _ e=>d' c q e;rw[g']at d;have G4:=G3.spB (r':=((r.qN mm.r).fo 0 P.r).up λb=>{b with ends:=r.b.ends.take mm.r.b.ends.length,aH:=mm.r.b.aH}) KF (Y.fr.mono λc q _=>.inl q) l' ⟨rfl,rfl,rfl,rfl⟩ (by rw[I,I];rfl) rfl (d.eq rfl) (λV e q=>by rw[ep]at q ⊢;exact q) λ_=>Y.fr
  have H:=Y.aZ H (nR r2);have J:=Y.aZ J (nR r3);have Q:=Y.aZ Q (nR r5);have tf:=(((u1.mono λc q _=>q.elim (λe=>e▸G.t.tb) λq=>G.kA g.gC q).trans (u2.mono λc q _=>G.kA (g.fF hA) q)).trans (Z.fr.mono λc q _=>q▸G.t.tb)).trans (Y.fr.mono λc q _=>q▸G.t.tb);have eK:∀(r9:Raw),r9.kids=r.kids->(r9.fo 0 P.r).kids=mm.r.kids:=by
    intro r9 e9;rw[ks.1,em];obtain⟨b9,k'⟩:=r9;have hl:=G.lk.2.2;rw[<-e9]at hl
    match k',hl with
    |[y],_=>rfl
  refine aBt (aj J rfl (cE (λcc=>?_) λcc=>?_))
  · apply aj H rfl;refine bO ?_;refine G4.dH (i:=0) (s:=j) rfl (by simp[p]) (aj J rfl (aX ag ag (aj Q rfl ?_)))
    have os:=G4.sl 0 j A0 (ints (r.b.ends.take mm.r.b.ends.length),Y6) (by simp[p]) (by simp[L]) (by rw[I];rfl)
    have sn:=u';obtain⟨bb,f'⟩:∃bb,j.a=some (aJ bb):=by
      rcases os with⟨e,_⟩|⟨bb,_,o⟩
      ·rw[e]at sn;simp[Sl.nil]at sn;omega
      ·exact⟨bb,o.1⟩
    unfold Ix;rw[f'];refine⟨ag,ag,?_⟩
    rw[bz];refine os.J9 ag ⟨bb,f',by congr 1;omega⟩ rfl λh5 t5 b' _=>?_
    have o':mm.r.b.ends≠[]:=λe=>by rw[e]at cc;simp at cc
    have e4:(ints (r.b.ends.take mm.r.b.ends.length)).set (j.n-1) (ah ((mm.r.b.ends.getLastD 0:Nat):Int))=ints mm.r.b.ends:=by
      obtain⟨l,y,e'⟩:∃l y,mm.r.b.ends=l++[y]:=⟨_,_,(At o').symm⟩;rw[e']at U a' ⊢;rw[List.dropLast_concat]at U;obtain⟨z,hz⟩:=U;have n':z.length=1:=by have:=tQ List.length hz;rw[iA,a']at this;simp at this;exact this
      rw[<-hz]
      match z,n' with
      | [u],_=>
        have hn:j.n-1=l.length:=by rw[sn,e'];simp
        rw[hn];simp[ints]
    rw[e4]at b';have G5:=G4.J8 (r':=((r.qN mm.r).fo 0 P.r).up λb=>{b with ends:=mm.r.b.ends,aH:=mm.r.b.aH}) (i:=0) (s:=j) (A:=A0) (x':=(ints mm.r.b.ends,Y6)) KF (by simp[L]) (by simp[p]) t5 b' ⟨rfl,rfl,rfl,rfl⟩ (by rw[I,I];rfl) rfl rfl λV e _=>by rw[ep];cases e;exact⟨bX _,Mu _,p1⟩
    refine hk h5 (tf.trans (t5.mono λc q _=>G.kA (g.iw (i:=0) (by simp[L])) q)) ⟨_,by rfl,G5.conv (r':=mm.r) ⟨rfl,rfl,rfl,rfl⟩ (by rw[I,I];rfl) (eK _ rfl).symm (λ_=>rfl) λV e _=>by cases e;rw[ep];exact⟨bX _,Mu _,p1⟩⟩
  ·have he:mm.r.b.ends=[]:=jB.1 ag;refine hk h4 tf ⟨_,by rfl,G4.conv (r':=mm.r) ⟨rfl,rfl,rfl,rfl⟩ (by rw[I,I,he];rfl) (eK _ rfl).symm (λ_=>rfl) λV e _=>by cases e;rw[ep];exact⟨bX _,Mu _,p1⟩⟩
end
section
variable {c:aq} {M:cO} {T:aQ} {h0 h':Hp} {vs:aR} {m:fT} {g:dP} {w:Value}
abbrev LF(d:bG)(p:Sl×Sl×Sl):List Value:=[ah d.len,ah d.off,ah d.au,Sl.v p.1,Sl.v p.2.1,Sl.v p.2.2]
theorem iG.at{n:Nat}{cs:Array Value}{d:bG}{p:Sl×Sl×Sl}(k:aN h a cs el)(z:∀i v,(LF d p)[i]? =some v->cs[n+i]? =some v)(v:eR D E h p d):iG D E h ⟨a,n,none⟩ d:=by
 obtain⟨x,o,u,aY,j,ds⟩:=d;unfold iG;refine⟨p.1,p.2.1,p.2.2,λi w e=>?_,v.b,v.c,v.x⟩;rw[bz,ia k];exact z i w (by simpa[LF,zd,bG.len,bG.off,bG.au]using e)
theorem dD.two{d e:bG}{p q:Sl×Sl×Sl}(k:aN h a (LF d p++LF e q).toArray el)(j:D a)(v:eR D E h p d)(w:eR D E h q e):dD D E h ⟨some (aJ a),2,2⟩ [d,e]:=by
 unfold dD;refine⟨rfl,bX _,_,rfl,j,iG.at k (λi v b=>?_) v,?_⟩
 ·grind
 ·unfold jz;refine⟨?_,by unfold jz;trivial⟩
  rw[bz];grind[iG.at]
theorem Ga:∀(n:Nat)(a:aR),a.length=n->(cR a).2.length<=a.length/\∀x∈(cR a).2,x<=a.length:=by
  intro n
  induction n with
  |zero=>intro a i;rw[jB.1 i];exact⟨bX _,λx d=>by simp[cR]at d⟩
  | succ n o=>
    intro j i;obtain⟨a,v,rfl⟩:∃a v,j=a++[v]:=by
      rcases List.eq_nil_or_concat j with e|⟨l,b,e⟩
      all_goals grind
    have k:=o a (by simpa using i)
    rw[Be];unfold xg;have hl:=(Bf a.length a rfl).1;have s:=(Bf a.length a rfl).2;split
    · rename_i q
      have p:(cR a).2≠[]:=bZ
      grind[List.mem_singleton,List.dropLast_subset]
    grind
theorem av9(N:f.k=20)(a':f.cs=[c])(C:MC c M):wW f (cV f [M]):=by
 intro T h v vs m K Kp hc H hk;obtain⟨g,rfl,G⟩:=H;have KF:=nE C;have ed:bK f.k=pT:=by unfold bK;simp[*]
 have es:∀rb:Rb,cC f.k rb=[(ints rb.ends,Y6)]:=λrb=>by unfold cC;simp[*]
 obtain⟨W,L⟩:=rV G.ls (es _);obtain⟨A0,e'⟩:∃A,g.ST[0]? =some A:=⟨_,bJ (by rw[G.ls.2,es];simp)⟩
 have ef:f.dn (f.st vs)=.mk (f.st vs).b.rows 0 0 [] (.mk (f.st vs).b.ends.length 0 0 [[],laidB (f.st vs).b.ends 4] [] []::iy f vs) []:=by rw[LH N,fI];rfl
 rw[ef]at hk;have ee:(f.st vs).b.ends=(cR vs).2:=by rw[fI];simp only[aL];simp[*]
 have n4:=((gj f vs).1 hc).n4;have el:(f.st vs).b.ends.length<=70000:=by have:=(Ga _ vs rfl).1;rw[ee];omega
 have eb:∀x∈(f.st vs).b.ends,x<2^63:=λx d=>by rw[ee]at d;have:=(Ga _ vs rfl).2 x d;omega
 have q:mM (.iface pT (bH g.b)) h K Kp:=by
  refine awW (aEp (aF λY F e1 g1 k2 _=>?_));refine bO ?_;have d':=k2.lt;have Gx:∀{d:Hp},az F d->bW f [M] T d _ m g:=λO=>G.fr KF (bg (ak g1 O)) λ_ _ _=>id;have o0:∀{d:Hp},az F d->Os A0 d W _ Y6:=λO=>(Gx O).sl 0 W A0 _ (by simp[L]) e' (by rw[es];rfl)
  have n0:=(o0 (cQ _)).n;rw[ints,cr]at n0;have fin:∀{d:Hp}{E:Nat}{b:Sl},AX h d Y E (f.st vs).b.ends.length 0 b [[],laidB (f.st vs).b.ends 4]->Ff K Kp (bC g.b) (aJ Y) (aJ E) d:=by
   intro d E b B;apply aBw;refine bO ?_;obtain⟨c2,t2,Z,e2⟩:=B.k2;have d':=Z.lt;have c':=B.k3.lt;have V:=G.fr KF (bg B.g) λ_ _ _=>id;obtain⟨A,w,hA,hw,f'⟩:=tj V rfl;have aM:=V.aM 0 M A w rfl hA hw;have R:f.cs[0]? =some c:=by rw[a'];rfl
   rw[mY R vs]at aM;have ek:iy f vs=[c.dn (c.st (dK f.k f.w (dJ f.cs) 0 vs))]:=by
    have F:=uH (vs:=vs) R;have X:=DW f vs;rw[a']at X
    match hq:iy f vs,X with
    |[y],_=>rw[hq]at F;simp at F;rw[F]
   rw[ek]at hk;refine wA V.B.k (fJ B.k3 (V.lW (i:=1) rfl (.inr (.inr (.inr N))) (by simp[L]) hw (C.done (fC R hc) aM λp h3 o D3=>bQ B.k3 o (bQ V.B.k o (aF λb' h4 e4 z k4 _=>bQ (V.B.k.ai o) z ?_)))))
   have z3:=o.1;have U:=ak o z;refine ig (Z.ai U) e2 λh5 o5 k5=>fJ k5 (hk (Sl.nil,⟨some (aJ b'),2,2⟩,Sl.nil) h5 (bI (ak B.g U) o5 B.l.1) ⟨Ij,?_,jA _⟩);have d2:dD (λc=>h.size<=c/\c≠Y) (λc=>h.size<=c/\c≠Y) h4 ⟨some (aJ b'),2,2⟩ [.mk (f.st vs).b.ends.length 0 0 [[],laidB (f.st vs).b.ends 4] [] [],c.dn (c.st (dK f.k f.w (dJ f.cs) 0 vs))]:=
    dD.two (p:=(b,Sl.nil,Sl.nil)) k4 ⟨ag,ag⟩ ⟨(B.bf.gr U).mo (λc q=>⟨q.1,q.2.1⟩) λc q=>⟨q.1,q.2.1⟩,jA _,jA _⟩ ((D3.gr z).fr (iV _ _) (λ_ _ _=>id) (λ_ _ _=>id) (λc(q:d.size<=c)=>⟨ag,ag⟩) λc(q:d.size<=c)=>⟨ag,ag⟩)
   exact dD.fr o5.fr (λc q _ e=>q.2 e) (λc q _ e=>q.2 e) (λc q=>q.1) (λc q=>q.1) _ d2
  have q5:∀{d:Hp}{E:Nat}{b:Sl},az F d->aN d E cX ck->F.size<=E->fH (Ex F E) (Ex F E) d b [[],laidB (f.st vs).b.ends 4]->cL d (aJ E) (W.n:Int) 0 0 b Sl.nil Sl.nil (Ff K Kp (bC g.b) (aJ Y) (aJ E)):=
   λO J l3 Q=>by rw[n0];exact Ig g1 k2 rfl ag O J l3 Q λh'=>fin
  have I:=λ{d:Hp}(O:az F d)=>(Gx O).B.k;have vn:∀{d:Hp}{D:aQ},eD D d Sl.nil (bv []):=λ{d D}=>⟨yu d,λq=>absurd rfl q⟩;refine(Gx (cQ _)).dH (i:=0) (s:=W) rfl (by simp[L]) ((Gx (cQ _)).dH (i:=0) (s:=W) rfl (by simp[L]) ⟨xz (w:=4) (o0 (cQ _)) el bw eb λt X j=>bQ (I (cQ _)) j.g ⟨?_,?_⟩,aF λE X e2 P J _=>bQ (I (cQ _)) P (bQ (I (cQ _)) P (xz (w:=4) (o0 P) el bw eb λt h3 j=>bQ (I P) j.g ?_))⟩)
  ·have z2:=j.g.1;refine oM (D:=λc=>F.size<=c) (s:=Sl.nil) vn (j.lq.mo λc q=>q) z2 λa h3 o Q=>bQ (I j.g) o (aF λE h4 e4 z J _=>bQ (I (ak j.g o)) z (bQ (I (ak j.g o)) z ?_));have z3:=o.1;exact q5 (ak (ak j.g o) z) J ag (Q.kP z ag λc q=>q)
  ·have z2:=j.g.1;exact aF λE h3 e3 o J _=>bQ (I j.g) o (bQ (I j.g) o (oM (D:=Ex F E) (s:=Sl.nil) vn (j.lq.kP o ag λc q=>q) ⟨ag,ag⟩ λa h4 z Q=>bQ (I (ak j.g o)) z (q5 (ak (ak j.g o) z) (J.ai z) ag Q)))
  ·have z2:=P.1;have z3:=j.g.1;have c':=J.lt;exact oM (D:=Ex F E) (s:=Sl.nil) vn (j.lq.mo λc(q:X.size<=c)=>⟨ag,ag⟩) ⟨ag,ag⟩ λa h4 z Q=>bQ (I (ak P j.g)) z (q5 (ak (ak P j.g) z) ((J.ai j.g).ai z) ag Q)
 rw[<-ed]at q;exact q
end
def aeC:Code:=Tryz.f238.body.getD .skip
abbrev Qp:Code:=sub [1,0] aeC
def qj(VB V2:qD)(b a1:Nat)(eT:Sl)(w:Value)(q0:Bool)(q1:Int)(q2:fh)(q3:Sl):List Cl:=[vb 8 b,vb 9 b,vc 10 (bH b),.vl 11 VB,vb 12 b,vb 13 b,vc 14 (.pointer (some ⟨b,16,none⟩)),vc 15 (Sl.v eT),vc 16 (ah (eT.n:Int)),vb 17 b,vb 18 b,vc 19 (.pointer (some ⟨b,18,none⟩)),vc 20 (.agg #[.bool q0,ah q1,.string q2,Sl.v q3]),vb 21 b,vb 22 b,vc 23 (.pointer (some ⟨b,17,none⟩)),vc 24 (w),.vl 25 V2,.al 3 #[.nilFunc] 1 22 3,.al 4 #[ah 0] 3 23 8,.al 5 fY 39 24 12,.al 6 #[.nilFunc] 1 25 17,.st 18 3,.st 19 8,.st 20 12,.st 21 17]
abbrev aJa(b a1:Nat):Fr:=([some (pA b),some (pA a1),some .nilFunc]++nn 34)
def abt:List (Nat×OT):=[(4,OT.l (List.range 9) .fin)]
theorem Ou.mk{K:di}{eT:Sl}{w:Value}{q0:Bool}{q1:Int}{q2:fh}{q3:Sl}{VB V2:qD}{HE:Int->Prop}(n9:∀{h':Hp}{X:Sl->Prop},az h h'->X eT->Ld h' ⟨b,16,none⟩ Sl.v X)(BC:∀{h':Hp}{X:Value->Prop},az h h'->X w->Ld h' ⟨b,17,none⟩ id X)(GL:∀{h':Hp}{X:Bool->Int->ByteArray->Sl->Prop},az h h'->X q0 q1 q2 q3->bP h' ⟨b,18,none⟩ X)(sB:l9 h VB)(cB:One VB)(HB:∀{h1:Hp}{X:di},az h h1->(∀v h',az h1 h'->VB v h1.size h'.size h'->X v h')->uk (bC b) h1 X Kp)(s2:l9 h V2)(c2:One V2)(H2:∀{h1:Hp}{X:di},az h h1->(∀v h',az h1 h'->V2 v h1.size h'.size h'->X v h')->kU w h1 X Kp)
  (auk:∀{h':Hp}{X:Int->Prop},az h h'->0<eT.n->(∀e:Int,HE e->X e)->Ix eT.a eT.n 1 ((eT.n:Int)-1) λa=>Ld h' a mI X)
  (hn:eT.n<2^62) (hk:∀caps(e:Int)F0 KF l0 u0 l2 u2 h',(0<eT.n->HE e)->(eT.n=0->e=0)->ua h h' caps [#[F0],#[KF],#[pA b],#[ah (eT.n:Int)],#[.bool q0,ah q1,.string q2,Sl.v q3],#[ah e]] VB V2 F0 KF l0 u0 l2 u2->K (.func (.func 241) #[] (caps.map pA).toArray) h'):Ou (bC b) h K Kp:=by
 refine au8 (bY:=[]) (o:=abt) (zs:=[.nilFunc]) (Kv:=K) Tryz.func238 aW (S:=aI h #[pA b] 97 λa1 h1=>zq aE (pG Qp) (λfr h=>fZ aE [] (FA aE abt) none (sub [1,1] aeC) (mO aE [.tmp 2] [.nilFunc] K) Kp fr h) Kp (pG Qp).size (List.range (pG Qp).size) ([some (pA b),some (.pointer (some a1)),some .nilFunc]++nn 34) h1) ?_ aW aW
 refine aF λa1 h1 e1 g1 k1 _=>zJ (C:=qj VB V2 b a1 eT w q0 q1 q2 q3) aW aW aW ⟨
  o0 1 _ λK h g hk=>jY (k1.ai g) hk,
  oE 0,
  oE 1,
  oF 2 (sB.mo g1.1) λK h g hk=>HB (ak g1 g) hk,
  o0 1 _ λK h g hk=>jY (k1.ai g) hk,
  oE 4,
  oE 5,
  oX 6 λK h g hk=>n9 (X:=λs=>K (some s.v) h) (ak g1 g) hk,
  oE 7,
  o0 1 _ λK h g hk=>jY (k1.ai g) hk,
  oE 9,
  oE 10,
  oX 11 λK h g hk=>GL (X:=λx0 x1 x2 x3=>K (some (.agg #[.bool x0,.int .i64 x1,.string x2,Sl.v x3])) h) (ak g1 g) hk,
  o0 1 (pA a1) λK h g hk=>jY (k1.ai g) hk,
  oE 13,
  oE 14,
  oX 15 λK h g hk=>BC (X:=λs=>K (some s) h) (ak g1 g) hk,
  oF 16 (s2.mo g1.1) λK h g hk=>H2 (ak g1 g) hk,
  oA,
  oA,
  oA,
  oA,
  oS true cB,
  oS false (zG _),
  okS (raw:=false) aW rfl rfl (λv lo hi h q=>by rw[show v=_ from q];exact⟨rfl,λy hy=>by simp[Value.cells,Sl.v]at hy;rcases hy with rfl|rfl|rfl|rfl <;> rfl,λe=>by cases e⟩),
  oS true c2,
  trivial⟩ λfr h2 F A lo hi M=>?_
 have nm:∀{i:Nat},i∉([]:cU):=pN;obtain⟨p0,q0',y0,z0⟩:_/\_/\_/\_:=M.c 0 _ rfl nm;rw[(q0':F 0=_)]at p0;obtain⟨p1,q1',y1,z1⟩:_/\_/\_/\_:=M.c 1 _ rfl nm;rw[(q1':F 1=_)]at p1;obtain⟨p2,q2',y2,z2⟩:_/\_/\_/\_:=M.c 2 _ rfl nm;rw[(q2':F 2=_)]at p2;obtain⟨p3,q3',y3,z3⟩:_/\_/\_/\_:=M.c 3 _ rfl nm;obtain⟨p4,q4',y4,z4⟩:_/\_/\_/\_:=M.c 4 _ rfl nm;rw[(q4':F 4=_)]at p4;obtain⟨p5,q5',y5,z5⟩:_/\_/\_/\_:=M.c 5 _ rfl nm;rw[(q5':F 5=_)]at p5;obtain⟨p6,q6',y6,z6⟩:_/\_/\_/\_:=M.c 6 _ rfl nm;rw[(q6':F 6=_)]at p6;obtain⟨p7,q7',y7,z7⟩:_/\_/\_/\_:=M.c 7 _ rfl nm;rw[(q7':F 7=_)]at p7;obtain⟨p8,q8',y8,z8⟩:_/\_/\_/\_:=M.c 8 _ rfl nm;rw[(q8':F 8=_)]at p8;obtain⟨p9,q9',y9,z9⟩:_/\_/\_/\_:=M.c 9 _ rfl nm;rw[(q9':F 9=_)]at p9;obtain⟨zD,ap2,Pn,z10⟩:_/\_/\_/\_:=M.c 10 _ rfl nm;rw[(ap2:F 10=_)]at zD;obtain⟨p11,ap0,y11,z11⟩:_/\_/\_/\_:=M.c 11 _ rfl nm;rw[(ap0:F 11=_)]at p11;obtain⟨p12,aba,y12,z12⟩:_/\_/\_/\_:=M.c 12 _ rfl nm;rw[(aba:F 12=_)]at p12;obtain⟨zC,apZ,JI,Dc⟩:_/\_/\_/\_:=M.c 13 _ rfl nm;rw[(apZ:F 13=_)]at zC;obtain⟨zB,apY,Pm,z14⟩:_/\_/\_/\_:=M.c 14 _ rfl nm;rw[(apY:F 14=_)]at zB;obtain⟨zA,apX,Pk,z15⟩:_/\_/\_/\_:=M.c 15 _ rfl nm;rw[(apX:F 15=_)]at zA;obtain⟨zy,apW,Pj,z16⟩:_/\_/\_/\_:=M.c 16 _ rfl nm;rw[(apW:F 16=_)]at zy;obtain⟨p17,aa9,y17,z17⟩:_/\_/\_/\_:=M.c 17 _ rfl nm;obtain⟨p18,y18,acM⟩:_/\_/\_:=M.c 18 _ rfl nm;obtain⟨QN,y19,BD⟩:_/\_/\_:=M.c 19 _ rfl nm;obtain⟨QM,y20,GP⟩:_/\_/\_:=M.c 20 _ rfl nm;obtain⟨QK,y21,GO⟩:_/\_/\_:=M.c 21 _ rfl nm;rw[aC nm,(cB _ _ _ _ q3').2]at acM;rw[aC nm,(q8':F 8=_)]at BD;rw[aC nm,(aba:F 12=_)]at GP;rw[aC nm,(c2 _ _ _ _ aa9).2]at GO;have p_0:=M.o.2 0 (by simp[qj,Cl.dst])
 have p_1:=M.o.2 1 (by simp[qj,Cl.dst])
 have p_2:=M.o.2 2 (by simp[qj,Cl.dst])
 have efr:fr=([some (pA b),some (pA a1),some .nilFunc,some (pA (A 18)),some (pA (A 19)),some (pA (A 20)),some (pA (A 21)),none,some (pA b),some (pA b),some (bH b),some (F 3),some (pA b),some (pA b),some (.pointer (some ⟨b,16,none⟩)),some (Sl.v eT),some (ah (eT.n:Int)),some (pA b),some (pA b),some (.pointer (some ⟨b,18,none⟩)),some (.agg #[.bool q0,ah q1,.string q2,Sl.v q3]),some (pA b),some (pA b),some (.pointer (some ⟨b,17,none⟩)),some (w),some (F 17)]++nn 11):=au3 (by rw[M.o.1];rfl) λi hi=>by
  match i,hi with
  |0,_=>exact p_0
  |1,_=>exact p_1
  |2,_=>exact p_2
  |3,_=>exact p18
  |4,_=>exact QN
  |5,_=>exact QM
  |6,_=>exact QK
  |7,_=>exact M.o.2 7 (by simp[qj,Cl.dst])
  |8,_=>exact p0
  |9,_=>exact p1
  |10,_=>exact p2
  |11,_=>exact p3
  |12,_=>exact p4
  |13,_=>exact p5
  |14,_=>exact p6
  |15,_=>exact p7
  |16,_=>exact p8
  |17,_=>exact p9
  |18,_=>exact zD
  |19,_=>exact p11
  |20,_=>exact p12
  |21,_=>exact zC
  |22,_=>exact zB
  |23,_=>exact zA
  |24,_=>exact zy
  |25,_=>exact p17
  |26,_=>exact M.o.2 26 (by simp[qj,Cl.dst])
  |27,_=>exact M.o.2 27 (by simp[qj,Cl.dst])
  |28,_=>exact M.o.2 28 (by simp[qj,Cl.dst])
  |29,_=>exact M.o.2 29 (by simp[qj,Cl.dst])
  |30,_=>exact M.o.2 30 (by simp[qj,Cl.dst])
  |31,_=>exact M.o.2 31 (by simp[qj,Cl.dst])
  |32,_=>exact M.o.2 32 (by simp[qj,Cl.dst])
  |33,_=>exact M.o.2 33 (by simp[qj,Cl.dst])
  |34,_=>exact M.o.2 34 (by simp[qj,Cl.dst])
  |35,_=>exact M.o.2 35 (by simp[qj,Cl.dst])
  |36,_=>exact M.o.2 36 (by simp[qj,Cl.dst])
  |i+37,hi=>exact absurd hi (by simp[nn])
 subst efr;have tA:=k1.ai M.g;have gM:=ak g1 M.g;refine cast aW (show aI h2 #[ah 0] 3 λa7 h3=>St h3 a7 (ah 0) λh4=>Ld h4 ⟨A 19,0,none⟩ mI λt26=>aV (t26>0) (Ld h4 (aJ a1) Value.pointer λt28=>NN t28 λp29=>Ld h4 (p29.add 16) Sl.v λt31=>Ld h4 ⟨A 19,0,none⟩ mI λt32=>aP (t32-1) λt33=>Ix t31.a t31.n 1 t33 λa34=>Ld h4 a34 mI λt35=>St h4 a7 (ah t35) λh5=>K (.func (.func 241) #[] #[pA (A 18),pA (A 21),pA (a1),pA (A 19),pA (A 20),c9 a7]) h5) (K (.func (.func 241) #[] #[pA (A 18),pA (A 21),pA (a1),pA (A 19),pA (A 20),c9 a7]) h4)from(aF λa7 h3 e7 g3 k7 _=>dI k7 aA rfl λh4 o4 k7=>?_))
 have gM1:=gM.1;have g4:az h2 h4:=bI g3 o4 ag;have k7:aN h4 a7 #[.int .i64 0] 3:=by simpa using k7
 have a7l:=k7.lt;have fin:∀(e:Int)h5,eJ a7 h4 h5\/h5=h4->(0<eT.n->HE e)->(eT.n=0->e=0)->aN h5 a7 #[.int .i64 e] 3->K (.func (.func 241) #[] #[pA (A 18),pA (A 21),pA (a1),pA (A 19),pA (A 20),.pointer (some ⟨a7,0,none⟩)]) h5:=by
  intro e h5 o5 he he0 k5;have t25:Tn (λc=>c=a7) h4 h5:=by rcases o5 with o|rfl;exact o.fr;exact iV _ _
  have g5:az h2 h5:=((bg g4:Tn No h2 h4).trans' t25 λc q eC=>by omega).ai
  have z5:=g5.1;refine hk [A 18,A 21,a1,A 19,A 20,a7] e (F 3) (F 17) (lo 3) (hi 3) (lo 17) (hi 17) h5 he he0 ⟨ak gM g5,rfl,λi a dQ=>?_,⟨?_,by omega,by omega⟩,⟨?_,by omega,by omega⟩,M.vv 3 17 _ _ _ _ rfl rfl nm nm bw⟩
  ·rcases i with _|_|_|_|_|_|i
   ·cases dQ;exact⟨by omega,M.av 18 17 _ _ _ _ _ _ _ rfl rfl nm nm,_,_,rfl,acM.ai g5⟩
   ·cases dQ;exact⟨by omega,M.av 21 17 _ _ _ _ _ _ _ rfl rfl nm nm,_,_,rfl,GO.ai g5⟩
   ·cases dQ;exact⟨by omega,λq=>by have:=k1.lt;omega,_,_,rfl,tA.ai g5⟩
   ·cases dQ;exact⟨by omega,M.av 19 17 _ _ _ _ _ _ _ rfl rfl nm nm,_,_,rfl,BD.ai g5⟩
   ·cases dQ;exact⟨by omega,M.av 20 17 _ _ _ _ _ _ _ rfl rfl nm nm,_,_,rfl,GP.ai g5⟩
   ·cases dQ;exact⟨by omega,λq=>by omega,_,_,rfl,k5⟩
   ·simp at dQ
  ·exact sB (λc=>c=a7) _ _ _ _ _ (sB No _ _ _ _ _ q3' ag z3 (bg g4) λ_ q=>q.elim) ag (by have:=g4.1;omega) t25 λc q=>⟨by omega,by omega⟩
  ·exact s2 (λc=>c=a7) _ _ _ _ _ (s2 No _ _ _ _ _ aa9 ag z17 (bg g4) λ_ q=>q.elim) ag (by have:=g4.1;omega) t25 λc q=>⟨by omega,by omega⟩
 refine aj (BD.ai g4) rfl (aG (λcc=>?_) λcc=>?_)
 ·have cc:=aS cc;refine aj (tA.ai g4) rfl ?_;refine bO ?_;refine n9 (ak gM g4) (aj (BD.ai g4) rfl (aX ag ag ?_));have q:=auk (X:=λt35=>St h4 ⟨a7,0,none⟩ (.int .i64 t35) λh5=>K (.func (.func 241) #[] #[pA (A 18),pA (A 21),pA (a1),pA (A 19),pA (A 20),.pointer (some ⟨a7,0,none⟩)]) h5) (ak gM g4) ag λe he=>dI k7 aA rfl λh5 o5 k5=>fin e h5 (.inl o5) (λ_=>he) (λz=>by omega) (by simpa using k5)
  exact q
 ·have cc:=aS cc;exact fin 0 h4 (.inr rfl) (λq=>by omega) (λ_=>rfl) k7
section
variable {c:aq} {KM:List cO} {M:cO}
theorem arQ(d:f.k=20)(E:f.cs=[c])(C:MC c M):wS f (cV f [M]):=by
 intro T h v vs K Kp hc H hk;obtain⟨g,rfl,G⟩:=H;have R:=nE C;have ed:bK f.k=pT:=by unfold bK;rw[ay,ay,ay,ay,ay,ay,ay,aK d]
 have eb:gL f.k=241:=by unfold gL;rw[ay,ay,ay,ay,ay,ay,aK d]
 have N:∀o:Rb,cC f.k o=[(ints o.ends,Y6)]:=λo=>by unfold cC;rw[ay,dV]
 have eS:∀X h sp(o:Rb),iO f.k X h sp o↔∃t,sp=[.bool (lE o).au,ah (lE o).num,.string _,Sl.v t]/\aO X h t (lE o).items:=λX h sp o=>by unfold iO;rw[ay,aK d]
 obtain⟨u,j⟩:=rV G.ls (N _);obtain⟨A,w,U,P,c'⟩:=tj G rfl;obtain⟨A0,Y⟩:∃A,g.ST[0]? =some A:=⟨_,bJ (by rw[G.ls.2,N];exact Nat.one_pos)⟩
 have I:f.cs[0]? =some c:=by rw[E];rfl
 have O:u.n=(f.st vs).b.ends.length:=by have:=G.oI (i:=0) (s:=u) (by simp[j]) (by rw[N];rfl);rw[this,ints,cr]
 have aM:=G.aM 0 M A w rfl U P;have r:=mY I vs;have Z:∀c,A c->c<h.size:=λc q=>G.t.l (bT (g.fF U)) q;obtain⟨t,J,b'⟩:=(eS _ _ _ _).1 G.sp;have n4:=((gj f vs).1 hc).n4;have ee:(f.st vs).b.ends=(cR vs).2:=by rw[fI];simp only[aL];rw[ay,ay,ay,ay,aK d]
 have el:(f.st vs).b.ends.length<=4096:=by have:=(Ga _ vs rfl).1;rw[ee];omega
 have p:∀{V:Hp},az h V->bW f [M] T V _ none g:=λgr=>G.fr R (bg gr) λ_ _ _=>id;have q:kU (.iface pT (bH g.b)) h K Kp:=by
  rw[r]at aM;refine awN (Ou.mk (eT:=u) (q0:=(lE (f.st vs).b).au) (q1:=(lE (f.st vs).b).num) (q2:=bs (lE (f.st vs).b).text) (q3:=t) (V2:=lO M A w ((f.st vs).aM 0)) (HE:=λe=>e=(((f.st vs).b.ends.getLastD 0:Nat):Int)) (λgr y=>G.BB (i:=0) R gr rfl (by simp[j]) y) (λgr y=>(p gr).lW (i:=1) rfl (.inr (.inr (.inr d))) (by simp[j]) P y) (λgr y=>?_) Ak Al (λgr x=>yj G.B gr x) (lO.qo C.fr Z) lO.one (λgr x=>?_) (λgr hp x=>?_) ag λa' e F0 KF l0 u0 l2 u2 V he W Q=>?_)
  ·have L:=(p gr).Uj (.inr d) (by simp[j])
   rw[J]at L;exact gY L y
  ·rw[r]at x;exact lO.call C (fC I hc) aM gr x
  ·have os:=(p gr).sl 0 u A0 (ints (f.st vs).b.ends,Y6) (by simp[j]) Y (by rw[N];rfl)
   have D:(f.st vs).b.ends≠[]:=λe=>by rw[e]at O;simp at O;omega
   refine os.sv.ix ag ag ?_ λa ha=>yQ ha (x _ rfl);have e1:((u.n:Int)-1).toNat=(f.st vs).b.ends.length-1:=ag;rw[e1]
   show(ints (f.st vs).b.ends)[_]? =_
   unfold ints;rw[eY,<-Vd,U6 D,afO,U6 D];rfl
  ·have ev:e=(((f.st vs).b.ends.getLastD 0:Nat):Int):=by
    by_cases z:u.n=0
    ·have:(f.st vs).b.ends=[]:=jB.1 ag;rw[W z,this];rfl
    ·exact he ag
   have:=G.KE R E U P Q (.inr (.inr (.inr d))) (by unfold eN;rw[ay,ay,ay,ay,ay,aK d];exact⟨bX _,Mu _,el⟩) (λ_=>by have:=(p Q.g).sp;rw[d]at this;exact this) (λF m=>?_) hk
   ·rw[eb]at this;exact this
   ·unfold jv;simp only;rw[ay,ay,ay,ay,ay,aK d];have e2:=J;rw[e2,O,ev];rfl
 rw[<-ed]at q;exact q
theorem amK(e:bB f)(a:f.k=20)(i:f.cs=[c])(C:MC c M)(t:jr c):wN f (cV f [M]):=by
 intro T D h v vs m x s K u o d j H l p n;obtain⟨g,rfl,G⟩:=H;have r:bK f.k=pT:=by unfold bK;rw[ay,ay,ay,ay,ay,ay,ay,aK a]
 have q:nk _ x.au x.num _ s h K u:=awE (ZR e a i C t o d j G l (λc q _=>G.out (p c q)) n);rw[<-r]at q;exact q
theorem akO(d:bB f)(a:f.k=20)(e:f.cs=[c])(C:MC c M)(n:jr c):wK f (cV f [M]):=by
 intro T h v vs m K o j H i;obtain⟨g,rfl,G⟩:=H;have l:bK f.k=pT:=by unfold bK;rw[ay,ay,ay,ay,ay,ay,ay,aK a]
 have q:mL _ h K o:=awv (akF d a e C n j G i);rw[<-l]at q;exact q
theorem Kq(a:fL f.k=true){vs:aR}(d:f.can vs):(f.st vs).b.dY.length<=70000/\(f.st vs).b.texts.length<=70000:=by
 have e:=((gj f vs).1 d).n4;rw[fI];simp only[aL,a,gB,cr];omega
theorem amL(a:fL f.k=true):wN f (cV f []):=by
 intro T D h v vs m x s K w d p A H B C t;obtain⟨g,rfl,G⟩:=H;obtain⟨r,z,y,o,n,l,j,i,e⟩:=zw a;have u:bK f.k=pS:=by unfold bK;rw[aC r,ay,aC o,aC n,aC l,aC j,aC i,aC e]
 have q:nk _ x.au x.num _ s h K w:=awF (ZT a qJ G (Kq a d).1 (Kq a d).2 (by have:=(iM d).1;omega) (by have:=Zo x;omega) t)
 rw[<-u]at q;exact q
theorem akP(p:bB f)(a:fL f.k=true):wK f (cV f []):=by
 intro T h v vs m K w d H r;obtain⟨g,rfl,G⟩:=H;obtain⟨s,y,x,o,n,l,j,i,e⟩:=zw a;have u:bK f.k=pS:=by unfold bK;rw[aC s,ay,aC o,aC n,aC l,aC j,aC i,aC e]
 have q:mL (.iface pS (bH g.b)) h K w:=by
  have t:¬(16<=f.k/\f.k<=20):=ag;rw[vA (.inr t)]at r;refine aww (aEj ?_);refine bO ?_;exact gY G.uR (ZT a qJ G (Kq a d).1 (Kq a d).2 (by have:=(iM d).1;omega) (by have:=abQ p;omega) r)
 rw[<-u]at q;exact q
end
theorem azR{α:Type}{x:α}{K:α->Prop}(h:K x):Lt x K:=h
abbrev XD(a:Nat)(t:TypeId)(h:Hp)(x:Int)(K:HP):Prop:=∀h',Tn (λc=>c=a) h h'->aN h' a #[.int .u64 x] t->K h'
section
variable {t:TypeId} {x:Int} {K:HP}
theorem TE{c:Int}(k:aN h a #[.int .u64 x] t)(d:XD a t h (hB x c) K):Jg (bC a) c h K Kp:=by
 apply aEr;simp only[nH];exact aj k rfl (dI k aA rfl λe o b=>d e o.fr (by simpa[hB]using b))
theorem Ti{n:Int}(k:aN h a #[.int .u64 x] t)(m:XD a t h (hN 8 x n) K):Jf (bC a) n h K Kp:=by
 refine aEq (az3 (λy i f=>∃j:Nat,i=j/\j<=8/\Tn (λc=>c=a) h f/\∃z,aN f a #[.int .u64 z] t/\hN (8-j) z y=hN 8 x n) (λ_ i _=>8-i.toNat) ⟨0,rfl,ag,iV _ _,x,k,rfl⟩ ?_)
 rintro y i p ⟨j,rfl,r,b,z,d,e⟩ N o;refine cE (λc=>?_) λc=>?_
 ·refine TE d λs g l=>jw ag (azR (aX ag ag (o _ _ _ ⟨j+1,aA,ag,b.trans g,_,l,?_⟩ ag)))
  rw[<-e,show 8-j=8-(j+1)+1 by omega];rfl
 ·have:j=8:=ag;subst this;have q:z=hN 8 x n:=e;grind
def XC(v:aB):Prop:=∀{D:aQ}{a:Nat}{t:TypeId}{h:Hp}{s:Sl}{x:Int}{K:HP}{Kp:PK},aO D h s v.items->¬D a->v.bx<=2^40->aN h a #[.int .u64 x] t->XD a t h (v.nC x) K->Ov (bC a) v.au v.num (bs v.text) s h K Kp
theorem acZ:∀(l m:aR)(x:Int),uN (l++m) x=uN m (uN l x)
 |[],_,_=>by simp[uN]
 |v::l,m,x=>by simp only[yA,uN];exact acZ l m _
theorem atA(IH:∀x∈v.items,XC x):XC v:=by
 intro D a t h s x K Kp E W hw k hk;have c':=hO v;have d':=GR v;have hn:=E.n;have a':=k.lt;refine aEt (aF λY o e1 H V _=>?_);have k:=k.ai H;have E:=dU (aO.lt _ E) H;have l:∀{F:Hp},Tn (λc=>c=a) o F->aO _ F s v.items/\aN F Y #[.bool v.au,ah v.num,.string _,Sl.v s] dh:=λtn=>⟨aO.fr tn (λc q _ e=>W (e▸q.1)) (λ_ q=>q) _ E,tn.aZ V ag⟩;have J:∀{b:Int},b=(if v.au then 1 else 0)->MY K Kp (bC a) (aJ Y) b o:=by
  intro b hb;refine aBz (TE k λF C k=>?_);simp only[bz,cF];refine aj (l C).2 rfl (Ti k λh3 I k=>aj (l (C.trans I)).2 rfl (Ti k λh4 U k=>aj (l ((C.trans I).trans U)).2 rfl ?_));rw[jl]at k ⊢;generalize R:hN 8 _ _=T at k;apply az5 (λi r=>∃j:Nat,i=j/\j<=v.text.length/\Tn (λc=>c=a) o r/\aN r a #[.int .u64 (hT T (v.text.take j))] t) (λi _=>v.text.length-i.toNat) ⟨0,rfl,eu _,((C.trans I).trans U),k⟩;rintro i h5 ⟨j,rfl,hj,m,k⟩ N M;refine aG (λc=>?_) λc=>?_
  ·have c:=aS c;have f:j<v.text.length:=ag;refine aj (l m).2 rfl (yU (b:=v.text[j]) rfl (by grind[JT,List.getElem?_eq_getElem]) (TE k λh6 B k=>aX ag ag (M _ _ ⟨j+1,aA,ag,m.trans B,?_⟩ ag)))
   grind[List.take_succ_eq_append_getElem,hT]
  ·have c:=aS c;have:j=v.text.length:=ag;subst this;rw[m5]at k;apply aBy;simp only[bz,cF];refine aj (l m).2 rfl (Ti k λh6 B k=>aj (l (m.trans B)).2 rfl ?_);have en:(s.n:Int)=(v.items.length:Int):=by rw[hn.1]
   rw[en]at k ⊢;generalize Q:hN 8 (hT T v.text) _=S at k;have y:v.nC x=uN v.items S:=by
    rw[<-Q,<-R,hb];obtain⟨a,b,c,d⟩:=v;rfl
   apply az6 (λi r=>∃j:Nat,i=j/\j<=v.items.length/\Tn (λc=>c=a) o r/\aN r a #[.int .u64 (uN (v.items.take j) S)] t) (λi _=>v.items.length-i.toNat) ⟨0,rfl,eu _,(m.trans B),by simpa[uN]using k⟩
   rintro i O ⟨j,rfl,hj,A,k⟩ N M;refine cE (λc=>?_) λc=>?_
   ·have f:j<v.items.length:=ag;have L:=bJ f;have w:=kS f;generalize v.items[j]=z at L w;have g:=bT L;have b':=oB g;refine(l A).1.ix rfl L λp u cx hz=>gY cx (aF λa7 h8 e8 g8 k8 _=>mC k8 rfl λX Z k9=>fk k9 ?_);have G:=bI g8 Z ag;refine IH z g (dU hz G) (λq=>W q.1) ag (k.ai G) λe' P k=>aX ag ag (M _ _ ⟨j+1,aA,ag,A.trans ((bg G:Tn _ O X).trans P),?_⟩ ag)
    rw[w,acZ];simpa[uN]using k
   ·have:j=v.items.length:=ag;subst this;rw[m5,<-y]at k;exact hk O ((bg H:Tn _ h o).trans A) k
 exact aj V rfl (aG (λc=>J (by rw[aK c])) λc=>J (by rw[c];rfl))
theorem acY:∀v:aB,XC v
 |.mk a b c items=>atA (v:=.mk a b c items) λx(_:x∈items)=>acY x
theorem TG(v:aB){D:aQ}{s:Sl}{K:cK}(o:aO D h s v.items)(n:v.bx<=2^40)(p:∀i,az h i->K v.hash i):Ji v.au v.num (bs v.text) s h K Kp:=by
 refine aEx (aF λF B e1 k g _=>aF λE A C e d _=>dI d aA rfl λu f d=>fk (f.aZ (g.ai e) ag) ?_)
 have j:=bI (ak k e) f ag;exact acY v (dU (aO.lt _ o) j) (λq=>ag) n (by simpa using d) λr l m=>aj m rfl (p r (((bg j:Tn No h u).trans' l λc q w=>ag).ai))
end
theorem K7(aH:aR)(n:Nat)(u:Int):hl aH (n+1) u=hl aH n u++if(aH.getD n v0).hash=u then[n]else[]:=by
 grind[hl,List.range_succ]
theorem Tj(aH:aR)(n:Nat)(u:Int):(hl aH n u).length<=n:=by
 have:=Va (λi=>decide ((aH.getD i v0).hash=u)) (List.range n);rw[Il]at this;exact this
theorem Sn{n:Nat}{u:Int}:i∈hl aH n u↔i<n/\(aH.getD i v0).hash=u:=by
 unfold hl;simp
theorem at2{v w:aR}{n:Nat}(h:∀i,i<n->v.getD i v0=w.getD i v0)(u:Int):hl v n u=hl w n u:=by
 grind[hl,List.filter_congr]
theorem TR{α:Type}{f:α->α}{l:List α}:(l.modify j f)[i]? =if j=i then(l[i]?).map f else l[i]? :=by
 grind
section
variable {es:List MapEntry} {P P':Int->Prop} {S S':Int->Sl} {mr c:Nat} {ea:Array MapEntry}
theorem nM.key(E:nM es P S):∀x∈es,MapKept.IsKey (.int .u64) x.key:=λx b=>by obtain⟨u,e,_⟩:=E.a x b;rw[e];rfl
theorem nM.congr(E:nM es P S)(f:∀u,P u↔P' u)(p:∀u,P u->S u=S' u):nM es P' S':=
 ⟨λe i=>by obtain⟨u,e1,j,d⟩:=E.a e i;grind,λu g=>E.b u ((f u).2 g),E.c⟩
theorem nM.find(E:nM es P S)(u:Int):(P u/\∃j e,Instr.findNow (.int .u64) (.int .u64 u) es 0=some (some (j,Sl.v (S u)))/\es[j]? =some e/\e.key=.int .u64 u)\/(¬P u/\Instr.findNow (.int .u64) (.int .u64 u) es 0=some none/\∀x∈es,x.key≠.int .u64 u):=by
 rcases MapKept.findNow_spec (d:=.int .u64) (k:=.int .u64 u) rfl es 0 E.key with⟨g,f⟩|⟨j,e,g,f,i⟩
 ·refine .inr ⟨λp=>?_,g,f⟩;obtain⟨e,m,l⟩:=E.b u p;exact f e m l
 ·obtain⟨w,e1,q,o⟩:=E.a e (bT f);grind
theorem nM.ne(E:nM es P S){i j:Nat}{x y:MapEntry}(o:es[i]? =some x)(l:es[j]? =some y)(e:x.key=y.key):i=j:=by
 have d:=vg.1 E.c;grind
theorem nM.lk{K:Sl->Bool->Prop}{u:Int}(E:nM ea.toList P S)(k:h[mr]? =some (.map ea c)){a:Sl}(f:P u->S u=a)(d:¬P u->a=Sl.nil)(b:∀ok,K a ok):Lk h (some mr) (.int .u64) (.int .u64 u) (.slice none 0 0) Sl.v K:=by
 unfold Lk;rcases E.find u with⟨p,j,e,q,_⟩|⟨p,q,_⟩
 ·exact⟨ea,c,_,k,q,S u,rfl,by rw[f p];exact b _⟩
 ·exact⟨ea,c,_,k,q,Sl.nil,rfl,by rw[<-d p];exact b _⟩
theorem zp{o:Obj}(a:mr<h.size):eJ mr h (h.setIfInBounds mr o)/\(h.setIfInBounds mr o)[mr]? =some o:=
 ⟨⟨aA,λd b=>bZ⟩,dG⟩
open Classical in
theorem nM.put{K:HP}{u:Int}(E:nM ea.toList P S)(k:h[mr]? =some (.map ea c))(hk:∀h' Lw c',eJ mr h h'->h'[mr]? =some (.map Lw c')->nM Lw.toList (λw=>P w\/w=u) (λw=>if w=u then s else S w)->K h'):Up h (some mr) (.int .u64) (.int .u64 u) (Sl.v s) K:=by
 have hm:=(jD.1 k).1
 unfold Up
 rcases E.find u with⟨p,j,e,q,hj,ek⟩|⟨p,q,hx⟩
 ·refine⟨ea,c,_,k,q,hk _ _ _ (zp hm).1 (zp hm).2 ?_⟩
  have tl:(ea.modify j λe=>{e with key:=.int .u64 u,val:=Sl.v s}).toList=ea.toList.modify j λe=>{e with key:=.int .u64 u,val:=Sl.v s}:=aA
  have get:∀(i:Nat)x,(ea.toList.modify j λe=>{e with key:=.int .u64 u,val:=Sl.v s})[i]? =some x->(i=j/\x.key=.int .u64 u/\x.val=Sl.v s)\/(i≠j/\ea.toList[i]? =some x):=by
   intro i x hi
   rw[TR]at hi
   by_cases e0:j=i
   ·subst e0
    rw[aK rfl,hj]at hi
    cases hi;exact .inl ⟨rfl,rfl,rfl⟩
   ·rw[aC e0]at hi
    exact .inr ⟨λz=>e0 z.symm,by simpa using hi⟩
  refine⟨λx hx=>?_,λw hw=>?_,?_⟩
  ·rw[tl]at hx
   obtain⟨i,hi⟩:=mD.1 hx
   rcases get i x hi with⟨_,e1,e2⟩|⟨ne,dQ⟩
   ·simp[*]
   ·obtain⟨w,e1,e2,e3⟩:=E.a x (bT dQ)
    grind[ne]
  ·rw[tl]
   by_cases e0:w=u
   ·subst e0
    exact⟨_,mD.2 ⟨j,by rw[TR,aK rfl,hj];rfl⟩,rfl⟩
   ·obtain⟨x,hx,e1⟩:=E.b w (hw.resolve_right e0)
    obtain⟨i,hi⟩:=mD.1 hx
    have:j≠i:=λz=>by simp_all
    exact⟨x,mD.2 ⟨i,by rw[TR,aC this,hi]⟩,e1⟩
  ·have:=MapKept.modify_keys (es:=ea) j (λe=>{e with key:=.int .u64 u,val:=Sl.v s}) λx hx=>by
    simp_all
   have hc:=E.c
   rw[<-List.pairwise_map (R:=λx y=>x≠y)]at hc⊢
   rw[this];exact hc
 ·refine⟨ea,c,_,k,q,hk _ _ _ (zp hm).1 (zp hm).2 ?_⟩
  refine⟨λx hx'=>?_,λw hw=>?_,?_⟩
  ·rw[ME]at hx'
   rcases nh.1 hx' with q1|q1
   ·obtain⟨w,e1,e2,e3⟩:=E.a x q1
    have:w≠u:=λz=>hx x q1 (by rw[e1,z])
    simp_all
   simp_all
  ·rw[ME]
   by_cases e0:w=u
   ·simp[*]
   ·obtain⟨x,q1,e1⟩:=E.b w (hw.resolve_right e0)
    grind[List.mem_append_left]
  ·rw[ME,Mt]
   exact⟨E.c,Ar _ _,λx q1 y q2=>by simp_all⟩
theorem nM.del{K:HP}{u:Int}(E:nM ea.toList P S)(k:h[mr]? =some (.map ea c))(r:∀m f B,eJ mr h m->m[mr]? =some (.map f B)->nM f.toList (λw=>P w/\w≠u) S->K m):yY h (some mr) (.int .u64) (.int .u64 u) K:=by
 have l:=(jD.1 k).1;unfold yY;rcases E.find u with⟨p,j,e,q,s,t⟩|⟨p,q,g⟩
 ·refine⟨ea,c,_,k,q,r _ _ _ (zp l).1 (zp l).2 ?_⟩;have v:(ea.eraseIdxIfInBounds j).toList=ea.toList.eraseIdx j:=aA
  rw[v];refine⟨λx g=>?_,λw o=>?_,E.c.sublist (List.eraseIdx_sublist ..)⟩
  ·obtain⟨i,ne,d⟩:=List.mem_eraseIdx_iff_getElem?.1 g;obtain⟨w,e1,A,y⟩:=E.a x (bT d);grind[ne]
  ·obtain⟨x,g,e1⟩:=E.b w o.1;grind[List.mem_iff_getElem?,List.mem_eraseIdx_iff_getElem?]
 ·refine⟨ea,c,_,k,q,r _ _ _ (zp l).1 (zp l).2 (E.congr (λw=>⟨λz=>⟨z,λe=>p (e▸z)⟩,λz=>z.1⟩) λ_ _=>rfl)⟩
end
section
variable {X:aQ} {sv:Sl} {mr n:Nat} {u:Int}
open Classical in
theorem gm.add(d:gm X h sv mr aH n)(TI:∀c,X c->c<h.size)(hn:n<=5000)(hu:(aH.getD n v0).hash=u):∃s0:Sl,
  (∀{h1:Hp}{K:Sl->Bool->Prop},az h h1->(∀ok,K s0 ok)->Lk h1 (some mr) (.int .u64) (.int .u64 u) (.slice none 0 0) Sl.v K)/\
  ∀{h1:Hp}{a:Nat}{t:TypeId}{K:HP}{b:Nat}{cs:Array Value}{el:TypeId},az h h1->aN h1 a #[ah (n:Int)] t->aN h1 b cs el->¬X b->(∀h3,Tn X h1 h3->gm (Tr X h1 h3) h3 sv mr aH (n+1)->K h3)->
   Ap h1 Y6 #[ah 0] 1 8 s0 1 (rd h1 (bC a) (1*1)) λt83 h2=>aT h1 h2 ⟨b,19,none⟩ 1 (Up h2 (some mr) (.int .u64) (.int .u64 u) (Sl.v t83) K):=by
 obtain⟨Xi,ts,S,bk,⟨q1,q2,q3,q4,q5⟩,⟨p1,p2,p3⟩,es,c,e1,E⟩:=d
 have hm:=(jD.1 e1).1
 refine⟨if hl aH n u≠[]then S u else Sl.nil,λ{h1 K}g hk=>E.lk ((g.2 mr hm).trans e1) (λp=>dG) (λp=>dG) hk,?_⟩
 intro h1 a t K b cs el g ka kb hb hk
 have s1:=g.1
 have o:Os (λc=>hl aH n u≠[]/\c=bk u) h1 (if hl aH n u≠[]then S u else Sl.nil) (ints (hl aH n u)) Y6:=by
  by_cases p:hl aH n u≠[]
  ·rw[aK p];exact .inr ⟨bk u,⟨p,rfl⟩,(q4 u p).2.2.ai g⟩
  ·rw[aC p];exact .inl ⟨rfl,by rw[not_not.1 p];rfl⟩
 have on:=o.n
 rw[ints,cr]at on
 have hlen:=Tj aH n u
 refine o.Cp (news:=[ah (n:Int)]) rfl (λx hx=>by rw[ng]at hx;subst hx;rfl) rfl (iJ ka rfl) ag ag λs' h2 t2 os=>mK kb (t2.aZ kb λq=>hb (q.2▸(q4 u q.1).1)) ?_
 obtain⟨b',xE,own⟩:∃b',Or (λc=>hl aH n u≠[]/\c=bk u) h1 b'/\gZ h2 s' b' (ints (hl aH n u)++[ah (n:Int)]) Y6:=by
  rcases os with⟨_,e⟩|⟨b',q,o⟩
  ·simp at e
  ·exact⟨b',q,o⟩
 have s2:=t2.1
 have em:h2[mr]? =some (.map es c):=(t2.2 mr ag λq=>(q4 u q.1).2.1 q.2.symm).trans ((g.2 mr hm).trans e1)
 refine E.put em λh3 Lw c' o3 e3 E3=>hk h3 ?_ ?_
 ·exact(t2.mono λc q _=>q.2▸(q4 u q.1).1).trans (o3.fr.mono λc q _=>q▸q3)
 have s3:=o3.1
 have T3:Tn (λc=>(hl aH n u≠[]/\c=bk u)\/c=mr) h h3:=(bg g:Tn _ h h1).trans ((t2.mono λc q _=>.inl q).trans (o3.fr.mono λc q _=>.inr q))
 have eP:∀w,hl aH (n+1) w≠[]↔hl aH n w≠[]\/w=u:=λw=>by
  rw[K7,hu]
  by_cases e:u=w
  all_goals simp_all[aC,Aq]
 have bl:b'<h2.size:=own.lt
 have ne:∀c,X c->(∀w,hl aH n w≠[]->c≠bk w)->∀w,hl aH (n+1) w≠[]->c≠if w=u then b' else bk w:=λc hc hw w pw=>by
  by_cases e:w=u
  ·rw[aK e]
   rcases xE with q|q
   ·rw[q.2];exact hw u q.1
   ·have:=TI c hc;omega
  simp_all
 refine⟨Xi,ts,λw=>if w=u then s' else S w,λw=>if w=u then b' else bk w,⟨λc hc=>⟨.inl (q1 c hc).1,(q1 c hc).2.1,(q1 c hc).2.2.1,ne c (q1 c hc).1 (q1 c hc).2.2.2⟩,λc hc=>⟨.inl (q2 c hc).1,(q2 c hc).2.1,ne c (q2 c hc).1 (q2 c hc).2.2⟩,.inl q3,λw pw=>?_,λv w pv pw vw=>?_⟩,⟨p1,?_,λj v t h1 h2=>?_⟩,Lw,c',e3,E3.congr (λw=>(eP w).symm) λ_ _=>rfl⟩
 ·dsimp only
  by_cases e:w=u
  ·rw[aK e]
   have nm:b'≠mr:=by
    rcases xE with q|q
    ·rw[q.2];exact(q4 u q.1).2.1
    ·omega
   refine⟨?_,nm,?_⟩
   ·rcases xE with q|q
    ·rw[q.2];exact .inl (q4 u q.1).1
    ·exact .inr ⟨q,ag⟩
   ·have ei:ints (hl aH (n+1) w)=ints (hl aH n u)++[ah (n:Int)]:=by rw[K7,e,aK hu];simp[ints]
    simp only[aK e]
    rw[ei]
    exact own.only o3 nm
  ·have Gk:=((eP w).1 pw).resolve_right e
   simp only[aC e]
   obtain⟨r1,r2,r3⟩:=q4 w Gk
   refine⟨.inl r1,r2,?_⟩
   have ei:hl aH (n+1) w=hl aH n w:=by rw[K7,hu,aC (Aq e),qA]
   rw[ei]
   exact r3.fr T3 λq=>q.elim (λq=>q5 w u Gk q.1 e q.2) r2
 ·dsimp only
  by_cases e:v=u
  ·have ew:w≠u:=λz=>vw (e.trans z.symm)
   have Gk:=((eP w).1 pw).resolve_right ew
   rw[aK e,aC ew]
   rcases xE with q|q
   ·rw[q.2];exact q5 u w q.1 Gk (e▸vw)
   ·have:=TI _ (q4 w Gk).1;omega
  ·have Qw:=((eP v).1 pv).resolve_right e
   rw[aC e]
   by_cases ew:w=u
   ·rw[aK ew]
    rcases xE with q|q
    ·rw[q.2];exact q5 v u Qw q.1 e
    ·have:=TI _ (q4 v Qw).1;omega
   ·rw[aC ew];exact q5 v w Qw (((eP w).1 pw).resolve_right ew) vw
 ·exact Qj p2 T3 λc hc q=>q.elim (λq=>(q2 c hc).2.2 u q.1 q.2) (q2 c hc).2.1
 ·exact aO.fr T3 (λc hc _ q=>q.elim (λq=>(q1 c hc).2.2.2 u q.1 q.2) (q1 c hc).2.2.1) (λ_ z=>z) _ (p3 j v t h1 h2)
open Classical in
theorem gm.sub(d:gm X h sv mr aH (n+1))(hu:(aH.getD n v0).hash=u):∃s0:Sl,(∀{K:Sl->Bool->Prop},(∀ok,K s0 ok)->Lk h (some mr) (.int .u64) (.int .u64 u) (.slice none 0 0) Sl.v K)/\s0.n=(hl aH n u).length+1/\
  ∀{K:Sl->Prop},(∀s1,(∀{K:HP},(∀h2,eJ mr h h2->(hl aH n u≠[]->gm X h2 sv mr aH n)->(hl aH n u=[]->∀{K:HP},(∀h3,eJ mr h h3->gm X h3 sv mr aH n->K h3)->yY h2 (some mr) (.int .u64) (.int .u64 u) K)->K h2)->Up h (some mr) (.int .u64) (.int .u64 u) (Sl.v s1) K)->K s1)->
   jo s0 1 none (some ((hl aH n u).length:Int)) none K:=by
 obtain⟨Xi,ts,S,bk,⟨q1,q2,q3,q4,q5⟩,⟨p1,p2,p3⟩,es,c,e1,E⟩:=d
 have hm:=(jD.1 e1).1
 have eh:∀w,hl aH (n+1) w=hl aH n w++if u=w then[n]else[]:=λw=>by rw[K7,hu]
 have pu:hl aH (n+1) u≠[]:=by rw[eh,aK rfl];simp
 have eP:∀w,hl aH n w≠[]->hl aH (n+1) w≠[]:=λw q=>by rw[eh];simp[q]
 have eP':∀w,hl aH (n+1) w≠[]->w≠u->hl aH n w≠[]:=λw q ne=>by simp_all[aC,Aq,qA]
 have own:=(q4 u pu).2.2
 have o:Os (λc=>c=bk u) h (S u) (ints (hl aH (n+1) u)) Y6:=.inr ⟨bk u,rfl,own⟩
 have on:=o.n
 rw[ints,cr,eh,aK rfl,iA,jC]at on
 refine⟨S u,λhk=>E.lk e1 (λ_=>rfl) (λp=>absurd pu p) hk,on,λ{K}hK=>o.cut ag rfl λs1 n1 o1=>hK s1 λ{K}hk=>?_⟩
 refine E.put e1 λh2 es2 c2 o2 k2 E2=>?_
 have Hg:mr<h2.size:=by rw[o2.1];exact hm
 have etk:(ints (hl aH (n+1) u)).take (hl aH n u).length=ints (hl aH n u):=by
  rw[eh,aK rfl];unfold ints;rw[kq,Is aA,qy aA]
 rw[etk]at o1
 have fin:∀{h3:Hp}{HD c3},eJ mr h h3->h3[mr]? =some (.map HD c3)->nM HD.toList (λw=>hl aH n w≠[]) (λw=>if w=u then s1 else S w)->gm X h3 sv mr aH n:=by
  intro h3 HD c3 o3 k3 E3
  refine⟨Xi,ts,λw=>if w=u then s1 else S w,bk,⟨λc hc=>⟨(q1 c hc).1,(q1 c hc).2.1,(q1 c hc).2.2.1,λw pw=>(q1 c hc).2.2.2 w (eP w pw)⟩,λc hc=>⟨(q2 c hc).1,(q2 c hc).2.1,λw pw=>(q2 c hc).2.2 w (eP w pw)⟩,q3,λw pw=>?_,λv w pv pw=>q5 v w (eP v pv) (eP w pw)⟩,⟨p1,?_,λj v t h1 h2=>?_⟩,HD,c3,k3,E3⟩
  ·obtain⟨r1,r2,r3⟩:=q4 w (eP w pw)
   refine⟨r1,r2,?_⟩
   by_cases e:w=u
   ·simp only[aK e]
    subst e
    rcases o1 with⟨_,e⟩|⟨b,rfl,o1⟩
    ·exact absurd (Vz.1 e) pw
    ·exact o1.only o3 r2
   ·simp only[aC e]
    rw[eh,aC (Aq e),qA]at r3
    exact r3.only o3 r2
  ·exact Qj p2 o3.fr λc hc q=>(q2 c hc).2.1 q
  ·exact aO.fr o3.fr (λc hc _ q=>(q1 c hc).2.2.1 q) (λ_ z=>z) _ (p3 j v t h1 h2)
 refine hk h2 o2 (λne=>fin o2 k2 (E2.congr (λw=>⟨λq=>?_,λq=>.inl (eP w q)⟩) λ_ _=>rfl)) λem K hk=>E2.del k2 λh3 HD c3 o3 k3 E3=>hk h3 (o2.trans o3) (fin (o2.trans o3) k3 (E3.congr (λw=>⟨λq=>?_,λq=>⟨.inl (eP w q),λz=>q (z▸em)⟩⟩) λ_ _=>rfl))
 ·rcases q with q|rfl
  ·by_cases e:w=u
   ·exact e▸ne
   ·exact eP' w q e
  ·exact ne
 ·exact eP' w (q.1.resolve_right q.2) q.2
end
section
variable {X:aQ} {sv:Sl} {mr n:Nat} {u:Int} {x y:aB} {t:Sl}
theorem zT{m:aR}(a:n<=aH.length)(u:Int):hl (aH++m) n u=hl aH n u:=
 at2 (λi b=>bZ) u
theorem FG{a:List Sl}(hl:a.length=aH.length):List.zipWith aB.row (aH++[x]) (a++[t])=List.zipWith aB.row aH a++[x.row t]:=by
 simp_all[CB]
theorem gm.push{K:Sl->HP}(d:gm X h sv mr aH n)(w:∀c,X c->c<h.size)(e:n<=aH.length)(hn:aH.length<=5000)(W:aN h a #[.bool false,ah 0,.string (bs []),.slice none 0 0] ty)
  (Z:∀k g,Tn X h g->gm (Tr X h g) g k mr (aH++[A6]) n->K k g):Ap h dh fY 4 56 sv 1 (rd h (bC a) (1*4)) K:=by
 obtain⟨Xi,O,S,bk,⟨J,i,R,I,Q⟩,⟨F,L,U⟩,es,c,e1,E⟩:=d;have Y:=(jD.1 e1).1;have V:=L.n;rw[m7]at V;refine L.ap (eu _) rfl (new:=[A6.row Sl.nil]) rfl (λr l=>by simp at l;subst l;rfl) (λr l=>by grind[A5]) (iJ W rfl) ag ag λk g f H M=>Z k g (f.mono λc q _=>(i c q).1) ?_
 have p:∀c,k.at c->sv.at c\/(h.size<=c/\c<g.size):=λc q=>(H c q).imp id λT=>⟨T,(M.at q).2⟩;refine⟨Xi,O++[Sl.nil],S,bk,⟨λc m=>?_,λc m=>?_,.inl R,λu b=>?_,λu v b N=>?_⟩,⟨by simp[F],by rw[FG F];exact M,λj v t o G=>?_⟩,es,c,(f.2 mr Y λq=>(i mr q).2.1 rfl).trans e1,E.congr (λu=>by rw[zT e]) λ_ _=>rfl⟩
 ·obtain⟨A,C,B,P⟩:=J c m;have:=w c A;exact⟨.inl A,λq=>(p c q).elim C λq=>ag,B,λu b=>P u (by rw[zT e]at b;exact b)⟩
 ·rcases p c m with q|q
  ·grind[zT]
  ·exact⟨.inr q,ag,λu b=>by rw[zT e]at b;grind⟩
 ·rw[zT e]at b ⊢;obtain⟨A,C,B⟩:=I u b;exact⟨.inl A,C,B.fr f λq=>(i _ q).2.2 u b rfl⟩
 ·rw[zT e]at b N;grind
 ·rcases zn F G with⟨a',G⟩|⟨rfl,rfl⟩
  ·rw[gN ag]at o;exact aO.fr f (λc m _ q=>(J c m).2.1 q) (λ_ z=>z) _ (U j v t o G)
  ·rw[fU (bX _)]at o;simp at o;subst o;exact pL g
theorem gm.len(d:gm X h sv mr aH n):sv.n=aH.length:=by
 obtain⟨i,c,S,g,_,⟨f,a,e⟩,_⟩:=d;have b:=a.n;simp[*]
theorem gm.set(d:gm X h sv mr (aH++[y]) n):∃m,X m/\sv.a=some (aJ m)/\(∀{K:Addr->Prop},K ⟨m,aH.length*4,none⟩->Ix sv.a sv.n 4 (aH.length:Int) K)/\
  ∀{X:aQ}{h:Hp}{K:HP}{t:Sl},gm X h sv mr (aH++[y]) n->n<=aH.length->aO D h t x.items->(∀c,D c->¬X c)->(∀h',Tn X h h'->gm (λc=>X c\/D c) h' sv mr (aH++[x]) n->K h')->iZ h ⟨m,aH.length*4,none⟩ 0 (x.row t) K:=by
 have dn:=d.len;rw[iA,jC]at dn;obtain⟨m,G,hX⟩:∃m,sv.a=some (aJ m)/\X m:=by
  obtain⟨Xi,O,S,bk,⟨T,A,R,Q,q5⟩,⟨M,U,p3⟩,_⟩:=d;rcases U.cases with⟨p,_⟩|⟨m,_,r⟩
  ·rw[p]at dn;simp[Sl.nil]at dn
  ·exact⟨m,r.a,(A m ⟨_,r.a,rfl⟩).1⟩
 refine⟨m,hX,G,λ{K}W=>?_,?_⟩
 ·unfold Ix;rw[G];refine⟨ag,ag,?_⟩
  rw[bz]
  simpa using W
 intro X h K t d Z N hD W;obtain⟨Xi,O,S,bk,⟨T,A,R,Q,q5⟩,⟨M,U,p3⟩,es,c,e1,E⟩:=d;rcases U.cases with⟨p,_⟩|⟨I,_,r⟩
 ·rw[p]at dn;simp[Sl.nil]at dn
 have eb:I=m:=by have:=r.a;rw[G]at this;cases this;rfl
 subst eb;obtain⟨k,t',rfl⟩:∃l z,O=l++[z]:=by
  rcases List.eq_nil_or_concat O with e|⟨l,z,e⟩
  all_goals simp_all
 have C:k.length=aH.length:=by simpa using M
 have zl:(List.zipWith aB.row aH k).length=aH.length:=by rw[m7,C,Ax]
 rw[FG C]at r;refine r.set (by simp[zl]) rfl (A5 x t) λh' F B=>?_
 have J:∀c,sv.at c↔c=I:=λc=>⟨λ⟨a,ha,e⟩=>by rw[G]at ha;cases ha;exact e.symm,λe=>⟨_,G,e.symm⟩⟩
 have a':(List.zipWith aB.row aH k++[y.row t']).set aH.length (x.row t)=List.zipWith aB.row (aH++[x]) (k++[t]):=by
  rw[FG C,yx _ _ ag,zl];simp
 rw[a']at B;have o:=A I ((J I).2 rfl);apply W h' (F.fr.mono λc q _=>q▸o.1);have b:∀(z:aB)u,hl (aH++[z]) n u=hl aH n u:=λz u=>zT Z u;refine⟨λc=>Xi c\/D c,k++[t],S,bk,⟨λc g=>?_,λc g=>⟨.inl (A c g).1,(A c g).2.1,λu f=>(A c g).2.2 u (by rw[b]at f ⊢;exact f)⟩,.inl R,λu f=>?_,λu v f N=>?_⟩,⟨by simp[C],⟨B.len,B.n,.inr ⟨I,eu _,B.lt,B.own⟩⟩,λj v w H Y=>?_⟩,es,c,(F.2 mr (λq=>o.2.1 q.symm)).trans e1,E.congr (λu=>by rw[b,b]) λ_ _=>rfl⟩
 ·rcases g with g|g
  ·obtain⟨p,P,L,r4⟩:=T c g;exact⟨.inl p,P,L,λu f=>r4 u (by rw[b]at f ⊢;exact f)⟩
  ·have V:=hD c g;exact⟨.inr g,λq=>V (A c q).1,λq=>V (q▸R),λu f q=>V (q▸(Q u (by rw[b]at f ⊢;exact f)).1)⟩
 ·rw[b]at f;obtain⟨p,P,L⟩:=Q u (by rw[b];exact f)
  rw[b]at L ⊢;exact⟨.inl p,P,L.only F λq=>o.2.2 u (by rw[b];exact f) q.symm⟩
 ·rw[b]at f N;exact q5 u v (by rw[b];exact f) (by rw[b];exact N)
 ·rcases zn C Y with⟨b',Y⟩|⟨rfl,rfl⟩
  ·rw[gN ag]at H;exact aO.fr F.fr (λc g _ q=>(T c g).2.1 ((J c).2 q)) (λ_ z=>.inl z) _ (p3 j v w (by rw[gN ag];exact H) (by rw[gN ag];exact Y))
  ·rw[fU (bX _)]at H;simp at H;subst H;exact aO.fr F.fr (λc g _ q=>hD c g (q▸o.1)) (λ_ z=>.inr z) _ N
theorem gm.cut{m:Nat}{K:Sl->Prop}(d:gm X h sv mr aH n)(z:n<=m)(C:m<=aH.length)(e:k=m)(R:∀s',gm X h s' mr (aH.take m) n->K s'):jo sv 4 none (some k) none K:=by
 subst e;have dn:=d.len;obtain⟨Xi,l,S,bk,⟨q1,Z,Y,W,V⟩,⟨O,N,p3⟩,L,c,e1,E⟩:=d;have cap:=N.cap;refine⟨AA _,aA,by simp;omega,aA,?_⟩
 simp only[wG,pQ,MB,gf,MJ];have g:∀u,hl (aH.take m) n u=hl aH n u:=by grind[zT,List.length_take,List.take_append_drop]
 have fin:∀s':Sl,(∀c,s'.at c->sv.at c)->eW 0 4 h s' (List.zipWith aB.row (aH.take m) (l.take m)) dh->gm X h s' mr (aH.take m) n:=by
  intro s' w o;refine⟨Xi,l.take m,S,bk,⟨λc I=>?_,λc I=>?_,Y,λu f=>?_,λu v f Q=>?_⟩,⟨by simp[O],o,λj v t z C=>?_⟩,L,c,e1,E.congr (λu=>by rw[g]) λ_ _=>rfl⟩
  ·obtain⟨p,B,G,U⟩:=q1 c I;exact⟨p,λq=>B (w c q),G,λu f=>U u (by rw[g]at f;exact f)⟩
  ·simp_all
  ·rw[g]at f ⊢;exact W u f
  ·rw[g]at f Q;exact V u v f Q
  ·rw[Vi]at z C;split at z
   ·rename_i q;rw[aK q]at C;exact p3 j v t z C
   ·cases z
 rcases N.cases with⟨p,B⟩|⟨b,hb,r⟩
 ·have:aH.length=0:=by rw[p]at dn;exact dn.symm
  have:m=0:=ag;subst this;rw[p];refine R _ (fin _ (λc⟨a,J,_⟩=>by simp[kV,Sl.nil]at J) ?_)
  have L:(⟨kV Sl.nil.a 0 Sl.nil.c 4,0,Sl.nil.c⟩:Sl)=Sl.nil:=by simp[kV,Sl.nil]
  rw[L];exact tL _ _ _ _
 ·obtain⟨M,a2,cs,T,a4,a5,a6⟩:=r.own;have ea:kV sv.a 0 sv.c 4=some (aJ b):=by
   simp only[kV];split
   ·exact M
   ·rw[M];simp[bz]
  rw[ea];have A:List.zipWith aB.row (aH.take m) (l.take m)=(List.zipWith aB.row aH l).take m:=by rw[List.take_zipWith]
  have H:uc 4 (List.zipWith aB.row (aH.take m) (l.take m)):=λx P=>r.len x (by grind[List.mem_of_mem_take])
  have F:(List.zipWith aB.row (aH.take m) (l.take m)).length=m:=by simp[O];omega
  refine R _ (fin _ (λc⟨a,J,e⟩=>⟨a,by rw[M];exact J,e⟩) ⟨H,F.symm,.inr ⟨b,eu _,T.lt,rfl,by rw[H.flat,F],cs,T,jE (by show m<=sv.n;omega) a4,a5,λi k=>?_⟩⟩)
  have k:i<m*4:=k;rw[a6 i ag];have:=EL m (List.zipWith aB.row aH l);rw[<-A]at this
  conv=>lhs;rw[<-this]
  rw[List.flatten_append,gN (by rw[H.flat,F];exact k)]
theorem gm.vs(d:gm X h sv mr aH n):aO (λ_=>True) h sv aH:=by
 obtain⟨k,g,S,i,_,⟨c,b,a⟩,_⟩:=d;exact aO.snoc b c (λ_ _=>trivial) λj d p f e=>sD (a j d p f e) λ_ _=>trivial
theorem gm.look(d:gm X h sv mr aH n)(u:Int):∃b:Sl,Sv h b (ints (hl aH n u))/\∀{a:Hp}{K:Sl->Bool->Prop},az h a->(∀ok,K b ok)->Lk a (some mr) (.int .u64) (.int .u64 u) (.slice none 0 0) Sl.v K:=by
 classical
 obtain⟨w,j,S,r,⟨o,m,l,e,k⟩,_,q,c,e1,E⟩:=d;have f:=(jD.1 e1).1;refine⟨if hl aH n u≠[]then S u else Sl.nil,?_,λ{a K}g i=>E.lk ((g.2 mr f).trans e1) (λp=>dG) (λp=>dG) i⟩
 by_cases p:hl aH n u≠[]
 ·rw[aK p];exact(e u p).2.2.sv
 ·rw[aC p,Classical.not_not.1 p];exact yu h
def Ko(x:aB)(aH:aR):Int:=match gu x aH with|some i=>(i:Int)|none=> -1
theorem aql{cs:Array Value}{K:cK}(d:gm X h sv mr aH aH.length)(M:aN h b cs el)(fS:cs[18]? =some (Sl.v sv))(W:cs[19]? =some (.map (some mr)))(hn:aH.length<=5000)(S:∀v∈aH,v.bx<=2^50)(hv:aO D h s x.items)(hw:x.bx<=2^40)
    (hk:∀I,az h I->K (Ko x aH) I):XL (bC b) x.au x.num (bs x.text) s h K Kp:=by
  refine aEw (aF λa H e1 J E _=>?_);refine bO ?_;refine aj (M.ai J) W (fk E (TG x (dU hv J) hw λO Q=>bQ (M.ai J) Q ?_));have E:=E.ai Q;have G:=ak J Q;obtain⟨s0,zj,lk⟩:=d.look x.hash;refine lk G λok=>?_;have n0:s0.n=(hl aH aH.length x.hash).length:=by have:=zj.1;rw[ints,cr]at this;exact this
  have a':=Tj aH aH.length x.hash;apply az8 (λz I=>∃j:Nat,z=j/\j<=(hl aH aH.length x.hash).length/\az O I/\∀(i p:Nat),i<j->(hl aH aH.length x.hash)[i]? =some p->aH[p]? ≠some x) (λz _=>(hl aH aH.length x.hash).length-z.toNat) ⟨0,rfl,eu _,cQ _,λi p k=>ag⟩
  rintro z h3 ⟨j,rfl,hj,P,m⟩ N hN;have w:=ak G P;refine cE (λA=>?_) λA=>?_
  · have B:j<(hl aH aH.length x.hash).length:=ag;have g:=bJ B;generalize(hl aH aH.length x.hash)[j]=p at g;have T:=Sn.1 (bT g);have f:=bJ T.1;generalize Z:aH[p]=y at f;have l:=bT f;refine(zj.ai w).ix ag ag (by rw[gf,ints,eY,g];rfl) λq F=>yQ F ?_
    refine bO ?_;refine aj (M.ai w) fS ((dU d.vs w).ix rfl f λq t cq Z=>gY cq (fk (E.ai P) (P8 y Z (dU hv w) (S y l) λb h4 g4 hb=>aG (λL=>?_) λL=>?_)))
    · have C:=hb.1 L;have R:gu x aH=some p:=by
        cases F:gu x aH with
        |none=>grind[vQ]
        | some r=>
          obtain⟨H,O⟩:=DG F
          by_cases e:r=p
          ·rw[e]
          · exfalso
            have b':¬p<r:=λq=>O p q (by rw[f,C])
            have V:r∈hl aH aH.length x.hash:=Sn.2 ⟨(de.1 H).1,by rw[gV,H];rfl⟩
            obtain⟨i,k⟩:=mD.1 V;have Y:(hl aH aH.length x.hash).Pairwise _:=List.pairwise_lt_range.filter _;have c':¬j<=i:=λq=>by
              have:=vg.1 Y j i B (de.1 k).1;rw[(de.1 k).2,(de.1 g).2]at this;rcases Nat.lt_or_eq_of_le q with q|q
              ·have:=this q;omega
              ·subst q;rw[g]at k;cases k;exact e rfl
            exact m i r ag k H
      grind[az.trans,Ko]
    · refine aX ag ag (hN _ _ ⟨j+1,aA,ag,ak P g4,λi r k o=>?_⟩ ag)
      by_cases e:i=j
      ·rw[e,g]at o;cases o;intro z;rw[f]at z;cases z;rw[hb.2 rfl]at L;cases L
      ·exact m i r ag o
  · have R:gu x aH=none:=vQ.2 λhm=>by
      obtain⟨p,g⟩:=mD.1 hm;have U:p∈hl aH aH.length x.hash:=by grind[Sn,List.getElem?_eq_some_iff]
      grind[List.mem_iff_getElem?,List.getElem?_eq_some_iff]
    grind[Ko]
end
section
variable {c:aq} {KM:List cO} {M:cO} {T:aQ} {h0 h':Hp} {r':Raw} {vs:aR} {m:fT} {g:dP} {x:aB} {K:cK}
theorem amr(d:f.k=19)(e:f.cs=[c])(r:Raw)(v:aB):f.tk r v=cW (eU v.au r) λa=>if v.au then fE 16 (a.up λb=>{b with ends:=b.ends++[0]})else match gu v a.b.aH with
  |some i=>fE v.bx (a.up λb=>{b with ends:=b.ends++[i]})
  |none=>if oK f.ix<=a.b.aH.length then(102,a)else cW (dm 0 (λq=>c.tk q v) a) λj=>fE v.bx (j.up λb=>{b with aH:=b.aH++[v],ends:=b.ends++[b.aH.length]}):=by
 rw[kG];unfold iI;rw[ay,ay,ay,ay,ay,ay,aK d,e];rfl
theorem abK{K:cK}(G:bW f KM T h r m g)(e:g.b=b)(a:K (oK f.ix:Int) h):Ow (bC b) h K Kp:=by
 subst e;apply aEv;refine bO ?_;refine aj G.B.k (by simp[cj];rfl) ?_
 unfold oK at a;refine aG (λc=>?_) λc=>aG (λd=>?_) λd=>?_
 ·rw[aK (by simpa using c)]at a;exact a
 ·rw[aC (by simpa using c),aK (by simpa using d)]at a;exact a
 ·rw[aC (by simpa using c),aC (by simpa using d)]at a;exact a
theorem BT(b:f.k=19)(a:Rb):cC f.k a=[(ints a.ends,Y6)]:=by unfold cC;simp[*]
theorem Ly(d:f.k=19)(a b:Rb):eN f.k a b↔b.ends <+: a.ends/\b.aH <+: a.aH/\a.aH.length<=5000/\∀v∈a.aH,v.bx<=4194304:=by unfold eN;simp[*]
theorem HH(b:f.k=19)(X:aQ)(h:Hp)(sp:bq)(a:Rb):iO f.k X h sp a↔∃sv d,sp=[Sl.v sv,.map (some d)]/\gm X h sv d a.aH a.aH.length:=by unfold iO;simp[*]
theorem aeb{K:HP}(e:f.k=19)(KF:∀(j:Nat)M,KM[j]? =some M->gG M)(S:fj f KM T h0 h r m g E)(O:g.b=b)(W:r.b.ends.length<=70000)
  (H:∀h' A B,fj f KM T h0 h' (r.up λb=>{b with ends:=b.ends++[i]}) m A B->A.b=b->Tn (λc=>¬E c) h h'->(∀c,E c->B c)->K h'):Ld h ⟨b,16,none⟩ Sl.v λp=>aI h #[ah (i:Int)] Y6 λt w=>Ap w Y6 #[ah 0] 1 8 p 1 (rd w (some t) (1*1)) λo L=>St L ⟨b,16,none⟩ (Sl.v o) K:=by
 subst O;have d:=BT e;have N:=Ly e;obtain⟨l,a⟩:=rV S.G.ls (d _);have U:l.n=r.b.ends.length:=by have:=S.G.oI (i:=0) (s:=l) (by simp[a]) (by rw[d];rfl);rw[this,ints,cr]
 refine S.G.dH (i:=0) (s:=l) rfl (by simp[a]) (aF λY J X y F _=>?_)
 refine(S.ai KF y).app (i:=0) (x:=(ints r.b.ends,Y6)) (x':=(ints (r.b.ends++[i]),Y6)) (r':=r.up λb=>{b with ends:=b.ends++[i]}) KF rfl (by simp[a]) (by rw[d];rfl) rfl ?_ rfl (iJ F rfl) ag ag (by simp[ints])
  ⟨rfl,rfl,rfl,rfl⟩ (by rw[d,d];rfl) rfl rfl (λV _ q=>?_) λQ R I C P=>H I _ _ P rfl ((bg y:Tn _ h J).trans (C.mono λc q _ z=>q (.inl z))) (λc q=>.inl q)
 ·intro v u;simp only[ng]at u;subst u;rfl
 ·rw[N]at q ⊢;exact⟨q.1.trans (tM _ _),q.2⟩
theorem aea(l:f.k=19)(KF:∀(j:Nat)M,KM[j]? =some M->gG M)(S:fj f KM T h0 h r m g E)(e:g.b=b)(A:r.b.ends.length<=70000)(L:r.b.bF<=2^50)(J:x.bx<=4194304)
  (w:aN h a #[.bool x.au,ah x.num,.string (bs x.text),Sl.v s] dh) (F:E a) (y:aO D h s x.items) (o:∀c,D c->E c)
  (B:∀h',Tn T h0 h'->cV f KM (Tr T h0 h') h' (.iface (bK f.k) (bH b)) (fE x.bx (r.up λb=>{b with ends:=b.ends++[i]})).2 m->K (fE x.bx (r.up λb=>{b with ends:=b.ends++[i]})).1 h'):Fg K Kp (bC b) (aJ a) (i:Int) h:=by
 subst e;apply aBD;refine bO ?_;exact aeb l KF S rfl A λP Q R H e u N=>fk (lJ u w F) (JL x (aO.fr u (λc q _ z=>z (o c q)) (λ_ z=>z) _ y) ag λO C=>(H.ai KF C).ql KF e rfl (by show r.b.bF+x.bx<2^62;omega) λp I d=>B p d.t ⟨_,by rw[e],d.G⟩)
theorem PU{H:Hp}{t S a d e zj:Sl}{n wt:Nat}{w V:Value}{K:HP}(k:aN H b (cj f t S a n i wt [Sl.v d,w,Sl.v zj,V]).toArray ty)
  (l:∀h',eJ b H h'->aN h' b (cj f t S a n i wt [Sl.v d,w,Sl.v e,V]).toArray ty->K h'):St H ⟨b,18,none⟩ (Sl.v e) K:=dI k (by simp[cj]) rfl λh' o j=>l h' o (by simpa[cj]using j)
theorem awj{s0 sv:Sl}{w:Value}(a':f.k=19)(KF:∀(j:Nat)M,KM[j]? =some M->gG M)(S:fj f KM T h0 h r m g E)(eb:g.b=b)(hn:r.b.ends.length<=70000)(hh:r.b.bF<=2^50)(hw:x.bx<=4194304)
  (ka:aN h a #[.bool x.au,ah x.num,.string (bs x.text),Sl.v s] dh) (ea:E a) (hv:aO D h s x.items) (k':∀c,D c->E c) (q':g.SS=[s0]) (v':g.kv=[w]) (t':g.sp=[Sl.v sv,.map (some i)]) (g':r.b.aH=aH) (z':aH.length<=4999) (d:gm g.X h sv i aH aH.length)
  (hk:∀h',Tn T h0 h'->cV f KM (Tr T h0 h') h' (.iface (bK f.k) (bH b)) (fE x.bx (r.up λb=>{b with aH:=b.aH++[x],ends:=b.ends++[b.aH.length]})).2 m->K (fE x.bx (r.up λb=>{b with aH:=b.aH++[x],ends:=b.ends++[b.aH.length]})).1 h'):(AO x.au x.num (bs x.text) s h (λF C A y h5=>aT h h5 ⟨b,18,none⟩ 1<|aI h5 #[(.bool false),(ah 0),(.string (bs [])),(.slice none 0 0)] dh λO V=>aT h5 V (aJ a) 4<|aT h5 V ⟨b,18,none⟩ 1 <|
   Ap V dh fY 4 56 sv 1 (rd V (some O) (1*4)) λo p=>Ix o.a o.n 4 (sv.n:Int) λL=>NN (bC b) λJ=>(dL p L F C A y λH=>St H (J.add 18) (Sl.v o) λU=>ue K Kp (bC b) (aJ a) (sv.n:Int) x.hash U)/\
    (St p (J.add 18) (Sl.v o) λH=>dL H L F C A y λU=>ue K Kp (bC b) (aJ a) (sv.n:Int) x.hash U)) Kp)/\
  (aI h #[(.bool false),(ah 0),(.string (bs [])),(.slice none 0 0)] dh λO h5=>aT h h5 (aJ a) 4<|aT h h5 ⟨b,18,none⟩ 1<|AO x.au x.num (bs x.text) s h5 (λF C A y V=>aT h5 V ⟨b,18,none⟩ 1 <|
   Ap V dh fY 4 56 sv 1 (rd V (some O) (1*4)) λo p=>Ix o.a o.n 4 (sv.n:Int) λL=>NN (bC b) λJ=>(dL p L F C A y λH=>St H (J.add 18) (Sl.v o) λU=>ue K Kp (bC b) (aJ a) (sv.n:Int) x.hash U)/\
    (St p (J.add 18) (Sl.v o) λH=>dL H L F C A y λU=>ue K Kp (bC b) (aJ a) (sv.n:Int) x.hash U)) Kp):=by
 subst eb;have es:=BT a';have ep:=Ly a';have eS:=HH a';have p':=d.len;rw[p'];have ex:∀q:Sl,iK f.k g.SS g.kv g.ks [Sl.v q,.map (some i)]=[Sl.v s0,w,Sl.v q,.map (some i)]:=λq=>by unfold iK nW;simp[*]
 have kb:=S.G.B.k;rw[t',ex]at kb;have b':∀c,g.X c->c<h.size:=λc q=>S.G.t.l (bT g.iR) q;have f':=S.G.t.kX g.iR;have bl:=kb.lt;have fin:∀{Z:Hp}{s':Sl},Tn (λc=>c=g.b\/g.X c) h Z->aN Z g.b (cj f g.sf g.sn g.sb r.b.rows r.b.cz r.b.bF [Sl.v s0,w,Sl.v s',.map (some i)]).toArray (iU f.k)->gm (Tr g.X h Z) Z s' i (aH++[x]) aH.length->ue K Kp (bC g.b) (aJ a) (aH.length:Int) x.hash Z:=by
  intro Z s' tx R dx;have zx:=tx.1;have nb:¬Tr g.X h Z g.b:=bZ
  have d':∀{h1 h3:Hp},az Z h1->Tn (Tr g.X h Z) h1 h3->gm (Tr (Tr g.X h Z) h1 h3) h3 s' i (aH++[x]) (aH.length+1)->Fg K Kp (bC g.b) (aJ a) (aH.length:Int) h3:=by
   intro h1 h3 I t3 d3;have z1:=I.1;have z3:=t3.1;have tt:=(tx.trans (bg I)).trans' t3 λc q u'=>q.elim .inr λq=>ag
   have x':=S.J7 (r':=r.up λb=>{b with aH:=b.aH++[x]}) KF tt (by rw[ex];exact t3.aZ (R.ai I) nb) ⟨rfl,rfl,rfl,rfl⟩ (by rw[es,es];rfl) rfl ((eS _ _ _ _).2 ⟨s',i,rfl,?_⟩) (λmm _ q=>?_) λq=>ag
   rotate_left
   ·show gm _ h3 s' i (r.b.aH++[x]) (r.b.aH++[x]).length
    rw[g',iA,jC];exact d3.mono λc q=>by
     grind
   ·rw[ep]at q ⊢;refine⟨q.1,q.2.1.trans (tM _ _),?_,λv hv=>?_⟩
    ·show(r.b.aH++[x]).length<=5000
     simp[*]
    ·have hv:v∈r.b.aH++[x]:=hv;grind
   obtain⟨S6,t6⟩:=x';subst g';obtain⟨rb,rk⟩:=r;exact aea a' KF S6 rfl hn hh hw (lJ t6 ka ea) ea (aO.fr t6 (λc q _ z=>z (k' c q)) (λ_ z=>z) _ hv) k' hk
  obtain⟨sq,lk,l'⟩:=dx.add (u:=x.hash) (λc q=>q.elim (λq=>bZ) λq=>q.2) ag aA
  apply aBC;refine bO ?_;refine aj R (by simp[cj]) (aj R (by simp[cj]) ⟨lk (cQ _) λok=>mK R R (aF λa8 h1 e1 I k1 _=>bQ R I (bQ R I (l' I k1 (R.ai I) nb λh3 t3 d3=>d' I t3 d3))),aF λa8 h1 e1 I k1 _=>bQ R I (bQ R I (lk I λok=>mK (R.ai I) (R.ai I) (l' I k1 (R.ai I) nb λh3 t3 d3=>d' I t3 d3)))⟩)
 have Q:∀{p:Hp}{O:Nat}{ty:TypeId}{t:Sl},az h p->aN p O #[(.bool false),(ah 0),(.string (bs [])),(.slice none 0 0)] ty->aO (λc=>h.size<=c/\c<p.size) p t x.items->
   Ap p dh fY 4 56 sv 1 (rd p (bC O) (1*4)) λo p=>Ix o.a o.n 4 (aH.length:Int) λL=>NN (bC g.b) λJ=>(dL p L x.au x.num (bs x.text) t λH=>St H (J.add 18) (Sl.v o) λU=>ue K Kp (bC g.b) (aJ a) (aH.length:Int) x.hash U)/\
    (St p (J.add 18) (Sl.v o) λH=>dL H L x.au x.num (bs x.text) t λU=>ue K Kp (bC g.b) (aJ a) (aH.length:Int) x.hash U):=by
  intro p O ty t P n' vt;have z7:=P.1;refine(d.fr (bg P) λ_ _ _=>id).push (λc q=>bZ) (bX _) ag n' λs' H t8 d8=>?_
  have z8:=t8.1;obtain⟨bb,y',La,ix,c'⟩:=d8.set;have nb:¬Tr g.X p H g.b:=bZ
  have j':=t8.aZ (kb.ai P) f';have nD:∀c,(h.size<=c/\c<p.size)->¬Tr g.X p H c:=bZ
  have i':=aO.fr t8 (λc q _ z=>bZ) (λ_ z=>z) _ vt
  have mo:∀{N:Hp},H.size<=N.size->∀c,(Tr g.X p H c\/(h.size<=c/\c<p.size))->Tr g.X h N c:=bZ
  have tt:∀{N:Hp},Tn (λc=>c=g.b\/Tr g.X p H c) H N->Tn (λc=>c=g.b\/g.X c) h N:=λY=>((bg P:Tn _ h p).trans (t8.mono λc q _=>.inr q)).trans' Y λc q u'=>q.elim .inl λq=>q.elim .inr λq=>ag
  refine ix ?_;refine bO ?_;refine⟨yp (c' d8 (bX _) i' nD λU t9 d9=>PU (t9.aZ j' nb) λN e' o'=>?_),PU j' λU o9 k9=>yp (c' (d8.fr o9.fr λc q _ e=>nb (e▸q)) (bX _) (aO.fr o9.fr (λc q _(e:c=g.b)=>ag) (λ_ z=>z) _ i') nD λN Y w'=>?_)⟩
  ·have z9:=t9.1;have m':=e'.1;exact fin (tt ((t9.mono λc q _=>.inr q).trans (e'.fr.mono λc q _=>.inl q))) o' ((d9.fr e'.fr λc q _ e=>by
    grind).mono (mo ag))
  ·have z9:=o9.1;have m':=Y.1;exact fin (tt ((o9.fr.mono λc q _=>.inl q).trans (Y.mono λc q _=>.inr q))) (Y.aZ k9 nb) (w'.mono (mo ag))
 refine⟨JM x hv ag λt V W vt=>bQ kb W (aF λa7 p e7 P k7 _=>bQ (ka.ai W) P (bQ (kb.ai W) P ?_)),aF λa6 V e6 W k6 _=>bQ ka W (bQ kb W (JM x (dU hv W) ag λt p P vt=>bQ (kb.ai W) P ?_))⟩
 ·have z7:=P.1;exact Q (ak W P) k7 (dU (sD (aO.lt _ vt) λc q=>⟨q.1,ag⟩) P)
 ·have z6:=W.1;exact Q (ak W P) (k6.ai P) (sD (aO.lt _ vt) λc(q:V.size<=c/\c<p.size)=>⟨ag,q.2⟩)
end
section
variable {c:aq} {M:cO} {T:aQ} {vs:aR} {m:fT} {g:dP} {x:aB} {K:cK}
theorem anQ{a b:Sl}{n q:Nat}(e:([Sl.v a,.map (some n)]:bq)=[Sl.v b,.map (some q)]):a=b/\n=q:=by
 obtain⟨l,k,j⟩:=a;obtain⟨i,b2,d⟩:=b
 simpa[Sl.v,and_assoc]using e
theorem Ud(a:f.k=19)(e:f.can vs):(f.st vs).b.aH=dS vs/\(dS vs).length<=4097/\(f.st vs).b.ends.length<=70000:=by
 have d:=(gj f vs).1 e;have i:=d.n4;refine⟨by rw[fI];simp only[aL];simp[*],jE (d.ds a) (by unfold oK;grind),?_⟩
 rw[fI];simp only[aL];grind
theorem ZW(l:f.k=19)(S:f.cs=[c])(C:MC c M)(hc:f.can vs)(i':f.fit x=true)(hw:x.bx<=4194304)(G:bW f [M] T h (f.st vs) m g)(hv:aO D h s x.items)(hD:∀c,D c->c<h.size->Out g c)
    (j:∀h',Tn T h h'->cV f [M] (Tr T h h') h' (.iface (bK f.k) (bH g.b)) (f.tk (f.st vs) x).2 m->K (f.tk (f.st vs) x).1 h'):Ox (bC g.b) x.au x.num (bs x.text) s h K Kp:=by
  have KF:=nE C;rw[amr l S]at j;have eS:=HH l;obtain⟨s0,Q⟩:=rV G.ls ((BT l) _);obtain⟨A,w,hA,O,b'⟩:=tj G rfl;have c':f.cs[0]? =some c:=by rw[S];rfl
  obtain⟨ev,a',q'⟩:=Ud l hc;have y:(f.st vs).aM 0=c.st (f.st vs).b.aH:=by rw[mY c' vs,ev,l,B9]
  have R:c.can (f.st vs).b.aH:=by have:=fC c' hc;rw[l,B9,<-ev]at this;exact this
  rw[<-ev]at a';have o':=iM R;have hh:=(iM hc).1;generalize v':f.st vs=p at G j y R o' hh a' q';refine aEA (aF λa h1 ea g1 o _=>?_);refine bO ?_;have S1:=(fj.of (E:=λc=>D c/\c<h.size) G λc q=>⟨q.2,hD c q.1 q.2⟩).ai KF g1;generalize hE:(λc=>(D c/\c<h.size)\/(h.size<=c/\c<h1.size))=E at S1;have E1:E a:=by rw[<-hE];exact .inr ⟨ag,o.lt⟩
  have I:∀c,D c/\c<h.size->E c:=λc q=>by rw[<-hE];exact .inl q
  have m':=dU (aO.lt _ hv) g1;have V:∀{ha hb:Hp},Tn (λc=>¬E c) ha hb->aO _ ha s x.items->aO _ hb s x.items:=λt v=>aO.fr t (λc q _ z=>z (I c q)) (λ_ z=>z) _ v;refine aj o rfl (S1.row KF rfl (λq=>bS rfl ?_) λq t' A' h2 t2 U=>bu rfl ?_)
  ·rw[rZ q]at j;exact j h1 S1.t ⟨g,rfl,S1.G⟩
  rw[rY q]at j;have o:=lJ t2 o E1;have Z:=V t2 m';generalize n':p.up _=F at j U;have r:F.b.aH=p.b.aH/\F.b.ends=p.b.ends/\F.b.bF=p.b.bF/\F.aM 0=p.aM 0:=by rw[<-n'];exact⟨rfl,rfl,rfl,rfl⟩
  apply aj o rfl;cases hn:x.au with
  | true=>
    rw[hn,aK rfl]at j;exact bS rfl (aeb l KF U rfl (by rw[r.2.1];omega) λh6 g' E' S6 eb t6 x'=>S6.ql KF eb rfl (by show F.b.bF+16<2^62;omega) λr' s' d'=>j r' d'.t ⟨_,by rw[eb],d'.G⟩)
  |false=>
  rw[hn]at j o;rw[aC bw]at j;rw[<-hn]at o;obtain⟨sv,mr,H,d⟩:=(eS _ _ _ _).1 U.G.sp;rw[r.1]at d;have ex:iK f.k g.SS g.kv g.ks [Sl.v sv,.map (some mr)]=[Sl.v s0,w,Sl.v sv,.map (some mr)]:=by unfold iK nW;rw[dV,Q,b'];rfl
  have kb:=U.G.B.k;rw[H,ex]at kb;have u':=d.len;refine bu rfl (aBE (fk o (aql d kb (by simp[cj]) (by simp[cj]) ag (λv hm=>by have:=oB hm;omega) Z ag λh3 g3=>?_)))
  have L:=U.ai KF g3;have o:=o.ai g3;have P:=dU Z g3;unfold Ko;rw[r.1]at j;cases hp:gu x p.b.aH with
  | some i=>
    rw[hp]at j;exact bu aA (aea l KF L rfl (by rw[r.2.1];omega) ag hw o (.inl E1) P (λc q=>.inl (I c q)) j)
  |none=>
  rw[hp]at j;apply bS rfl;refine bO ?_;refine aj (kb.ai g3) (by simp[cj];rfl) (abK L.G rfl (aG (λJ=>?_) λJ=>?_))
  ·have J:=aS J;simp only at j;rw[dV]at j;exact j h3 L.t ⟨_,by rfl,L.G⟩
  have J:=aS J;simp only at j;rw[ay]at j;have u:=L.G.aM 0 M A w rfl hA O;rw[r.2.2.2,y]at u;obtain⟨kk,bb,rfl⟩:=C.na u;refine L.G.lW (i:=1) rfl (.inr (.inr (.inl l))) (by simp[Q]) O (fk o ?_)
  have p':dm 0 (λq=>c.tk q x) F=((c.tk (c.st p.b.aH) x).1,F.fo 0 (c.tk (c.st p.b.aH) x).2):=by unfold dm;rw[r.2.2.2,y]
  rw[p']at j;refine C.take R (adL (.inl l) S i' hn) hw u P (λJ q z=>(L.e J (.inl (I J q))).2.2 _ A (dP.fF _ hA) ag z) λh4 t4 M4=>?_;obtain⟨S4,j'⟩:=L.aM KF hA t4 λM' w' q1 q2=>by
    simp at q1;subst q1;have q2:=q2;rw[O]at q2;cases q2;exact M4
  have W:=j'.mono λc q _ z=>q (.inl z);refine cE (λN=>?_) λN=>?_
  ·unfold cW at j;rw[aC N]at j;exact j h4 S4.t ⟨_,by rfl,S4.G⟩
  unfold cW at j;rw[aK N]at j;have o:=lJ W o E1;have Y:=V W P;refine fk o (TG x Y ag λh5 g5=>?_);have S5:=S4.ai KF g5;obtain⟨k',l',f',d5⟩:=(eS _ _ _ _).1 S5.G.sp;have e':=f';obtain⟨rfl,rfl⟩:=anQ (H.symm.trans e');have d5:gm g.X h5 sv mr p.b.aH p.b.aH.length:=by
    have e:(F.fo 0 (c.tk (c.st p.b.aH) x).2).b.aH=p.b.aH:=r.1;rw[e]at d5;exact d5
  refine aj S5.G.B.k ?_ (fk (o.ai g5) (awj l KF S5 rfl (by show F.b.ends.length<=_;rw[r.2.1];omega) (by show F.b.bF<=_;omega) hw (o.ai g5) (.inl (.inl E1)) (dU Y g5) (λc q=>.inl (.inl (I c q))) Q b' H r.1 ag d5 j))
  show(cj _ _ _ _ _ _ _ (iK f.k g.SS g.kv g.ks g.sp)).toArray[18]? =_
  rw[H,ex];simp[cj]
theorem akz(j:¬f.small=true)(d:f.k=19)(e:f.cs=[c])(r:Raw):f.zk r=cW (eU false r) λa=>if oK f.ix<=a.b.aH.length then(102,a)else cW (dm 0 c.zk a) λi=>(3,i):=by
 rw[sC];unfold nQ;simp[*]
theorem akI(R:bB f)(e:f.k=19)(r:f.cs=[c])(C:MC c M)(X:f.can vs)(G:bW f [M] T h (f.st vs) m g)
  (a:∀J,Tn T h J->cV f [M] (Tr T h J) J (.iface (bK f.k) (bH g.b)) (f.zk (f.st vs)).2 m->K (f.zk (f.st vs)).1 J):XM (bC g.b) h K Kp:=by
 apply aEz;refine bO ?_;refine aj G.B.k (by simp[cj];rfl) ?_
 by_cases u:f.small=true
 ·rw[vA (.inl u)]at a;obtain⟨_,O,h3,N⟩:=sS R u;exact bS u (gY G.uR (ZW e r C X O ag G G.no (λc q _=>G.DK q) a))
 rw[akz u e r]at a;apply bu (by simpa using u)
 have KF:=nE C;obtain⟨s0,z⟩:=rV G.ls ((BT e) _);obtain⟨A,w,Y,p,S⟩:=tj G rfl;have F:f.cs[0]? =some c:=by rw[r];rfl
 have n:=mY F vs;have P:=fj.of (E:=λ_=>False) G λ_ q=>q.elim;refine P.row KF rfl (λq=>bS rfl ?_) λq a' A' O t2 j=>bu rfl ?_
 ·rw[rZ q]at a;exact a h P.t ⟨g,rfl,P.G⟩
 rw[rY q]at a;obtain⟨sv,W,Q,d⟩:=(HH e _ _ _ _).1 j.G.sp;have ex:iK f.k g.SS g.kv g.ks [Sl.v sv,.map (some W)]=[Sl.v s0,w,Sl.v sv,.map (some W)]:=by unfold iK nW;rw[dV,z,S];rfl
 have I:=j.G.B.k;rw[Q,ex]at I;have b':=d.len;refine aj I (by simp[cj];rfl) (abK j.G rfl (mK I I (cE (λy=>?_) λy=>?_)))
 ·rw[dV]at a;exact a O j.t ⟨_,by rfl,j.G⟩
 rw[ay]at a;have l:=j.G.aM 0 M A w rfl Y p;rw[ji,n]at l;have U:dm 0 c.zk ((f.st vs).up (Rb.row false))=((c.zk (c.st (dK f.k f.w (dJ f.cs) 0 vs))).1,((f.st vs).up (Rb.row false)).fo 0 (c.zk (c.st (dK f.k f.w (dJ f.cs) 0 vs))).2):=by unfold dm;rw[ji,n]
 rw[U]at a;refine j.G.lW (i:=1) rfl (.inr (.inr (.inl e))) (by simp[z]) p (C.zero (fC F X) l λN t4 M4=>?_)
 obtain⟨L,_⟩:=j.aM KF Y t4 λM' Z V H=>by
  simp at V;subst V;have H:=H;rw[p]at H;cases H;exact M4
 refine cE (λo=>?_) λo=>?_
 ·unfold cW at a;rw[aC o]at a;exact a N L.t ⟨_,by rfl,L.G⟩
 ·unfold cW at a;rw[aK o]at a;exact a N L.t ⟨_,by rfl,L.G⟩
theorem amO(a:f.k=19)(e:f.cs=[c])(C:MC c M):wN f (cV f [M]):=by
 intro T D h v vs m x s K Kp n d i H j o l;obtain⟨g,rfl,G⟩:=H;have p:bK f.k=qB:=by unfold bK;simp[*]
 have q:nk _ x.au x.num _ s h K Kp:=awI (ZW a e C n d i G j (λc q _=>G.out (o c q)) l);grind
theorem akS(d:bB f)(a:f.k=19)(e:f.cs=[c])(C:MC c M):wK f (cV f [M]):=by
 intro T h v vs m K Kp j H i;obtain⟨g,rfl,G⟩:=H;have l:bK f.k=qB:=by unfold bK;simp[*]
 have q:mL _ h K Kp:=awz (akI d a e C j G i);grind
end
theorem ax2{c0 p q b a:Addr}{K:HP}(H:ajA c0 p q b a h K Kp):cZ aE (.func (.func 227) #[] #[c9 c0,c9 p,c9 q,c9 b,c9 a]) [] h (λr d=>r=.tuple #[]/\K d) Kp:=by
 unfold cZ;exact cast aW H
section
variable {c:aq} {KM:List cO} {M:cO} {T R:aQ} {h0 h':Hp} {r':Raw} {vs:aR} {m:fT} {mm:Mem} {g:dP} {caps:bq}
theorem arJ{n l k j:Array Value}(mc:AI R h caps [Z,n,l,k,j]):∃i e d b a t s q p o,caps=[bH i,bH e,bH d,bH b,bH a]/\
    (R i/\aN h i Z t)/\(R e/\aN h e n s)/\(R d/\aN h d l q)/\(R b/\aN h b k p)/\(R a/\aN h a j o):=by
  obtain⟨i,t,e0,I⟩:=mc.2 0 Z rfl;obtain⟨e,s,e1,H⟩:=mc.2 1 n rfl;obtain⟨d,q,B,G⟩:=mc.2 2 l rfl;obtain⟨b,p,A,F⟩:=mc.2 3 k rfl;obtain⟨a,o,x,C⟩:=mc.2 4 j rfl
  match caps,mc.1 with
  | [u,v,w,z,y],_=>
    simp at e0 e1 B A x;subst e0 e1 B A x;exact⟨i,e,d,b,a,t,s,q,p,o,rfl,I,H,G,F,C⟩
theorem gm.xm{sv:Sl}{n:Nat}{a:aR}(d:gm A h sv i a n):A i:=by obtain⟨_,_,_,_,⟨_,_,q,_⟩,_⟩:=d;exact q
theorem arU(a:f.k=19)(u:f.cs=[c])(C:MC c M):wS f (cV f [M]):=by
 intro T h v vs K Kp L H Z;obtain⟨g,rfl,G⟩:=H;have N:=nE C;have ed:bK f.k=qB:=by unfold bK;rw[ay,ay,ay,ay,ay,ay,aK a]
 have eb:gL f.k=227:=by unfold gL;rw[ay,ay,ay,ay,ay,aK a]
 have W:=BT a;obtain⟨I,e⟩:=rV G.ls (W _);obtain⟨A,w,O,J,c'⟩:=tj G rfl;have o:f.cs[0]? =some c:=by rw[u];rfl
 have X:I.n=(f.st vs).b.ends.length:=by have:=G.oI (i:=0) (s:=I) (by simp[e]) (by rw[W];rfl);rw[this,ints,cr]
 have aM:=G.aM 0 M A w rfl O J;have j:=mY o vs;have U:∀c,A c->c<h.size:=λc q=>G.t.l (bT (g.fF O)) q;obtain⟨sv,mr,V,d⟩:=(HH a _ _ _ _).1 G.sp;obtain⟨ev,a',d'⟩:=Ud a L;have P:c.can (f.st vs).b.aH:=by have:=fC o L;rw[a,B9,<-ev]at this;exact this
 have b':=iM P;have x:∀{h':Hp},az h h'->bW f [M] T h' _ none g:=λgr=>G.fr N (bg gr) λ_ _ _=>id;have q:kU (.iface qB (bH g.b)) h K Kp:=by
  rw[j]at aM;refine awR (Oy.mk (eT:=I) (rX:=sv) (V2:=lO M A w ((f.st vs).aM 0)) (λgr p=>G.BB (i:=0) N gr rfl (by simp[e]) p) (λgr p=>(x gr).lW (i:=1) rfl (.inr (.inr (.inl a))) (by simp[e]) J p) (λgr p=>?_) Ak Al (λgr z=>yj G.B gr z) (lO.qo C.fr U) lO.one (λgr z=>?_) λcaps F0 KF l0 u0 l2 u2 h' Q=>?_)
  ·have y:=(x gr).Uj (.inl a) (by simp[e])
   rw[V]at y;exact yQ (y 0 _ rfl) p
  ·rw[j]at z;exact lO.call C (fC o L) aM gr z
  ·have:=G.KE (sp:=[]) N u O J Q (.inr (.inr (.inl a))) ((Ly a _ _).2 ⟨jI _,jI _,by rw[ev];omega,λv Y=>by have:=oB Y;omega⟩) (λq=>ag) (λF m=>?_) Z
   ·rw[eb]at this;exact this
   ·unfold jv;simp only;rw[ay,ay,ay,ay,aK a,X,d.len];rfl
 rw[<-ed]at q;exact q
theorem ayN{K:HP}(o:f.k=19)(vY:f.cs=[c])(C:MC c M)(G:bW f [M] T h r (some mm) g)(hk:∀h',Tn T h h'->cV f [M] T h' (.iface (bK f.k) (bH g.b)) mm.r (some mm)->K h'):cZ aE mm.F [] h (λr h1=>r=.tuple #[]/\K h1) Kp:=by
 have KF:=nE C;obtain⟨⟨F0,KF',bm,c1,c2,c3,c4⟩,pr,ks,spm⟩:=G.mm mm rfl;obtain⟨caps,eF,mc⟩:=c4 ag;obtain⟨H,em,rfl⟩:=c1 ag;have ecl:jv f.k g.b F0 H.F mm=[#[F0],#[H.F],#[bH g.b],pI mm.r.b.ends.length,pI mm.r.b.aH.length]:=by unfold jv;simp only;rw[ay,ay,ay,ay,aK o]
 rw[ecl]at mc;obtain⟨a0,a1,a2,a3,a4,t0,t1,t2,t3,W,ec,⟨r0,k0⟩,⟨r1,k1⟩,⟨r2,j⟩,⟨r3,k3⟩,⟨r4,Z⟩⟩:=arJ mc;have ebk:gL f.k=227:=by unfold gL;rw[ay,ay,ay,ay,ay,aK o]
 have I:=BT o;have ep:=Ly o;have eS:=HH o;rw[ep]at pr;obtain⟨j',l,b',L⟩:=pr;obtain⟨s0,Q⟩:=rV G.ls (I _);obtain⟨A0,n'⟩:∃A0,g.ST=[A0]:=by
  have:=G.ls.2;rw[I]at this
  match hg:g.ST,this with
  |[a],_=>exact⟨a,rfl⟩
 obtain⟨A,w,hA,hw,u'⟩:=tj G rfl;rw[eF,ec,ebk];have hS:∀c,(c=g.b\/g.T0 c)->c<h.size->c=g.b\/g.T0 c:=λc q _=>q;have V:=G.av g.gC hS g.fM ag;have nA:∀c,g.R c->¬A c:=λc q=>G.t.ne g.fM (g.fF hA) ag c q;have nR:∀{c:Nat},g.R c->c≠g.b:=λq e=>G.t.kX g.fM (e▸q);have e':∀{c:Nat},g.R c->¬g.X c:=λq=>G.t.ne g.fM g.iR ag _ q;have c':=G.t.kX g.iR;refine ax2 (aEy (aj k0 rfl ?_))
 show cZ aE F0 [] h _ _
 refine x9 G KF bm λh1 u1 G1=>?_;have k1:=u1.aZ k1 (V _ r1 k1.lt);have j:=u1.aZ j (V _ r2 j.lt);have k3:=u1.aZ k3 (V _ r3 k3.lt);have Z:=u1.aZ Z (V _ r4 Z.lt);have a':=G1.aM 0 M A w rfl hA hw;have e0:((some mm).bind λmm=>mm.ks[0]?)=some H:=by show mm.ks[0]? =some H;rw[em];rfl
 rw[e0]at a';apply aj k1 rfl
 show cZ aE H.F [] h1 _ _
 refine C.back a' λh2 u2 M2=>?_;have G2:=G1.GN KF hA u2 λM' w' q1 q2=>by
  simp at q1;subst q1;have q2:=q2;rw[hw]at q2;cases q2;rw[e0];exact M2
 have j:=u2.aZ j (nA _ r2);have k3:=u2.aZ k3 (nA _ r3);have Z:=u2.aZ Z (nA _ r4);have o0:=G2.sl 0 s0 A0 (ints r.b.ends,Y6) (by simp[Q]) (by simp[n']) (by rw[I];rfl)
 have n0:=o0.n;have p0:=j'.length_le;simp only[ints,cr]at n0;refine aj j rfl (aj j rfl ?_);refine bO ?_;refine G2.dH (i:=0) rfl (by simp[Q]) (aj k3 rfl (o0.cut ag rfl λJ e0' k'=>?_))
 have z':(ints r.b.ends).take mm.r.b.ends.length=ints mm.r.b.ends:=by
  conv=>rhs;rw[U7.1 j']
  unfold ints;rw[<-It]
 rw[z']at k';refine G2.vH (i:=0) (s:=s0) (by simp[Q]) G2.B.k λh3 w3 p'=>?_
 have G3:=G2.w9 (x':=(ints mm.r.b.ends,Y6)) (r':=((r.qN mm.r).fo 0 H.r).up λb=>{b with ends:=mm.r.b.ends}) KF (by simp[n']) k' w3 p' ⟨rfl,rfl,rfl,rfl⟩ (by rw[I,I];rfl) rfl rfl λl' e _=>by rw[ep];cases e;exact⟨jI _,l,b',L⟩
 have j:=w3.aZ j (nR r2);have Z:=w3.aZ Z (nR r4);obtain⟨sv,Y,i',d⟩:=(eS _ _ _ _).1 G3.sp;have i':=i';have d:gm g.X h3 sv Y r.b.aH r.b.aH.length:=d;have dl:=d.len;have xm:=d.xm;have ex:∀q:Sl,iK f.k (g.SS.set 0 J) g.kv g.ks [Sl.v q,.map (some Y)]=[Sl.v J,w,Sl.v q,.map (some Y)]:=λq=>by unfold iK nW;rw[dV,Q,u'];rfl
 have kb:=G3.B.k;dsimp only at kb;rw[i',ex]at kb;refine aBB (aj j rfl ?_);refine bO ?_;refine aj kb (by simp[cj] <;> rfl) (aX ag ag ?_)
 have U:=l.length_le;apply az9 (λz hx=>∃n:Nat,z=(n:Int)-1/\mm.r.b.aH.length<=n/\n<=r.b.aH.length/\Tn g.X h3 hx/\gm g.X hx sv Y r.b.aH n) (λz _=>(z+1).toNat) ⟨r.b.aH.length,by rw[dl],U,bX _,iV _ _,d⟩
 rintro z h4 ⟨n,rfl,hn1,hn2,W,d4⟩ N hZ;have O:=W.aZ kb c';have P:=W.aZ j (e' r2);have m':=W.aZ Z (e' r4);refine aj m' rfl (cE (λcc=>?_) λcc=>?_)
 ·obtain⟨n,rfl⟩:∃k,n=k+1:=⟨n-1,ag⟩
  have hx:r.b.aH[n]? =some r.b.aH[n]:=bJ ag;generalize r.b.aH[n]=x at hx;have hu:(r.b.aH.getD n v0).hash=x.hash:=by rw[gV,hx];rfl
  apply aj P rfl;refine bO ?_;refine aj O (by simp[cj] <;> rfl) (d4.vs.ix (i:=n) ag hx λp u cp q'=>gY cp (TG x q' (by have:=L x (bT hx);omega) λh5 g5=>?_))
  have d5:=d4.fr (S:=No) (bg g5) λ_ _ _=>id;obtain⟨sq,lk,nq,P1⟩:=d5.sub hu;have f':=O.ai g5;have g':=P.ai g5;have hlen:=Tj r.b.aH n x.hash;refine aj g' rfl ?_;refine bO ?_;refine aj f' (by simp[cj] <;> rfl) (lk λok=>aj g' rfl ?_)
  refine bO ?_;refine aj f' (by simp[cj] <;> rfl) (aX ag ag ?_)
  rw[show((sq.n:Int)-1)=((hl r.b.aH n x.hash).length:Int) by omega]
  refine P1 λs1 up=>up λh6 o6 t' v'=>cE (λc1=>?_) λc1=>?_
  ·have nm:g.b≠Y:=λe=>c' (e▸xm);refine aj (o6.aZ g' λe=>e' r2 (e▸xm)) rfl ?_;refine bO ?_;refine aj (o6.aZ f' nm) (by simp[cj] <;> rfl) (v' (jB.1 ag) λh7 o7 d7=>aX ag ag (hZ _ _ ⟨n,ag,ag,ag,W.trans ((bg g5:Tn _ h4 h5).trans (o7.fr.mono λc q _=>q▸xm)),d7⟩ ag))
  ·exact aX ag ag (hZ _ _ ⟨n,ag,ag,ag,W.trans ((bg g5:Tn _ h4 h5).trans (o6.fr.mono λc q _=>q▸xm)),t' λe=>by rw[e]at nq;simp at nq;omega⟩ ag)
 ·have en:n=mm.r.b.aH.length:=ag;subst en;refine aBA (aj P rfl (aj P rfl ?_));refine bO ?_;refine aj O (by simp[cj] <;> rfl) (aj m' rfl (d4.cut (bX _) U rfl λs' d'=>PU O λh5 o5 k5=>?_))
  have y':r.b.aH.take mm.r.b.aH.length=mm.r.b.aH:=(U7.1 l).symm;rw[y']at d';have d':=d'.fr o5.fr λc q _ e=>c' (e▸q);have G4:=G3.spB (sp':=[Sl.v s',.map (some Y)]) (r':=((r.qN mm.r).fo 0 H.r).up λb=>{b with ends:=mm.r.b.ends,aH:=mm.r.b.aH}) KF ((W.mono λc q _=>.inr q).trans (o5.fr.mono λc q _=>.inl q)) (by dsimp only;rw[ex];exact k5) ⟨rfl,rfl,rfl,rfl⟩ (by rw[I,I];rfl) rfl ((eS _ _ _ _).2 ⟨s',Y,rfl,d'⟩) (λl' e q=>by
   cases e;rw[ep];exact⟨jI _,jI _,jE U b',λv hv=>L v (l.subset hv)⟩) λq=>ag
  have tf:Tn T h h5:=((((u1.mono λc q _=>q.elim (λe=>e▸G.t.tb) λq=>G.kA g.gC q).trans (u2.mono λc q _=>G.kA (g.fF hA) q)).trans (w3.fr.mono λc q _=>q▸G.t.tb)).trans (W.mono λc q _=>G.kA g.iR q)).trans (o5.fr.mono λc q _=>q▸G.t.tb);have eK:∀(r9:Raw),r9.kids=r.kids->(r9.fo 0 H.r).kids=mm.r.kids:=by
   intro r9 e9;rw[ks.1,em];obtain⟨b9,o'⟩:=r9;have hl:=G.lk.2.2;rw[<-e9]at hl
   match o',hl with
   |[y],_=>rfl
  exact hk h5 tf ⟨_,by rfl,G4.conv (r':=mm.r) ⟨rfl,rfl,rfl,rfl⟩ (by rw[I,I];rfl) (eK _ rfl).symm (λ_=>rfl) λl' e _=>by cases e;rw[ep];exact⟨jI _,jI _,jE U b',λv hv=>L v (l.subset hv)⟩⟩
end
section
variable {c:aq} {M:cO} {vs:aR}
theorem Pt{ix:Int}{K:cK}(b:3<=ix/\ix<=10)(a:K (wB ix:Int) h):C4 ix h K Kp:=by
 have:ix=3\/ix=4\/ix=5\/ix=6\/ix=7\/ix=8\/ix=9\/ix=10:=ag;rcases this with rfl|rfl|rfl|rfl|rfl|rfl|rfl|rfl <;> exact ajB a
theorem awd(c':bB f)(L:f.k=19)(d':f.cs=[c])(C:MC c M):wW f (cV f [M]):=by
 intro T h v vs m K Kp hc H hk;obtain⟨g,rfl,G⟩:=H;have KF:=nE C;have W:=(c'.right.1.2.2.2.2.2.1 L).2.2;have ed:bK f.k=qB:=by unfold bK;simp[*]
 have es:=BT L;obtain⟨s0,V⟩:=rV G.ls (es _);obtain⟨A0,e'⟩:∃A,g.ST[0]? =some A:=⟨_,bJ (by rw[G.ls.2,es];simp)⟩
 have ef:f.dn (f.st vs)=.mk (f.st vs).b.rows 0 (f.st vs).b.cz [dF (f.st vs).b,laidB (f.st vs).b.ends (wB f.ix)] [] (iy f vs):=by rw[HL L,fI];rfl
 rw[ef]at hk;obtain⟨ev,i',el⟩:=Ud L hc;have eb:∀x∈(f.st vs).b.ends,x<2^63:=by
  rw[fI];simp only[aL];rw[ay,ay,ay,aK L];intro x d;obtain⟨v,_,rfl⟩:=kZ.1 d;split
  ·omega
  ·cases hp:gu v (dS vs)with
   |none=>simp
   |some p=>have:=(de.1 (DG hp).1).1;grind
 have b':wB f.ix<=8:=by unfold wB;split;omega;split;omega;grind
 have q:mM (.iface qB (bH g.b)) h K Kp:=by
  refine aw0 (aEB (aF λa2 r e1 g1 k2 _=>?_));refine bO ?_;have R:∀{d:Hp},az r d->bW f [M] T d _ m g:=λF=>G.fr KF (bg (ak g1 F)) λ_ _ _=>id;have kb:=(R (cQ _)).B.k;have o0:∀{d:Hp},az r d->Os A0 d s0 _ Y6:=λF=>(R F).sl 0 s0 A0 _ (by simp[V]) e' (by rw[es];rfl)
  have fin:∀{d:Hp}{e:Nat}{b:Sl},AX h d a2 e (f.st vs).b.rows (f.st vs).b.cz b [dF (f.st vs).b,laidB (f.st vs).b.ends (wB f.ix)]->yS K Kp (bC g.b) (aJ a2) (aJ e) d:=by
   intro d e b B;apply aBF;refine bO ?_;obtain⟨c2,Z,a',e2⟩:=B.k2;have g':=a'.lt;have f':=B.k3.lt;have Gh:=G.fr KF (bg B.g) λ_ _ _=>id;refine acD (i:=1) (.inr (.inr (.inl L))) d' C hc Gh (by simp[V]) rfl λa h' gr la ds=>ap7 (t:=⟨some (aJ a),1,1⟩) (a'.ai gr) e2 (B.k3.ai gr) B.l.2.2 λY Z=>?_
   obtain⟨ge,be⟩:=B.end gr Z;have:=B.g.1;exact hk (b,Sl.nil,_) Y ge ⟨be,jA _,dD.fr Z (λc(q:d.size<=c)_ z=>ag) (λc(q:d.size<=c)_ z=>ag) (λc(q:d.size<=c)=>ag) (λc(q:d.size<=c)=>ag) _ ds⟩
  have q5:=λ{d:Hp}{e:Nat}{b:Sl}(F:az r d)(o:aN d e cX ck)(U:r.size<=e)(Q:fH (Ex r e) (Ex r e) d b [dF (f.st vs).b,laidB (f.st vs).b.ends (wB f.ix)])=>Ig g1 k2 rfl ag F o U Q λh'=>fin;have q4:∀{d:Hp}{e:Nat}{b:Sl},az r d->aN d e cX ck->r.size<=e->fH (Ex r e) (Ex r e) d b [dF (f.st vs).b,laidB (f.st vs).b.ends (wB f.ix)]->
    iF (bC g.b) b d (λt0 t1 Z t3 t4 t5 X=>cL X (aJ e) t0 t1 Z t3 t4 t5 (yS K Kp (bC g.b) (aJ a2) (aJ e))) Kp:=λF o U Q=>qv (R F).B λX I=>q5 (ak F I) (o.ai I) U (Q.gr I)
  have q3:=λ{d:Hp}{e:Nat}{u t:Sl}(F:az r d)(o:aN d e cX ck)(U:r.size<=e)(P:eD (Ex r e) d u (bv (dF (f.st vs).b)))(vt:eD (Ex r e) d t (bv (laidB (f.st vs).b.ends (wB f.ix))))=>
   oM P vt ⟨F.1,by have:=o.lt;omega⟩ λa X I Q=>q4 (ak F I) (o.ai I) U Q
  have q2:=λ{d:Hp}{e:Nat}{u:Sl}(F:az r d)(o:aN d e cX ck)(U:r.size<=e)(P:eD (Ex r e) d u (bv (dF (f.st vs).b)))=>
   xz (Kp:=Kp) (o0 F) el b' eb λt X N=>q3 (ak F N.g) (o.ai N.g) U (P.gr N.g) (N.lq.mo λc(q:d.size<=c)=>⟨by have:=F.1;omega,by have:=o.lt;omega⟩)
  have y:=λ{d:Hp}(F:az r d)=>(R F).B.k;refine(R (cQ _)).dH (i:=0) rfl (by simp[V]) (aj kb (by simp[cj] <;> rfl) ⟨wv (R (cQ _)).B λu Y j P=>bQ kb j (bQ kb j ⟨Pt W (mK (y j) (y j) ⟨xz (o0 j) el b' eb λt h3 N=>⟨?_,?_⟩,aF λe h3 e3 E o _=>bQ (y j) E (bQ (y j) E ?_)⟩),aF λe h3 e3 E o _=>bQ (y j) E (bQ (y j) E (Pt W (mK (y (ak j E)) (y (ak j E)) ?_)))⟩),aF λe Y e2 j o _=>bQ kb j (bQ kb j (wv (R j).B λu h3 E P=>bQ (y j) E (bQ (y j) E (Pt W (mK (y (ak j E)) (y (ak j E)) ?_)))))⟩)
  ·have z2:=j.1;have O:=ak j N.g;have z3:=N.g.1;refine oM ((P.gr N.g).mo λc q=>q) (N.lq.mo λc(q:Y.size<=c)=>ag) ag λa h4 J Q=>⟨qv (R (ak O J)).B λX I=>aF λe h6 e6 g6 o _=>bQ (y (ak (ak O J) I)) g6 (bQ (y (ak (ak O J) I)) g6 ?_),aF λe X e5 I o _=>bQ (y (ak O J)) I (bQ (y (ak O J)) I ?_)⟩
   ·have z4:=J.1;have z5:=I.1;exact q5 (ak (ak (ak O J) I) g6) o ag (Q.kP (ak I g6) ag λc q=>q)
   ·have z4:=J.1;exact q4 (ak (ak O J) I) o ag (Q.kP I ag λc q=>q)
  ·have z2:=j.1;have z3:=N.g.1;have O:=ak j N.g;refine aF λe h4 e4 J o _=>bQ (y O) J (bQ (y O) J (q3 (ak O J) o ag (P.kP (ak N.g J) ag λc q=>q) (N.lq.kP J ag λc(q:Y.size<=c)=>ag)))
  ·have z2:=j.1;exact q2 (ak j E) o ag (P.kP E ag λc q=>q)
  ·have z2:=j.1;exact q2 (ak j E) o ag (P.kP E ag λc q=>q)
  ·have z2:=j.1;exact q2 (ak j E) (o.ai E) ag (P.mo λc(q:Y.size<=c)=>⟨ag,ag⟩)
 grind
end
mutual
def aq.kY:aq->cO
 |.mk nm au k w id ix cs=>cV (.mk nm au k w id ix cs) (Gr cs)
def Gr:List aq->List cO
 |[]=>[]
 |f::fs=>f.kY::Gr fs
end
theorem abW:∀cs:List aq,Gr cs=cs.map aq.kY
 |[]=>by simp[Gr]
 |f::a=>by simp[Gr,abW a]
theorem aq.abX(f:aq):f.kY=cV f (f.cs.map aq.kY):=by
 obtain⟨a,au,k,w,id,ix,cs⟩:=f;rw[<-abW];simp only[aq.kY];rfl
def aHq(f:aq)(M:cO):Prop:=∀{T:aQ}{h:Hp}{v:Value}{r:Raw}{mm:Mem}{K:HP}{Kp:PK},M T h v r (some mm)->
  (∀h',Tn T h h'->M T h' v mm.r (some mm)->K h')->cZ aE mm.F [] h (λr h1=>r=.tuple #[]/\K h1) Kp
section
variable {KM:List cO}
theorem kK.drop(C:kK f.cs KM):∀(j:Nat)M,KM[j]? =some M->∀{T:aQ}{h:Hp}{v:Value}{r:Raw}{m:fT},M T h v r m->M T h v r none:=by
 intro j M a T h v r m;have c:=(de.1 a).1;have b:j<f.cs.length:=by have:=C.1;omega
 exact(C.2 j _ M (bJ b) a).drop
theorem xx(C:kK f.cs KM)(t:wN f (cV f KM))(z:wK f (cV f KM))(k:wS f (cV f KM))(b:aHq f (cV f KM))(d:wW f (cV f KM)):MC f (cV f KM):=
 ⟨cV.fr (v:=.bool false) C.qY,cV.lt,cV.na,cV.mono,cV.drop C.drop,t,z,k,b,d,cV.count,cV.weight⟩
theorem arD(b:bB f)(D:∀c∈f.cs,MC c c.kY):MC f f.kY:=by
 have C:kK f.cs (f.cs.map aq.kY):=⟨cr ..,λj c M u B=>by
  grind⟩
 have z:∀c∈f.cs,jr c/\dW c c.zk c.cm:=λc u=>⟨(mj c (b.aM u)).1,(mj c (b.aM u)).2.1⟩;rw[aq.abX];have flat:f.k≠15/\f.k≠16/\f.k≠19/\f.k≠20/\f.k≠17/\f.k≠18->f.cs=[]:=λq=>jB.1 (b.right.1.2.2.2.2.2.2.2.2.2.2 q);have one:f.k=15\/f.k=16\/f.k=19\/f.k=20->∃c,f.cs=[c]/\MC c c.kY/\jr c/\dW c c.zk c.cm:=λq=>by
  obtain⟨c,u,_⟩:=b.one q;simp[*]
 by_cases x:f.k=1
 ·have a:=flat ag;exact xx C (by rw[a];exact amM x) (by rw[a];exact akQ x) (by rw[a];exact arS x a) (by rw[a];rintro T h v r t K w ⟨g,rfl,G⟩ e;exact ayL x a G e) (by rw[a];exact awb x)
 by_cases s:f.k=12\/f.k=13
 ·have a:=flat ag;exact xx C (by rw[a];exact amH b s) (by rw[a];exact akL b s) (by rw[a];exact arN s a) (by rw[a];rintro T h v r t K w ⟨g,rfl,G⟩ e;exact ayG s a G e) (by rw[a];exact av6 s)
 by_cases p:f.k=15
 ·obtain⟨c,a,d,P,_⟩:=one ag;exact xx C (by rw[a];exact amN b p a d P) (by rw[a];exact akR b p a d P) (by rw[a];exact arT p a d) (by rw[a];rintro T h v r t K w ⟨g,rfl,G⟩ e;exact ayM p a d G e) (by rw[a];exact awc p a d)
 by_cases o:f.k=16
 ·obtain⟨c,a,d,P,Z⟩:=one ag;exact xx C (by grind[amJ]) (by grind[akN]) (by rw[a];exact arP o a d) (by rw[a];rintro T h v r t K w ⟨g,rfl,G⟩ e;exact ayI o a d G e) (by rw[a];exact av8 o a d)
 by_cases n:f.k=17
 ·exact xx C (amI b n C z) (akM b n C z) (arO b n C) (by rintro T h v r t K w ⟨g,rfl,G⟩ e;exact ayH b n C G e) (av7 b n C)
 by_cases m:f.k=18
 ·exact xx C (amP b m C z) (akT b m C z) (arV b m C) (by rintro T h v r t K w ⟨g,rfl,G⟩ e;exact ayO b m C G e) (awe b m C)
 by_cases l:f.k=19
 ·obtain⟨c,a,d,P,_⟩:=one ag;exact xx C (by rw[a];exact amO l a d) (by rw[a];exact akS b l a d) (by rw[a];exact arU l a d) (by rw[a];rintro T h v r t K w ⟨g,rfl,G⟩ e;exact ayN l a d G e) (by rw[a];exact awd b l a d)
 by_cases i:f.k=20
 ·obtain⟨c,a,d,P,_⟩:=one ag;exact xx C (by rw[a];exact amK b i a d P) (by rw[a];exact akO b i a d P) (by rw[a];exact arQ i a d) (by rw[a];rintro T h v r t K w ⟨g,rfl,G⟩ e;exact ayJ i a d G e) (by rw[a];exact av9 i a d)
 have y:fL f.k=true:=by simp[fL];omega
 have a:=flat ag;exact xx C (by rw[a];exact amL y) (by rw[a];exact akP b y) (by rw[a];exact arR y a) (by rw[a];rintro T h v r t K w ⟨g,rfl,G⟩ e;exact ayK y a G e) (by rw[a];exact awa b y)
end
theorem qT:∀f:aq,bB f->MC f f.kY
  | .mk e au k w id ix cs,a=>by
    have b:∀c∈cs,MC c c.kY:=λc d=>qT c (a.aM d);exact arD a b
theorem rO(f:aq):f.wz<=4194305:=by
 rw[Am];unfold zb;grind
theorem Bh(k:aN h a (f.row s).toArray gO):Cs h ⟨a,2,none⟩ [ah f.k,ah f.w,ah f.id,ah f.ix,Sl.v s]:=by
 intro i v b;rw[bz,ia k];rcases i with _|_|_|_|_|i
 ·simpa[aq.row,nU]using b
 ·simpa[aq.row,nU]using b
 ·simpa[aq.row,nU]using b
 ·simpa[aq.row,nU]using b
 ·simpa[aq.row,nU]using b
 ·simp at b
theorem alo(ff:bB f)(IH:∀c∈f.cs,CN c):CN f:=by
  cases hl:f.lets with
  |true=>exact alp hl
  |false=>
  intro h s K Kp hs hk;have nC:=ff.right.1;obtain⟨_,_,zV,Ea,_,_,_,h1,TN,BP,_⟩:=nC;refine ajW (aF λa1 h1' e1 g1 k1 _=>dO k1 (GB (hs.gr g1) λh2 g2=>bu hl ?_));have s2:=g2.1;have G2:=ak g1 g2;have k1:=k1.ai g2;simp only[bz,cF];refine nF (Bh k1) (aF λa3 h3 e3 g3 k3 _=>pM k3 rfl λh4 o4 k3=>aj k3 rfl ?_);have G4:=bI (ak G2 g3) o4 ag;have zS:=hs.gr G4;have fin:∀{h':Hp}(n:Nat){x:Int},az h4 h'->f.wz=min 4194305 n->x=(n:Int)->Lt (if 4194305<x then 4194305 else x) λt63=>K t63 h':=by
    rintro h' n x g e rfl;have:=hk h' (ak G4 g);have e2:(if 4194305<(n:Int)then(4194305:Int)else(n:Int))=(f.wz:Int):=by rw[e];split <;> omega
    unfold Lt;rw[e2];exact this
  have ew:f.wz=min 4194305 (if f.k=14 then 16+f.w.toNat else if f.k=16 then 16+f.w.toNat*(f.cs.map aq.wz).getD 0 0 else if f.k=17 then 16+(f.cs.map aq.wz).sum else if f.k=18 then 16+(f.cs.map aq.wz).getD 0 0 else if f.k=19\/f.k=20 then(f.cs.map aq.wz).getD 0 0 else 16):=by
    rw[Am,hl];rfl
  have aM:∀{c:aq},f.cs[0]? =some c->(f.cs.map aq.wz).getD 0 0=c.wz:=by grind
  simp only[bz,cF];refine aG (λie=>?_) λie=>aG (λkD=>?_) λkD=>aG (λmX=>?_) λmX=>aG (λfS=>?_) λfS=>?_
  ·have ie:=aS ie;have hw:=zV ie;rw[aK ie]at ew;exact aj k3 rfl (aX ag ag (fin (16+f.w.toNat) (cQ _) ew (by push_cast;omega)))
  · simp only[sm,reduceCtorEq]at ie kD;rw[aC ie,aK kD]at ew;have hc:=h1 ag;have eH:f.cs[0]? =some f.cs[0]:=bJ ag;generalize f.cs[0]=c at eH;rw[aM eH]at ew;have wl:=rO c;refine aj k3 rfl (aj k3 rfl (zS.ix rfl eH λp hp=>?_));obtain⟨u,cp,hu⟩:=hp.row;refine gH cp (IH c (bT eH) hu λh5 g5=>bQ k3 g5 ?_);have e1:f.w*(c.wz:Int)=((f.w.toNat*c.wz:Nat):Int):=by push_cast;rw[yy ag]
    have e2:f.w.toNat*c.wz<=64*4194305:=tO ag wl;rw[e1];exact aX ag ag (aX ag ag (fin (16+f.w.toNat*c.wz) g5 ew (by push_cast;rfl)))
  · simp only[sm,reduceCtorEq]at ie kD mX;rw[aC ie,aC kD,aK mX]at ew;have hn:=zS.n;have atu:∀i,((f.cs.map aq.wz).take i).sum<=i*4194305:=by
      intro i
      induction i with
      |zero=>simp
      | succ i ih=>
        by_cases hi:i<(f.cs.map aq.wz).length
        ·grind[List.take_succ_eq_append_getElem,rO]
        ·have q1:(f.cs.map aq.wz).take (i+1)=f.cs.map aq.wz:=qy ag;have q2:(f.cs.map aq.wz).take i=f.cs.map aq.wz:=qy ag;rw[q1];rw[q2]at ih;exact jE ih (oQ _ (Nat.le_succ i))
    refine aj k3 rfl (aAv (λy z h'=>∃i:Nat,z=i/\i<=f.cs.length/\y=((16+((f.cs.map aq.wz).take i).sum:Nat):Int)/\az h4 h') (λ_ z _=>f.cs.length-z.toNat) ⟨0,rfl,eu _,aA,cQ _⟩ ?_)
    rintro y z h5 ⟨i,rfl,hi,ey,g5⟩ N hN;subst ey;have hb:=atu i;refine cE (λcc=>?_) λcc=>?_
    · have eC:i<f.cs.length:=ag;have eH:=bJ eC;have lH:(f.cs.map aq.wz).take (i+1)=(f.cs.map aq.wz).take i++[f.cs[i].wz]:=by rw[kS (by simpa using eC)];simp
      generalize f.cs[i]=c at eH lH;have wl:=rO c;refine(zS.gr g5).ix rfl eH λp hp=>?_;obtain⟨u,cp,hu⟩:=hp.row;refine gH cp (aF λa6 h6 e6 g6 k6 _=>oO k6 rfl λh7 o7 k7=>dO k7 ?_);have g7:=bI g6 o7 ag;refine IH c (bT eH) (hu.gr g7) λh8 g8=>aX ag ag (aX ag ag (hN _ _ _ ⟨i+1,aA,ag,?_,ak g5 (ak g7 g8)⟩ ag))
      rw[lH,Im];simp;omega
    ·have:i=f.cs.length:=ag;subst this;rw[qy aA];exact fin (16+(f.cs.map aq.wz).sum) g5 ew (by push_cast;rfl)
  ·simp only[sm,reduceCtorEq]at ie kD mX fS;rw[aC ie,aC kD,aC mX,aK fS]at ew;have hc:=(BP fS).1;have eH:f.cs[0]? =some f.cs[0]:=bJ ag;generalize f.cs[0]=c at eH;rw[aM eH]at ew;have wl:=rO c;refine aj k3 rfl (zS.ix rfl eH λp hp=>?_);obtain⟨u,cp,hu⟩:=hp.row;exact gH cp (IH c (bT eH) hu λh5 g5=>aX ag ag (fin (16+c.wz) g5 ew (by push_cast;rfl)))
  · simp only[sm,reduceCtorEq]at ie kD mX fS;rw[aC ie,aC kD,aC mX,aC fS]at ew;have deep:f.k=19\/f.k=20->Ld h4 ⟨a3,4,none⟩ Sl.v λt58=>Ix t58.a t58.n 7 0 λa59=>bR h4 a59 λamX amW amV amU amT amS amR=>yW amX amW amV amU amT amS amR h4 (λt61 h5=>Lt (if 4194305<t61 then 4194305 else t61) λt63=>K t63 h5) Kp:=by
      intro q;rw[aK q]at ew;have hc:=h1 ag;have eH:f.cs[0]? =some f.cs[0]:=bJ ag;generalize f.cs[0]=c at eH;rw[aM eH]at ew;refine aj k3 rfl (zS.ix (x:=0) (i:=0) rfl eH λp hp=>?_);obtain⟨u,cp,hu⟩:=hp.row;exact gH cp (IH c (bT eH) hu λh5 g5=>fin c.wz g5 ew rfl)
    refine aG (λod=>bS od ?_) λod=>aG (λAh=>?_) λAh=>?_
    ·have od:=aS od;exact deep (.inl od)
    ·have Ah:=aS Ah;exact deep (.inr Ah)
    ·simp only[sm,reduceCtorEq]at od Ah;rw[ay]at ew;exact fin 16 (cQ _) ew rfl
theorem Zl:∀f:aq,bB f->CN f
  | .mk e au k w id ix cs,a=>by
    have b:∀c∈cs,CN c:=λc d=>Zl c (a.aM d);exact alo a b
open Go Go.Sh Go.Shelf
def aaP:Ren where
 f:=λx=>match x with|99=>99|105=>73|165=>100|166=>101|169=>103|170=>102|206=>120|212=>98|240=>121|241=>122|263=>118|264=>119|276=>134|277=>135|n=>n
 t:=λx=>match x with|37=>58|46=>188|51=>230|53=>233|70=>196|72=>198|75=>201|76=>202|109=>193|127=>236|146=>231|148=>234|164=>246|80=>204|n=>n
 g:=λn=>n
theorem Ge:Lays.n105 aE aaP where
 mixed:=by kernel_rfl
 f99:=by kernel_rfl
 f105:=by kernel_rfl
 f165:=by kernel_rfl
 f166:=by kernel_rfl
 f169:=by kernel_rfl
 f170:=by kernel_rfl
 f206:=by kernel_rfl
 f212:=by kernel_rfl
 f240:=by kernel_rfl
 f241:=by kernel_rfl
 f263:=by kernel_rfl
 f264:=by kernel_rfl
 f276:=by kernel_rfl
 f277:=by kernel_rfl
 t0:=Tryz.underlying0
 a0:=Tryz.isAgg0
 z0:=Tryz.sizeOf0
 v0:=Tryz.zeroValue0
 t3:=Tryz.underlying3
 a3:=Tryz.isAgg3
 z3:=Tryz.sizeOf3
 v3:=Tryz.zeroValue3
 t4:=Tryz.underlying4
 a4:=Tryz.isAgg4
 z4:=Tryz.sizeOf4
 v4:=Tryz.zeroValue4
 t5:=Tryz.underlying5
 a5:=Tryz.isAgg5
 z5:=Tryz.sizeOf5
 v5:=Tryz.zeroValue5
 t9:=Tryz.underlying9
 a9:=Tryz.isAgg9
 z9:=Tryz.sizeOf9
 v9:=Tryz.zeroValue9
 t20:=Tryz.underlying20
 a20:=Tryz.isAgg20
 z20:=Tryz.sizeOf20
 v20:=Tryz.zeroValue20
 t37:=Tryz.underlying58
 a37:=Tryz.isAgg58
 z37:=Tryz.sizeOf58
 v37:=Tryz.zeroValue58
 t46:=Tryz.underlying188
 a46:=Tryz.isAgg188
 z46:=Tryz.sizeOf188
 v46:=Tryz.zeroValue188
 t51:=Tryz.underlying230
 a51:=Tryz.isAgg230
 z51:=Tryz.sizeOf230
 v51:=Tryz.zeroValue230
 t53:=Tryz.underlying233
 a53:=Tryz.isAgg233
 z53:=Tryz.sizeOf233
 v53:=Tryz.zeroValue233
 t70:=Tryz.underlying196
 a70:=Tryz.isAgg196
 z70:=Tryz.sizeOf196
 v70:=Tryz.zeroValue196
 t72:=Tryz.underlying198
 a72:=Tryz.isAgg198
 z72:=Tryz.sizeOf198
 v72:=Tryz.zeroValue198
 t75:=Tryz.underlying201
 a75:=Tryz.isAgg201
 z75:=Tryz.sizeOf201
 v75:=Tryz.zeroValue201
 t76:=Tryz.underlying202
 a76:=Tryz.isAgg202
 z76:=Tryz.sizeOf202
 v76:=Tryz.zeroValue202
 t109:=Tryz.underlying193
 a109:=Tryz.isAgg193
 z109:=Tryz.sizeOf193
 v109:=Tryz.zeroValue193
 t127:=Tryz.underlying236
 a127:=Tryz.isAgg236
 z127:=Tryz.sizeOf236
 v127:=Tryz.zeroValue236
 t146:=Tryz.underlying231
 a146:=Tryz.isAgg231
 z146:=Tryz.sizeOf231
 v146:=Tryz.zeroValue231
 t148:=Tryz.underlying234
 a148:=Tryz.isAgg234
 z148:=Tryz.sizeOf234
 v148:=Tryz.zeroValue234
 t164:=Tryz.underlying246
 a164:=Tryz.isAgg246
 z164:=Tryz.sizeOf246
 v164:=Tryz.zeroValue246
theorem apy:Builder.Extra aE aaP where
 sizeBuilder:=by kernel_rfl
 liesBuilder:=by kernel_rfl
 t5:=Ge.t5
 a5:=Ge.a5
 z5:=Ge.z5
 v5:=Ge.v5
 infoByte:=by kernel_rfl
 cellsByte:=by kernel_rfl
 sizeByte:=by kernel_rfl
 neB5:=by decide
theorem aaO:∀n:Nat,Lib.repeatL [0] n=List.replicate n 0
 |0=>rfl
 |n+1=>by simp[Lib.repeatL,aaO n,Ir]
theorem apx{n:Int}{K:ByteArray->HP}(h0:0<=n/\n<=1000)(hk:∀h',az h h'->K (bs (List.replicate n.toNat 0)) h'):ajt (bs [0]) n h K Kp:=by
 intro w hw;obtain⟨m,rfl⟩:∃m:Nat,n=m:=⟨n.toNat,by omega⟩
 refine(Any.strings_Repeat Ge apy (bs [0]) m w ag (by show 1*m<=_;omega)).mono ?_
 rintro e w' ⟨rfl,b⟩;have lt:∀{k:Nat}{d:Obj},w.heap[k]? =some d->k<w.heap.size:=λq=>(jD.1 q).1;refine⟨⟨b.tape,b.os,b.output,b.size,λk ds q=>by rw[b.block k (lt q)];exact q⟩,_,rfl,?_⟩
 have e:(Lib.repeatL (bs [0]).data.toList m).toArray=(List.replicate m 0).toArray:=by rw[show(bs [0]).data.toList=[0]from rfl,aaO]
 rw[e];apply hk _;rw[<-hw];refine⟨by unfold aU;simp only[VC];exact b.size,λk Hi=>?_⟩
 unfold aU at Hi ⊢;simp only[VC]at Hi;rw[Cq,Cq,b.block k Hi]
def nG(lo:Nat)(h:Hp)(t:Sl)(aH:aR):Prop:=
 ∃ss:List Sl,ss.length=aH.length/\eW lo 4 h t (List.zipWith aB.row aH ss) dh/\∀(j:Nat)(z:aB)(u:Sl),aH[j]? =some z->ss[j]? =some u->aO (λb=>lo<=b/\¬t.at b) h u z.items
section
variable {lo:Nat} {h':Hp} {t u:Sl} {z:aB}
theorem nG.nil:nG lo h Sl.nil []:=⟨[],rfl,tL _ _ _ _,aA⟩
theorem nG.fr{S:aQ}(o:nG lo h t aH)(f:Tn S h h')(B:∀c,lo<=c->c<h.size->¬S c):nG lo h' t aH:=by
 obtain⟨a,e,r,v⟩:=o;exact⟨a,e,r.fr f B,λj z u h1 d=>aO.fr f (λc b hl=>B c b.1 hl) (λ_ q=>q) _ (v j z u h1 d)⟩
theorem nG.ai(o:nG lo h t aH)(g:az h h'):nG lo h' t aH:=o.fr (bg g) λ_ _ _=>id
theorem nG.at(o:nG lo h t aH){c:Nat}(H:t.at c):lo<=c/\c<h.size:=by obtain⟨a,e,r,v⟩:=o;exact r.at H
theorem nG.app{K:Sl->HP}(o:nG lo h t aH)(m:lo<=h.size)(G:aH.length<=5000)(k:aN h a (z.row u).toArray ty)(v:aO (λb=>lo<=b/\¬t.at b) h u z.items)
  (D:∀y h',Tn t.at h h'->nG lo h' y (aH++[z])->K y h'):Ap h dh fY 4 56 t 1 (rd h (bC a) (1*4)) K:=by
 obtain⟨A,e,r,w⟩:=o;have B:=r.n;rw[m7]at B;refine r.ap m rfl (new:=[z.row u]) rfl (λr f=>by simp at f;subst f;rfl) (λr f=>by grind[A5]) (by simpa[aB.row,uu]using iJ k rfl) ag ag λs E l p C=>D s E l ⟨A++[u],by simp[e],by rw[FG e];exact C,λj x q g d=>?_⟩
 have i:∀b,s.at b->b<h.size->t.at b:=bZ;rcases zn e d with⟨F,d⟩|⟨rfl,rfl⟩
 ·rw[gN ag]at g;exact aO.fr l (λb c _=>c.1.2) (λb c=>⟨c.1.1,λq=>c.1.2 (i b q c.2)⟩) _ (aO.lt _ (w j x q g d))
 ·rw[fU (bX _)]at g;simp at g;subst g;exact aO.fr l (λb c _=>c.1.2) (λb c=>⟨c.1.1,λq=>c.1.2 (i b q c.2)⟩) _ (aO.lt _ v)
theorem nG.vs(o:nG lo h t aH):aO (λb=>lo<=b) h t aH:=by
 obtain⟨f,e,r,v⟩:=o;exact aO.snoc r e (λb a=>a) λj d p h1 c=>sD (v j d p h1 c) λb a=>a.1
theorem aO.one(k:aN h a (z.row u).toArray ty)(g:D a)(v:aO D h u z.items):aO D h ⟨some (aJ a),1,1⟩ [z]:=by
 refine aO.QX (ss:=[u]) ⟨λr c=>by simp at c;subst c;rfl,rfl,rfl,rfl,_,k,bX _,rfl,λi f=>?_⟩ rfl g λj d p h1 e=>?_
 ·simp
 grind
end
structure ZL(h:Hp)(lo a2 a3 a4:Nat):Prop where
 l:h.size<=lo
 q2:h.size<=a2/\a2<lo
 q3:h.size<=a3/\a3<lo
 q4:a4<lo
 n:a2≠a3/\a4≠a3
structure ZS(h:Hp)(lo a2 a3 a4:Nat)(c4:Array Value)(hx:Hp)(t:Sl)(aH:aR):Prop where
 g:az h hx
 l:lo<=hx.size
 k2:aN hx a2 fY dh
 k4:aN hx a4 c4 kJ
 k3:aN hx a3 #[.bool false,ah 0,.string (bs []),Sl.v t] dh
 o:nG lo hx t aH
section
variable {hx h1:Hp} {lo a2 a3 a4:Nat} {c4 c2:Array Value} {t u:Sl} {xs:aR} {z:aB} {K:Bool->Int->ByteArray->Sl->HP}
theorem ZS.ai(S:ZS h lo a2 a3 a4 c4 hx t aH)(g:az hx h1):ZS h lo a2 a3 a4 c4 h1 t aH:=⟨ak S.g g,by have:=S.l;have:=g.1;omega,S.k2.ai g,S.k4.ai g,S.k3.ai g,S.o.ai g⟩
theorem ZL.more{X:HP}(L:ZL h lo a2 a3 a4)(S:ZS h lo a2 a3 a4 c4 hx t aH)(G:aH.length<=5000)(B:az hx h1)(C:aO (Nw hx) h1 u z.items)(H:∀y j,ZS h lo a2 a3 a4 c4 y j (aH++[z])->X y):aI h1 #[.bool z.au,ah z.num,.string (bs z.text),Sl.v u] dh λs k=>aT h1 k ⟨a3,3,none⟩ 1 (Ap k dh fY 4 56 t 1 (rd k (some s) (1*4)) λn J=>St J ⟨a3,3,none⟩ (Sl.v n) X):=by
 obtain⟨l,T,R,Q,V,U⟩:=L;obtain⟨M,W,F,E,w,o⟩:=S;refine aF λa8 I Z m D _=>bQ (w.ai B) m ?_;have d:=ak B m;have P:=d.1;have b:∀c,t.at c->lo<=c/\c<hx.size:=λc x=>o.at x;refine(o.ai d).app ag G D (sD (dU C m) λc(q:hx.size<=c)=>⟨ag,λz=>bZ⟩) λj Y f A=>?_
 have i:∀{c:Nat},c<lo->¬t.at c:=bZ
 have O:=f.1;refine dI (f.aZ (w.ai d) (i ag)) aA rfl λg a p=>?_;have r:=bI (((bg (ak M d):Tn No h I).trans' f λc q N=>bZ).ai) a ag
 exact H g j ⟨r,by have:=a.1;omega,a.aZ (f.aZ (F.ai d) (i ag)) ag,a.aZ (f.aZ (E.ai d) (i ag)) ag,by simpa using p,A.fr a.fr λc q _ _=>ag⟩
theorem ZL.HA(L:ZL h lo a2 a3 a4)(m:∀t h',az h h'->aO (Nw h) h' t v.items->K v.au v.num (bs v.text) t h')(n:az h hx)(k:aN hx a2 c2 dh)(o:c2.size=4)(j:aO (λb=>lo<=b) hx t v.items):dL hx (aJ a2) v.au v.num (bs v.text) t λg=>bP g (aJ a2) λa b c d=>K a b c d g:=by
 obtain⟨l,s,r,p,x,w⟩:=L;exact mC k o λg f i=>fk i (m t g (bI n f ag) (aO.fr f.fr (λc(q:lo<=c)_(e:c=a2)=>ag) (λc(q:lo<=c)=>ag) _ j))
theorem ZL.fin{tx:dy}(L:ZL h lo a2 a3 a4)(y:∀t h',az h h'->aO (Nw h) h' t v.items->K v.au v.num (bs v.text) t h')(A:az h hx)(q:aN hx a2 c2 dh)(B:c2.size=4)(m:aN hx a3 #[.bool false,ah 0,.string (bs tx),Sl.v t] dh)(e:v=.mk false 0 tx xs)(l:aO (λb=>lo<=b) hx t xs):bP hx (aJ a3) λa b c d=>dL hx (aJ a2) a b c d λj=>bP j (aJ a2) λa b c d=>K a b c d j:=by
 subst e;exact fk m (L.HA y A q B l)
end
theorem Pa(hl:f.lets=false):f.zv=if f.k=14 then .mk false 0 (List.replicate f.w.toNat 0) []else if f.k=16 then .mk false 0 [] (List.replicate f.w.toNat ((f.cs.map aq.zv).getD 0 v0))else if f.k=17 then .mk false 0 [] (f.cs.map aq.zv)
   else if f.k=18 then .mk false 0 [] [(f.cs.map aq.zv).getD 0 v0]else if f.k=19\/f.k=20 then(f.cs.map aq.zv).getD 0 v0 else .mk false 0 [] []:=by
 rw[aq.JG,hl];rfl
theorem JF{c:aq}(a:f.cs[0]? =some c):(f.cs.map aq.zv).getD 0 v0=c.zv:=dG
theorem akq(o':bB f)(IH:∀c∈f.cs,CK c):CK f:=by
 cases hl:f.lets with
 |true=>exact aks hl
 |false=>
 intro h s K Kp hs hk;have nC:=o'.right.1;obtain⟨_,_,s',r',_,_,_,h1,q',p',_⟩:=nC;refine ajV (aF λa1 h1' e1 g1 k1 _=>aF λa2 h2 e2 g2 A _=>dO (k1.ai g2) (GB ((hs.gr g1).gr g2) λh3 g3=>bu hl (aF λa3 h4 e4 g4 C _=>?_)));have s3:=g3.1;have k1:=((k1.ai g2).ai g3).ai g4;have A:=(A.ai g3).ai g4;simp only[bz,cF];refine nF (Bh k1) (aF λa4 h5 e5 g5 D _=>pM D rfl λI o6 D=>aj D rfl ?_);have v':=D.lt;have U:=bI g5 o6 ag;have A:=A.ai U;have C:=C.ai U;have R:=ak (ak (ak (ak g1 g2) g3) g4) U;have T:=hs.gr R;have m:=Pa hl;have aM:∀{c:aq},f.cs[0]? =some c->(f.cs.map aq.zv).getD 0 v0=c.zv:=JF;have L:ZL h I.size a2 a3 a4:=⟨ag,ag,ag,ag,ag⟩
 have HA:=λ{hx c2 t}=>ZL.HA (hx:=hx) (c2:=c2) (t:=t) L hk;have fin:=λ{hx c2 t tx xs}=>ZL.fin (hx:=hx) (c2:=c2) (t:=t) (tx:=tx) (xs:=xs) L hk;have G:aN I a3 #[.bool false,ah 0,.string _,Sl.v Sl.nil] dh:=C;simp only[bz,cF];refine aG (λj=>?_) λj=>aG (λl=>?_) λl=>aG (λr=>?_) λr=>aG (λfS=>?_) λfS=>?_
 ·have j:=aS j;have hw:=s' j;rw[aK j]at m;exact aj D rfl (apx ag λh7 y=>dI (G.ai y) aA rfl λh8 o8 k8=>fin (t:=Sl.nil) (tx:=List.replicate f.w.toNat 0) (bI (ak R y) o8 ag) (o8.aZ (A.ai y) ag) rfl (by simpa using k8) m (pL _))
 ·simp only[sm,reduceCtorEq]at j l;have hw:=r' l;rw[aC j,aK l]at m;have hc:=h1 ag;have d:f.cs[0]? =some f.cs[0]:=aA;generalize f.cs[0]=c at d;rw[aM d]at m;refine aj D rfl (aAu (λz hx=>∃(i:Nat)(t:Sl),z=i/\(i:Int)<=f.w/\ZS h I.size a2 a3 a4 #[ah f.k,ah f.w,ah f.id,ah f.ix,Sl.v s] hx t (List.replicate i c.zv)) (λz _=>(f.w-z).toNat) ⟨0,Sl.nil,rfl,ag,R,bX _,A,D,G,nG.nil⟩ ?_)
  rintro z hx ⟨i,t,rfl,hi,S⟩ N hN;have gx:=S.g;have A:=S.k2;have C:=S.k3;have o:=S.o;simp only[bz,cF];refine cE (λF=>?_) λF=>?_
  ·refine aj C rfl (aj S.k4 rfl ((hs.gr gx).ix (x:=0) (i:=0) rfl d λp P=>?_));obtain⟨u,Q,O⟩:=P.row;refine gH Q (IH c (bT d) O λt' h7 y M=>bQ C y (L.more S cy y M λhy t' S=>aX ag ag (hN _ _ ⟨i+1,t',aA,ag,?_⟩ ag)))
   rw[EE];exact S
  ·have:i=f.w.toNat:=ag;subst this;exact fin gx A rfl C m o.vs
 ·simp only[sm,reduceCtorEq]at j l r;rw[aC j,aC l,aK r]at m;have hn:=T.n;have z':=q' r;refine aj D rfl (aAt (λz hx=>∃(i:Nat)(t:Sl),z=i/\i<=f.cs.length/\ZS h I.size a2 a3 a4 #[ah f.k,ah f.w,ah f.id,ah f.ix,Sl.v s] hx t ((f.cs.map aq.zv).take i)) (λz _=>f.cs.length-z.toNat) ⟨0,Sl.nil,rfl,eu _,R,bX _,A,D,G,nG.nil⟩ ?_);rintro z hx ⟨i,t,rfl,hi,S⟩ N hN;have gx:=S.g;have A:=S.k2;have C:=S.k3;have o:=S.o;refine aG (λF=>?_) λF=>?_
  ·have F:=aS F;have j':i<f.cs.length:=ag;have d:f.cs[i]? =some f.cs[i]:=aA;have i':(f.cs.map aq.zv).take (i+1)=(f.cs.map aq.zv).take i++[f.cs[i].zv]:=by rw[kS dG];simp
   generalize f.cs[i]=c at d i';refine(hs.gr gx).ix rfl d λp P=>?_;obtain⟨u,Q,O⟩:=P.row;refine gH Q (aF λa6 h7 e7 y k6 _=>oO k6 rfl λh8 o8 k8=>?_);have zx:=gx.1;have E:az hx h8:=bI y o8 ag;have z8:=E.1;simp only[bz,cF];refine aj (C.ai E) rfl (dO k8 (IH c (bT d) (O.gr E) λt' h9 g9 M=>bQ (C.ai E) g9 (L.more (S.ai E) cy g9 M λhy t' S=>aX ag ag (hN _ _ ⟨i+1,t',aA,ag,?_⟩ ag))))
   rw[i'];exact S
  ·have F:=aS F;have:i=f.cs.length:=ag;subst this;rw[qy aA]at o;exact fin gx A rfl C m o.vs
 ·simp only[sm,reduceCtorEq]at j l r fS;rw[aC j,aC l,aC r,aK fS]at m;have hc:=(p' fS).1;have d:f.cs[0]? =some f.cs[0]:=aA;generalize f.cs[0]=c at d;rw[aM d]at m;refine aj D rfl (T.ix (x:=0) (i:=0) rfl d λp P=>?_);obtain⟨u,Q,O⟩:=P.row;refine gH Q (IH c (bT d) O λt h7 y M=>aF λa8 h8 e8 E k8 _=>dI (G.ai (ak y E)) aA rfl λh9 o9 k9=>?_);have z7:=y.1;have z8:=E.1;exact fin (t:=⟨some (aJ a8),1,1⟩) (tx:=[]) (bI (ak R (ak y E)) o9 ag) (o9.aZ (A.ai (ak y E)) ag) rfl (by simpa[Sl.v]using k9) m (aO.one (o9.aZ k8 ag) ag (aO.fr o9.fr (λc(q:I.size<=c)_(e:c=a3)=>ag) (λ_ q=>q) _ (dU M E)))
 ·simp only[sm,reduceCtorEq]at j l r fS;rw[aC j,aC l,aC r,aC fS]at m;have J:f.k=19\/f.k=20->Ld I ⟨a4,4,none⟩ Sl.v λg'=>Ix g'.a g'.n 7 0 λu'=>bR I u' λf' e' d' c' b' a' Z=>yV f' e' d' c' b' a' Z I (λY X W V h7=>dL h7 (aJ a2) Y X W V λh8=>bP h8 (aJ a2) λn' m' l' k'=>K n' m' l' k' h8) Kp:=by
   intro q;rw[aK q]at m;have hc:=h1 ag;have d:f.cs[0]? =some f.cs[0]:=aA;generalize f.cs[0]=c at d;rw[aM d]at m;refine aj D rfl (T.ix (x:=0) (i:=0) rfl d λp P=>?_);obtain⟨u,Q,O⟩:=P.row;refine gH Q (IH c (bT d) O λt h7 y M=>?_);have:=HA (ak R y) (A.ai y) rfl (t:=t) (by rw[m];exact M)
   rw[m]at this;exact this
  refine aG (λB=>bS B ?_) λB=>aG (λH=>?_) λH=>?_
  ·have B:=aS B;grind
  ·have H:=aS H;grind
  ·simp only[sm,reduceCtorEq]at B H;rw[ay]at m;exact fin R A rfl G m (pL _)
theorem Zb:∀f:aq,bB f->CK f
  | .mk e au k w id ix cs,a=>by
    have b:∀c∈cs,CK c:=λc d=>Zb c (a.aM d);exact akq a b
theorem Bi:∀{l:aR},nY l->∀y∈l,y.lU
  |[],_,y,hy=>by simp at hy
  | x::xs,h,y,hy=>by
    rcases mE.1 hy with e|e
    ·rw[e];exact h.1
    ·exact Bi h.2 y e
theorem aB.lU.items(h:v.lU):nY v.items:=by have⟨_,n,_,a⟩:=v;exact h.2
section
variable {x left:Nat} {t:Sl} {K:fB}
theorem iW.tn{h':Hp}(u:iW h){c:Value}{ty:TypeId}(k:aN h x #[c] ty)(hc:∀n,c≠.int .u8 n)(tn:Tn (·=x) h h'):iW h':=by
 have e:∀(b:Nat)(n:Int),cell h (aJ b)=some (.int .u8 n)->b≠x:=by
  rintro b n q rfl;rw[ia k]at q;simp at q;exact hc n q
 exact u.fr tn (e 1 _ (u.f 0 bw)) (e 2 _ (u.a 0 bw).1)
theorem Lj(k:aN h x #[ah (left:Int)] rE)(hl:left<=4194304)(hs:bM D h s f.cs)(nx:¬D x)(hv:aO D h t v.items)
  (hk:∀b h',Tn (·=x) h h'->(b=true↔v.bx<=left/\f.fit v=true)->(b=true->aN h' x #[ah ((left-v.bx:Nat):Int)] rE)->K b h')
  (Tc:∀h' a5 a7,Tn (·=x) h h'->aN h' x #[ah ((left-16-v.text.length:Nat):Int)] rE->16+v.text.length<=left->v.items.length<=4096->v.au=false->
   aN h' a5 #[.bool v.au,ah v.num,.string (bs v.text),Sl.v t] dh->aN h' a7 #[ah f.k,ah f.w,ah f.id,ah f.ix,Sl.v s] kJ->h.size<=a5->h.size<=a7->Np K Kp (bC x) (aJ a5) (aJ a7) f.k (f.k==19||f.k==20) h'):AR (bC x) f.name f.au f.k f.w f.id f.ix s v.au v.num (bs v.text) t h K Kp:=by
 refine adG k hl hs nx hv (λh' t' q=>hk false h' t' (by simpa using q) (λe=>by cases e)) (λh' t' k' q1 q2=>hk true h' t' (by simp[q1,q2]) λ_=>k') λh3 a4 a5 t3 kx b1 b2 gR k4 k5 l4 l5=>aiA ?_
 simp only[bz,cF];refine nF (Bh k4) (aF λa7 h4 e7 g4 k7 _=>pM k7 rfl λh5 o5 k7=>aj k7 rfl ?_);have k5l:=k5.lt;have G:=bI g4 o5 ag;have:=Tc h5 a5 a7 (t3.trans (bg G)) (kx.ai G) b1 b2 gR (k5.ai G) k7 l5 ag;refine aG (λc=>?_) λc=>?_
 ·rw[c]at this ⊢;exact this
 ·rw[c]at this;exact this
theorem avo(hf:f.k=12\/f.k=13\/f.k=14)(hw0:f.k=14->1<=f.w/\f.w<=16):ni f:=by
  intro D h x left v s t K Kp hu k hl hs hv nx hr hk;have hw:=hO v;refine Lj k hl hs nx hv hk λh5 a5 a7 t5 kx b1 b2 gR k5 k7 l5 l7=>?_;have hn:=hv.n;have fe:f.fit v=(decide (v.num=0)&&(decide (v.items.length=0)&&((decide (f.k≠12)||iH v.text)&&(decide (f.k≠14)||decide (v.text.length=f.w.toNat))))):=by
    rw[eM];unfold fG;rw[aC (by simp[gR]),ay,ay,ay,ay,ay,aK hf]
    simp[b2]
  have fin:∀b h',az h5 h'->b=f.fit v->K b h':=λb h' g e=>by
    have kx:=kx.ai g;refine hk b h' (t5.trans (bg g)) ⟨λq=>?_,λq=>by rw[e];exact q.2⟩ λq=>?_
    ·have q2:=e▸q;rw[fe]at q2;simp only[dw,dR]at q2;have:v.items=[]:=jB.1 q2.2.1;rw[this]at hw;exact⟨by rw[hw];simp[bL];omega,by rw[<-e];exact q⟩
    · have q2:=e▸q;rw[fe]at q2;simp only[dw,dR]at q2;have:v.items=[]:=jB.1 q2.2.1;rw[this]at hw;have e2:left-v.bx=left-16-v.text.length:=by rw[hw];simp[bL];omega
      rw[e2];exact kx
  have e19:(f.k==19||f.k==20)=false:=by simp;omega
  rw[e19];have sr:I3 K Kp (aJ a5) (aJ a7) true h5:=by
    refine aiD (bS rfl ?_);simp only[bz,cF];have zW:∀b h',az h5 h'->b=(decide (v.num=0)&&(decide (v.items.length=0)&&(decide (f.k≠12)||iH v.text)))->I2 K Kp (aJ a5) (aJ a7) b h':=by
      intro b h' g e;refine aCk (aG (λc=>aj (k7.ai g) rfl (aG (λc2=>fin _ _ g ?_) λc2=>?_)) λc=>fin _ _ g ?_)
      ·have c2:=aS c2;rw[e]at c;rw[fe];simp only[dw]at c;rw[c.1,c.2.1,c.2.2];simp[c2]
      ·have c2:=aS c2;simp only[bz,cF];refine aj (k5.ai g) rfl (aj (k7.ai g) rfl (fin _ _ g ?_));rw[e]at c;rw[fe];simp only[dw]at c;rw[jl,c.1,c.2.1,c.2.2,ki];simp[c2];omega
      · rw[e]at c;rw[fe];cases h1:decide (v.num=0)with
        |false=>simp
        | true=>
          cases h2:decide (v.items.length=0)with
          |false=>simp
          | true=>
            rw[h1,h2]at c;simp only[Aw]at c ⊢;rw[c];simp
    have BQ:∀b,b=(decide (v.num=0)&&decide (v.items.length=0))->Nr K Kp (aJ a5) (aJ a7) b h5:=by
      intro b e;refine aCl (aG (λc=>aj k7 rfl (aG (λc2=>?_) λc2=>?_)) λc=>?_)
      · have c2:=aS c2;have:=zW true h5 (cQ _) (by
          rw[e]at c;simp only[dw]at c;rw[c.1,c.2];simp[c2])
        exact this
      ·have c2:=aS c2;simp only[bz,cF];refine aj k5 rfl (alK (hu.tn k aA t5) (JT _) ag λh6 g6=>zW _ h6 g6 ?_);rw[e]at c;simp only[dw]at c;rw[c.1,c.2];simp[c2]
      ·exact(zW false h5 (cQ _) (by
          rw[e]at c;cases h1:decide (v.num=0)with
          |false=>simp
          |true=>rw[h1]at c;simp only[Aw]at c;rw[c];simp))
    refine aj k5 rfl (aG (λc=>?_) λc=>BQ _ ?_)
    · have c:v.num=0:=by simpa using c
      refine aj k5 rfl (BQ _ ?_);have:=hn.1;rw[ki];simp only[c,decide_true,Aw,oh,dR];omega
    · have c:v.num≠0:=by simpa using c
      simp[c]
  refine I1 (bu rfl (bu cy (bu cy (bu cy (WM (bu cy (aG (λc=>?_) λc=>aG (λc=>?_) λc2=>?_)))))))
  ·rw[c];exact sr
  ·rw[c];exact sr
  · simp only[sm,reduceCtorEq]at c c2;have e:(f.k==14)=true:=by simp;omega
    rw[e];exact sr
end
section
variable {x left:Nat} {t:Sl} {K:fB}
def uJ(f:aq)(j:Nat):Nat:=if f.k=17 then j else 0
def Fl(f:aq)(l:aR)(n:Nat):Prop:=∀(j:Nat)y,j<n->l[j]? =some y->∃c,f.cs[uJ f j]? =some c/\c.fit y=true
theorem avm{l:aR}(IH:∀c∈f.cs,ni c)(h1:f.k≠17->f.cs.length=1)(m':f.k=16->1<=f.w)(hu:iW h)(k:aN h x #[ah (left:Int)] rE)(hl:left<=4194304)(hs:bM D h s f.cs)(hv:aO D h t l)(X:¬D x)(hr:nY l)(u':l.length<=4096)
  (hk:∀b a,Tn (·=x) h a->(b=true↔bL l<=left/\(f.k=16->l.length=f.w.toNat)/\(f.k=17->l.length=f.cs.length)/\Fl f l l.length)->(b=true->aN a x #[ah ((left-bL l:Nat):Int)] rE)->K b a):XW (bC x) f.k f.w f.id f.ix s t h K Kp:=by
 refine aFm (aF λW o e1 I E _=>?_);have xl:=k.lt;have hn:=hv.n;have q':=hs.n;have Y:∀{a},Tn _ h a->¬(bL l<=left/\(f.k=16->l.length=f.w.toNat)/\(f.k=17->l.length=f.cs.length)/\Fl f l l.length)->K false a:=λt q=>hk false _ t dG λe=>by cases e
 have go:(f.k=16->l.length=f.w.toNat)->(f.k=17->l.length=f.cs.length)->Nh K Kp (bC x) t (aJ W) o:=by
  intro m O;refine aB0 (aAr (λz a=>∃i:Nat,z=i/\i<=l.length/\Tn (·=x) o a/\bL (l.take i)<=left/\aN a x #[ah ((left-bL (l.take i):Nat):Int)] rE/\Fl f l i) (λz _=>l.length-z.toNat) ⟨0,rfl,eu _,iV _ _,by simp[bL],by simpa[bL]using k.ai I,λj y hj=>ag⟩ ?_)
  rintro z V ⟨i,rfl,hi,U,hw,k2,Q⟩ N hN;have T2:=(bg I:Tn _ h o).trans U;refine cE (λL=>?_) λL=>?_
  ·have B:i<l.length:=ag;have H:l[i]? =some l[i]:=aA;have R:l.take (i+1)=l.take i++[l[i]]:=aA;generalize l[i]=y at H R;have T:=bT H;have a':bL (l.take (i+1))=bL (l.take i)+y.bx:=by rw[R,pq];simp[bL]
   have r':bL (l.take (i+1))<=bL l:=by
    have:=pq (l.take (i+1)) (l.drop (i+1));rw[EL]at this;omega
   have b':=aO.fr T2 (λb F _ e=>X (e▸F)) (λ_ q=>q) _ hv;have P:=U.aZ E (show¬W=x by omega)
   refine b'.ix rfl H λp u cp e'=>gY cp (aF λa8 h3 e3 g3 Z _=>mC Z rfl λr o4 Z=>aj (P.ai (bI g3 o4 ag)) rfl ?_);have G:=bI g3 o4 ag;have T4:=T2.trans (bg G);have bad:∀{a},Tn (·=x) r a->¬(y.bx<=left-bL (l.take i)/\∃c,f.cs[uJ f i]? =some c/\c.fit y=true)->K false a:=by
    intro a t' q;refine Y (T4.trans t') λz=>q ⟨ag,z.2.2.2 i y B H⟩
   have J:∀{j:Nat}{jx:Int},jx=j->j=uJ f i->Ng K Kp N (bC x) (aJ W) (aJ a8) jx t (t.n:Int) (i:Int) r:=by
    intro j jx ej ei;have g':j<f.cs.length:=by
     rw[ei];unfold uJ;split
     ·omega
     ·omega
    have d:f.cs[j]? =some f.cs[j]:=aA;generalize f.cs[j]=c at d;rw[ei]at d;apply aBZ;simp only[bz,cF];have f':=bM.fr T4 (λb F e=>X (e▸F)) (λ_ q=>q) _ hs;refine aj (P.ai G) rfl (f'.ix ej dG λp2 u2 n' d'=>gH n' (fk Z (IH c (bT d) (hu.tn k aA T4) (k2.ai G) ag d' (dU e' G) X (Bi hr y T) λb h5 t5 F k'=>aG (λg=>?_) λg=>?_)))
    ·have g:b=false:=by simpa using g
     refine bad t5 λq=>?_;obtain⟨c',S,i'⟩:=q.2;rw[d]at S;cases S;rw[F.2 ⟨q.1,i'⟩]at g;cases g
    ·have g:b=true:=by simpa using g
     have l':=F.1 g;refine aX ag ag (hN _ _ ⟨i+1,aA,ag,(U.trans (bg G)).trans t5,ag,?_,λj' y' s' A=>?_⟩ ag)
     ·have:=k' g;rw[a',<-Nat.sub_sub];exact this
     ·by_cases e:j'=i
      ·subst e;rw[H]at A;cases A;exact⟨c,d,l'.2⟩
      ·exact Q j' y' ag A
   refine aG (λC=>J rfl ?_) λC=>J rfl ?_
   ·unfold uJ;rw[aK (by simpa using C)]
   ·unfold uJ;rw[aC (by simpa using C)]
  ·have:i=l.length:=ag;simp_all
 have r:(f.k=16->l.length=f.w.toNat)->Nf K Kp (bC x) t (aJ W) false o:=by
  intro m;refine aio (bu rfl (aj E rfl (aG (λc=>?_) λc=>go m λq=>?_)))
  ·have c:=aS c;simp only[bz,cF];refine aj E rfl (aG (λM=>Y (bg I) λq=>?_) λM=>go m λ_=>?_)
   ·simp_all
   ·have M:=aS M;omega
  ·have c:=aS c;exact absurd q c
 refine aj E rfl (aG (λc=>?_) λc=>r λq=>?_)
 ·have c:=aS c;simp only[bz,cF];apply aj E rfl
  by_cases e:(t.n:Int)=f.w
  ·have e2:((t.n:Int)!=f.w)=false:=by simpa using e
   rw[e2];exact r λ_=>ag
  ·have e2:((t.n:Int)!=f.w)=true:=by simpa using e
   grind[aio,bS,Tn.abH]
 ·have c:=aS c;exact absurd q c
theorem afK:∀{F:List (aB->Bool)}{l:aR},sA F l=true↔l.length=F.length/\∀(j:Nat)y,l[j]? =some y->∃g,F[j]? =some g/\g y=true
  |[],[]=>by simp[sA]
  |[],y::d=>by simp[sA]
  |g::e,[]=>by simp[sA]
  | g::e,y::d=>by
    simp only[sA,dw,afK,iN,Nat.add_right_cancel_iff];constructor
    · rintro⟨i,c,b⟩;refine⟨c,λj z a=>?_⟩;rcases j with _|j
      all_goals simp_all
    ·rintro⟨c,b⟩;obtain⟨m,e1,k⟩:=b 0 y rfl;simp at e1;subst e1;exact⟨k,c,λj z a=>b (j+1) z dG⟩
theorem Ej(u:f.k=15\/f.k=16\/f.k=17)(p:f.k≠17->f.cs.length=1)(b2:v.items.length<=4096)(gR:v.au=false):f.fit v=true↔v.num=0/\v.text.length=0/\(f.k=16->v.items.length=f.w.toNat)/\(f.k=17->v.items.length=f.cs.length)/\Fl f v.items v.items.length:=by
 rw[eM];unfold fG Fl uJ;rw[aC (by simp[gR]),ay,ay]
 have b:f.k≠17->((v.items.all ((f.cs.map aq.fit).getD 0 uE)=true)↔∀(j:Nat)y,j<v.items.length->v.items[j]? =some y->∃c,f.cs[if f.k=17 then j else 0]? =some c/\c.fit y=true):=λne=>by
  have d:f.cs[0]? =some f.cs[0]:=bJ ag;have e:(f.cs.map aq.fit).getD 0 uE=(f.cs[0]).fit:=by rw[gV,eY,d];rfl
  generalize f.cs[0]=c at d e;rw[e,AB];simp only[aC ne,d];grind[List.mem_of_getElem?,List.mem_iff_getElem?,List.getElem?_eq_some_iff]
 by_cases m:f.k=15
 ·simp_all
 by_cases l:f.k=16
 ·simp_all
 ·have i:f.k=17:=ag;rw[aC m,aC l,aK i];simp only[dw,dR,afK];simp_all[eY,de]
theorem avp(V:∀c∈f.cs,ni c)(R:f.k=15\/f.k=16\/f.k=17)(G:f.k≠17->f.cs.length=1)(B:f.k=16->1<=f.w):ni f:=by
 intro D h x left v s t K Kp P k hl E p i Q r;have hw:=hO v;refine Lj k hl E i p r λd J I a N b1 b2 gR o O l5 l7=>?_;have H:=Ej R G b2 gR;have C:(f.k==19||f.k==20)=false:=by simp;omega
 rw[C];have M:f.fit v≠true->K false d:=λq=>r false d a (by simp[*]) λe=>by cases e
 have F:∀b,b=(decide (v.num=0)&&decide (v.text.length=0))->Nl K Kp (bC x) (aJ J) (aJ I) b d:=by
  intro b e;refine aCd (aG (λc=>yq O ?_) λc=>M λq=>?_)
  ·rw[e]at c;simp only[dw,dR]at c;have z:=bM.fr a (λb g e=>i (e▸g)) (λ_ q=>q) _ E;have y:=aO.fr a (λb g _ e=>i (e▸g)) (λ_ q=>q) _ p;simp only[bz,cF];refine aj o rfl (avm V G B (P.tn k aA a) N ag z y i Q.items b2 λb S L g A=>r b S (a.trans L) (g.trans ?_) λq=>?_)
   all_goals grind
  ·grind
 have u:I0 K Kp (bC x) (aJ J) (aJ I) f.k true d:=by
  refine WM (bS rfl ?_);simp only[bz,cF];refine aj o rfl (aG (λc=>?_) λc=>F _ ?_)
  ·have c:v.num=0:=by simpa using c
   refine aj o rfl (F _ ?_);rw[Mh];simp[c]
  ·grind
 refine I1 (bu rfl (bu cy (aG (λc=>?_) λc=>aG (λc=>?_) λU=>?_)))
 ·rw[c];exact u
 ·rw[c];exact u
 ·simp only[sm,reduceCtorEq]at c U;have e:(f.k==17)=true:=by simp;omega
  simp[*]
theorem Ek(a:f.k=18)(b2:v.items.length<=4096)(gR:v.au=false):f.fit v=true↔v.text.length=0/\0<=v.num/\v.num<f.cs.length/\v.items.length=1/\(f.cs.map aq.fit).getD v.num.toNat uE (v.items.getD 0 v0)=true:=by
 rw[eM];unfold fG;simp[*]
theorem avq(IH:∀c∈f.cs,ni c)(T:f.k=18)(b':f.cs.length<=32):ni f:=by
 intro D h x left v s t K Kp Y k hl H G A Z I;have C:=hO v;refine Lj k hl H A G I λE a5 a7 j X b1 b2 gR l R l5 l7=>?_;have hn:=G.n;have a':=H.n;have r:=Ek T b2 gR;have P:(f.k==19||f.k==20)=false:=by simp;omega
 rw[P];have B:f.fit v≠true->K false E:=λq=>I false E j (by simpa using λ_=>q) λe=>by cases e
 refine I1 (bu rfl (bS (by simpa using T) ?_))
 simp only[bz,cF];apply aj l rfl;rw[Mh];refine aG (λc=>?_) λc=>B λq=>?_;rotate_left
 ·simp_all
 have c:=aS c;refine aj l rfl (aG (λm=>?_) λm=>B λq=>?_);rotate_left
 ·simp_all
 have m:=aS m;refine aj l rfl (aj R rfl (aG (λz=>?_) λz=>B λq=>?_));rotate_left
 ·simp_all
 have z:=aS z;refine aj l rfl (aG (λw=>?_) λw=>B λq=>?_);rotate_left
 ·simp_all
 have w:=aS w;have N:=bM.fr j (λb o e=>A (e▸o)) (λ_ q=>q) _ H;have L:=aO.fr j (λb o _ e=>A (e▸o)) (λ_ q=>q) _ G;have d:f.cs[v.num.toNat]? =some _:=bJ ag;obtain⟨y,g⟩:∃y,v.items=[y]:=by
  have:v.items.length=1:=ag
  match hq:v.items,this with
  |[a],_=>exact⟨a,rfl⟩
 have S:v.items[0]? =some y:=by rw[g];rfl
 generalize f.cs[v.num.toNat]' ag=U at d;refine aj R rfl (aj l rfl (N.ix ag d λp u cp M=>gH cp (aj l rfl (L.ix rfl S λp2 u2 Q J=>gY Q (IH U (bT d) (Y.tn k aA j) X ag M J A (Bi Z.items y (bT S)) λb h6 V o O=>I b h6 (j.trans V) (o.trans ?_) λq=>?_)))))
 ·rw[r,g];rw[g]at C;simp only[bL]at C;have e1:(f.cs.map aq.fit).getD v.num.toNat uE ([y].getD 0 v0)=U.fit y:=by rw[gV,eY,d];rfl
  rw[e1];constructor
  ·rintro⟨W,F⟩;exact⟨by omega,c,m,by omega,rfl,F⟩
  ·rintro⟨W,_,_,_,_,F⟩;exact⟨by omega,F⟩
 ·have:=O q;rw[g]at C;simp only[bL]at C;have e2:left-v.bx=left-16-v.text.length-y.bx:=ag;rw[e2];exact this
theorem adP{F:aq}(b:f.k=19\/f.k=20)(a:f.cs[0]? =some F)(gR:v.au=false):f.fit v=(decide (v.items.length<=4096)&&F.fit v):=by
 rw[eM];unfold fG;simp[*]
theorem avn(R:∀c∈f.cs,ni c)(M:f.k=19\/f.k=20)(Y:f.cs.length=1):ni f:=by
 intro D h x left v s t K Kp J k hl E C l L F;refine Lj k hl E l C F λX a5 a7 A d Z b2 gR B I V U=>?_;have S:=k.lt;have a:f.cs[0]? =some _:=bJ ag;generalize f.cs[0]' ag=G at a;have O:f.fit v=G.fit v:=by rw[adP M a gR];simp[b2]
 have z:(f.k==19||f.k==20)=true:=by simp;omega
 rw[z];refine I1 (bS rfl ?_);refine bO ?_;refine aj d rfl (aj B rfl (aX (by omega) (by rw[jl];omega) (aX (by omega) (by rw[jl];omega) (dI d aA rfl λm n d=>?_))))
 rw[jl]at d;have P:((left-16-v.text.length:Nat):Int)+(16+(v.text.length:Int))=(left:Int):=ag;have d:aN m x #[ah (left:Int)] rE:=by simpa[P]using d
 have j:=A.trans n.fr;have w:=bM.fr j (λb g e=>l (e▸g)) (λ_ q=>q) _ E;have o:=aO.fr j (λb g _ e=>l (e▸g)) (λ_ q=>q) _ C;refine aj (n.aZ I ag) rfl (w.ix rfl a λp u Q r=>gH Q (fk (n.aZ B ag) (R G (bT a) (J.tn k aA j) d hl r o l L λb N H g y=>F b N (j.trans H) (by rw[O];exact g) y)))
end
theorem avi(g:bB f)(e:∀c∈f.cs,ni c):ni f:=by
 obtain⟨n,oa,l,j,_,_,_,m,o,i,_⟩:=g.right.1
 by_cases a:f.k<=11
 ·exact adN ⟨n,a⟩
 by_cases b:f.k=12\/f.k=13\/f.k=14
 ·exact avo b l
 by_cases c:f.k=15\/f.k=16\/f.k=17
 ·exact avp e c (λq=>m ag) λq=>(j q).1
 by_cases d:f.k=18
 ·exact avq e d (i d).2
 ·exact avn e ag (m ag)
theorem adM:∀f:aq,bB f->ni f
  | .mk e au k w id ix cs,a=>by
    have b:∀c∈cs,ni c:=λc d=>adM c (a.aM d);exact avi a b
section
variable {hx h':Hp} {K:di}
structure ahX(lo:Nat)(cs:cN)(h:Hp)(x:Sl)(ws:bq)(As:List (Nat->Prop)):Prop where
 n:ws.length=As.length/\As.length<=cs.length
 aM:∀(j:Nat)c A w,cs[j]? =some c->As[j]? =some A->ws[j]? =some w->c.kY A h w c.begun none
 bd:∀A∈As,∀c,A c->(lo<=c/\c<h.size)/\¬x.at c
 ap:As.Pairwise λA B=>∀c,A c->¬B c
 sl:eW lo 1 h x (ws.map λv=>[v]) II
theorem afz(f:aq):f.begun.b={DB with ends:=if f.k=12\/f.k=13\/f.k=15 then[0]else[]}:=by rw[Mr];rfl
theorem ayC{c:aq}(a:f.cs[j]? =some c):f.begun.aM j=c.begun:=by
 rw[Mr]
 show(f.cs.map aq.begun).getD j r0=_
 simp_all
theorem ar3{m:Nat}{t u:Sl}{p:List (Nat->Prop)}{SS:List Sl}{ST:List (Nat->Prop)}{X:aQ}{sp:bq}{N:aQ}(G:bB f)(o:ahX m f.cs hx u C p)(hl:p.length=f.cs.length)(h0:h.size<=m)
  (P:aO N h' t f.cm.items) (hN:∀c,N c->h.size<=c/\c<m) (D:az hx h') (Y:m<=hx.size) (O:aN h' b (cj f s t Sl.nil 0 0 0 (iK f.k SS C u sp)).toArray (iU f.k)) (Z:hx.size<=b)
  (H:SS.length=(cC f.k f.begun.b).length/\ST.length=(cC f.k f.begun.b).length) (F:∀(i:Nat)s A y,SS[i]? =some s->ST[i]? =some A->(cC f.k f.begun.b)[i]? =some y->Os A h' s y.1 y.2)
  (g:∀A∈X::ST,∀c,A c->hx.size<=c/\c<h'.size/\c≠b) (I:(X::ST).Pairwise λA B=>∀c,A c->¬B c) (E:iO f.k X h' sp f.begun.b):f.kY (λc=>h.size<=c/\c<h'.size) h' (.iface (bK f.k) (bH b)) f.begun none:=by
 have z:=D.1;have bl:=O.lt;have v:∀c,u.at c->m<=c/\c<hx.size:=λc q=>o.sl.at q;have r:=afz f;have tr:iX (λc=>h.size<=c/\c<h'.size) h' b ((λ_=>False)::(λc=>N c\/u.at c)::X::(ST++p)):=by
  refine⟨⟨ag,ag⟩,λc q=>q.2,?_,?_⟩
  ·intro L l c d;simp only[mE,nh]at l;rcases l with rfl|rfl|l|l|l
   ·exact d.elim
   ·rcases d with q|q
    ·have:=hN c q;exact⟨⟨ag,ag⟩,ag⟩
    ·have:=v c q;exact⟨⟨ag,ag⟩,ag⟩
   ·have:=g L (by rw[l];exact U5 ..) c d;exact⟨⟨ag,ag⟩,ag⟩
   ·have:=g L (U4 _ l) c d;exact⟨⟨ag,ag⟩,ag⟩
   ·have:=(o.bd L l c d).1;exact⟨⟨ag,ag⟩,ag⟩
  ·have e:X::(ST++p)=(X::ST)++p:=rfl;refine yw.2 ⟨λ_ _ _ q=>q.elim,yw.2 ⟨λB hB c q z=>?_,?_⟩⟩
   ·rw[e,nh]at hB;rcases hB with hB|hB
    ·have:=g B hB c z;rcases q with q|q
     ·have:=hN c q;omega
     ·have:=v c q;omega
    ·have:=o.bd B hB c z;rcases q with q|q
     ·have:=hN c q;omega
     ·exact this.2 q
   ·rw[e,Mt];exact⟨I,o.ap,λA V B hB c q z=>by have:=g A V c q;have:=(o.bd B hB c z).1;omega⟩
 rw[aq.abX];refine⟨{b:=b,sf:=s,sn:=t,sb:=Sl.nil,ks:=u,SS:=SS,ST:=ST,KT:=p,kv:=C,sp:=sp,T0:=λ_=>False,R:=λc=>N c\/u.at c,X:=X},rfl,⟨tr,⟨?_,.inl ⟨rfl,?_⟩,id,?_,?_,?_⟩,H,F,⟨?_,?_,?_⟩,λj M A w J T Q=>?_,sD P λc q=>.inl q,λ_=>?_,E,λW q=>by cases q⟩⟩
 ·rw[r];exact O
 ·rw[r];rfl
 ·rw[r];show(0:Nat)=(0+7)/8;decide
 ·rw[r];exact bX _
 ·rw[r];exact eu _
 ·rw[o.n.1,hl,cr]
 ·rw[hl,cr]
 ·rw[Mr];show(f.cs.map aq.begun).length=_;simp_all
 ·rw[eY,tV]at J;obtain⟨c,d,rfl⟩:=J;rw[ayC d];exact(qT c (G.aM (bT d))).fr (o.aM j c A w d T Q) (bg D) λ_ _ _=>id
 ·exact⟨(eW.lq o.sl).1.ai D,λ_ a U=>.inr ⟨a,U,rfl⟩⟩
theorem ara{n c:Nat}(i:D n)(d:h[n]? =some (.map #[] c)):gm D h Sl.nil n [] 0:=by
 have e:∀u,¬hl [] 0 u≠[]:=λu q=>q rfl;refine⟨λ_=>False,[],λ_=>Sl.nil,λ_=>0,⟨λc q=>q.elim,λc⟨a,g,_⟩=>(by cases g),i,λu b=>absurd b (e u),λu _ b=>absurd b (e u)⟩,⟨rfl,tL _ _ _ _,λj v t k=>by simp at k⟩,#[],c,d,⟨λx hx=>by simp at hx,λu b=>absurd b (e u),Vo⟩⟩
theorem arY(J:bB f)(q':f.fN)(IH:∀c∈f.cs,yM c c.kY):yM f f.kY:=by
 intro h s K Kp ht hs hk;obtain⟨_,_,_,_,_,_,_,h1,u',t',j'⟩:=J.right.1;have hsn:=hs.n;have h32:f.cs.length<=32:=by
  by_cases a:f.k=15\/f.k=16\/f.k=19\/f.k=20
  ·have:=h1 a;omega
  by_cases b:f.k=17
  ·exact u' b
  by_cases c:f.k=18
  ·exact(t' c).2
  ·have:=j' ag;omega
 refine aFN (aF λa1 v' e1 g1 k1 _=>dO k1 (ayF (Zl f J) (Zb f J) J q' (ht.ai g1) (hs.gr g1) λt h2 g2 vn=>aF λa3 h3 e3 g3 Q _=>rH.b Q rfl λh4 o4 Q=>?_));have k3l:=Q.lt;have g4:=bI g3 o4 ag;have G4:=ak (ak g1 g2) g4;have k1:=(k1.ai g2).ai g4;have vn:aO (λc=>h.size<=c/\c<h2.size) h4 t f.cm.items:=dU (sD (aO.lt _ vn) λc(q:v'.size<=c/\c<h2.size)=>⟨ag,q.2⟩) g4
 simp only[bz,Nat.reduceAdd];refine aj k1 rfl (aAJ (λx z hx=>∃(i:Nat)(ws:bq)(As:List (Nat->Prop)),z=i/\i<=f.cs.length/\As.length=i/\az h4 hx/\ahX h4.size f.cs hx x ws As) (λ_ z _=>f.cs.length-z.toNat) ⟨0,[],[],rfl,eu _,rfl,cQ _,⟨rfl,eu _⟩,aA,aA,Vo,tL _ _ _ _⟩ ?_)
 rintro x z hx ⟨i,ws,As,rfl,hi,g',gx,KM⟩ N hN;have zx:=gx.1;have kn:=KM.n;refine cE (λcc=>?_) λcc=>?_
 ·have l':i<f.cs.length:=ag;have T:=bJ l';generalize f.cs[i]=c at T;have d':=bT T;have Cc:=qT c (J.aM d');refine((hs.gr G4).gr gx).ix rfl T λp hp=>?_;obtain⟨u,cp,hu⟩:=hp.row;refine gH cp (aF λa6 h5 e5 R k6 _=>oO k6 rfl λh6 o6 k6=>dO k6 ?_);have g6:=bI R o6 ag;have s6:=g6.1;refine IH c d' (((ht.ai G4).ai gx).ai g6) (hu.gr g6) λv h7 g7 M7=>?_;obtain⟨kk,bb,ev⟩:=Cc.na M7;subst ev;refine⟨rfl,aF λa8 h8 e8 g8 k8 _=>?_⟩;have s7:=g7.1;have G8:=ak g6 (ak g7 g8);have e':∀c,x.at c->h4.size<=c/\c<hx.size:=λc q=>KM.sl.at q;have xn:x.n=ws.length:=by have:=KM.sl.n;rw[cr]at this;exact this
  refine(KM.sl.ai G8).ap ag rfl (new:=[[.iface (bK kk) (bH bb)]]) rfl (λr hr=>by simp at hr;subst hr;rfl) (λr hr=>by simp at hr;subst hr;simp[one]) (by simpa using iJ k8 rfl) ag ag λx' h9 t9 m' o9=>aX ag ag (hN _ _ _ ⟨i+1,ws++[.iface (bK kk) (bH bb)],As++[λc=>h6.size<=c/\c<h7.size],aA,ag,by simp[g'],?_,⟨by simp[kn.1],by simp;omega⟩,?_,?_,?_,?_⟩ ag)
  ·exact((bg (ak gx G8):Tn No h4 h8).trans' t9 λc q l'=>by have:=(e' c q).1;omega).ai
  ·intro j W A w l C m;rcases zn g' C with⟨hj,C⟩|⟨rfl,rfl⟩
   ·rw[gN ag]at m;have g:=bT C;exact(qT W (J.aM (bT l))).fr (KM.aM j W A w l C m) ((bg G8:Tn x.at hx h8).trans t9) λc hc _=>(KM.bd A g c hc).2
   ·rw[fU ag]at m;rw[show j-ws.length=0 by omega]at m
    simp at m;subst m;rw[T]at l;cases l;exact Cc.fr M7 ((bg g8:Tn x.at h7 h8).trans t9) λd(hd:h6.size<=d/\d<h7.size)_ q=>by have:=e' d q;omega
  ·intro A g W f';have z9:=t9.1;rcases nh.1 g with g|g
   ·have:=KM.bd A g W f';refine⟨⟨this.1.1,ag⟩,λq=>?_⟩
    rcases m' W q with q|q
    ·exact this.2 q
    ·omega
   ·rw[ng]at g;subst g;refine⟨⟨ag,ag⟩,λq=>?_⟩
    rcases m' W q with q|q
    ·have:=e' W q;omega
    ·omega
  ·rw[Mt];refine⟨KM.ap,Ar _ _,λA g B hB W q z=>?_⟩;rw[ng]at hB;subst hB;have z:=z;have:=(KM.bd A g W q).1;omega
  ·rw[kq];exact o9
 ·have r':i=f.cs.length:=ag;subst r';have GX:=ak G4 gx;have Q:=Q.ai gx;have lx:=gx.1;have s':=G4.1;have eb:=afz f;have fin:=λ{h':Hp}{b:Nat}{SS:List Sl}{ST:List (Nat->Prop)}{X:aQ}{sp:bq}(o:az hx h')(F:aN h' b (cj f s t Sl.nil 0 0 0 (iK f.k SS ws x sp)).toArray (iU f.k))(lb:hx.size<=b)=>
   ar3 (SS:=SS) (ST:=ST) (X:=X) (sp:=sp) (N:=λc=>h.size<=c/\c<h2.size) J KM g' s' (dU (dU vn gx) o) (λc q=>⟨q.1,ag⟩) o lx F lb
  -- the one z' y'
  have U:∀{X:Addr->Value->Prop},f.cs.length=1->(∀k b a,ws=[.iface (bK k) (bH b)]->cell hx a=some (.iface (bK k) (bH b))->X a (.iface (bK k) (bH b)))->Ix x.a x.n 1 0 λZ=>Ld hx Z id (X Z):=by
   intro X hc hX;have lw:ws.length=1:=ag;have lA:As.length=1:=ag;obtain⟨w,rfl⟩:∃w,ws=[w]:=by
    match hq:ws,lw with
    |[a],_=>exact⟨a,rfl⟩
   have T:f.cs[0]? =some f.cs[0]:=bJ ag;have M:=KM.aM 0 _ As[0] w T (bJ ag) rfl;obtain⟨kk,bb,ev⟩:=(qT _ (J.aM (bT T))).na M;subst ev;have sv:=(eW.lq KM.sl).1;exact sv.ix ag (by have:=sv.1;simp at this;omega) (v:=.iface (bK kk) (bH bb)) rfl λa ha=>yQ ha (hX kk bb a rfl ha)
  have o':∀A∈((λ_=>False)::[]:List (Nat->Prop)),∀c,A c->∀(h':Hp)(b:Nat),hx.size<=c/\c<h'.size/\c≠b:=λA g c q=>by
   rw[ng]at g;subst g;exact q.elim
  have i':((λ_=>False)::[]:List (Nat->Prop)).Pairwise λA B=>∀c,A c->¬B c:=Ar _ _;have n':((λ_=>False)::[λ_=>False,λ_=>False]:List (Nat->Prop)).Pairwise λA B=>∀c,A c->¬B c:=yw.2 ⟨λ_ _ _ q=>q.elim,yw.2 ⟨λ_ _ _ q=>q.elim,Ar _ _⟩⟩;have w':((λ_=>False)::[λ_=>False]:List (Nat->Prop)).Pairwise λA B=>∀c,A c->¬B c:=yw.2 ⟨λ_ _ _ q=>q.elim,Ar _ _⟩;have S:f.k≠19->f.k≠20->∀X h',iO f.k X h' [] f.begun.b:=λa b X h'=>by unfold iO;rw[aC a,aC b]
  refine aCz ?_;simp only[bz,cF];refine aj (k1.ai gx) rfl (aG (λc1=>?_) λc1=>?_)
  ·have c1:=aS c1;have D:cC f.k f.begun.b=[]:=by unfold cC;rw[ay,ay,ay,dV]
   have I:bK f.k=pW:=by unfold bK;rw[aK c1]
   have H:iU f.k=VS:=by unfold iU;rw[aK c1]
   refine uV Q (aF λb h' L o F _=>?_);have:=hk _ h' (ak GX o) (fin (SS:=[]) (ST:=[]) (X:=λ_=>False) (sp:=[]) o (by rw[H];unfold iK nW;rw[ay,ay];exact F) ag (by rw[D];exact⟨rfl,rfl⟩) (λi s A y q=>by simp at q) (λA g c q=>o' A g c q h' b) i' (S ag ag _ _))
   rw[I]at this;exact this
  have c1:f.k≠1:=by simpa using c1
  have J2:NH K Kp (aJ a3) x f.k (f.k==12||f.k==13) hx:=by
   refine aCy (aG (λV=>?_) λV=>aG (λE=>?_) λE=>aG (λG=>?_) λG=>aG (λP=>?_) λP=>aG (λfS=>?_) λfS=>aG (λO=>?_) λO=>aG (λY=>?_) λY=>?_)
   ·have V:f.k=12\/f.k=13:=by simpa using V
    have D:cC f.k f.begun.b=[(ints [0],Y6),(bv [],Y8)]:=by rw[eb];unfold cC;rw[aK V];simp only[aK (show f.k=12\/f.k=13\/f.k=15 by omega)];rfl
    have I:bK f.k=pV:=by unfold bK;rw[ay,aK V]
    have H:iU f.k=VR:=by unfold iU;rw[ay,aK V]
    refine uV Q (aF λb' h5 e5 R k5 _=>aF λb h' L o F _=>?_);have s5:=R.1;have sq:=o.1;have p':=k5.lt;have k':=F.lt;have:=hk _ h' (ak GX (ak R o)) (fin (SS:=[⟨some (aJ b'),1,1⟩,Sl.nil]) (ST:=[λc=>c=b',λ_=>False]) (X:=λ_=>False) (sp:=[]) (ak R o) (by rw[H];unfold iK nW;rw[ay,ay];exact F) ag (by rw[D];exact⟨rfl,rfl⟩) (λi s A y l C m=>?_) (λA g c q=>?_) ?_ (S ag ag _ _))
    ·rw[I]at this;exact this
    ·rw[D]at m;rcases i with _|_|i
     ·simp at l C m;subst l C m;exact .inr ⟨b',rfl,rfl,rfl,_,k5.ai o,bX _,rfl,λi hi=>by simp[ints]⟩
     ·simp at l C m;subst l C m;exact .inl ⟨rfl,rfl⟩
     ·simp at l
    ·simp only[mE,pN,Ao]at g;rcases g with rfl|rfl|rfl
     ·exact q.elim
     ·have q:c=b':=q;omega
     ·exact q.elim
    ·refine yw.2 ⟨λ_ _ _ q=>q.elim,yw.2 ⟨λB hB c _ z=>?_,Ar _ _⟩⟩;rw[ng]at hB;subst hB;exact z
   ·have e:¬(f.k=12\/f.k=13):=by simpa using V
    have E:=aS E;have D:cC f.k f.begun.b=[(ints [0],Y6)]:=by rw[eb];unfold cC;rw[aC e,dV];simp only[aK (show f.k=12\/f.k=13\/f.k=15 by omega)]
    have I:bK f.k=pU:=by unfold bK;rw[ay,aC e,aK E]
    have H:iU f.k=VQ:=by unfold iU;rw[ay,aC e,aK E]
    refine uV Q (U (h1 ag) λkk bb Z ew ha=>aF λa' h5 e5 R k5 _=>CY ha R (bQ Q R ⟨rfl,aF λb h' L o F _=>?_⟩));have s5:=R.1;have sq:=o.1;have p':=k5.lt;have k':=F.lt;have:=hk _ h' (ak GX (ak R o)) (fin (SS:=[⟨some (aJ a'),1,1⟩]) (ST:=[λc=>c=a']) (X:=λ_=>False) (sp:=[]) (ak R o) (by rw[H];unfold iK nW;rw[dV,ew];exact F) ag (by rw[D];exact⟨rfl,rfl⟩) (λi s A y l C m=>?_) (λA g c q=>?_) (yw.2 ⟨λ_ _ _ q=>q.elim,Ar _ _⟩) (S ag ag _ _))
    ·rw[I]at this;exact this
    ·rw[D]at m;rcases i with _|i
     ·simp at l C m;subst l C m;exact .inr ⟨a',rfl,rfl,rfl,_,k5.ai o,bX _,rfl,λi hi=>by simp[ints]⟩
     ·simp at l
    ·simp only[mE,pN,Ao]at g;rcases g with rfl|rfl
     ·exact q.elim
     ·have q:c=a':=q;omega
   ·have e:¬(f.k=12\/f.k=13):=by simpa using V
    simp only[sm,reduceCtorEq]at E G;have D:cC f.k f.begun.b=[]:=by unfold cC;rw[aC e,ay,ay,dV]
    have I:bK f.k=oU:=by unfold bK;rw[ay,aC e,ay,aK G]
    have H:iU f.k=VP:=by unfold iU;rw[ay,aC e,ay,aK G]
    refine uV Q (U (h1 ag) λkk bb Z ew ha=>⟨rfl,aF λb h' L o F _=>?_⟩);have:=hk _ h' (ak GX o) (fin (SS:=[]) (ST:=[]) (X:=λ_=>False) (sp:=[]) o (by rw[H];unfold iK nW;rw[dV,ew];exact F) ag (by rw[D];exact⟨rfl,rfl⟩) (λi s A y l=>by simp at l) (λA g c q=>by simp only[mE,pN,Ao]at g;rcases g with rfl <;> exact q.elim) i' (S ag ag _ _))
    rw[I]at this;exact this
   ·have e:¬(f.k=12\/f.k=13):=by simpa using V
    simp only[sm,reduceCtorEq]at E G P;have D:cC f.k f.begun.b=[]:=by unfold cC;rw[aC e,ay,ay,dV]
    have I:bK f.k=oT:=by unfold bK;rw[ay,aC e,ay,ay,aK P]
    have H:iU f.k=VO:=by unfold iU;rw[ay,aC e,ay,ay,aK P]
    refine uV Q (aF λb h' L o F _=>?_);have:=hk _ h' (ak GX o) (fin (SS:=[]) (ST:=[]) (X:=λ_=>False) (sp:=[]) o (by rw[H];unfold iK nW;rw[ay,dV];exact F) ag (by rw[D];exact⟨rfl,rfl⟩) (λi s A y l=>by simp at l) (λA g c q=>by simp only[mE,pN,Ao]at g;rcases g with rfl <;> exact q.elim) i' (S ag ag _ _))
    rw[I]at this;exact this
   ·have e:¬(f.k=12\/f.k=13):=by simpa using V
    simp only[sm,reduceCtorEq]at E G P fS;have D:cC f.k f.begun.b=[(bv [],Y8),(ints [],Y6)]:=by rw[eb];unfold cC;rw[aC e,ay,aK fS];simp only[aC (show¬(f.k=12\/f.k=13\/f.k=15) by omega)];rfl
    have I:bK f.k=qC:=by unfold bK;rw[ay,aC e,ay,ay,ay,aK fS]
    have H:iU f.k=VN:=by unfold iU;rw[ay,aC e,ay,ay,ay,aK fS]
    refine uV Q (aF λb h' L o F _=>?_);have:=hk _ h' (ak GX o) (fin (SS:=[Sl.nil,Sl.nil]) (ST:=[λ_=>False,λ_=>False]) (X:=λ_=>False) (sp:=[]) o (by rw[H];unfold iK nW;rw[ay,dV];exact F) ag (by rw[D];exact⟨rfl,rfl⟩) (λi s A y l C m=>?_) (λA g c q=>by simp only[mE,pN,Ao]at g;rcases g with rfl|rfl|rfl <;> exact q.elim) n' (S ag ag _ _))
    ·rw[I]at this;exact this
    ·rw[D]at m;rcases i with _|_|i
     ·simp at l C m;subst l C m;exact .inl ⟨rfl,rfl⟩
     ·simp at l C m;subst l C m;exact .inl ⟨rfl,rfl⟩
     ·simp at l
   ·have e:¬(f.k=12\/f.k=13):=by simpa using V
    simp only[sm,reduceCtorEq]at E G P fS O;have D:cC f.k f.begun.b=[(ints [],Y6)]:=by rw[eb];unfold cC;rw[aC e,dV];simp only[aC (show¬(f.k=12\/f.k=13\/f.k=15) by omega)]
    have I:bK f.k=qB:=by unfold bK;rw[ay,aC e,ay,ay,ay,ay,aK O]
    have H:iU f.k=VM:=by unfold iU;rw[ay,aC e,ay,ay,ay,ay,aK O]
    refine uV Q (U (h1 ag) λkk bb Z ew ha=>?_);unfold E8;have R:az hx (hx.push (.map #[] 0)):=qx hx _;have z5:(hx.push (Obj.map #[] 0)).size=hx.size+1:=Array.size_push ..;refine CY ha R (bQ Q R ⟨rfl,aF λb h' L o F _=>?_⟩);have sq:=o.1;have k':=F.lt;have:=hk _ h' (ak GX (ak R o)) (fin (SS:=[Sl.nil]) (ST:=[λ_=>False]) (X:=λc=>c=hx.size) (sp:=[Sl.v Sl.nil,.map (some hx.size)]) (ak R o) (by rw[H];unfold iK nW;rw[dV,ew];exact F) ag (by rw[D];exact⟨rfl,rfl⟩) (λi s A y l C m=>?_) (λA g c q=>?_) (yw.2 ⟨λB hB c _ z=>?_,Ar _ _⟩) ?_)
    ·rw[I]at this;exact this
    ·rw[D]at m;rcases i with _|i
     ·simp at l C m;subst l C m;exact .inl ⟨rfl,rfl⟩
     ·simp at l
    ·simp only[mE,pN,Ao]at g;rcases g with rfl|rfl
     ·have q:c=hx.size:=q;omega
     ·exact q.elim
    ·rw[ng]at hB;subst hB;exact z
    ·unfold iO;rw[aK O,eb];exact⟨Sl.nil,hx.size,rfl,ara (c:=0) rfl ((o.2 hx.size ag).trans aA)⟩
   ·have e:¬(f.k=12\/f.k=13):=by simpa using V
    simp only[sm,reduceCtorEq]at E G P fS O Y;have D:cC f.k f.begun.b=[(ints [],Y6)]:=by rw[eb];unfold cC;rw[aC e,dV];simp only[aC (show¬(f.k=12\/f.k=13\/f.k=15) by omega)]
    have I:bK f.k=pT:=by unfold bK;rw[ay,aC e,ay,ay,ay,ay,ay,aK Y]
    have H:iU f.k=VL:=by unfold iU;rw[ay,aC e,ay,ay,ay,ay,ay,aK Y]
    refine uV Q (U (h1 ag) λkk bb Z ew ha=>⟨rfl,aF λb h' L o F _=>?_⟩);have:=hk _ h' (ak GX o) (fin (SS:=[Sl.nil]) (ST:=[λ_=>False]) (X:=λ_=>False) (sp:=[.bool false,ah 0,.string (bs []),Sl.v Sl.nil]) o (by rw[H];unfold iK nW;rw[dV,ew];exact F) ag (by rw[D];exact⟨rfl,rfl⟩) (λi s A y l C m=>?_) (λA g c q=>by simp only[mE,pN,Ao]at g;rcases g with rfl|rfl <;> exact q.elim) w' ?_)
    ·rw[I]at this;exact this
    ·rw[D]at m;rcases i with _|i
     ·simp at l C m;subst l C m;exact .inl ⟨rfl,rfl⟩
     ·simp at l
    ·unfold iO;rw[aC O,aK Y,eb];exact⟨Sl.nil,rfl,pL _⟩
   ·have e:¬(f.k=12\/f.k=13):=by simpa using V
    simp only[sm,reduceCtorEq]at E G P fS O Y;have D:cC f.k f.begun.b=[(mh [],pX),(strs [],rF)]:=by rw[eb];unfold cC;rw[aC e,ay,aC fS,ay];rfl
    have I:bK f.k=pS:=by unfold bK;rw[ay,aC e,ay,ay,ay,ay,ay,ay]
    have H:iU f.k=VJ:=by unfold iU;rw[ay,aC e,ay,ay,ay,ay,ay,ay]
    refine uV Q (aF λb h' L o F _=>?_);have:=hk _ h' (ak GX o) (fin (SS:=[Sl.nil,Sl.nil]) (ST:=[λ_=>False,λ_=>False]) (X:=λ_=>False) (sp:=[]) o (by rw[H];unfold iK nW;rw[ay,ay];exact F) ag (by rw[D];exact⟨rfl,rfl⟩) (λi s A y l C m=>?_) (λA g c q=>by simp only[mE,pN,Ao]at g;rcases g with rfl|rfl|rfl <;> exact q.elim) n' (S ag ag _ _))
    ·rw[I]at this;exact this
    ·rw[D]at m;rcases i with _|_|i
     ·simp at l C m;subst l C m;exact .inl ⟨rfl,rfl⟩
     ·simp at l C m;subst l C m;exact .inl ⟨rfl,rfl⟩
     ·simp at l
  refine aG (λsx=>?_) λsx=>?_
  ·rw[sx]at J2;exact J2
  ·rw[sx]at J2;exact J2
theorem KG:∀f:aq,bB f->f.fN->yM f f.kY
  | .mk g au k w id ix cs,b,a=>by
    have e:∀c∈cs,yM c c.kY:=λc d=>KG c (b.aM d) (hY.get a.2.2 c d);exact arY b a e
end
theorem ayV(e:nI f){l:aR}(c:f.can l):l=kE f (f.dn (f.st l)) (f.dn (f.st l)).off.toNat (f.dn (f.st l)).len.toNat:=by
 rw[Aa,xO];apply qz;intro i;simp only[gf]
 by_cases b:i<l.length
 ·rw[afF b];simp[*]
 simp_all[ag,Mp]
theorem afV(a:fL f.k=true)(vs:aR)(x:aB):ij f vs x=if x.bx<=4194304/\f.fit x=true then(if 4096<=vs.length then 3 else if 4194304<bL vs+(16+x.text.length)then 3 else 0)else 7:=by
 unfold ij;rw[amm a];unfold QE;rw[fI];have e1:(aL f.k vs).rows=vs.length:=rfl;have b:(aL f.k vs).bF=bL vs:=rfl;grind
def vN(n:Int):aB:=.mk false n [] []
theorem uB:bB fA:=by
 apply U0;simp only[fA,aq.places];refine⟨⟨by decide,by decide,abS,aA,by simp[Shaped,aq.k,aq.w,aq.id,aq.ix,aq.cs],by simp[AH,aq.k],aA,by simp[aq.k]⟩,trivial⟩
theorem abc:fL fA.k=true:=rfl
theorem FQ:fA.fN:=by
 unfold fA aq.fN;exact⟨by decide,by decide,trivial⟩
theorem Sp:MC fA fA.kY:=qT fA uB
theorem So:yM fA fA.kY:=KG fA uB FQ
theorem QF:jr fA:=λv a=>Z6 uB bw a
theorem mvA:nI fA:=ab7 uB bw
theorem TY:ni fA:=adN bw
theorem avt(n:Int):fA.fit (vN n)=(decide (-32768<=n)&&decide (n<32768)):=by
 simp[fA,vN,aq.fit,fG,aB.items,aB.au,aB.text,aB.num,kW,dN]
theorem avr:fA.fit v0=true:=by
 simp[fA,v0,aq.fit,fG,ny,aB.items,aB.au,aB.text,aB.num]
theorem VE(vs:aR)(n:Int)(c:vs.length<=1)(b:bL vs<=16):ij fA vs (vN n)=if-32768<=n/\n<32768 then 0 else 7:=by
 rw[afV abc,avt];have e:(vN n).bx=16:=rfl;have a:(vN n).text.length=0:=rfl;grind
theorem ay7(vs:aR)(c:vs.length<=1)(b:bL vs<=16):ij fA vs v0=0:=by
 rw[afV abc,avr];have e:v0.bx=16:=rfl;have a:v0.text.length=0:=rfl;grind
def lA:List aB:=[vN (-2),v0]
def lB:List aB:=[vN 1,vN 40000]
theorem TP:Good fA lA 2:=by
 intro j x b a;rcases j with _|_|j
 ·simp[lA]at a;subst a;exact VE [] (-2) bw bw
 ·simp[lA]at a;subst a;exact ay7 [vN (-2)] bw bw
 ·omega
theorem afA:ij fA (lB.take 1) (vN 40000)=7:=VE [vN 1] 40000 bw bw
theorem auT:ij fA (lB.take 0) (vN 1)=0:=VE [] 1 bw bw
theorem Ep:fA.dn (fA.st lA)=.mk 2 0 1 [[1],[254,255,0,0]] [] []:=by
 rw[Ab bw];have e1:(aL fA.k lA).cz=1:=by decide
 have b:dF (aL fA.k lA)=[1]:=by decide
 have a:laidB (aL fA.k lA).dY (wB fA.k)=[254,255,0,0]:=by decide
 rw[e1,b,a];rfl
theorem ZG{B d:Bool}{x y:Int}(k:aN h a #[.bool B,ah x,.string (bs []),.slice none 0 0,.bool d,ah y,.string (bs []),.slice none 0 0] el):aO (λ_=>True) h ⟨some (aJ a),2,2⟩ [.mk B x [] [],.mk d y [] []]:=by
 refine aO.of rfl (bX _) λ_=>⟨_,rfl,trivial,λj v c=>?_⟩;rcases j with _|_|j
 ·simp at c;subst c;refine VA.of (s:=bN) (λi w b=>?_) (pL _);rw[bz,bz,ia k];rcases i with _|_|_|_|i
  all_goals first|(simp[uu]at b;done)|(simpa[aB.row,uu,Sl.v,aB.au,aB.num,aB.text]using b)
 ·simp at c;subst c;refine VA.of (s:=bN) (λi w b=>?_) (pL _);rw[bz,bz,ia k];rcases i with _|_|_|_|i
  all_goals first|(simp[uu]at b;done)|(simpa[aB.row,uu,Sl.v,aB.au,aB.num,aB.text]using b)
 ·simp at c
theorem ayU{K:fB}(y:mH h)(B:iW h)(hk:∀v,az h v->K true v):Yd h K Kp:=by
 have mw:(fA.dn (fA.st lA)).mw:=by rw[Ep];exact⟨by decide,⟨by decide,trivial⟩,by decide,trivial⟩
 refine aF2 (aF λa1 h1 e1 g1 m _=>oO m rfl λh2 o2 m=>dO m (aF λd' h3 e3 F O _=>?_));have g2:=bI g1 o2 ag;have L:=ak g2 F;have G:∀{v:Hp},cH v bN fA.cs:=λ{v}=>by unfold fA aq.cs cH;simp
 have rA:nY lA:=⟨⟨by decide,trivial⟩,⟨by decide,trivial⟩,trivial⟩
 have rB:nY lB:=⟨⟨by decide,trivial⟩,⟨by decide,trivial⟩,trivial⟩
 refine Wj (f:=fA) Sp So QF TY uB FQ rA bw (y.k.ai L) (B.ai L) G (ZG O) (λq h4 z X _ D4=>?_) λi x v _ _ o r=>?_;rotate_left
 ·rcases i with _|_|i
  ·exact absurd (TP 0 x bw o) r
  ·exact absurd (TP 1 x bw o) r
  ·simp[lA]at o
 refine aF λa2 h5 e5 E e _=>ig e rfl λh6 U e=>aCT (dO ((m.ai F).ai (ak z (bI E U ag))) (aF λc' h7 e7 C N _=>?_));have g6:=bI E U ag;have u:=ak g6 C;have J:=ak L (ak z u);have m:=(m.ai F).ai (ak z u);have e:=e.ai C;refine Wj (f:=fA) Sp So QF TY uB FQ rB bw (y.k.ai J) (B.ai J) G (ZG N) (λq Y _ _ W _=>?_) λi x Y g8 W o r=>?_
 ·have:=W 1 _ bw rfl;rw[afA]at this;omega
 obtain⟨rfl,rfl⟩:i=1/\x=vN 40000:=by
  rcases i with _|_|i
  ·simp[lB]at o;subst o;exact absurd auT r
  ·simp[lB]at o;grind
  ·simp[lB]at o
 rw[afA];refine aF λa5 h9 e9 Z V _=>ig V rfl λQ M V=>?_;have T:=bI Z M ag;have c:=ak g8 T;have s:=ak J c;have m:=m.ai c;have e:=e.ai c;have g:=(D4.gr u).gr c;have el:(fA.dn (fA.st lA)).len=2:=by rw[Ep];rfl
 have en:(fA.dn (fA.st lA)).au=1:=by rw[Ep];rfl
 have w:(fA.dn (fA.st lA)).aY=[[1],[254,255,0,0]]:=by rw[Ep];rfl
 have bn:=g.b.n;rw[w]at bn;refine aCS (bS rfl (aj e rfl (aCR (bS (by rw[el];rfl) ?_))))
 simp only[bz,cF];refine aj e rfl (aCQ (bS (by rw[en];rfl) ?_))
 simp only[bz,cF];refine aj e rfl (aCP (bS (by rw[bn.1];rfl) ?_))
 simp only[bz,cF];refine aj e rfl (g.b.ix rfl (by rw[w];decide) λa t H A=>⟨t,H,Aj A.1 (aCO (bS (by rw[w,Cm];rfl) ?_))⟩)
 simp only[bz,cF];refine aj e rfl (g.b.ix rfl (by rw[w];decide) λa t H A=>⟨t,H,Aj A.1 (aCN (bS (by rw[w,Cm];rfl) (aCM (bS rfl (aCL (bS rfl (dO m (fJ e ?_))))))))⟩)
 have I:=ayX uB bw lA X;have av:=ayV mvA X;rw[Ep]at g I av mw ⊢;refine aDV (f:=fA) (D:=λ_=>True) Sp So QF TY uB FQ (y.ai s) (B.ai s) G ?_ (aqK uB FQ (y.ai s) ?_ I) aqz I av rA mw λb P R hb=>?_
 ·exact g.fr (iV _ _) (λ_ _ _=>id) (λ_ _ _=>id) (λ_ _=>trivial) λ_ _=>trivial
 ·exact g.fr (iV _ _) (λ_ _ _=>id) (λ_ _ _=>id) (λ_ _=>trivial) λ_ _=>trivial
 ·obtain rfl:b=true:=hb.2 ⟨TP,Ep⟩;exact hk P (ak s R)
open Go Go.Sh Go.ChangeShapes Go.WideShapes Go.RowKit
theorem own:ownKnob aE.godebug=none:=by kernel_rfl
theorem laidOut:laidOutB aE=true:=by kernel_rfl
theorem arW:mapsRowed aE=true:=by kernel_rfl
theorem aoa:((List.range aE.types.size).all λt=>match aE.underlying t with|some (.slice e)=>decide (0<aE.cellsOf e)|_=>true)=true:=by kernel_rfl
def xH(t:TypeId):Array Field:=match aE.underlying t with|some (.struct fs)=>fs|_=>#[]
abbrev gl(t:TypeId)(i:Nat)(ty:TypeId)(off:Nat):Prop:=((xH t)[i]?).map (λf=>(f.type,f.offset))=some (ty,off)
theorem u3:aE.underlying 3=some (.int .i64):=by kernel_rfl
theorem u4:aE.underlying 4=some (.bool):=by kernel_rfl
theorem u5:aE.underlying 5=some (.int .u8):=by kernel_rfl
theorem u9:aE.underlying 9=some (.string):=by kernel_rfl
theorem ZC:aE.underlying 22=some (.slice 31):=by kernel_rfl
theorem al7:aE.underlying 192=some (.array 21 191):=by kernel_rfl
theorem al6:aE.underlying 223=some (.array 256 5):=by kernel_rfl
theorem al5:aE.underlying 226=some (.array 16 225):=by kernel_rfl
theorem u25:aE.underlying 29=some (.struct (xH 29)):=by kernel_rfl
theorem axl:gl 29 0 3 0:=by unfold gl;kernel_rfl
theorem axk:gl 29 1 3 1:=by unfold gl;kernel_rfl
theorem axj:gl 29 2 3 2:=by unfold gl;kernel_rfl
theorem axi:gl 29 3 3 3:=by unfold gl;kernel_rfl
theorem axh:gl 29 4 22 4:=by unfold gl;kernel_rfl
theorem u27:aE.underlying 31=some (.struct (xH 31)):=by kernel_rfl
theorem axg:gl 31 0 9 0:=by unfold gl;kernel_rfl
theorem axf:gl 31 1 4 1:=by unfold gl;kernel_rfl
theorem axe:gl 31 2 29 2:=by unfold gl;kernel_rfl
theorem PJ:aE.underlying 191=some (.struct (xH 191)):=by kernel_rfl
theorem axd:gl 191 1 3 1:=by unfold gl;kernel_rfl
theorem axc:gl 191 2 3 2:=by unfold gl;kernel_rfl
theorem axb:gl 191 3 4 3:=by unfold gl;kernel_rfl
theorem ZB:aE.underlying 225=some (.struct (xH 225)):=by kernel_rfl
theorem axa:gl 225 0 5 0:=by unfold gl;kernel_rfl
theorem aw9:gl 225 1 5 1:=by unfold gl;kernel_rfl
theorem Uh:aE.cellsOf 3=1:=by kernel_rfl
theorem Ug:aE.cellsOf 4=1:=by kernel_rfl
theorem cz5:aE.cellsOf 5=1:=by kernel_rfl
theorem cz9:aE.cellsOf 9=1:=by kernel_rfl
theorem axq:aE.cellsOf 22=1:=by kernel_rfl
theorem axp:aE.cellsOf 29=5:=by kernel_rfl
theorem aeh:aE.cellsOf 31=7:=by kernel_rfl
theorem axn:aE.cellsOf 191=4:=by kernel_rfl
theorem axm:aE.cellsOf 225=2:=by kernel_rfl
theorem KJ{α:Type}{Q:Nat->α->Prop}:∀{n:Nat},(∀i,i<n->∃v,Q i v)->∃l:List α,l.length=n/\∀(i:Nat)v,l[i]? =some v->Q i v
  |0,_=>⟨[],rfl,λi v h=>by simp at h⟩
  | n+1,h=>by
    have⟨l,hl,hi⟩:=KJ (n:=n) λi hi=>h i ag;have⟨v,hv⟩:=h n ag;refine⟨l++[v],by simp[hl],λi u hu=>?_⟩
    by_cases hin:i<n
    ·rw[gN ag]at hu;exact hi i u hu
    · have:i=n:=by have:=(de.1 hu).1;simp at this;omega
      subst this;rw[fU ag,hl]at hu;simp only[yz,CA,mF]at hu;subst hu;exact hv
theorem ash{α:Type}{l:List α}(h:l.length=4):∃a0 a1 a2 a3,l=[a0,a1,a2,a3]:=by
 match l,h with
 |[_,_,_,_],_=>exact⟨_,_,_,_,rfl⟩
theorem asg{α:Type}{l:List α}(h:l.length=6):∃a0 a1 a2 a3 a4 a5,l=[a0,a1,a2,a3,a4,a5]:=by
 match l,h with
 |[a0,a1,a2,a3,a4,a5],_=>exact⟨_,_,_,_,_,_,rfl⟩
theorem asf{α:Type}{l:List α}(h:l.length=7):∃a0 a1 a2 a3 a4 a5 a6,l=[a0,a1,a2,a3,a4,a5,a6]:=by
 match l,h with
 |[a0,a1,a2,a3,a4,a5,a6],_=>exact⟨_,_,_,_,_,_,_,rfl⟩
section
variable {H:Type} {enc:TypeId×Value->H} {fuel:Nat} {cs:bq} {x:DataW H×List MemPlace}
abbrev Rd(enc:TypeId×Value->H)(W:World)(fuel:Nat)(t:TypeId)(cs:bq)(x:DataW H×List MemPlace):Prop:=DataW.trod enc aE W 0 (λ_=>true) true fuel t cs=some x
theorem Qn{t:TypeId}(ht:aE.underlying t=some (.slice e))(h:Rd enc W fuel t cs x):∃(s:Sl)(n:Nat),cs=[s.v]/\fuel=n+1/\s.n<=s.c/\s.n<=jO/\∀i,i<s.n->∃a oL y,s.a=some a/\oL.length=aE.cellsOf e/\Cs (aU W) (a.add (i*aE.cellsOf e)) oL/\Rd enc W n e oL y:=by
 obtain⟨s,BW,rest,n,rfl,rfl,hn,hc,_,Hs⟩:=aqJ ht h;refine⟨s,n,rfl,rfl,hc,?_,λi hi=>?_⟩
 ·rcases DataW.trod_slice ht h with⟨e1,_⟩|⟨a,len,cap,_,_,_,_,e1,_,_,h1,h2,_⟩
  ·simp only[Sl.v,Vh,Value.slice.injEq]at e1;omega
  ·simp only[Sl.v,Vh,Value.slice.injEq]at e1;have:maxLen=9223372036854775807:=by decide
   show s.n<=9223372036854775807;omega
 ·have⟨a,oL,h1,h2,h3,h4⟩:=Hs i BW[i] (bJ ag);exact⟨a,oL,BW[i],h1,h2,h3,h4⟩
theorem Kj{t:TypeId}(ht:aE.underlying t=some (.struct (xH t)))(h:Rd enc W fuel t cs x):∃n,fuel=n+1/\cs.length=aE.cellsOf t/\∀(i:Nat)(ty:TypeId)(off:Nat),gl t i ty off->∃y,Rd enc W n ty ((cs.drop off).take (aE.cellsOf ty)) y:=by
 obtain⟨xs,n,rfl,rfl,hl,hlen,hf⟩:=DataW.trod_struct ht h;refine⟨n,rfl,hl,λi ty off hi=>?_⟩;unfold gl at hi;rw[tV]at hi;have⟨f,Ho,e⟩:=hi;cases e;have eC:i<xs.length:=by have:=(jD.1 Ho).1;omega
 have:=hf i f Ho;rw[bJ eC]at this;exact⟨xs[i],this⟩
theorem DA(h:Rd enc W fuel 3 cs x):∃v:Int,cs=[ah v]/\v<2^63:=by
 obtain⟨v,rfl,h1,h2⟩:=abx u3 h;exact⟨v,rfl,by omega⟩
theorem aaT(h:Rd enc W fuel 4 cs x):∃v,cs=[.bool v]:=by
 obtain⟨v,rfl,_⟩:=DataW.trod_bool u4 h;exact⟨v,rfl⟩
theorem aaS(h:Rd enc W fuel 9 cs x):∃v:ByteArray,cs=[.string v]/\v.size<=jO:=by
 obtain⟨v,rfl,_,hl⟩:=DataW.trod_string u9 h;have:maxLen=9223372036854775807:=by decide
 exact⟨v,rfl,by show _<=9223372036854775807;omega⟩
theorem iB.of{a:Addr}:∀{fs:cN}{i:Nat},(∀(j:Nat)f,fs[j]? =some f->jR h (a.add ((i+j)*7)) f)->iB h a i fs
  |[],_,_=>by unfold iB;trivial
  | f::fs,i,hh=>by
    unfold iB;refine⟨hh 0 f rfl,iB.of λj g hj=>?_⟩;have:=hh (j+1) g (by simpa using hj)
    have e:i+1+j=i+(j+1):=ag;rw[e];exact this
theorem cH.of{fs:cN}(hn:s.n=fs.length)(hc:s.n<=s.c)(hh:∀(j:Nat)f,fs[j]? =some f->∃a,s.a=some a/\jR h (a.add (j*7)) f):cH h s fs:=by
  cases fs with
  |nil=>unfold cH;exact⟨hn,hc⟩
  | cons f fs=>
    unfold cH;have⟨a,ha,h0⟩:=hh 0 f rfl;refine⟨hn,hc,a,ha,by simpa[add_zero']using h0,iB.of λj g hj=>?_⟩
    have⟨a',lX,h1⟩:=hh (j+1) g (by simpa using hj)
    rw[ha]at lX;cases lX;have e:1+j=j+1:=ag;rw[e];exact h1
theorem hY.of:∀{fs:cN},(∀(j:Nat)f,fs[j]? =some f->f.fN)->hY fs
 |[],_=>by unfold hY;trivial
 |f::fs,h=>by unfold hY;exact⟨h 0 f rfl,hY.of λj g hj=>h (j+1) g (by simpa using hj)⟩
def aj8(H:Type)(enc:TypeId×Value->H)(W:World)(fuel:Nat):Prop:=∀{cs:bq}{x:DataW H×List MemPlace},Rd enc W fuel 22 cs x->∃(s:Sl)(fs:cN),cs=[s.v]/\cH (aU W) s fs/\hY fs/\fs.length<=jO
theorem apG(B:∀n,n<fuel->aj8 H enc W n)(h:Rd enc W fuel 31 cs x):∃(f:aq)(u:Sl),cs=[.string f.name,.bool f.au,ah f.k,ah f.w,ah f.id,ah f.ix,Sl.v u]/\cH (aU W) u f.cs/\f.fN:=by
 obtain⟨U,rfl,c,b⟩:=Kj u27 h;rw[aeh]at c;obtain⟨v0,T,S,R,Q,P,O,rfl⟩:=asf c;have⟨N,t⟩:=b 0 _ _ axg;have⟨M,s⟩:=b 1 _ _ axf;have⟨L,r⟩:=b 2 _ _ axe;have⟨z,e0,y⟩:=aaS t;have⟨au,e1⟩:=aaT s;obtain⟨A,rfl,_,a⟩:=Kj u25 r;have⟨K,q⟩:=a 0 _ _ axl;have⟨J,p⟩:=a 1 _ _ axk;have⟨I,o⟩:=a 2 _ _ axj;have⟨G,m⟩:=a 3 _ _ axi;have⟨F,l⟩:=a 4 _ _ axh;have⟨k,j,_⟩:=DA q;have⟨w,i,_⟩:=DA p;have⟨id,g,_⟩:=DA o;have⟨ix,e,_⟩:=DA m;have⟨u,ds,d,E,D,C⟩:=B A ag l;simp[Uh,Ug,cz9,axq,axp]at e0 e1 j i g e d;subst e0 e1 j i g e d;exact⟨.mk z au k w id ix ds,u,rfl,E,by unfold aq.fN;exact⟨y,C,D⟩⟩
theorem apE:∀(fuel:Nat),aj8 H enc W fuel:=by
  intro fuel
  induction fuel using Nat.strongRecOn with
  | _ fuel ih=>
    intro cs x h;obtain⟨s,n,rfl,rfl,hc,hm,Hs⟩:=Qn ZC h;obtain⟨l,hl,hi⟩:=KJ (Q:=λi(f:aq)=>(∃a,s.a=some a/\jR (aU W) (a.add (i*7)) f)/\f.fN) λi hi=>by
      have⟨a,oL,y,h1,h2,h3,h4⟩:=Hs i hi;rw[aeh]at h3;obtain⟨f,u,rfl,f1,f2⟩:=apG (λm hm=>ih m ag) h4;exact⟨f,⟨a,h1,by have⟨nm,au,k,w,id,ix,ds⟩:=f;unfold jR;exact⟨u,h3,f1⟩⟩,f2⟩
    exact⟨s,l,rfl,cH.of hl.symm hc λj f hj=>(hi j f hj).1,hY.of λj f hj=>(hi j f hj).2,by omega⟩
end
def arj:String:=Rows.buildMakesRow.named.getD 2 ""
def arh:String:=Rows.buildMakesRow.named.getD 0 ""
def ari:String:=Rows.buildMakesRow.named.getD 1 ""
theorem adu:aE.globalNamed arh=some 0:=by kernel_rfl
theorem adv:aE.globalNamed ari=some 1:=by kernel_rfl
theorem adw:aE.globalNamed arj=some 2:=by kernel_rfl
theorem auN:(aE.globals[0]?).map (·.type)=some 192:=by kernel_rfl
theorem auO:(aE.globals[1]?).map (·.type)=some 223:=by kernel_rfl
theorem auP:(aE.globals[2]?).map (·.type)=some 226:=by kernel_rfl
theorem SH{n:String}{g t e N z fuel:Nat}{d:DataW Unit}{cs:Array Value}{p:List MemPlace}(hg:aE.globalNamed n=some g)(hu:aE.underlying t=some (.array N e))(hz:aE.cellsOf e=z)
  (atq:W.var? aE n=some cs) (hd:DataW.trod (λ_=>()) aE W 0 (λ_=>true) false fuel t cs.toList=some (d,p)) {i:Nat} (hi:i<N):∃(l:List (DataW Unit))(m:Nat)(y:DataW Unit×List MemPlace)(oL:bq),d=.agg l/\l[i]? =some y.1/\DataW.trod (λ_=>()) aE W 0 (λ_=>true) false m e oL=some y/\∀(k:Nat)v,k<z->oL[k]? =some v->cell (aU W) ⟨g,i*z+k,none⟩=some v:=by
 obtain⟨xs,m,rfl,hx,hl,hxl,hh⟩:=DataW.trod_array hu hd;rw[hz]at hh;have hxi:xs[i]? =some xs[i]:=bJ ag;have h1:=hh i hi;rw[hxi]at h1;refine⟨xs.map _,m,xs[i],(cs.toList.drop _).take z,tQ Prod.fst hx,by rw[eY,hxi];rfl,h1,λk v hk hv=>?_⟩
 rw[aep];have:=World.var?_cell hg atq (i*z+k);rw[this]
 simpa[Iy,hk]using hv
theorem aoJ:∀(i:Nat)(d:DataW Unit),i<21->(match(Rows.laid_colonnade_kind_says:DataW Unit)with|.agg l=>l[i]? |_=>none)=some d->∃a,d=.agg [a,.lit (.int .i64 (if i=0 then 0 else dN i)),.lit (.int .i64 (if i=0 then 0 else kR i)),.lit (.bool (decide (3<=i/\i<=10)))]:=by
 intro i d hi h;rcases i with _|_|_|_|_|_|_|_|_|_|_|_|_|_|_|_|_|_|_|_|_|i
 all_goals first|(obtain rfl:=uW h;exact⟨_,rfl⟩)|omega
theorem GH{m t:Nat}{cs:bq}{y:DataW Unit×List MemPlace}{k:IntKind}{v:Int}(hu:aE.underlying t=some (.int k))(h:DataW.trod (λ_=>()) aE W 0 (λ_=>true) false m t cs=some y)(hy:y.1=.lit (.int k v)):cs=[.int k v]:=by
 obtain⟨w,rfl,e,_⟩:=DataW.trod_int hu h;rw[e]at hy;simp only[DataW.lit.injEq,Lit.int.injEq,true_and]at hy;rw[hy]
theorem asF{m t:Nat}{cs:bq}{y:DataW Unit×List MemPlace}{v:Bool}(hu:aE.underlying t=some .bool)(h:DataW.trod (λ_=>()) aE W 0 (λ_=>true) false m t cs=some y)(hy:y.1=.lit (.bool v)):cs=[.bool v]:=by
 obtain⟨w,rfl,e⟩:=DataW.trod_bool hu h;rw[e]at hy;simp only[DataW.lit.injEq,Lit.bool.injEq]at hy;rw[hy]
theorem GC{m t:Nat}{cs:bq}{y:DataW Unit×List MemPlace}{l:List (DataW Unit)}(ht:aE.underlying t=some (.struct (xH t)))(h:DataW.trod (λ_=>()) aE W 0 (λ_=>true) false m t cs=some y)(hy:y.1=.agg l)
  {i:Nat} {ty:TypeId} {off:Nat} {d:DataW Unit} (hf:gl t i ty off) (hd:l[i]? =some d):∃n z,DataW.trod (λ_=>()) aE W 0 (λ_=>true) false n ty ((cs.drop off).take (aE.cellsOf ty))=some z/\z.1=d:=by
 obtain⟨xs,n,rfl,hz,hl,hlen,hh⟩:=DataW.trod_struct ht h;unfold gl at hf;rw[tV]at hf;have⟨f,Ho,e⟩:=hf;cases e;have eC:i<xs.length:=by have:=(jD.1 Ho).1;omega
 have:=hh i f Ho;rw[bJ eC]at this;refine⟨n,xs[i],this,?_⟩;have h1:y.1=.agg (xs.map (·.1)):=by rw[hz]
 rw[hy]at h1;rw[DataW.agg.inj h1,eY,bJ eC]at hd
 simpa using hd
theorem GI{cs:bq}{off:Nat}{v:Value}(h:(cs.drop off).take 1=[v]):cs[off]? =some v:=by
 have:=tQ (·[0]?) h
 simpa[Iy]using this
theorem avu(i:Nat)(hi:i<256):(match(Rows.laid_unicode_utf8_first:DataW Unit)with|.agg l=>l[i]? |_=>none)=some (.lit (.int .u8 (uF i))):=by
 have h:∀j:Fin 256,(Pinned.utf8FirstZ[j.1]?)=some (uF j.1):=by decide+kernel
 have:=h ⟨i,hi⟩
 show _[i]? =_
 unfold Pinned.numbers;simp only[eY,this];rfl
theorem ay9:∀(i:Nat)(d:DataW Unit),i<16->(match(Rows.laid_unicode_utf8_acceptRanges:DataW Unit)with|.agg l=>l[i]? |_=>none)=some d->d=.agg [.lit (.int .u8 (FJ i)),.lit (.int .u8 (FK i))]:=by
 intro i d hi h;rcases i with _|_|_|_|_|_|_|_|_|_|_|_|_|_|_|_|i
 all_goals first|(obtain rfl:=uW h;rfl)|omega
theorem amQ(h:laidMetH aE Rows.buildMakesRow.laid W):mH (aU W)/\iW (aU W):=by
 have h:=h;have⟨ps,⟨g1,t1,cs1,f1,p1,q1,Ty,BG,uM,hd1,⟨g2,t2,LL,f2,p2,q2,Tx,G9,GW,hd2,⟨g3,t3,cs3,f3,p3,q3,hg3,D0,hv3,hd3,_,_⟩,_⟩,_⟩,_⟩:=h;obtain rfl:=uW (adw.symm.trans Ty);obtain rfl:=uW (auP.symm.trans BG);obtain rfl:=uW (adu.symm.trans Tx);obtain rfl:=uW (auN.symm.trans G9);obtain rfl:=uW (adv.symm.trans hg3);obtain rfl:=uW (auO.symm.trans D0);have P5:∀i,i<21->cell (aU W) ⟨0,i*4+1,none⟩=some (ah (if i=0 then 0 else dN i))/\cell (aU W) ⟨0,i*4+2,none⟩=some (ah (if i=0 then 0 else kR i))/\cell (aU W) ⟨0,i*4+3,none⟩=some (.bool (decide (3<=i/\i<=10))):=by
  intro i hi;have⟨l,m,y,oL,e1,e2,e3,e4⟩:=SH adu al7 axn GW hd2 hi;have⟨a,hy⟩:=aoJ i y.1 hi (by rw[e1];exact e2)
  have⟨n1,z1,r1,s1⟩:=GC PJ e3 hy axd rfl;have⟨n2,z2,r2,s2⟩:=GC PJ e3 hy axc rfl;have⟨n3,z3',r3,s3⟩:=GC PJ e3 hy axb rfl;have c1:=GH u3 r1 s1;have c2:=GH u3 r2 s2;have c3:=asF u4 r3 s3;rw[Uh]at c1 c2;rw[Ug]at c3;exact⟨e4 1 _ ag (GI c1),e4 2 _ ag (GI c2),e4 3 _ ag (GI c3)⟩
 refine⟨⟨λi hi=>(P5 i hi).2.2,λi h1 h2=>?_,λi h1 h2=>?_⟩,⟨λi hi=>?_,λi hi=>?_⟩⟩
 ·have:=(P5 i ag).2.1;rwa [ay]at this
 ·have:=(P5 i ag).1;rwa [ay]at this
 ·have⟨l,m,y,oL,e1,e2,e3,e4⟩:=SH adv al6 cz5 hv3 hd3 hi;have hy:=avu i hi;rw[e1]at hy;have hy:=uW (e2.symm.trans hy);have c:=GH u5 e3 hy;have:=e4 0 _ ag (by rw[c];rfl)
  simpa using this
 ·have⟨l,m,y,oL,e1,e2,e3,e4⟩:=SH adw al5 axm uM hd1 hi;have hy:=ay9 i y.1 hi (by rw[e1];exact e2)
  have⟨n1,z1,r1,s1⟩:=GC ZB e3 hy axa rfl;have⟨n2,z2,r2,s2⟩:=GC ZB e3 hy aw9 rfl;have c1:=GH u5 r1 s1;have c2:=GH u5 r2 s2;rw[cz5]at c1 c2;have q1:=e4 0 _ ag (GI c1);rw[ES]at q1;exact⟨q1,e4 1 _ ag (GI c2)⟩
section
theorem DY{g:Raw->Int×Raw}(h:∀r,(g r).1≠5)(r:Raw):(dm i g r).1≠5:=h _
theorem Lr:∀{l:kF},(∀d∈l,d.mw)->xI l
 |[],_=>trivial
 |d::ds,h=>⟨h d (U5 ..),Lr λx a=>h x (U4 _ a)⟩
theorem av2{w ix:Int}{D:List (Raw->bG)}(f:∀g∈D,∀r,(g r).mw)(hl:D.length<=1000)(r:Raw):(mW k w ix D r).mw:=by
 have ks:∀d∈(List.range D.length).map (λi=>(D.getD i λ_=>wm) (r.aM i)),d.mw:=λd e=>by
  obtain⟨i,b,rfl⟩:=kZ.1 e;rw[wF]at b;have c:=bJ b;rw[gV,c];exact f _ (kH b) _
 have j:((List.range D.length).map (λi=>(D.getD i λ_=>wm) (r.aM i))).length<=1000:=by rw[cr,Il];exact hl
 have a:∀(n o u:Int)(aY:iz),aY.length<=1000->(bG.mk n o u aY [] []).mw:=λn o u aY h=>⟨ag,⟨aA,trivial⟩,aA,trivial⟩
 have kids:∀(n o u:Int)(aY:iz),aY.length<=1000->(bG.mk n o u aY _ []).mw:=λn o u aY h=>⟨ag,⟨ag,Lr ks⟩,aA,trivial⟩
 unfold mW;split
 ·exact a _ _ _ _ aA
 split
 ·exact a _ _ _ _ aA
 split
 ·exact kids _ _ _ _ aA
 split
 ·exact kids _ _ _ _ aA
 split
 ·exact kids _ _ _ _ aA
 split
 ·exact⟨aA,⟨aA,trivial⟩,ag,Lr ks⟩
 split
 ·exact⟨aA,⟨by rw[iN];omega,a _ _ _ _ aA,Lr ks⟩,aA,trivial⟩
 split
 ·exact a _ _ _ _ aA
 split
 ·exact a _ _ _ _ aA
 ·exact a _ _ _ _ aA
theorem asL(e:bB f):f.cs.length<=32:=by
 obtain⟨_,_,_,_,_,_,_,i,h,g,d⟩:=e.right.1
 omega
theorem Uc:∀f:aq,bB f->∀r,(f.dn r).mw
  | .mk h au k w id ix cs,b=>by
    have d:∀c∈cs,∀r,(c.dn r).mw:=λc a=>Uc c (b.aM a);have hl:cs.length<=32:=asL b;intro r;rw[ru];refine av2 (λg e r=>?_) (by rw[cr];show cs.length<=1000;omega) r
    obtain⟨c,a,rfl⟩:=kZ.1 e;exact d c a r
end
def Jy(d:bG):Prop:=∀{D E D' E':aQ}{h:Hp}{p q:Sl×Sl×Sl}{K:fB}{Kp:PK},d.mw->eR D E h p d->eR D' E' h q d->(∀h',az h h'->K true h')->
 Fv d.len d.off d.au p.1 p.2.1 p.2.2 d.len d.off d.au q.1 q.2.1 q.2.2 h K Kp
theorem adZ{z:aQ}{t:Sl}{cs:kF}{K:fB}{w:PK}(y:∀c∈cs,Jy c)(r:xI cs)(l:dD D E h s cs)(k:dD A z h t cs)(hl:cs.length<=2^50)(o:∀e,az h e->K true e):OZ s t h K w:=by
 have C:=l.n;have B:=k.n;refine aFV (bu cy (aAO (λx e=>az h e/\∃i:Nat,x=i/\i<=cs.length) (λx _=>cs.length-x.toNat) ⟨cQ _,0,rfl,eu _⟩ ?_));rintro x e ⟨G,i,rfl,F⟩ N hN;refine aG (λg=>?_) λg=>o e G;have g:=aS g;have b:cs[i]? =some cs[i]:=aA;have f:cs[i]∈cs:=aA;generalize cs[i]=d at b f;refine(l.gr G).ix rfl b λa p v vp=>cg.c v ((k.gr G).ix rfl b λI q j m=>cg.c j (y d f (r.get d f) vp m λH u=>bu rfl (aX ag ag (hN _ _ ⟨ak G u,i+1,aA,ag⟩ ag))))
theorem avQ{n y:Int}{cs ds:kF}(U:∀c∈cs,Jy c)(T:∀c∈ds,Jy c):Jy (.mk n y k aY cs ds):=by
 intro D E D' E' h p q K Kp g v s L;refine aF0 (aF λS Y e1 Q d _=>aF λR O Z C e _=>?_);have G:=ak Q C;have d:=d.ai C;have F:=(v.b.gr G);have b2:=(s.b.gr G);have J:=F.n;have I:=b2.n;have e1:(bG.mk n y k aY cs ds).aY=aY:=rfl;rw[e1]at J I;refine aj d rfl (aj e rfl (bu aA ?_));simp only[bz,cF];refine aj d rfl (aj e rfl (aCH (bu aA ?_)));simp only[bz,cF];refine aj d rfl (aj e rfl (aCG (bu aA ?_)));simp only[bz,cF];refine aj d rfl (aj e rfl (bu cy (aCJ (aAQ (λx r=>r=O/\∃i:Nat,x=i/\i<=aY.length) (λx _=>aY.length-x.toNat) ⟨rfl,0,rfl,eu _⟩ ?_))));rintro x r ⟨rfl,i,rfl,V⟩ N hN;simp only[bz,cF];refine aj d rfl (aG (λz=>?_) λz=>?_)
 ·have z:=aS z;have W:=g.1;refine aj d rfl (F.ix rfl (by rw[e1];omega) λa t w B=>⟨t,w,aj e rfl (b2.ix rfl (by rw[e1];omega) λa' H f m=>⟨H,f,?_⟩)⟩)
  have fin:If (!((bs (dB (bG.mk n y k aY cs ds).aY i)).toList==(bs (dB (bG.mk n y k aY cs ds).aY i)).toList)) (K false r) (aP ((i:Int)+1) λA=>N (Gv (aJ S) (aJ R) A) r):=by
   refine bu aA (aX ag ag (hN _ _ ⟨rfl,i+1,aA,ag⟩ ag))
  exact⟨Aj B.1 (CY f (cQ _) (mK e e (Aj m.1 (CY w (cQ _) (mK d d fin))))),Aj m.1 (CY w (cQ _) (mK d d (Aj B.1 (CY f (cQ _) (mK e e fin)))))⟩
 ·apply aCI;simp only[bz,cF];refine aj d rfl (aj e rfl (adZ U g.2.1.2 (v.c.gr G) (s.c.gr G) g.2.1.1 λX l=>bS rfl (aj (d.ai l) rfl (aj (e.ai l) rfl (adZ T g.2.2.2 ((v.x.gr G).gr l) ((s.x.gr G).gr l) g.2.2.1 λM P=>L M (ak (ak G l) P))))))
theorem HF:∀d:bG,Jy d
 |.mk n o u aY cs ds=>avQ (λc _=>HF c) λc _=>HF c
theorem aHh{M:cO}{n:Nat}{vs:aR}{j:PK}{K:Int->Int->Int->Sl->Sl->Sl->Int->HP}(B:lR f M D h n vs true)(g:∀d,az h d->K 0 0 0 bN bN bN 9 d):Jp (bC n) h K j:=by
 obtain⟨l,v,s,R,B⟩:=B;refine ajY (aF λr o q c a _=>?_);refine bO ?_;exact aj (B.k.ai c) rfl (bS rfl (ig a rfl λi e a=>fJ a (g i (bI c e ag))))
theorem Kf:∀{l:aR},(∀y∈l,y.lU)->nY l
 |[],_=>trivial
 |x::b,h=>⟨h x (U5 ..),Kf λy a=>h y (U4 _ a)⟩
open Go Go.Sh Go.ChangeShapes Go.WideShapes
theorem u2:aE.underlying 2=some (.int .i64):=by kernel_rfl
theorem u28:aE.underlying 37=some (.slice 39):=by kernel_rfl
theorem u56:aE.underlying 39=some (.struct (xH 39)):=by kernel_rfl
theorem aw8:gl 39 0 4 0:=by unfold gl;kernel_rfl
theorem aw7:gl 39 1 2 1:=by unfold gl;kernel_rfl
theorem aw6:gl 39 2 9 2:=by unfold gl;kernel_rfl
theorem aw5:gl 39 3 37 3:=by unfold gl;kernel_rfl
theorem cz2:aE.cellsOf 2=1:=by kernel_rfl
theorem axo:aE.cellsOf 37=1:=by kernel_rfl
theorem Uf:aE.cellsOf 39=4:=by kernel_rfl
section
variable {H:Type} {enc:TypeId×Value->H} {fuel:Nat} {cs:bq} {x:DataW H×List MemPlace}
def age(H:Type)(enc:TypeId×Value->H)(W:World)(fuel:Nat):Prop:=∀{cs:bq}{x:DataW H×List MemPlace},Rd enc W fuel 37 cs x->∃(s:Sl)(l:aR),cs=[s.v]/\aO Tt (aU W) s l/\nY l/\l.length<=jO
theorem aaR(o:∀n,n<fuel->age H enc W n)(h:Rd enc W fuel 39 cs x):∃(v:aB)(u:Sl),cs=v.row u/\aO Tt (aU W) u v.items/\v.lU:=by
 obtain⟨m,rfl,b,a⟩:=Kj u56 h;rw[Uf]at b;obtain⟨v0,A,z,y,rfl⟩:=ash b;have⟨w,i⟩:=a 0 _ _ aw8;have⟨t,g⟩:=a 1 _ _ aw7;have⟨s,f⟩:=a 2 _ _ aw6;have⟨r,e⟩:=a 3 _ _ aw5;have⟨au,e0⟩:=aaT i;have⟨num,e1,k,j⟩:=abx u2 g;have⟨tx,d,_⟩:=aaS f;have⟨u,l,c,q,p,_⟩:=o m ag e;simp[Ug,cz2,cz9,axo]at e0 e1 d c;subst e0 e1 d c;exact⟨.mk au num tx.data.toList l,u,rfl,q,⟨k,j⟩,p⟩
theorem apA:∀(fuel:Nat),age H enc W fuel:=by
  intro fuel
  induction fuel using Nat.strongRecOn with
  | _ fuel ih=>
    intro cs x h;obtain⟨s,n,rfl,rfl,hc,hm,Hs⟩:=Qn u28 h;obtain⟨l,hl,hi⟩:=KJ (Q:=λi(v:aB)=>(∃a,s.a=some a/\VA Tt (aU W) (a.add (i*4)) v)/\v.lU) λi hi=>by
      have⟨a,oL,y,h1,h2,h3,h4⟩:=Hs i hi;rw[Uf]at h3;obtain⟨v,u,rfl,f1,f2⟩:=aaR (λm hm=>ih m ag) h4;exact⟨v,⟨a,h1,VA.of h3 f1⟩,f2⟩
    refine⟨s,l,rfl,aO.of hl.symm hc λxD=>?_,Kf λy hy=>?_,by omega⟩
    ·obtain⟨v,hv⟩:∃v,l[0]? =some v:=⟨_,bJ (Mv.2 xD)⟩;have⟨⟨a,ha,_⟩,_⟩:=hi 0 v hv;refine⟨a,ha,trivial,λj v hv=>?_⟩;have⟨⟨a',lX,va⟩,_⟩:=hi j v hv;rw[ha]at lX;cases lX;exact va
    ·have⟨j,hj⟩:=mD.1 hy;exact(hi j y hj).2
end
def pE(vs:aR)(w:Nat)(e:Int):Int:=if 4096<=vs.length then 3 else if e≠0 then e else if 4194304<bL vs+w then 3 else 0
def jU(c:aq)(G:aB->Raw->Int×Raw):List aB->List aB->Int
 |_,[]=>0
 |kv,x::xs=>if(G x (c.st kv)).1=0 then jU c G (kv++[x]) xs else(G x (c.st kv)).1
def jZ(g:Nat->Int):Nat->Int
 |0=>0
 |n+1=>if jZ g n=0 then g n else jZ g n
theorem vE(x:Int×Raw)(g:Raw->Int×Raw):(cW x g).1=if x.1=0 then(g x.2).1 else x.1:=by unfold cW;split <;> rfl
theorem aat{c:aq}{G:aB->Raw->Int×Raw}:∀{b:aR},(∀x∈b,dW c (G x) x)->∀{r:Raw}{a:aR},i<r.kids.length->r.aM i=c.st a->c.can a->(fu (b.map λx=>dm i (G x)) r).1=jU c G a b
  |[],_,_,_,_,_,_=>rfl
  | x::b,h,r,a,g,d,m=>by
    simp only[rD,fu,jU];have e:(dm i (G x) r).1=(G x (c.st a)).1:=by unfold dm;rw[d]
    rw[vE,e];split
    · rename_i n
      obtain⟨k,j⟩:=vV (h x aA) d m ag
      rw[j];exact aat (λy l=>h y (by simp[l])) (by rw[vJ];exact g) (lC g) k
    ·rfl
theorem UX{cs:cN}{G:Nat->Raw->Int×Raw}{x:Nat->aB}{kv:Nat->List aB}(hl:r.kids.length=cs.length)(b:∀i c,cs[i]? =some c->r.aM i=c.st (kv i)/\c.can (kv i))(e:∀i c,cs[i]? =some c->dW c (G i) (x i)){g:Nat->Int}(d:∀i c,cs[i]? =some c->g i=(G i (c.st (kv i))).1):∀m,m<=cs.length->(fu ((List.range m).map λi=>dm i (G i)) r).1=jZ g m
  |0,_=>rfl
  | m+1,k=>by
    have a:cs[m]? =some cs[m]:=aA;rw[uX,kq,Io,Kb,vE,UX hl b e d m ag]
    show _=if jZ g m=0 then g m else jZ g m
    split
    · rename_i j
      have h:(fu ((List.range m).map λi=>dm i (G i)) r).1=0:=by rw[UX hl b e d m ag];exact j
      have:=(((EC hl b e m ag h).2.2) m _ a).2;rw[ay]at this
      show(G m ((fu ((List.range m).map λi=>dm i (G i)) r).2.aM m)).1=g m
      simp[*]
    ·rfl
theorem ur(n:Nat)(r:Raw):(fE n r).1=if 4194304<r.b.bF+n then 3 else 0:=rfl
theorem w8{vs:aR}{n:Bool}{F:Raw->Int×Raw}{w:Nat}{e:Int}(h:∀a,jq f vs v n a->(F a).1=if e≠0 then e else if 4194304<bL vs+w then 3 else 0):(cW (eU n (f.st vs)) F).1=pE vs w e:=by
 rw[vE];unfold pE
 by_cases q:4096<=vs.length
 ·rw[aK q];have b:(eU n (f.st vs)).1=3:=by unfold eU;simp_all[zm]
  rw[b];rfl
 ·rw[aC q];have e0:(eU n (f.st vs)).1=0:=by unfold eU;simp_all[aC,zm]
  simp_all[jq.of]
theorem jq.bF{vs:aR}{n:Bool}{a:Raw}(R:jq f vs v n a):a.b.bF=bL vs:=by rw[R.b];rfl
section
variable {c:aq} {vs:aR}
abbrev gA(f:aq)(vs:aR)(v:aB):Int:=(f.tk (f.st vs) v).1
abbrev gI(f:aq)(vs:aR):Int:=(f.zk (f.st vs)).1
abbrev cont(f:aq)(j:Nat)(vs:aR):List aB:=dK f.k f.w (dJ f.cs) j vs
theorem amy(d:f.k=1)(a:f.fit v=true):gA f vs v=pE vs v.bx 0:=by
 have b:v.au=true:=by
  cases b:v.au with
  |true=>rfl
  |false=>simp_all[eM,fG]
 have e:v=v0:=by rw[eM]at a;exact(kB a b).1
 unfold gA;rw[kG];unfold iI;rw[aK d];refine w8 (v:=v) λg R=>?_;rw[ur,R.bF,e,Py];rfl
theorem adC(a:f.fit v=true)(d:¬(15<=f.k/\f.k<=20)):v.items=[]:=by
  rw[eM]at a;cases b:v.au with
  |true=>rw[(kB a b).1];rfl
  | false=>
    unfold fG at a;grind
theorem amt(e:f.k=12\/f.k=13)(h:f.fit v=true):gA f vs v=pE vs v.bx (if 65536<(vs.flatMap aB.text).length+v.text.length then 4 else 0):=by
 have g:v.bx=16+v.text.length:=by rw[hO,adC h ag];rfl
 unfold gA;rw[kG];unfold iI;rw[ay,aK e];refine w8 (v:=v) λd R=>?_;have a:d.b.all=vs.flatMap aB.text:=by rw[R.b];show(aL f.k vs).all=_;simp[aL,e]
 rw[a];split
 ·rfl
 ·rw[ur,gz,g]
  show _=_
  rw[R.bF];rfl
theorem amx(g:fL f.k=true)(e:f.fit v=true)(h:f.k<=20):gA f vs v=pE vs v.bx 0:=by
 have q:f.k≠1/\f.k≠12/\f.k≠13/\f.k≠15/\f.k≠16/\f.k≠17/\f.k≠18/\f.k≠19/\f.k≠20:=by simpa[fL,and_assoc]using g
 have d:v.bx=16+v.text.length:=by rw[hO,adC e ag];rfl
 unfold gA;rw[kG];unfold iI;rw[ay,ay,ay,ay,ay,ay,ay,ay];refine w8 (v:=v) λa R=>?_;rw[ur,gz,d]
 show _=_
 rw[R.bF];rfl
theorem Ka{l:Raw}{n:Bool}{G:aB->Raw->Int×Raw}{xs:aR}{wg:Raw->Nat}{up:Rb->Rb}{w:Nat}(i:f.cs=[c])(t:f.can vs)(R:jq f vs v n l)(p:∀x∈xs,dW c (G x) x)(m:∀b,(up b).bF=b.bF)(s:∀h,(∃o,h=l.fo 0 (c.st o)/\o=cont f 0 vs++xs)->wg h=w):(cW (fu (xs.map λx=>dm 0 (G x)) l) λh=>fE (wg h) (h.up up)).1=if jU c G (cont f 0 vs) xs≠0 then jU c G (cont f 0 vs) xs else if 4194304<bL vs+w then 3 else 0:=by
 have j:f.cs[0]? =some c:=by rw[i];rfl
 have a:0<l.kids.length:=by rw[R.len,i];simp
 have g:=R.aM j;have d:=fC j t;have e:=aat p a g d;rw[vE,e]
 by_cases q:jU c G (dK f.k f.w (dJ f.cs) 0 vs) xs=0
 ·obtain⟨u,r⟩:=FT p a g d ag
  rw[aK q,aC (by simp[q]),r,s _ ⟨_,rfl,rfl⟩,ur,gz,m,nv,R.bF]
 grind
theorem amz(a:f.cs=[c])(d:f.k=15)(n:∀x,c.fit x=true->dW c (λr=>c.tk r x) x)(l:f.can vs)(h:f.fit v=true):gA f vs v=pE vs v.bx (jU c (λx r=>c.tk r x) (cont f 0 vs) v.items):=by
 obtain⟨i,j⟩:=adK a d h;unfold gA;rw[kG];unfold iI;rw[ay,ay,aK d];have hT:(f.cs.map aq.tk).getD 0 oG=c.tk:=by rw[a];rfl
 rw[hT];refine w8 (v:=v) λe R=>Ka (wg:=λb=>16+(eL b 0-eL e 0)) a l R (λx g=>n x (j x g)) (λ_=>rfl) λb⟨o,e1,m⟩=>?_;grind[Ht,hO]
theorem amv(a:f.cs=[c])(j:f.k=16)(u:∀x,c.fit x=true->dW c (λr=>c.tk r x) x)(s:dW c c.zk c.cm)(l:f.can vs)(e:f.fit v=true):gA f vs v=pE vs v.bx (if v.au then jU c (λ_=>c.zk) (cont f 0 vs) (List.replicate f.w.toNat c.cm)else jU c (λx r=>c.tk r x) (cont f 0 vs) v.items):=by
  unfold gA;rw[kG];unfold iI;rw[ay,ay,ay,aK j];have hT:(f.cs.map aq.tk).getD 0 oG=c.tk:=by rw[a];rfl
  have p:(f.cs.map aq.zk).getD 0 oz=c.zk:=by rw[a];rfl
  rw[hT,p];refine w8 (v:=v) λm R=>?_;cases i:v.au with
  | true=>
    simp only[gB];rw[Ki f.w.toNat c.cm];have g:v=v0:=by rw[eM]at e;exact(kB e i).1
    exact Ka a l R (λx d=>by simp_all) (λ_=>rfl) λ_ _=>by rw[g];rfl
  | false=>
    simp only[mG,lN];obtain⟨n,hl,o⟩:=Ll a j e i;refine Ka a l R (λx d=>u x (o x d)) (λ_=>rfl) λh⟨t,e1,q⟩=>?_;grind[Ht,hO]
end
section
variable {c:aq} {vs:aR}
def f0:aq:=.mk (bs []) false 0 0 0 0 []
theorem UW{h:Raw}{n:Bool}{x:Nat->aB}{G:Nat->Raw->Int×Raw}{wg:Raw->Nat}{w:Nat}{g:Nat->Int}(u:f.can vs)(R:jq f vs v n h)(j:∀i c,f.cs[i]? =some c->dW c (G i) (x i))(s:∀i c,f.cs[i]? =some c->g i=(G i (c.st (cont f i vs))).1)
  (r:∀d,(total d-total h=((List.range f.cs.length).map λi=>(x i).bx).sum)->wg d=w):(cW (fu ((List.range f.cs.length).map λi=>dm i (G i)) h) λd=>fE (wg d) d).1=if jZ g f.cs.length≠0 then jZ g f.cs.length else if 4194304<bL vs+w then 3 else 0:=by
 have k:∀i c,f.cs[i]? =some c->h.aM i=c.st (cont f i vs)/\c.can (cont f i vs):=λi c a=>⟨R.aM a,fC a u⟩;have e:=UX R.len k j s f.cs.length (bX _);rw[vE,e]
 by_cases q:jZ g f.cs.length=0
 ·obtain⟨p,o,m⟩:=EC R.len k j f.cs.length (bX _) ag
  rw[aK q,aC (by simp[q])]
  generalize(fu ((List.range f.cs.length).map λi=>dm i (G i)) h).2=d at p o m;have t:total d-total h=((List.range f.cs.length).map λi=>(x i).bx).sum:=by
   rw[qm,qm,o,R.len];have y:((List.range f.cs.length).map λi=>(d.aM i).b.bF).sum=((List.range f.cs.length).map λi=>(h.aM i).b.bF+(x i).bx).sum:=J3 λi l=>by
    simp_all[aK,qp,lS]
   rw[y,sum_add];omega
  rw[r d t,ur,p,R.bF]
 omega
def GM(f:aq)(vs:aR)(v:aB)(i:Nat):Int:=if v.au then gI (f.cs.getD i f0) (cont f i vs)else gA (f.cs.getD i f0) (cont f i vs) (v.items.getD i v0)
theorem aIZ(h:f.cs[i]? =some c):f.cs.getD i f0=c:=dG
theorem amu(l:f.k=17)(s:∀c∈f.cs,∀x,c.fit x=true->dW c (λr=>c.tk r x) x)(q:∀c∈f.cs,dW c c.zk c.cm)(m:f.can vs)(d:f.fit v=true):gA f vs v=pE vs v.bx (jZ (GM f vs v) f.cs.length):=by
  unfold gA;rw[kG];unfold iI;rw[ay,ay,ay,ay,aK l,cr];refine w8 (v:=v) λn R=>?_;cases b:v.au with
  | true=>
    simp only[gB];have e:v=v0:=by rw[eM]at d;exact(kB d b).1
    refine UW (x:=λi=>(dJ f.cs).getD i v0) m R (λi c a=>?_) (λi c a=>?_) λ_ _=>by rw[e];rfl
    ·rw[mV a,dJ,mV a];grind
    ·simp_all[GM,aK]
  | false=>
    simp only[mG,lN];obtain⟨o,hl,p⟩:=Eg l d b;refine UW (x:=λi=>v.items.getD i v0) m R (λi c a=>?_) (λi c a=>?_) λj h=>?_
    ·rw[mV a];grind
    ·unfold GM;simp[*]
    ·rw[h,<-hl,FO aB.bx v0,Sr,hO,o];rfl
theorem acq{code:Nat}{g:Raw->Int×Raw}{a:Raw}{n:Bool}{w:Nat}(R:jq f vs v n a)(d:f.cs[code]? =some c)(p:dW c g Y)(t:f.can vs)(o:16+Y.bx=w):(cW (dm code g (a.up λb=>{b with all:=b.all++[UInt8.ofNat code],ends:=b.ends++[(a.aM code).b.rows]})) λl=>fE (16+(eL l code-eL a code)) l).1=if(g (c.st (cont f code vs))).1≠0 then(g (c.st (cont f code vs))).1 else if 4194304<bL vs+w then 3 else 0:=by
 have h:code<(a.up λb=>{b with all:=b.all++[UInt8.ofNat code],ends:=b.ends++[(a.aM code).b.rows]}).kids.length:=by rw[jS,R.len];exact(de.1 d).1
 have i:(a.up λb=>{b with all:=b.all++[UInt8.ofNat code],ends:=b.ends++[(a.aM code).b.rows]}).aM code=c.st (cont f code vs):=by rw[ji];exact R.aM d
 generalize r:(a.up λb=>{b with all:=b.all++[UInt8.ofNat code],ends:=b.ends++[(a.aM code).b.rows]})=j at h i
 have u:j.b.bF=bL vs:=by rw[<-r,gz];exact R.bF
 have e:(dm code g j).1=(g (c.st (cont f code vs))).1:=by unfold dm;rw[i]
 rw[vE,e]
 by_cases q:(g (c.st (cont f code vs))).1=0
 ·obtain⟨y,m⟩:=vV p i (fC d t) ag
  rw[aK q,aC (by simp[q]),m,ur,nv,u]
  have s:eL (j.fo code (c.st (cont f code vs++[Y]))) code-eL a code=Y.bx:=by
   unfold eL;have k:a.aM code=c.st (cont f code vs):=R.aM d;rw[lC h,k,qp,qp,lS];omega
  rw[s,o]
 omega
theorem amB(l:bB f)(e:f.k=18)(b:f.cs[fO v]? =some c)(a:v.items=[Y])(d:v.text=[])(g:dW c (λr=>c.tk r Y) Y)(h:f.can vs):gA f vs v=pE vs v.bx (gA c (cont f (fO v) vs) Y):=by
 unfold gA;rw[kG];unfold iI;rw[ay,ay,ay,ay,ay,aK e];have i:(f.cs.map aq.tk).getD v.num.toNat oG=c.tk:=mV b;rw[i,a];unfold th;exact w8 (v:=v) λj R=>acq R b g h (by rw[hO v,d,a];simp[bL])
open Classical in
theorem amA(vY:f.cs=[c])(hk:f.k=19)(IH:∀x,c.fit x=true->dW c (λr=>c.tk r x) x)(hc:f.can vs)(hv:f.fit v=true):gA f vs v=pE vs v.bx (if v.au then 0 else if v∈dS vs then 0 else if oK f.ix<=(dS vs).length then 102 else gA c (dS vs) v):=by
  have eH:f.cs[0]? =some c:=by rw[vY];rfl
  have To:=fC eH hc
  have ce:cont f 0 vs=dS vs:=by show dK f.k f.w (dJ f.cs) 0 vs=_;rw[hk,B9]
  unfold gA
  rw[kG];unfold iI
  rw[ay,ay,ay,ay,ay,ay,aK hk]
  have hT:(f.cs.map aq.tk).getD 0 oG=c.tk:=by rw[vY];rfl
  rw[hT]
  refine w8 (v:=v) λr1 R=>?_
  have KS:r1.b.aH=dS vs:=by rw[R.b];show(aL f.k vs).aH=_;simp[aL,hk]
  cases hn:v.au with
  | true=>
    have GY:v=v0:=by rw[eM]at hv;exact(kB hv hn).1
    simp only[gB]
    rw[ur,gz,GY]
    show(if 4194304<r1.b.bF+16 then(3:Int)else 0)=_
    rw[R.bF];rfl
  | false =>
    simp only[mG,lN]
    rw[KS]
    cases hp:gu v (dS vs)with
    | some i=>
      have hm:v∈dS vs:=yD λq=>by rw[vQ.2 q]at hp;cases hp
      rw[aK hm]
      show(fE v.bx _).1=_
      rw[ur,gz]
      show(if 4194304<r1.b.bF+v.bx then(3:Int)else 0)=_
      rw[R.bF];rfl
    | none=>
      rw[aC (vQ.1 hp)]
      show(if oK f.ix<=(dS vs).length then((102:Int),r1)else _).1=_
      split
      ·rfl
      · have hlen:0<r1.kids.length:=by rw[R.len,vY];simp
        have Hl:=R.aM eH
        have e:(dm 0 (λr=>c.tk r v) r1).1=(c.tk (c.st (dS vs)) v).1:=by unfold dm;rw[Hl,<-ce]
        rw[vE,e]
        by_cases q:(c.tk (c.st (dS vs)) v).1=0
        · have hcv:c.fit v=true:=Lm vY (.inl hk) hv hn
          obtain⟨q1,q2⟩:=vV (IH v hcv) Hl To ag
          rw[aK q,aC (by simp[q]),q2,ur,gz]
          show(if 4194304<r1.b.bF+v.bx then(3:Int)else 0)=_
          rw[R.bF]
        omega
open Classical in
theorem amw(vY:f.cs=[c])(hk:f.k=20)(IH:dW c (λr=>c.tk r v) v)(hc:f.can vs):gA f vs v=pE vs v.bx (if(cR vs).1.getLast? =some v then 0 else gA c (cR vs).1 v):=by
 have eH:f.cs[0]? =some c:=by rw[vY];rfl
 have To:=fC eH hc
 have ce:cont f 0 vs=(cR vs).1:=by show dK f.k f.w (dJ f.cs) 0 vs=_;rw[hk,Er]
 unfold gA
 rw[kG];unfold iI
 rw[ay,ay,ay,ay,ay,ay,ay,aK hk]
 have hT:(f.cs.map aq.tk).getD 0 oG=c.tk:=by rw[vY];rfl
 rw[hT]
 refine w8 (v:=v) λr1 R=>?_
 have KS:r1.b.aH=(cR vs).1:=by rw[R.b];show(aL f.k vs).aH=_;simp[aL,hk]
 rw[KS]
 split
 ·rw[ur,gz]
  show(if 4194304<r1.b.bF+v.bx then(3:Int)else 0)=_
  rw[R.bF];rfl
 ·have hlen:0<r1.kids.length:=by rw[R.len,vY];simp
  have Hl:=R.aM eH
  have e:(dm 0 (λr=>c.tk r v) r1).1=(c.tk (c.st (cR vs).1) v).1:=by unfold dm;rw[Hl,<-ce]
  rw[vE,e]
  by_cases q:(c.tk (c.st (cR vs).1) v).1=0
  ·obtain⟨q1,q2⟩:=vV IH Hl To ag
   rw[aK q,aC (by simp[q]),q2,ur,gz]
   show(if 4194304<r1.b.bF+v.bx then(3:Int)else 0)=_
   rw[R.bF]
  omega
def vD(vs:aR)(e:Int):Int:=if 4096<=vs.length then 3 else if e≠0 then e else 3
theorem FF{F:Raw->Int×Raw}{e:Int}(i:f.small=false)(S:vm f)(j:f.can vs)(d:f.zk (f.st vs)=cW (eU false (f.st vs)) F)(h:∀a,jq f vs v0 false a->(F a).1=e\/e=0/\(F a).1=3):gI f vs=vD vs e:=by
 have ne:gI f vs≠0:=λq=>by have:=S vs j q;grind
 unfold gI at ne ⊢;rw[d,vE]at ne ⊢;unfold vD
 by_cases q:4096<=vs.length
 ·rw[aK q];have g:(eU false (f.st vs)).1=3:=by unfold eU;simp_all[zm]
  rw[g];rfl
 ·rw[aC q];have e0:(eU false (f.st vs)).1=0:=by unfold eU;simp_all[aC,zm]
  rw[aK e0]at ne ⊢;grind[jq.of]
theorem atm{e:Int}{p:Prop}[Decidable p]:(if e≠0 then e else if p then(3:Int)else 0)=e\/e=0/\(if e≠0 then e else if p then(3:Int)else 0)=3:=by
 omega
theorem an8(b:bB f)(a:f.small=false):16<=f.k/\f.k<=20:=yD λq=>by rw[PY b q]at a;cases a
theorem Ze(d:f.cs=[c])(l:f.k=16)(g:f.small=false)(S:vm f)(o:dW c c.zk c.cm)(h:f.can vs):gI f vs=vD vs (jU c (λ_=>c.zk) (cont f 0 vs) (List.replicate f.w.toNat c.cm)):=by
 have m:(f.cs.map aq.zk).getD 0 oz=c.zk:=by rw[d];rfl
 refine FF g S h (by rw[sC];unfold nQ;rw[aC dG,aK l]) λi R=>?_
 rw[m,Ki f.w.toNat c.cm];have:=Ka (xs:=List.replicate f.w.toNat c.cm) (G:=λ_=>c.zk) (wg:=λa=>16+(eL a 0-eL i 0)) d h R (λx j=>bZ) (λ_=>rfl) λa⟨p,e1,n⟩=>by rw[Ht d R e1 n]
 have e:∀a:Raw,(a.up λb=>b)=a:=λa=>by cases a;rfl
 grind
theorem Zd(l:f.k=17)(e:f.small=false)(S:vm f)(n:∀c∈f.cs,dW c c.zk c.cm)(h:f.can vs):gI f vs=vD vs (jZ (λi=>gI (f.cs.getD i f0) (cont f i vs)) f.cs.length):=by
 refine FF e S h (by rw[sC];unfold nQ;rw[aC dG,ay,aK l]) λj R=>?_
 rw[cr];rw[UW (g:=λi=>gI (f.cs.getD i f0) (cont f i vs)) (w:=16+((List.range f.cs.length).map λi=>((dJ f.cs).getD i v0).bx).sum) h R (λi c a=>?_) (λi c a=>?_) λd b=>by rw[b]]
 ·omega
 ·rw[mV a,dJ,mV a];grind
 simp[*]
theorem Zf(l:f.k=18)(a:f.cs[0]? =some c)(h:f.small=false)(S:vm f)(n:dW c c.zk c.cm)(j:f.can vs):gI f vs=vD vs (gI c (cont f 0 vs)):=by
 refine FF h S j (by rw[sC];unfold nQ;rw[aC dG,ay,ay,aK l];rfl) λd R=>?_
 rw[mV a,acq R a n j rfl];exact atm
theorem Pc(g:f.k=19\/f.k=20)(h:f.cs=[c])(j:f.small=false)(S:vm f)(n:f.can vs):gI f vs=vD vs (if f.k=19/\oK f.ix<=(dS vs).length then 102 else gI c (cont f 0 vs)):=by
 have m:(f.cs.map aq.zk).getD 0 oz=c.zk:=by rw[h];rfl
 have l:f.cs[0]? =some c:=by rw[h];rfl
 have aM:∀a,jq f vs v0 false a->(cW _ λi=>(3,i)).1=gI c (cont f 0 vs)\/gI c (cont f 0 vs)=0/\(cW _ λi=>(3,i)).1=3:=λa R=>by
  have e:(dm 0 c.zk a).1=gI c (cont f 0 vs):=by unfold dm;rw[R.aM l]
  rw[vE,e];omega
 rcases g with g|g
 ·refine FF j S n (by rw[sC];unfold nQ;rw[aC (by simp[j];omega),ay,ay,ay,aK g]) λa R=>?_
  have d:a.b.aH=dS vs:=by rw[R.b];show(aL f.k vs).aH=_;simp[aL,g]
  simp only[d,g,true_and,m];split
  ·exact .inl rfl
  ·exact aM a R
 ·rw[ay];refine FF j S n (by rw[sC];unfold nQ;rw[aC (by simp[j];omega),ay,ay,ay,ay]) λa R=>?_
  rw[m];exact aM a R
end
abbrev BF:=(Nat->Prop)->(Nat->Prop)->Hp->Nat->List aB->Prop
structure Bx where
 vl:List UInt8
 cd:List UInt8
 fx:List UInt8
 os:List Nat
 tx:List UInt8
 ix:List Nat
 en:List Nat
def Bx.fm(X:Bx):List (List Value×TypeId):=[(bv X.vl,Y8),(bv X.cd,Y8),(bv X.fx,Y8),(ints X.os,Y6),(bv X.tx,Y8),(ints X.ix,Y6),(ints X.en,Y6)]
structure dM where
 sf:Sl
 SS:List Sl
 sv:Sl
 sp:Sl
 kp:List Nat
 ST:List (Nat->Prop)
 VT:Nat->Prop
 PT:Nat->Prop
 KT:List (Nat->Prop)
def dM.Ls(g:dM):List (Nat->Prop):=g.VT::g.PT::(g.ST++g.KT)
structure Bn where
 r:Nat
 u:Nat
 w:Nat
def dM.row(f:aq)(g:dM)(n:Bn):List Value:=f.row g.sf++[ah (n.r:Int),ah (n.u:Int),ah (n.w:Int)]++(g.SS.map Sl.v++[Sl.v g.sv,Sl.v g.sp])
def oJ(b:Nat):Value:=bH b
def vj(A Q:aQ)(h:Hp)(s:Sl)(aH:aR):Prop:=
 ∃ss:List Sl,ss.length=aH.length/\eW 0 4 h s (List.zipWith aB.row aH ss) dh/\(∀c,s.at c->A c)/\∀(j:Nat)(z:aB)(u:Sl),aH[j]? =some z->ss[j]? =some u->aO Q h u z.items
structure gp(f:aq)(KM:List BF)(Q T:aQ)(h:Hp)(p:Nat)(g:dM)(n:Bn)(X:Bx)(vl:aR)(kc:Nat->List aB):Prop where
 t:iX T h p g.Ls
 q:∀c,Q c->¬T c/\c<h.size
 k:aN h p (g.row f n).toArray EW
 fs:bM Q h g.sf f.cs
 ls:g.SS.length=7/\g.ST.length=7
 sl:∀(i:Nat)s A x,g.SS[i]? =some s->g.ST[i]? =some A->X.fm[i]? =some x->Os A h s x.1 x.2
 aH:vj g.VT Q h g.sv vl
 pt:Os g.PT h g.sp (g.kp.map oJ) EX
 lk:g.kp.length=KM.length/\g.KT.length=KM.length
 aM:∀(j:Nat)(M:BF)A w,KM[j]? =some M->g.KT[j]? =some A->g.kp[j]? =some w->M Q A h w (kc j)
structure ov(M:BF):Prop where
 fr:∀{Q T S:aQ}{h h':Hp}{p:Nat}{vs:aR},M Q T h p vs->Tn S h h'->(∀c,T c->¬S c)->(∀c,Q c->¬S c)->M Q T h' p vs
 q:∀{Q Q' T:aQ}{h:Hp}{p:Nat}{vs:aR},M Q T h p vs->(∀c,Q c->Q' c)->(∀c,Q' c->¬T c/\c<h.size)->M Q' T h p vs
 d:∀{Q T:aQ}{h:Hp}{p:Nat}{vs:aR},M Q T h p vs->∀c,Q c->¬T c/\c<h.size
 r:∀{Q T:aQ}{h:Hp}{p:Nat}{vs:aR},M Q T h p vs->cell h ⟨p,7,none⟩=some (ah (vs.length:Int))
structure Ext(Q Q' T T':aQ)(h h':Hp):Prop where
 tn:Tn T h h'
 q:∀c,Q c->Q' c
 q':∀c,Q' c->Q c\/(h.size<=c/\c<h'.size)
 t:∀c,T c->T' c
 t':∀c,T' c->Tr T h h' c
section
variable {Q Q' Q2 T T' T2 S A':aQ} {h' h2:Hp} {p:Nat} {Ls:List (Nat->Prop)}
theorem Ext.refl:Ext Q Q T T h h:=⟨iV _ _,λ_ q=>q,λ_ q=>.inl q,λ_ q=>q,λ_ q=>.inl q⟩
theorem Ext.trans(x:Ext Q Q' T T' h h')(y:Ext Q' Q2 T' T2 h' h2):Ext Q Q2 T T2 h h2:=by
 have e:=x.tn.1;have d:=y.tn.1;refine⟨x.tn.trans' y.tn λc z a=>(x.t' c z).elim id λz=>ag,λc z=>y.q c (x.q c z),λc z=>?_,λc z=>y.t c (x.t c z),λc z=>?_⟩
 ·rcases y.q' c z with z|z
  ·exact(x.q' c z).imp id λz=>⟨z.1,ag⟩
  omega
 ·rcases y.t' c z with z|z
  ·exact(x.t' c z).imp id λz=>⟨z.1,ag⟩
  omega
theorem iX.put(t:iX T h b Ls){i:Nat}(s:Ls[i]? =some A)(C:h.size<=h'.size)(o:∀c,A' c->Tr A h h' c):iX (λc=>T c\/A' c) h' b (Ls.set i A'):=by
 have sub:=t.sub A (bT s);have x:=t.lt b t.tb;refine⟨.inl t.tb,λc d=>?_,λB hB c d=>?_,?_⟩
 ·rcases d with z|z
  ·have:=t.lt c z;omega
  ·rcases o c z with z|z
   ·have:=t.lt c (sub c z).1;omega
   omega
 ·obtain⟨j,q,rfl⟩:=List.getElem_of_mem hB;have a:j<Ls.length:=by simpa using q
  rw[U3]at d;split at d
  ·exact⟨.inr d,(o c d).elim (λz=>(sub c z).2) λz=>ag⟩
  ·have:=t.sub _ (kH a) c d;simp[*]
 ·rw[vg];intro j k q w r c;have a:j<Ls.length:=by simpa using q
  have l:k<Ls.length:=by simpa using w
  have e:=vg.1 t.ap j k a l r c;have v:=λz=>t.lt c (t.sub _ (kH a) c z).1;have lk:=λz=>t.lt c (t.sub _ (kH l) c z).1;have m:∀(hl:i<Ls.length),Ls[i]=A:=by grind[List.getElem?_eq_getElem,Option.some.inj]
  rw[U3,U3]
  by_cases e1:i=j
  ·subst e1;rw[aK rfl,ay];intro z y;rcases o c z with z|z
   ·exact e dG y
   ·have:=lk y;omega
  ·rw[aC e1]
   by_cases u:i=k
   ·subst u;rw[aK rfl];intro z y;rcases o c y with y|y
    ·exact e z (by rw[m l];exact y)
    ·have:=v z;omega
   ·rw[aC u];exact e
theorem vj.fr(o:vj A Q h s aH)(f:Tn S h h')(B:∀c,A c->¬S c)(hQ:∀c,Q c->¬S c):vj A Q h' s aH:=by
 obtain⟨i,e,r,a,v⟩:=o;refine⟨i,e,⟨r.len,r.n,?_⟩,a,λj z u l h2=>aO.fr f (λc k _=>hQ c k) (λ_ q=>q) _ (v j z u l h2)⟩;rcases r.sh with e|⟨b,m,b2,d⟩
 ·exact .inl e
 ·exact .inr ⟨b,m,by have:=f.1;omega,d.fr f (B b (a b ⟨_,d.1,rfl⟩))⟩
theorem vj.q(o:vj A Q h s aH)(hQ:∀c,Q c->Q' c):vj A Q' h s aH:=by
 obtain⟨d,e,r,a,v⟩:=o;exact⟨d,e,r,a,λj z u i h2=>sD (v j z u i h2) hQ⟩
end
section
variable {KM:List BF} {Q Q' T S:aQ} {h':Hp} {p:Nat} {g:dM} {n:Bn} {X:Bx} {vl:aR} {kc:Nat->List aB}
theorem dM.iw(g:dM){i:Nat}{A:aQ}(c:g.ST[i]? =some A):g.Ls[2+i]? =some A:=by
 grind[List.getElem?_eq_some_iff,dM.Ls]
theorem dM.fF(g:dM){j:Nat}{A:aQ}(a:g.KT[j]? =some A):g.Ls[2+g.ST.length+j]? =some A:=by
 unfold dM.Ls;grind
theorem gp.fr(G:gp f KM Q T h p g n X vl kc)(KF:∀M∈KM,ov M)(t:Tn S h h')(hT:∀c,T c->¬S c)(hQ:∀c,Q c->¬S c):gp f KM Q T h' p g n X vl kc:=by
 have sub:∀{A:aQ}(i:Nat),g.Ls[i]? =some A->∀c,A c->¬S c:=λi e c l=>hT c (G.t.sub _ (bT e) c l).1;exact⟨G.t.grow t.1,λc z=>⟨(G.q c z).1,by have:=(G.q c z).2;have:=t.1;omega⟩,t.aZ G.k (hT p G.t.tb),bM.fr t (λc z=>hQ c z) (λ_ z=>z) _ G.fs,G.ls,λi s A x a h2 d=>(G.sl i s A x a h2 d).fr t λc z _=>sub _ (g.iw h2) c z,
  G.aH.fr t (sub 0 rfl) hQ,G.pt.fr t λc z _=>sub 1 rfl c z,G.lk,λj M A w a h2 d=>(KF M (bT a)).fr (G.aM j M A w a h2 d) t (sub _ (g.fF h2)) hQ⟩
theorem gp.aol(G:gp f KM Q T h p g n X vl kc)(KF:∀M∈KM,ov M)(a:∀c,Q c->Q' c)(h2:∀c,Q' c->¬T c/\c<h.size):gp f KM Q' T h p g n X vl kc:=
 ⟨G.t,h2,G.k,bM.fr (iV _ _) (λ_ _=>id) a _ G.fs,G.ls,G.sl,G.aH.q a,G.pt,G.lk,λj M A w e1 d e=>(KF M (bT e1)).q (G.aM j M A w e1 d e) a λc z=>⟨λy=>(h2 c z).1 (G.t.sub _ (bT (g.fF d)) c y).1,(h2 c z).2⟩⟩
end
structure gw(f:aq)(KM:List BF)(p:Nat)(Q0 T0:aQ)(h0:Hp)(Q T:aQ)(h:Hp)(g:dM)(n:Bn)(X:Bx)(vl:aR)(kc:Nat->List aB)(E:aQ):Prop where
 S:gp f KM Q T h p g n X vl kc
 x:Ext Q0 Q T0 T h0 h
 e:∀c,E c->c<h.size/\¬T c
section
variable {KM:List BF} {p:Nat} {Q0 T0 Q T S A':aQ} {h0 h' h1:Hp} {g:dM} {n:Bn} {X X':Bx} {vl:aR} {kc:Nat->List aB} {s':Sl}
theorem gw.of(S:gp f KM Q T h p g n X vl kc)(q:∀c,E c->c<h.size/\¬T c):gw f KM p Q T h Q T h g n X vl kc E:=⟨S,Ext.refl,q⟩
theorem gw.vW{cs:Array Value}(t:Tn (λc=>¬E c) h h')(k:aN h a cs ty)(b:E a):aN h' a cs ty:=t.aZ k λq=>q b
abbrev pK:=@gw.vW
theorem gw.ai(KF:∀M∈KM,ov M)(s:gw f KM p Q0 T0 h0 Q T h g n X vl kc E)(gr:az h h'):gw f KM p Q0 T0 h0 Q T h' g n X vl kc (λc=>E c\/(h.size<=c/\c<h'.size)):=by
 have a:=gr.1;refine⟨s.S.fr KF (bg gr) (λ_ _=>id) λ_ _=>id,s.x.trans ⟨bg gr,λ_ z=>z,λ_ z=>.inl z,λ_ z=>z,λ_ z=>.inl z⟩,λc z=>?_⟩;rcases z with z|z
 ·exact⟨by have:=(s.e c z).1;omega,(s.e c z).2⟩
 ·exact⟨z.2,λy=>by have:=s.S.t.lt c y;omega⟩
theorem gp.dH{K:Sl->Prop}(G:gp f KM Q T h p g n X vl kc)(a:g.SS[i]? =some s)(c:K s):Ld h ⟨p,10+i,none⟩ Sl.v K:=by
 have b:=(de.1 a).1;refine aj G.k ?_ c;rw[pO];unfold dM.row;rw[fU (by show 10<=_;omega),gN (by show 10+i-10<_;simp[*]),eY]
 show Option.map Sl.v g.SS[10+i-10]? =_
 grind
theorem gp.mR{K:Sl->Prop}(G:gp f KM Q T h p g n X vl kc)(a:K g.sv):Ld h ⟨p,17,none⟩ Sl.v K:=by
 refine aj G.k ?_ a;rw[pO];unfold dM.row;rw[fU (by show 10<=17;omega),fU (by show _<=17-10;rw[cr,G.ls.1];omega),cr,G.ls.1];rfl
theorem gp.jY{K:Sl->Prop}(G:gp f KM Q T h p g n X vl kc)(a:K g.sp):Ld h ⟨p,18,none⟩ Sl.v K:=by
 refine aj G.k ?_ a;rw[pO];unfold dM.row;rw[fU (by show 10<=18;omega),fU (by show _<=18-10;rw[cr,G.ls.1];omega),cr,G.ls.1];rfl
theorem gw.own{d:Bn}(s:gw f KM p Q0 T0 h0 Q T h g n X vl kc E)(o:eJ p h h')(KF:∀M∈KM,ov M)(k:aN h' p (g.row f d).toArray EW):gw f KM p Q0 T0 h0 Q T h' g d X vl kc E/\Tn (λc=>¬E c) h h':=by
 have G:=s.S;have t:=o.fr;have sub:∀{A:aQ}(i:Nat),g.Ls[i]? =some A->∀c,A c->¬c=p:=λi l c m=>(G.t.sub _ (bT l) c m).2;have hQ:∀c,Q c->¬c=p:=λc z e=>(G.q c z).1 (e▸G.t.tb);refine⟨⟨⟨G.t.grow t.1,λc z=>⟨(G.q c z).1,by have:=(G.q c z).2;have:=t.1;omega⟩,k,bM.fr t hQ (λ_ z=>z) _ G.fs,G.ls,λi s A x h1 a b=>(G.sl i s A x h1 a b).fr t λc z _=>sub _ (g.iw a) c z,
  G.aH.fr t (sub 0 rfl) hQ,G.pt.fr t λc z _=>sub 1 rfl c z,G.lk,λj M A w h1 a b=>(KF M (bT h1)).fr (G.aM j M A w h1 a b) t (sub _ (g.fF a)) hQ⟩,?_,λc z=>?_⟩,?_⟩
 ·exact s.x.trans ⟨t.mono λc e _=>e▸G.t.tb,λ_ z=>z,λ_ z=>.inl z,λ_ z=>z,λ_ z=>.inl z⟩
 ·have:=s.e c z;exact⟨by have:=t.1;omega,this.2⟩
 ·exact t.mono λc e _ z=>(s.e c z).2 (e▸G.t.tb)
theorem gw.num{K:HP}{m:Nat}{x:Int}{b:Bn}(KF:∀M∈KM,ov M)(s:gw f KM p Q0 T0 h0 Q T h g n X vl kc E)(d:x=m)(q:(i=7/\b={n with r:=m})\/(i=8/\b={n with u:=m})\/(i=9/\b={n with w:=m}))
  (y:∀h',Tn (λc=>¬E c) h h'->gw f KM p Q0 T0 h0 Q T h' g b X vl kc E->K h'):St h ⟨p,i,none⟩ (ah x) K:=by
 subst d;have a:∀n:Bn,(g.row f n).length=10+(g.SS.length+2):=λn=>by unfold dM.row;simp[Gc];omega
 refine dI s.S.k bZ rfl λh' o k=>?_
 have e:(g.row f n).toArray.setIfInBounds i (ah (m:Int))=(g.row f b).toArray:=by
  rw[oP];rcases q with⟨rfl,rfl⟩|⟨rfl,rfl⟩|⟨rfl,rfl⟩ <;> rfl
 rw[e]at k;obtain⟨s',t⟩:=s.own o KF k;simp[*]
theorem gw.slot{K:HP}(KF:∀M∈KM,ov M)(C:gw f KM p Q0 T0 h0 Q T h g n X vl kc E)(Z:g.SS[i]? =some s)(O:g.ST[i]? =some A)(t:Tn A h h1)(o:Os (Tr A h h1) h1 s' x'.1 x'.2)(hX:X'.fm=X.fm.set i x')
  (hk:∀h',Tn (λc=>¬E c) h h'->gw f KM p Q0 T0 h0 Q (λc=>T c\/Tr A h h1 c) h' {g with SS:=g.SS.set i s',ST:=g.ST.set i (Tr A h h1)} n X' vl kc E->K h'):St h1 ⟨p,10+i,none⟩ (Sl.v s') K:=by
 have G:=C.S;have hi:=(de.1 Z).1;have d:=g.iw O;have H:=t.1;have I:¬A p:=λz=>(G.t.sub _ (bT d) p z).2 rfl;have W:=t.aZ G.k I;have F:∀(g:dM)n,(g.row f n).length=10+(g.SS.length+2):=λg n=>by unfold dM.row;simp[Gc];omega
 refine dI W (by rw[ED,F];omega) rfl λh' D J=>?_
 have R:=D.1;have e:(g.row f n).toArray.setIfInBounds (10+i) (Sl.v s')=(({g with SS:=g.SS.set i s',ST:=g.ST.set i (Tr A h h1)}:dM).row f n).toArray:=by
  rw[oP];unfold dM.row;rw[yx _ _ (by show 10<=_;omega),List.set_append_left _ _ (by show 10+i-10<_;rw[cr];omega),Ct]
  congr 5
  show 10+i-10=i;omega
 rw[e]at J;have u:Tn (λc=>A c\/c=p) h h':=(t.mono λc z _=>.inl z).trans (D.fr.mono λc z _=>.inr z);have r:∀c,Q c->¬(A c\/c=p):=λc z y=>by
  rcases y with y|y
  ·exact(G.q c z).1 (G.t.sub _ (bT d) c y).1
  ·exact(G.q c z).1 (y▸G.t.tb)
 have b:∀{B:aQ}(j:Nat),g.Ls[j]? =some B->j≠2+i->∀c,B c->¬(A c\/c=p):=λ{B}j N ne c z y=>by
  rcases y with y|y
  ·exact G.t.ne N d ne c z y
  ·exact(G.t.sub _ (bT N) c z).2 y
 have L:=(de.1 O).1;have tr:iX (λc=>T c\/Tr A h h1 c) h' p (({g with SS:=g.SS.set i s',ST:=g.ST.set i (Tr A h h1)}:dM).Ls):=by
  have:=(G.t.put d H λc z=>z).grow (h':=h') ag;have e2:g.Ls.set (2+i) (Tr A h h1)=({g with SS:=g.SS.set i s',ST:=g.ST.set i (Tr A h h1)}:dM).Ls:=by
   unfold dM.Ls;rw[show 2+i=i+1+1 by omega]
   simp only[tP];rw[List.set_append_left _ _ L]
  rwa [e2]at this
 have V:∀c,Q c->¬(T c\/Tr A h h1 c)/\c<h'.size:=λc z=>⟨λy=>by
  have:=G.q c z;rcases y with y|y|y
  ·exact this.1 y
  ·exact r c z (.inl y)
  ·omega,by have:=(G.q c z).2;omega⟩
 refine hk h' (u.mono λc z _ y=>?_) ⟨⟨tr,V,J,bM.fr u r (λ_ z=>z) _ G.fs,by simp[G.ls],λj U B x l a m=>?_,G.aH.fr u (b 0 rfl ag) r,G.pt.fr u λc z _=>b 1 rfl ag c z,G.lk,λj M B w l a m=>?_⟩,?_,λc z=>?_⟩
 ·rcases z with z|z
  ·exact(C.e c y).2 (G.t.sub _ (bT d) c z).1
  ·exact(C.e c y).2 (z▸G.t.tb)
 ·rw[hX]at m;simp only at l a
  by_cases P:i=j
  ·subst P;rw[yC ag]at l;rw[yC L]at a;have Y:i<X.fm.length:=by show i<7;rw[<-G.ls.1];exact hi
   rw[yC Y]at m;cases l;cases a;cases m;exact o.fr D.fr λc z a' e=>by
    subst e;rcases z with z|z
    ·exact I z
    ·have:=G.t.lt c G.t.tb;omega
  ·rw[yB P]at l a m;exact(G.sl j U B x l a m).fr u λc z _=>b _ (g.iw a) ag c z
 ·have hl:({g with SS:=g.SS.set i s',ST:=g.ST.set i (Tr A h h1)}:dM).KT=g.KT:=rfl
  exact(KF M (bT l)).fr (G.aM j M B w l a m) u (b _ (g.fF a) ag) r
 ·refine C.x.trans ⟨u.mono λc z _=>?_,λ_ z=>z,λ_ z=>.inl z,λ_ z=>.inl z,λc z=>?_⟩
  ·rcases z with z|z
   ·exact(G.t.sub _ (bT d) c z).1
   ·exact z▸G.t.tb
  ·rcases z with z|z|z
   ·exact .inl z
   ·exact .inl (G.t.sub _ (bT d) c z).1
   omega
 ·have:=C.e c z;refine⟨ag,λy=>?_⟩
  rcases y with y|y|y
  ·exact this.2 y
  ·exact this.2 (G.t.sub _ (bT d) c y).1
  ·omega
end
end
end Go.Proofs.YtbahbhkogflhbaaGreatDoor
