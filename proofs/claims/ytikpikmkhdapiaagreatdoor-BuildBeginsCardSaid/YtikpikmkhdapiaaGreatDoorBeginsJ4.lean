import Derived.Test.YtikpikmkhdapiaaGreatDoorBeginsJ3
import Derived.Shelf.Strings.Repeat
set_option linter.unusedSimpArgs false
set_option linter.unusedVariables false
set_option maxRecDepth 100000
set_option maxHeartbeats 1000000
namespace Go.Proofs.YtikpikmkhdapiaaGreatDoor
open Go Go.Sh Go.WideShapes
theorem ajq {s t:Sl} {h:Hp} {K:Bool->HP} {Kp:PK} (H:Je s t h K Kp):bJ Tryz.prog (.func (.func PN) #[] #[]) [Sl.v s,Sl.v t] h (λr a=>∃t:Bool,r=.bool t/\K t a) Kp:=by
 unfold bJ;exact cast aF H
theorem ajC {x y k w z b2:Int} {s u S c b a:Sl} {h:Hp} {K:Bool->HP} {Kp:PK} (H:zZ x y k s u S w z b2 c b a h K Kp) :
  bJ Tryz.prog (.func (.func Jc) #[] #[]) [(.agg #[(.int .i64 x),(.int .i64 y),(.int .i64 k),(Sl.v s),(Sl.v u),(Sl.v S)]),(.agg #[(.int .i64 w),(.int .i64 z),(.int .i64 b2),(Sl.v c),(Sl.v b),(Sl.v a)])] h (λr d=>∃t:Bool,r=.bool t/\K t d) Kp:=by
 unfold bJ;exact cast aF H
theorem tJ {h:Hp} {s:Sl} {l:List UInt8} {K:ByteArray->Prop} (v:Sv h s (bv l)) (a:K (bs l)):nZ h s K:=⟨l,by have:=v.ES v.na;rw[Nat.mul_one] at this;exact this,a⟩
section
variable {D E D' E':Nat->Prop} {h:Hp} {s1 s2:Sl} {Kp:PK}
theorem ajT {f b2:List (List UInt8)} {K:Bool->HP} (p:cY D E h s1 f) (o:cY D' E' h s2 b2) (hl:f.length<=2 ^ 50) (k:∀b,(b=true↔f=b2)->K b h):C0 s1 s2 (.func (.func PN) #[] #[]) h K Kp:=by
 have w:=p.n;have C:=o.n;refine C0.of (aA (λc=>k false ?_) λc => ?_)
 ·have c:=ay c;exact ⟨λe=>(by cases e),λe=>by rw[e] at w;omega⟩
 have c:=ay c;refine GY.bB (λx s=>s=h/\∃i:Nat,x=i/\i<=f.length/\∀j,j < i->bQ f j=bQ b2 j) (λx _=>f.length - x.toNat) ⟨rfl,0,rfl,Nat.zero_le _,λj y=>by omega⟩ ?_
 rintro x s ⟨rfl,i,rfl,F,r⟩ N hN;refine aA (λg => ?_) λg=>k true ⟨λ_ => ?_,λ_=>rfl⟩
 ·have g:=ay g;refine p.ix rfl ag λa t B u=>⟨t,B,o.ix rfl ag λG v m l=>⟨v,m,ajq (Je.of (tJ u.1 (tJ l.1 ?_)))⟩⟩;rw[BS];refine aA (λd=>k false ⟨λe=>(by cases e),λe => ?_⟩) λd=>aP ag ag (hN _ _ ⟨rfl,i+1,by simp,by omega,λj y => ?_⟩ ag)
  ·have d:=ay d;rw[e] at d;exact absurd rfl d
  ·have d:=ay d
   by_cases q:j=i
   ·subst q;exact d
   ·exact r j ag
 ·have g:=ay g;apply List.ext_getElem
  ·omega
  ·intro j A z;have:=r j ag
   simpa[bQ,List.getD_eq_getElem?_getD,A,z] using this
mutual
def aJ.kD:aJ->Prop
 | .mk _ _ _ aH cs ds=>aH.length<=2 ^ 50/\(cs.length<=2 ^ 50/\ri cs)/\ds.length<=2 ^ 50/\ri ds
def ri:List aJ->Prop
 | []=>True
 | d::ds=>d.kD/\ri ds
end
theorem ri.get:∀{ds:List aJ},ri ds->∀d∈ds,d.kD
  | [],_,d,h=>by simp at h
  | x::b,a,d,h=>by
    rcases List.mem_cons.1 h with rfl | h
    · exact a.1
    · exact ri.get a.2 d h
def B4 (d:aJ):Prop:=∀{e:aJ} {D E D' E':Nat->Prop} {h:Hp} {p q:Sl × Sl × Sl} {K:Bool->HP} {Kp:PK},d.kD->c7 D E h p d->c7 D' E' h q e->(∀b h',ah h h'->(b=true↔d=e)->K b h') ->
 zZ d.len d.off d.aq p.1 p.2.1 p.2.2 e.len e.off e.aq q.1 q.2.1 q.2.2 h K Kp
theorem SY {cs f:List aJ} {K:Bool->HP} (X:∀c∈cs,B4 c) (R:ri cs) (A:bN D E h s1 cs) (z:bN D' E' h s2 f) (hl:cs.length<=2 ^ 50) (w:∀b m,ah h m->(b=true↔cs=f)->K b m):zH s1 s2 (.func (.func Jc) #[] #[]) h K Kp:=by
 have P:=A.n;have n2:=z.n;refine zH.of (aA (λc=>w false h (ah.refl _) ?_) λc => ?_)
 ·have c:=ay c;exact ⟨λe=>(by cases e),λe=>by rw[e] at P;omega⟩
 have c:=ay c;refine GW.bB (λx m=>ah h m/\∃i:Nat,x=i/\i<=cs.length/\∀j,j < i->cs[j]? = f[j]?) (λx _=>cs.length - x.toNat) ⟨ah.refl _,0,rfl,Nat.zero_le _,λj Q=>by omega⟩ ?_
 rintro x m ⟨G,i,rfl,hi,B⟩ N hN;refine aA (λo => ?_) λo=>w true m G ⟨λ_ => ?_,λ_=>rfl⟩
 ·have o:=ay o;have g:cs[i]? = some cs[i]:=List.getElem?_eq_getElem ag;have k:f[i]? = some f[i]:=List.getElem?_eq_getElem ag;have v:cs[i]∈cs:=List.getElem_mem ag;generalize cs[i]=d at g v;generalize f[i]=e at k;refine (A.gr G).ix rfl g λa p W vp=>bq.c W (az λa8 h1 e8 I r _=>bw.b r rfl λF O r => ?_);have s1:=I.1;have t:ah m F:=aM.aj I O ag;have s2:=t.1;refine ((z.gr G).gr t).ix rfl k λa' q y L=>bq.c y (az λa9 h3 e9 H u _=>bw.b u rfl λT M u => ?_);have Z:=H.1;have Y:=r.lt;have s:ah F T:=aM.aj H M ag;refine bq.b (r.aj s) (bq.b u (ajC (X d v (R.get d v) ((vp.gr t).gr s) (L.gr s) λb S U C => ?_)));have J:=ah.trans G (ah.trans (ah.trans t s) U);refine aA (λl=>w false S J ⟨λe=>(by cases e),λV => ?_⟩) λl=>aP ag ag (hN _ _ ⟨J,i+1,by simp,by omega,λj Q => ?_⟩ ag)
  ·have l:=ay l;rw[V,k] at g;have:=C.2 (by simpa using g.symm)
   rw[this] at l;cases l
  ·have l:=ay l
   by_cases q:j=i
   ·subst q;rw[g,k,C.1 l]
   ·exact B j ag
 ·have o:=ay o;apply List.ext_getElem?;intro j
  by_cases q:j < i
  ·exact B j q
  ·rw[List.getElem?_eq_none ag,List.getElem?_eq_none ag]
theorem abn {n y k:Int} {aH:List (List UInt8)} {cs ds:List aJ} (Y:∀c∈cs,B4 c) (X:∀c∈ds,B4 c):B4 (.mk n y k aH cs ds):=by
 intro e D E D' E' h p q K Kp z L J Q;obtain ⟨w,v,t,d,g,f⟩:=e;refine zZ.of (az λI h1 e1 W j _=>az λH h2 e2 R r _ => ?_);have G:=ah.trans W R;have j:=j.aj R;have M:∀a,ah h a->¬(aJ.mk n y k aH cs ds=aJ.mk w v t d g f)->K false a:=λa i q=>Q false a i ⟨λe=>(by cases e),λe=>absurd e q⟩
 have N:∀a,ah h a->¬(aJ.mk n y k aH cs ds=aJ.mk w v t d g f)->wm K Kp ⟨I,0,none⟩ ⟨H,0,none⟩ false a:=λa i q=>wm.of (aR rfl (M a i q));have O:∀a,ah h a->¬(aJ.mk n y k aH cs ds=aJ.mk w v t d g f)->wo K Kp ⟨I,0,none⟩ ⟨H,0,none⟩ false a:=λa i q=>wo.of (aR rfl (N a i q));have P:∀a,ah h a->¬(aJ.mk n y k aH cs ds=aJ.mk w v t d g f)->wq K Kp ⟨I,0,none⟩ ⟨H,0,none⟩ false a:=λa i q=>wq.of (aR rfl (O a i q));have S:∀a,ah h a->¬(aJ.mk n y k aH cs ds=aJ.mk w v t d g f)->wu K Kp ⟨I,0,none⟩ ⟨H,0,none⟩ false a:=λa i q=>wu.of (aR rfl (P a i q));refine an j rfl (an r rfl (aA (λc => ?_) λc=>S _ G ?_))
 ·have c:=ay c;simp only[aI,Nat.zero_add];refine an j rfl (an r rfl (wu.of (aA (λm => ?_) λm=>P _ G ?_)))
  ·have m:=ay m;simp only[aI,Nat.zero_add];refine an j rfl (an r rfl (wq.of (aA (λl => ?_) λl=>O _ G ?_)))
   ·have l:=ay l;simp only[aI,Nat.zero_add];refine an j rfl (an r rfl (ajT (L.b.gr G) (J.b.gr G) z.1 λb B=>wo.of (aA (λF => ?_) λF=>N _ G ?_)))
    ·simp only[aI,Nat.zero_add];have B:=B.1 F;refine an j rfl (an r rfl (SY Y z.2.1.2 (L.c.gr G) (J.c.gr G) z.2.1.1 λb Z s A=>wm.of (aA (λC => ?_) λC=>M _ (ah.trans G s) ?_)))
     ·have A:=A.1 C;simp only[aI,Nat.zero_add];refine an (j.aj s) rfl (an (r.aj s) rfl (SY X z.2.2.2 ((L.x.gr G).gr s) ((J.x.gr G).gr s) z.2.2.1 λb U V T=>Q b U (ah.trans (ah.trans G s) V) ?_));rw[T];simp only[aJ.aH] at B;simp only[aJ.cs,aJ.ds] at A ⊢;simp only[aJ.len,aJ.off,aJ.aq] at c m l;constructor
      ·intro e;rw[c,m,l,B,A,e]
      ·intro e;cases e;rfl
     ·intro e;cases e;rw[A.2 rfl] at C;cases C
    ·intro e;cases e;rw[B.2 rfl] at F;cases F
   ·intro e;have l:=ay l;cases e;exact absurd rfl l
  ·intro e;have m:=ay m;cases e;exact absurd rfl m
 ·intro e;have c:=ay c;cases e;exact absurd rfl c
theorem K5:∀d:aJ,B4 d
 | .mk n o u aH cs ds=>abn (λc _=>K5 c) λc _=>K5 c
end
section
variable {f:ai} {M:bD} {d:aJ} {D:Nat->Prop} {h:Hp} {s:Sl} {p:Sl × Sl × Sl} {Kp:PK}
theorem w9 {K:Int->Int->Int->Sl->Sl->Sl->HP} {g:Hp} {n m:Nat} {Z z:Array Value} {e l:TypeId} {x y k:Int} {t u S:Sl} (o:aB g n Z e) (O:Z.size=6) (r:aB g m z l) (P:z.size=6) (ne:m≠n)
  (N:∀w,Tn (λc=>c=n\/c=m) g w->K x y k t u S w) :
  bw g ⟨n,0,none⟩ x y k t u S λi=>bq i ⟨n,0,none⟩ λF E C B l A=>bw i ⟨m,0,none⟩ F E C B l A λa=>bq a ⟨m,0,none⟩ λr0 L J I H G=>K r0 L J I H G a :=
 bw.b o O λi j o=>bq.b o (bw.b (j.aK r ne) P λa v r=>bq.b r (N a ((j.fr.mono λc q _=>.inl q).trans (v.fr.mono λc q _=>.inr q))))
def Px (f:ai) (d:aJ) (D:Nat->Prop) (h:Hp) (s:Sl) (p:Sl × Sl × Sl):Prop:=∀{h1:Hp} {K:Option Addr->Int->Sl->Int->HP} {Kp:PK},ah h h1 ->
 (∀b s' q' h',ah h1 h'->h1.size<=b->jD (λx=>(D x/\x < h1.size)\/h1.size<=x) h' b f d d.off d.len s' q'->K (some ⟨b,0,none⟩) 0 Sl.nil 0 h')->DT f.name f.aq f.k f.w f.id f.ix s d.len d.off d.aq p.1 p.2.1 p.2.2 h1 K Kp
theorem al9 {K:Int->Int->Int->Sl->Sl->Sl->Int->HP} (C:MC f M) (MD:qj f M) (PF:fo f) (FC:iN f) (W:bp f) (U:f.fy) (ht:kJ h) (hu:fW h) (hs:bM h s f.cs) (OP:Px f d D h s p) (ow:vT f) (ar:f.arr d) {l:List ak} (el:l=fV f d d.off.toNat d.len.toNat) (hr:ku l)
  (f':∀q g,ah h g->f.can l->Good f l l.length->c7 (Nw h) (Nw h) g q (f.dn (f.st l))->K (f.dn (f.st l)).len (f.dn (f.st l)).off (f.dn (f.st l)).aq q.1 q.2.1 q.2.2 0 g)
  (e':∀(i:Nat) x g,ah h g->Good f l i->l[i]? = some x->gm f (l.take i) x≠0->K 0 0 0 ⟨none,0,0⟩ ⟨none,0,0⟩ ⟨none,0,0⟩ (gm f (l.take i) x) g) :
  Dj f.name f.aq f.k f.w f.id f.ix s d.len d.off d.aq p.1 p.2.1 p.2.2 h K Kp:=by
 refine Dj.of (az λa2 h1 e1 g1 m _=>az λa3 h2 e2 g2 k3 _=>az λa4 h3 e3 T B _=>aN.b ((m.aj g2).aj T) ?_);have s1:=g1.1;have s2:=g2.1;have s3:=T.1;have l':=B.lt;have G:=ah.trans g1 (ah.trans g2 T);have m:=(m.aj g2).aj T;have k3:=k3.aj T;refine Ln (f:=f) (ht.k.aj G) U (hs.gr G) λb h4 S hb => ?_;obtain rfl:b=true:=hb.2 W;have s4:=S.1;refine aR rfl (aN.b (m.aj S) (bq.b (k3.aj S) (OP (ah.trans G S) λbA s' q' h5 g5 lb A=>az λa7 h6 e6 g6 k7 _=>bX.b k7 rfl λZ o7 k7=>an k7 rfl (aR rfl ?_))));have s5:=g5.1;have s6:=g6.1;have P:ah h5 Z:=aM.aj g6 o7 ag;have s7:=P.1;have Q:ah h3 Z:=ah.trans S (ah.trans g5 P);have G7:=ah.trans G Q;have m:=m.aj Q;have B:=B.aj Q;have V:=Av.whole (A.gr P) ar;have hl:l.length<=9223372036854775807:=by rw[el,GH];have:=V.bd;omega
 -- i' is j' of k' a'
 have of:∀{o:Hp} {t:Sl} {K':Int->Int->Int->Sl->Sl->Sl->Int->Int->HP} (E:ah h o) (H:au (Nw Z) o t l) (c1:∀q g,ah o g->f.can l->Good f l l.length->c7 (Nw o) (Nw o) g q (f.dn (f.st l))->K' (f.dn (f.st l)).len (f.dn (f.st l)).off (f.dn (f.st l)).aq q.1 q.2.1 q.2.2 0 0 g)
   (c2:∀(i:Nat) x g,ah o g->Good f l i->l[i]? = some x->gm f (l.take i) x≠0->K' 0 0 0 ⟨none,0,0⟩ ⟨none,0,0⟩ ⟨none,0,0⟩ (gm f (l.take i) x) (i:Int) g),lW f.name f.aq f.k f.w f.id f.ix s t o K' Kp :=
  λE H c1 c2=>yE C MD PF FC W U hr hl (ht.k.aj E) (hu.aj E) (hs.gr E) H c1 c2
 have f1:∀{j:Hp} {q:Sl × Sl × Sl} {R Y v:Nat},ah h j->c7 (λc=>R<=c/\c < Y) (λc=>R<=c/\c < Y) j q (f.dn (f.st l))->h3.size<=R->h3.size<=v->(v < R\/Y<=v)->f.can l->Good f l l.length->∀g,Tn (λc=>c=v\/c=a4) j g->K (f.dn (f.st l)).len (f.dn (f.st l)).off (f.dn (f.st l)).aq q.1 q.2.1 q.2.2 0 g:=by
  intro j q R Y v N I b1 b2 b3 L n g X;exact f' q g (((Tn.aT N:Tn No h j).trans' X λc q d'=>by omega).aj) L n (I.fr X (λc q _ z=>by omega) (λc q _ z=>by omega) (λc q=>by show h.size<=c;omega) λc q=>by show h.size<=c;omega)
 have f2:∀{j:Hp} {v:Nat} {i:Nat} {x:ak},ah h j->h3.size<=v->Good f l i->l[i]? = some x->gm f (l.take i) x≠0->∀g,Tn (λc=>c=v\/c=a4) j g->K 0 0 0 ⟨none,0,0⟩ ⟨none,0,0⟩ ⟨none,0,0⟩ (gm f (l.take i) x) g :=
  λN b2 n J r g X=>e' _ _ g (((Tn.aT N:Tn No h _).trans' X λc q d'=>by omega).aj) n J r
 have O:∀{o j:Hp} {q:Sl × Sl × Sl},c7 (Nw o) (Nw o) j q (f.dn (f.st l))->c7 (λc=>o.size<=c/\c < j.size) (λc=>o.size<=c/\c < j.size) j q (f.dn (f.st l)):=λI=>I.lt;refine aN.b m ⟨WL ow V (hu.aj G7) λt o u H=>bK m u ?_,az λv o e8 u y _=>bK m u (WL ow (V.gr u) (hu.aj (ah.trans G7 u)) λt j e H=>bK (m.aj u) e ?_)⟩
 ·rw[<-el] at H;have E:=ah.trans G7 u;have m:=m.aj u;have B:=B.aj u;have s8:=u.1;refine ⟨of E H (λq j e L n I=>az λv F g' a y _=>bK (m.aj e) a ?_) (λi x j e n J r=>az λv F g' a y _=>bK (m.aj e) a ?_),az λv j e9 e y _=>bK m e ?_⟩
  ·have s9:=e.1;have b':=a.1;exact w9 y rfl ((B.aj e).aj a) rfl ag (f1 (ah.trans (ah.trans E e) a) ((O I).gr a) ag ag (.inr ag) L n)
  ·have s9:=e.1;have b':=a.1;exact w9 y rfl ((B.aj e).aj a) rfl ag (f2 (ah.trans (ah.trans E e) a) ag n J r)
  ·have s9:=e.1;have c':=y.lt;refine of (ah.trans E e) (au.gr H e) (λq F a L n I => ?_) λi x F a n J r => ?_
   ·exact w9 (y.aj a) rfl ((B.aj e).aj a) rfl ag (f1 (ah.trans (ah.trans E e) a) (O I) ag ag (.inl ag) L n)
   ·exact w9 (y.aj a) rfl ((B.aj e).aj a) rfl ag (f2 (ah.trans (ah.trans E e) a) ag n J r)
 ·rw[<-el] at H;have s8:=u.1;have s9:=e.1;have c':=y.lt;have N:=ah.trans (ah.trans G7 u) e;refine of N (au.mo H λc (q:o.size<=c)=>by show Z.size<=c;omega) (λq F a L n I => ?_) λi x F a n J r => ?_
  ·exact w9 ((y.aj e).aj a) rfl (((B.aj u).aj e).aj a) rfl ag (f1 (ah.trans N a) (O I) ag ag (.inl ag) L n)
  ·exact w9 ((y.aj e).aj a) rfl (((B.aj u).aj e).aj a) rfl ag (f2 (ah.trans N a) ag n J r)
theorem alq {K:Bool->HP} (C:MC f M) (MD:qj f M) (PF:fo f) (FC:iN f) (B:bp f) (A:f.fy) (Q:kJ h) (P:fW h) (R:bM h s f.cs) (v0:c7 D D h p d) (OP:Px f d D h s p) (N:vT f) (Y:f.arr d) {l:List ak} (el:l=fV f d d.off.toNat d.len.toNat) (T:ku l) (n:(f.dn (f.st l)).kD)
  (F:∀b I,ah h I->(b=true↔Good f l l.length/\f.dn (f.st l)=d)->K b I):Di f.name f.aq f.k f.w f.id f.ix s d.len d.off d.aq p.1 p.2.1 p.2.2 h K Kp:=by
 refine Di.of (az λa2 h1 e1 J O _=>az λa3 h2 e2 z u _=>aN.b (O.aj z) (bq.b u ?_));have s1:=J.1;have s2:=z.1;have a':=u.lt;have G:=ah.trans J z;refine al9 (D:=D) C MD PF FC B A (Q.aj G) (P.aj G) (R.gr G) (λg=>OP (ah.trans G g)) N Y el T (λq v j hc H D3=>az λZ V X y c _=>bw.b c rfl λo t c=>bx rfl (bq.b c ?_)) λi x v j H E m=>az λZ V X y c _=>bw.b c rfl λo t c=>aR (by simpa using m) ?_
 ·have L:=j.1;have r:ah v o:=aM.aj y t ag;have a:=ah.trans j r;refine bq.b (u.aj a) (K5 _ n (D3.gr r) ((v0.gr G).gr a) λb U W S=>F b U (ah.trans (ah.trans G a) W) ?_);rw[S];exact ⟨λq=>⟨H,q⟩,λq=>q.2⟩
 ·have L:=j.1;have r:ah v o:=aM.aj y t ag;exact F false o (ah.trans G (ah.trans j r)) ⟨λe=>(by cases e),λq=>absurd (q.1 i x (List.getElem?_eq_some_iff.1 E).1 E) m⟩
end
def fA:ai:=.mk (bs [97]) true 4 0 0 0 []
def dA:aJ:=.mk 2 0 1 [[1],[254,255,0,0]] [] []
section
variable {h:Hp} {s wi:Sl} {p:Sl × Sl × Sl} {Kp:PK}
theorem YH {G:ByteArray} {aq:Bool} {w id ix:Int} {K:Sl->HP} (v:ug h p dA) (H:∀t d,ah h d->Nv d t [16,16]->K t d):DP G aq 4 w id ix s 2 0 1 p.1 p.2.1 p.2.2 wi h K Kp:=by
 refine DP.of (az λQ Y e1 N l _=>az λP I e2 u j _ => ?_);simp only[aI];refine dH.c (KG (l.aj u)) (az λO X Z M m _=>jz.b m rfl λq F m => ?_);have r:ah I q:=aM.aj M F ag;have l:=(l.aj u).aj r;have j:=j.aj r;have E:=ah.trans (ah.trans N u) r;refine an j rfl (Pz ag ag ag λt W L A S => ?_);have tn:t.n=2:=A.2.1;rw[tn];refine HZ.bB (λy a d=>∃i:Nat,y=0/\a=i/\i<=2/\Ws q d q.size t 2 (List.replicate i (.int .i64 16)++List.replicate (2 - i) (.int .i64 0))) (λ_ a _=>2 - a.toNat) ⟨0,rfl,rfl,by omega,L,A,rfl,Nat.le_refl _⟩ ?_
 rintro y a V ⟨i,rfl,rfl,C,k⟩ R hN;refine aA (λc => ?_) λc => ?_
 ·have c:=ay c;have C:i < 2:=ag;have e:(List.replicate i (Value.int .i64 16)++List.replicate (2 - i) (Value.int .i64 0)).set i (.int .i64 16)=List.replicate (i+1) (.int .i64 16)++List.replicate (2 - (i+1)) (Value.int .i64 0):=by
   rcases i with _ | _ | i
   ·rfl
   ·rfl
   ·omega
  refine an (j.aj k.g) rfl (aP ag ag (k.st rfl C λU f=>aN.b (l.aj f.g) (bq.b (j.aj f.g) ?_)));rw[e] at f;rw[show (0:Int)+(i:Int)=((i:Nat):Int) by omega]
  refine Sw ((v.gr E).b.gr f.g) (λ_=>by decide) ag λD J => ?_
  have z:=f.aj J;have B:Wr .i64 ((i:Int)+1) λx=>R (A8 wi ⟨Q,0,none⟩ ⟨P,0,none⟩ ⟨O,0,none⟩ t 2 0 x) D:=aP ag ag (hN _ _ _ ⟨i+1,rfl,by omega,by omega,z⟩ ag)
  refine aA (λ_=>B) λ_=>an (m.aj z.g) rfl (aR rfl (aR rfl (CN.of (aR rfl (aR rfl (aR rfl (aR rfl (aR rfl (aR rfl (aR rfl (qs.of (JQ.of (bx rfl (HY.bB (λx d=>x=0/\d=D) (λ_ _=>0) ⟨rfl,rfl⟩ ?_))))))))))))));rintro x T ⟨rfl,rfl⟩ N2 _;exact aR rfl B
 ·have c:=ay c;obtain rfl:i=2:=ag;exact H _ _ (ah.trans E k.g) k.o.sv
theorem abN {g:ByteArray} {aq:Bool} {w id ix x y k:Int} {t u S:Sl} {K:Int->Sl->Int->HP} (m:∀c,ah h c->K 0 Sl.nil 0 c):DQ g aq 4 w id ix s x y k t u S h K Kp:=by
 refine DQ.of (az λb2 A e1 e l _=>az λE z C a q _=>az λD v B d j _ => ?_);simp only[aI];have o:=e.1;have n:=a.1;exact an ((l.aj a).aj d) rfl (aR rfl (aR rfl (zi.of (aR rfl (aR rfl (aR rfl (bX.b j rfl λr f i=>cv.b i (m _ (aM.aj (ah.trans e (ah.trans a d)) f ag)))))))))
theorem aji {K:Int->Sl->Int->Sl->HP} (ht:kJ h) (hs:bM h s []) (v:ug h p dA) (ar:fA.arr dA) (hk:∀t a,ah h a->K 0 Sl.nil 0 t a):uf (bs [97]) true 4 0 0 0 s 2 0 1 p.1 p.2.1 p.2.2 h K Kp:=by
 refine uf.of (az λb2 h1 e1 T o _=>az λb3 h2 e2 E k _=>az λF hA e3 D u _ => ?_);have q:=ah.trans T (ah.trans E D);have s1:=T.1;have s2:=E.1;have M:h.size<=F:=ag;have o:=(o.aj E).aj D;have k:=k.aj D;have look:∀{a:Hp} {e m:Int} {l:Sl} {J:HP},ah hA a->e=0->(∀y,ah a y->J y) ->
   aD a iy ie λG Q=>bX Q G e l m λj=>Ld j G mI λI=>If (I != 0) (cv j G λW V U=>bX j ⟨F,0,none⟩ W V U λC=>cv C ⟨F,0,none⟩ λr0 Y X=>K r0 Y X (⟨none,0,0⟩:Sl) C) (J j):=by
  rintro a e m l J g rfl hJ;exact az λb6 Q e6 g5 B _=>bX.b B rfl λj Z B=>an B rfl (aR rfl (hJ j (aM.aj g5 Z ag)))
 refine aN.b o (bq.b k (aaS (d:=dA) (cs:=[]) (ht.aj q) aL trivial (hs.gr q) (v.gr q) λe t m h4 S et he=>look S (he.2 ar.xh) λj g6 => ?_));have A:=ah.trans S g6;refine I9.of (aN.b (o.aj A) (bq.b (k.aj A) (abN λC R=>look (ah.trans A R) rfl λh8 g8 => ?_)));have H:=ah.trans A (ah.trans R g8);refine I8.of (bq.b (k.aj H) (acz (d:=dA) (v.gr (ah.trans q H)) λL h9 g9 ds => ?_));have r:=ah.trans H g9;have n0:L.n=0:=ds.n.1;rw[n0];refine Ic.bB (λO w a=>O=Sl.nil/\w=0/\a=h9) (λ_ _ _=>0) ⟨rfl,rfl,rfl⟩ ?_;rintro O w b' ⟨rfl,rfl,rfl⟩ N1 _;refine aR rfl (I7.of ?_);simp only[aI];refine an (o.aj r) rfl (aR rfl (CS.of (aN.b (o.aj r) (bq.b (k.aj r) (YH (v.gr (ah.trans q r)) λt N z P => ?_)))));have tn:t.n=2:=P.1;rw[tn];refine Ie.bB (λx f a=>∃i:Nat,x=16*i/\f=i/\i<=2/\a=N) (λ_ f _=>2 - f.toNat) ⟨0,rfl,rfl,by omega,rfl⟩ ?_
 rintro x f a' ⟨i,rfl,rfl,hi,rfl⟩ N1 hN;have u:=u.aj (ah.trans r z);refine aA (λc => ?_) λc=>aR (by simp only[sm,reduceCtorEq] at c ⊢;omega) (bX.b u rfl λa o' u=>cv.b u (hk _ _ (aM.aj (ah.trans (ah.trans q r) z) o' M)))
 have c:=ay c;have hg:([16,16]:List Nat)[i]? = some 16:=by
  rcases i with _ | _ | i
  ·rfl
  ·rfl
  ·omega
 rw[<-tn];refine P.ld rfl hg (aP ag ag (aP ag ag ?_));rw[tn];exact hN _ _ _ ⟨i+1,by omega,by omega,by omega,rfl⟩ ag
theorem aec {K:Int->Sl->Int->HP} (ok:bp fA) (q:fA.fy) (u:kJ h) (w:bM h s []) (v:ug h p dA) (D:fA.arr dA) (B:∀x,ah h x->K 0 Sl.nil 0 x):CZ (bs [97]) true 4 0 0 0 s 2 0 1 p.1 p.2.1 p.2.2 h K Kp:=by
 refine CZ.of (az λb2 S e1 z f _=>az λY R V o i _=>az λX Q U n a _ => ?_);have G:=ah.trans z (ah.trans o n);have f:=(f.aj o).aj n;have i:=i.aj n;have J:=z.1;have I:=o.1;have E:=a.lt;refine aN.b f (Gg (cs:=[]) (u.k.aj G) q (w.gr G) λe l m P c C => ?_);obtain rfl:e=0:=C.2 ok;have d:=ah.trans G c;refine aR rfl (aN.b (f.aj c) (bq.b (i.aj c) (aji (u.aj d) (w.gr d) (v.gr d) D λt O j=>az λW N T y g _=>bX.b g rfl λM r g=>cv.b g ?_)));have H:=c.1;have F:=j.1;have a:=r.aK (((a.aj c).aj j).aj y) ag;exact bX.b a rfl λL A a=>cv.b a (B _ (aM.aj (aM.aj (ah.trans (ah.trans d j) y) r (by have:=d.1;omega)) A ag))
theorem ag6 {g:ByteArray} {aq:Bool} {k w id ix:Int} {K:ByteArray->Bool->Int->Int->Int->Int->Sl->HP} (m:∀i,ah h i->K g aq k w id ix Sl.nil i):zG g aq k w id ix Sl.nil h K Kp:=by
 refine zG.of (az λy u e1 j a _=>az λb2 t v d c _ => ?_);simp only[aI];have q:=j.1;have o:=a.lt;refine an (x:=Sl.nil) (a.aj d) rfl (JO.of (bx rfl (cE (a.aj d) aS rfl λn e a=>an (x:=Sl.nil) a rfl ?_)));have c:=e.aK c ag;refine GV.bB (λx f=>f=n/\x=0) (λ_ _=>0) ⟨rfl,rfl⟩ ?_;rintro x f ⟨rfl,rfl⟩ z _;exact aR rfl (aN.b (t6:=Sl.nil) a (dW.b c rfl λr l c=>aN.b c (m _ (aM.aj (aM.aj (ah.trans j d) e ag) l ag))))
theorem U7 {l:Sl} {K:Sl->HP} (d:l.n=0) (e:K Sl.nil h):Ai l h K Kp:=by
 refine Ai.of ?_;rw[d];refine Ib.bB (λb a c=>b=Sl.nil/\a=0/\c=h) (λ_ _ _=>0) ⟨rfl,rfl,rfl⟩ ?_;rintro b a c ⟨rfl,rfl,rfl⟩ f _;exact aR rfl e
theorem aiX {D E:Nat->Prop} {n0:Nat} {K:K6} (v:c7 D E h p dA) (B:∀b,E b->b < n0) (J:n0<=h.size) (A:∀g o,ah h o->c7 (Nw h) E o g dA->K 2 0 1 g.1 g.2.1 g.2.2 o):zF 2 0 1 p.1 p.2.1 p.2.2 h K Kp:=by
 refine zF.of (az λG Q e1 w a _=>az λb2 u R i d _ => ?_);simp only[aI];have y:=ah.trans w i;have I:=a.lt;have M:=w.1;have L:=i.1;have H:=d.lt;refine an (a.aj i) rfl (ajf y v.b aL λz F r vb=>cE ((a.aj i).aj r) aS rfl λP l a=>an a rfl (U7 v.c.n.1 (cE a aS rfl λO k a=>an a rfl (U7 v.x.n.1 (cE a aS rfl λN j a=>bq.b (t4:=Sl.nil) (t5:=Sl.nil) a (bw.b (j.aK (k.aK (l.aK (d.aj r) ag) ag) ag) rfl λC t d=>bq.b d (A (z,Sl.nil,Sl.nil) _ (aM.aj (aM.aj (aM.aj (aM.aj (ah.trans y r) l ag) k ag) j ag) t ag) ?_)))))));have f:Tn (λc=>c=G\/c=b2) F C:=(((l.fr.mono λ_ q _=>.inl q).trans (k.fr.mono λ_ q _=>.inl q)).trans (j.fr.mono λ_ q _=>.inl q)).trans (t.fr.mono λ_ q _=>.inr q);exact ⟨vb.fr f (λb (m:u.size<=b) _ e=>by omega) (λb m _ e=>by have:=B b m;omega) (λb (m:u.size<=b)=>by show h.size<=b;omega) λ_ q=>q,bN.nil _,bN.nil _⟩
theorem acX {D:Nat->Prop} (ok:bp fA) (w:fA.fy) (I:kJ h) (v0:c7 D D h p dA) (R:fA.arr dA):Px fA dA D h Sl.nil p:=by
 have J:∀{h:Hp},bM h Sl.nil []:=λ{h}=>by unfold bM;exact ⟨rfl,Nat.le_refl _⟩
 intro n K Kp F L;have v0:=v0.gr F;have v:ug n p dA:=v0.mo (λ_ _=>trivial) λ_ _=>trivial;refine DT.of (az λb2 h1 e1 E j _=>az λb3 h2 e2 u c _=>az λQ O e3 t i _ => ?_);have G:=ah.trans E (ah.trans u t);have j:=(j.aj u).aj t;have c:=c.aj t;have s1:=E.1;have Z:=u.1;have T:=i.lt;refine aN.b j (bq.b c (aec ok w (I.aj (ah.trans F G)) J (v.gr G) R λh4 r=>az λb6 h5 e6 C q _=>bX.b q rfl λN y q=>an q rfl (aR rfl ?_)));have Y:=r.1;have i:=y.aK ((i.aj r).aj C) ag;have a:ah O N:=aM.aj (ah.trans r C) y ag;have o:=ah.trans G a;have j:=j.aj a;have c:=c.aj a;refine I3.of (aN.b j (bq.b c (ag6 λM k=>bK c k ?_)));have S:=a.1;have W:=k.1;refine aiX (v0.lt.gr (ah.trans o k)) (n0:=n.size) (λb z=>z.2) ((ah.trans o k).1) λp' h8 B H => ?_;have X:=o.1;have V:=B.1;refine acV (f:=fA) (d:=dA) (D:=λx=>x≠Q/\((D x/\x < n.size)\/n.size<=x)) (s:=Sl.nil) (by show bz _ _ _ [];unfold bz;exact ⟨rfl,Nat.le_refl _⟩) (H.mo (λx (g:M.size<=x)=>⟨by omega, .inr ag⟩) λx g=>⟨by have:=g.2;omega, .inl g⟩) λb' h9 P z A => ?_
 have m:=ah.trans (ah.trans k B) P;exact bX.b (i.aj m) rfl λU l i=>cv.b i (L _ _ _ _ (aM.aj (ah.trans o m) l ag) ag (A.fr l.fr (λe=>by omega) (λx g e=>g.1 e) λ_ g=>g.2))
end
theorem abW {f:ai} (j:f.k≠12/\f.k≠13/\f.k≠15/\f.k≠16/\f.k≠17/\f.k≠18/\f.k≠19/\f.k≠20) {D:Nat->Prop} {h:Hp} {b bl i:Nat} {d:aJ} {o n r L:Int} {s:Sl} {q:Sl × Sl × Sl} {K:KV} {p:PK} (V:Vc D h b bl f d o n s q L i) (l:r=i) (c:fR f.k d.aH i=false) (m:VK h bl L (f.val d i) K) :
    cL Tryz.prog (rm f.k) "colonnade/array.read" [.pointer (some ⟨b,0,none⟩), .int .i64 r, .pointer (some ⟨bl,0,none⟩)] h (KI K) p:=by
  have e:rm f.k=.iface BY (.agg #[]):=by unfold rm;simp[j]
  rw[e];exact ajh (agN V l j c m)
theorem YS {f:ai} (y:f.k≠12/\f.k≠13/\f.k≠15/\f.k≠16/\f.k≠17/\f.k≠18/\f.k≠19/\f.k≠20):WN f:=by
 intro D h b bl i d o n r L s q K N V w l;have e:=V.kl.lt;refine DN.of (az λM J e1 m j _=>adq (V.A.gr m) V.ar V.lo V.hi w λC g=>aA (λc => ?_) λc => ?_)
 all_goals have G:=ah.trans m g
 all_goals have H:=m.1
 all_goals have F:=g.1
 all_goals have E:=j.lt
 ·have z:f.val d i=v0:=by rw[El,kV,if_pos c]
  have p:=V.wl;rw[z] at l p;exact Kz (V.kl.aj G) ag p V.lm λB v a=>l.fin ((Tn.aT G).trans v.fr) a (v.aK (j.aj g) ag) rfl ag e (au.nil _)
 ·simp only[kO,aI];refine an (V.A.gr G).k rfl (abW y (V.gr G) w c ?_);intro t B u a x;exact l.fin ((Tn.aT G).trans u) a (u.aK (j.aj g) ag) rfl ag e (x.mo λc (I:C.size<=c)=>⟨by omega,by omega⟩)
theorem acP:vT fA:=acQ (YS aL)
section
variable {f c:ai} {KM:List bD} {M:bD} {T A:Nat->Prop} {h h':Hp} {r:Raw} {g:bI} {w:Value}
theorem bh.uR {i b:Nat} {s:Sl} {K:Sl->Prop} (G:bh f KM T h r none g) (a:∀(j:Nat) M,KM[j]? = some M->dD M) (gr:ah h h') (k:g.b=b) (d:g.SS[i]? = some s) (e:K s):Ld h' ⟨b,16+i,none⟩ Sl.v K :=
 (G.fr (S:=No) a (Tn.aT gr) λ_ _ _=>id).dL k d e
theorem xg {x y:List Value × TypeId} {g:bI} {l:List (List Value × TypeId)} (h:g.SS.length=l.length/\g.ST.length=l.length) (e:l=[x,y]):∃j d,g.SS=[j,d]:=by
 rw[e] at h
 match i:g.SS,h.1 with
 | [a,b],_=>exact ⟨a,b,rfl⟩
theorem mO {x:List Value × TypeId} {g:bI} {l:List (List Value × TypeId)} (h:g.SS.length=l.length/\g.ST.length=l.length) (e:l=[x]):∃b,g.SS=[b]:=by
 rw[e] at h
 match d:g.SS,h.1 with
 | [a],_=>exact ⟨a,rfl⟩
theorem KX {g:bI} {l:List (List Value × TypeId)} (h:g.SS.length=l.length/\g.ST.length=l.length) (e:l=[]):g.SS=[]:=by
 rw[e] at h;exact List.length_eq_zero_iff.1 h.1
theorem bh.SQ {N:List Nat} {cs:List (Array Value)} {v KF:Value} {n m d u2:Nat} {K:Value->HP} (G:bh f [] T h r none g) (Q:nQ h h' N cs (eD f g.b g.sf g.sn g.sb r.b) Cb v KF n m d u2) (o:f.cs=[]) (l:f.k≠1/\f.k≠15/\f.k≠16/\f.k≠17/\f.k≠18/\f.k≠19/\f.k≠20) (e:cz f.k r.b r.b)
  (p:∀F,fF f.k g.b v KF (.mk F r g.sb [] [])=cs) (s:∀a h',ah h h'->one a.F=true->a.F.cells=#[a.F]->a.r=r->bE f [] (Tr T h h') h' (.iface (aU f.k) (.pointer (some ⟨g.b,0,none⟩))) r (some a)->K a.F h'):K (.func (.func (dG f.k)) #[] (N.map pA).toArray) h' :=
 s _ h' Q.g rfl rfl rfl (G.MP (lo:=λ_=>0) (hi:=λ_=>0) (jn:=[]) (sp:=[]) lV Q (λj t=>by simp at t) (λi j hi=>by simp at hi) (λj M A w q=>by simp at q) rfl (by rw[o];rfl) l.1 (λq=>by omega) (λq=>by omega) e (λq=>by omega) (p _))
theorem adX (a:f.k=1) (l:f.cs=[]):qi f (bE f []):=by
 intro T h v vs K s u H m;obtain ⟨g,rfl,G⟩:=H;have p:aU f.k=jW:=by unfold aU;rw[if_pos a]
 have q:gE (.iface jW (.pointer (some ⟨g.b,0,none⟩))) h K s:=by
  refine aij (JJ.of ?_);simp only[kO];refine eD.call G.B (ah.refl _) λF h' gr vb => ?_;have t:=gr.1;have d:=G.fr (S:=No) lV (Tn.aT gr) λ_ _ _=>id;refine m (.mk F (f.st vs) g.sb [] []) h' gr vb.1.1 vb.1.2 rfl ⟨g.mk' 0 h h' (λ_=>0) (λ_=>0),rfl,G.marked (mm:=.mk F (f.st vs) g.sb [] []) lV gr (λj e=>by simp at e) (λi j n=>by simp at n) (λj M A w q=>by simp at q) ⟨⟨F,F,⟨vb.2.mono λc q=>.inr ⟨q.1,q.2,λj e=>by simp at e⟩,Old.of d.B.o,d.B.len,d.B.nl,d.B.rl⟩,λq=>by omega,λq=>by omega,λ_=>rfl,λq=>absurd a q⟩,?_,⟨?_,by rw[l];rfl⟩,λq=>by omega⟩⟩
  ·unfold cz;rw[if_neg ag,if_neg ag,if_neg ag,if_neg ag,if_pos ag];trivial
  ·have:=G.lk.2.2;exact List.length_eq_zero_iff.1 this
 rw[<-p] at q;exact q
theorem adS (a:f.k=12\/f.k=13) (p:f.cs=[]):qi f (bE f []):=by
 intro T h v vs K E N H y;obtain ⟨g,rfl,G⟩:=H;have C:aU f.k=jV:=by unfold aU;rw[if_neg ag,if_pos a]
 have D:dG f.k=zC:=by unfold dG;rw[if_pos a]
 have o:∀e:Rb,bC f.k e=[(ints e.ends,Y6),(bv e.all,Y8)]:=λe=>by unfold bC;rw[if_pos a]
 obtain ⟨l,j,d⟩:=xg G.ls (o _);have x:l.n=(f.st vs).b.ends.length:=by have:=G.kq (i:=0) (s:=l) (by simp[d]) (by rw[o];rfl);rw[this,ints,List.length_map]
 have u:j.n=(f.st vs).b.all.length:=by have:=G.kq (i:=1) (s:=j) (by simp[d]) (by rw[o];rfl);rw[this,eL]
 have q:gE (.iface jV (.pointer (some ⟨g.b,0,none⟩))) h K E:=by
  refine aid (JF.mk (cu:=l) (uH:=j) (λgr m=>G.uR (i:=0) lV gr rfl (by simp[d]) m) (λgr m=>G.uR (i:=1) lV gr rfl (by simp[d]) m) eD.gZ eD.one (λgr z=>eD.call G.B gr z) λt O KF L I J u2 h' Q => ?_)
  have:=G.SQ Q p ag (by unfold cz;rw[if_pos a];exact ⟨List.prefix_refl _,List.prefix_refl _⟩) (λF => ?_) y
  ·rw[D] at this;exact this
  ·unfold fF;simp only;rw[if_pos a,x,u];rfl
 rw[<-C] at q;exact q
theorem adW (x:dU f.k=true) (u:f.cs=[]):qi f (bE f []):=by
 intro T h v vs K O X H I;obtain ⟨g,rfl,G⟩:=H;obtain ⟨D,R,P,j,m,l,a,e,d⟩:=sH x;have L:aU f.k=kF:=by unfold aU;rw[if_neg D,if_neg ag,if_neg j,if_neg m,if_neg l,if_neg a,if_neg e,if_neg d]
 have N:dG f.k=zp:=by unfold dG;rw[if_neg ag,if_neg j,if_neg m,if_neg l,if_neg a,if_neg e,if_neg d]
 have y:∀p:Rb,bC f.k p=[(gF p.cm,kI),(strs p.texts,lS)]:=λp=>by unfold bC;rw[if_neg ag,if_neg ag,if_neg a,if_neg ag]
 obtain ⟨t,U,o⟩:=xg G.ls (y _);have C:t.n=(f.st vs).b.cm.length:=by have:=G.kq (i:=0) (s:=t) (by simp[o]) (by rw[y];rfl);rw[this,gF,List.length_map]
 have q:gE (.iface kF (.pointer (some ⟨g.b,0,none⟩))) h K O:=by
  refine aii (Jh.mk (cu:=t) (λgr E=>G.uR (i:=0) lV gr rfl (by simp[o]) E) eD.gZ eD.one (λgr J=>eD.call G.B gr J) λz Y KF W S V u2 h' Q => ?_)
  have:=G.SQ Q u ag ?_ (λF => ?_) I
  ·rw[N] at this;exact this
  ·unfold cz;rw[if_neg ag,if_neg j,if_neg e,if_neg a,if_neg ag,if_neg d];refine ⟨List.prefix_refl _,List.prefix_refl _,?_⟩;rw[cQ];simp only[aG,x,if_true,List.length_map]
  ·unfold fF;simp only;rw[if_neg ag,if_neg j,if_neg ag,if_neg a,if_neg e,if_neg d,C];rfl
 rw[<-L] at q;exact q
theorem bh.Ff {N:List Nat} {cs:List (Array Value)} {v KF:Value} {n d a u2:Nat} {K:Value->HP} {sp:List Value} (G:bh f [M] T h r none g) (D:∀(j:Nat) o,[M][j]? = some o->dD o) (t:f.cs=[c]) (E:g.KT[0]? = some A) (z:g.kv[0]? = some w)
  (Q:nQ h h' N cs (eD f g.b g.sf g.sn g.sb r.b) (gV M A w (r.aC 0)) v KF n d a u2) (J:f.k=15\/f.k=16\/f.k=19\/f.k=20) (s:cz f.k r.b r.b) (p:f.k=20->eY 20 g.X h' sp r.b)
  (u:∀F m,fF f.k g.b v KF (.mk F r g.sb [m] sp)=cs) (B:∀e h',ah h h'->one e.F=true->e.F.cells=#[e.F]->e.r=r->bE f [M] (Tr T h h') h' (.iface (aU f.k) (.pointer (some ⟨g.b,0,none⟩))) r (some e)->K e.F h'):K (.func (.func (dG f.k)) #[] (N.map pA).toArray) h':=by
 obtain ⟨⟨_,m,rfl,H,I⟩,P,O⟩:=Q.k;refine B _ h' Q.g rfl rfl rfl (G.MP (lo:=λ_=>a) (hi:=λ_=>u2) (jn:=[m]) (sp:=sp) D Q (λ_ _=>⟨Nat.le_refl _,Nat.le_refl _⟩) (λi j hi C ne => ?_) (λj o R L l y x => ?_) rfl (by rw[t];rfl) ag (λ_=>⟨m,rfl,rfl⟩) (λq=>by omega) s p (u _ m))
 ·simp only[List.length_singleton] at hi C;omega
 ·rcases j with _ | j
  ·simp at l;subst l;rw[E] at y;cases y;rw[z] at x;cases x;exact ⟨m,rfl,H,I⟩
  ·simp at l
theorem nG {KM:List bD} {m:Option Mem} (G:bh f KM T h r m g) (hl:KM.length=1):∃A w,g.KT[0]? = some A/\g.kv[0]? = some w/\g.kv=[w]:=by
 have lk:=G.lk;have e:g.KT.length=1:=by rw[lk.2.1,hl]
 have d:g.kv.length=1:=by rw[lk.1,hl]
 match j:g.KT,i:g.kv,e,d with
 | [a],[b],_,_=>exact ⟨a,b,rfl,rfl,rfl⟩
theorem adY (a:f.k=15) (j:f.cs=[c]) (C:MC c M):qi f (bE f [M]):=by
 intro T h v vs K V P H O;obtain ⟨g,rfl,G⟩:=H;have D:=js C;have R:aU f.k=jU:=by unfold aU;rw[if_neg ag,if_neg ag,if_pos a]
 have U:dG f.k=zA:=by unfold dG;rw[if_neg ag,if_pos a]
 have J:∀x:Rb,bC f.k x=[(ints x.ends,Y6)]:=λx=>by unfold bC;rw[if_neg ag,if_pos ag]
 obtain ⟨u,e⟩:=mO G.ls (J _);obtain ⟨A,w,E,z,W⟩:=nG G rfl;have o:f.cs[0]? = some c:=by rw[j];rfl
 have N:u.n=(f.st vs).b.ends.length:=by have:=G.kq (i:=0) (s:=u) (by simp[e]) (by rw[J];rfl);rw[this,ints,List.length_map]
 have aC:=G.aC 0 M A w rfl E z;have d:=ai.iz o vs;have I:∀c,A c->c < h.size:=λc q=>G.t.l (List.mem_of_getElem? (g.dy E)) q;have q:gE (.iface jU (.pointer (some ⟨g.b,0,none⟩))) h K V:=by
  rw[d] at aC;refine aik (JC.mk (cu:=u) (w:=w) (V2:=gV M A w ((f.st vs).aC 0)) (λgr y=>G.uR (i:=0) D gr rfl (by simp[e]) y) (λgr y=>(G.fr (S:=No) D (Tn.aT gr) λ_ _ _=>id).ia (i:=1) rfl (.inl a) (by simp[e]) z y) eD.gZ eD.one (λgr p=>eD.call G.B gr p) (gV.gZ C.fr I) gV.one (λgr p => ?_) λL F0 KF Z X Y u2 h' Q => ?_)
  ·rw[d] at p;exact gV.call C (ai.de o P) aC gr p
  ·have:=G.Ff (sp:=[]) D j E z Q (.inl a) (by unfold cz;rw[if_neg ag,if_pos a];exact List.prefix_refl _) (λq=>by omega) (λF m => ?_) O
   ·rw[U] at this;exact this
   ·unfold fF;simp only;rw[if_neg ag,if_pos a,N];rfl
 rw[<-R] at q;exact q
theorem adU (a:f.k=16) (e:f.cs=[c]) (C:MC c M):qi f (bE f [M]):=by
 intro T h v vs K O I H E;obtain ⟨g,rfl,G⟩:=H;have y:=js C;have L:aU f.k=jy:=by unfold aU;rw[if_neg ag,if_neg ag,if_neg ag,if_pos a]
 have N:dG f.k=zy:=by unfold dG;rw[if_neg ag,if_neg ag,if_pos a]
 have J:∀x:Rb,bC f.k x=[]:=λx=>by unfold bC;rw[if_neg ag,if_neg ag,if_neg ag,if_pos ag]
 have s:=KX G.ls (J _);obtain ⟨A,w,p,o,P⟩:=nG G rfl;have j:f.cs[0]? = some c:=by rw[e];rfl
 have aC:=G.aC 0 M A w rfl p o;have d:=ai.iz j vs;have u:∀c,A c->c < h.size:=λc q=>G.t.l (List.mem_of_getElem? (g.dy p)) q;have q:gE (.iface jy (.pointer (some ⟨g.b,0,none⟩))) h K O:=by
  rw[d] at aC;refine aif (Jz.mk (w:=w) (V2:=gV M A w ((f.st vs).aC 0)) (λgr D=>(G.fr (S:=No) y (Tn.aT gr) λ_ _ _=>id).ia (i:=0) rfl (.inr (.inl a)) (by simp[s]) o D) eD.gZ eD.one (λgr n=>eD.call G.B gr n) (gV.gZ C.fr u) gV.one (λgr n => ?_) λz W KF V R U u2 h' Q => ?_)
  ·rw[d] at n;exact gV.call C (ai.de j I) aC gr n
  ·have:=G.Ff (sp:=[]) y e p o Q (.inr (.inl a)) (by unfold cz;rw[if_neg ag,if_neg ag,if_neg ag,if_neg ag,if_pos ag];trivial) (λq=>by omega) (λF m => ?_) E
   ·rw[N] at this;exact this
   ·unfold fF;simp only;rw[if_neg ag,if_neg ag,if_pos ag]
 rw[<-L] at q;exact q
end
def nL (KM:List bD) (KT:List (Nat->Prop)) (kv:List Value) (r:Raw):ij:=λF l u h=>(one F=true/\F.cells=#[F])/\∃(jn:List Mem) (lo hi:Nat->Nat),jn.length=KM.length/\(∀j,j < KM.length->l<=lo j/\hi j<=u) /\
  (∀i j,i < KM.length->j < KM.length->i≠j->hi i<=lo j\/hi j<=lo i)/\vX (λc=>l<=c/\c < u/\∀j,j < KM.length->¬(lo j<=c/\c < hi j)) h F (jn.map Mem.F) /\
  ∀(j:Nat) M A w,KM[j]? = some M->KT[j]? = some A->kv[j]? = some w->∃m,jn[j]? = some m/\m.r=r.aC j/\M (λc=>A c\/(lo j<=c/\c < hi j)) h w (r.aC j) (some m)
theorem nL.one {KM:List bD} {d:List (Nat->Prop)} {C:List Value} {r:Raw}:One (nL KM d C r):=λ_ _ _ _ q=>q.1
theorem nL.gZ {KM:List bD} {n:List (Nat->Prop)} {C:List Value} {r:Raw} {h0:Hp} (KF:∀(j:Nat) M,KM[j]? = some M->dD M) (G:∀(j:Nat) A,n[j]? = some A->∀c,A c->c < h0.size):iu h0 (nL KM n C r):=by
 rintro S F l u h h' ⟨q,d,B,E,v,e,s,p,o⟩ hl I t i;refine ⟨q,d,B,E,v,e,s,p.fr t λc a _ b=>(i c b).2 ⟨a.1,a.2.1⟩,λj M A w e1 k H => ?_⟩;obtain ⟨m,z,y,x⟩:=o j M A w e1 k H;have D:=(List.getElem?_eq_some_iff.1 e1).1;refine ⟨m,z,y,KF j M e1 x t λc a _ b => ?_⟩;have:=i c b;have:=e j D;rcases a with a | a
 ·have:=G j A k c a;omega
 ·omega
section
variable {f c:ai} {KM:List bD} {M:bD} {T A:Nat->Prop} {h h0 h':Hp} {r:Raw} {vs:List ak} {g:bI} {w:Value}
theorem SO {K:Value->HP} {Kp:PK} (G:bh f KM T h0 r none g) (C:gw f.cs KM) (n':f.k=17\/f.k=18) (hn:KM.length<=4096) (hc:∀(j:Nat) c,f.cs[j]? = some c->∃us,c.can us/\r.aC j=c.st us) (gr:ah h0 h)
  (hk:∀F h',ah h h'->nL KM g.KT g.kv r F h.size h'.size h'->K F h'):zP g.ks h K Kp:=by
 have o':=C.mB;have lk:=G.lk;have kl:=G.kl n';have ns:g.ks.n=KM.length:=by rw[kl.1.1,lk.1]
 have CL:=C.1;refine zP.of (az λy h1 e3 g1 B _ => ?_);have s0:=gr.1;have s1:=g1.1;refine Hr.bB (λx h'=>∃(i:Nat) (b:List Mem) (o u:Nat->Nat) (s:Sl),x=i/\i<=KM.length/\b.length=i/\ah h h'/\aB h' y #[Sl.v s] O3 /\
   Os (λc=>h.size<=c/\c < h'.size/\c≠y/\∀j,j < i->¬(o j<=c/\c < u j)) h' s (b.map Mem.F) Y4/\(∀j,j < i->y < o j/\u j<=h'.size)/\(∀j k,j < i->k < i->j≠k->u j<=o k\/u k<=o j) /\
   ∀(j:Nat) M A w,j < i->KM[j]? = some M->g.KT[j]? = some A->g.kv[j]? = some w->∃m,b[j]? = some m/\m.r=r.aC j/\M (λc=>A c\/(o j<=c/\c < u j)) h' w (r.aC j) (some m))
  (λx _=>KM.length - x.toNat) ⟨0,[],λ_=>0,λ_=>0,Sl.nil,rfl,Nat.zero_le _,rfl,g1,B,Os.nil,λj d=>by omega,λj k d=>by omega,λj M A w d=>by omega⟩ ?_
 rintro x I ⟨i,b,o,u,s,rfl,z',hm,V,B,os,H,hd,Y⟩ N hN;have s2:=V.1;have f':=B.lt;refine aA (λU => ?_) λU => ?_
 ·have U:=ay U;have k':i < KM.length:=ag;have l':i < f.cs.length:=ag;have hM:KM[i]? = some KM[i]:=List.getElem?_eq_getElem k';have hA:g.KT[i]? = some g.KT[i]:=List.getElem?_eq_getElem ag;have hw:g.kv[i]? = some g.kv[i]:=List.getElem?_eq_getElem ag;have L:f.cs[i]? = some f.cs[i]:=List.getElem?_eq_getElem l';generalize KM[i]=M at hM;generalize g.KT[i]=A at hA;generalize g.kv[i]=w at hw;generalize f.cs[i]=ci at L;have Ci:=C.2 i ci M L hM;obtain ⟨us,j',J⟩:=hc i ci L;have m':∀c,A c->c < h0.size:=λc q=>G.t.l (List.mem_of_getElem? (g.dy hA)) q;have aC:=G.aC i M A w hM hA hw;have D:=Ci.fr (S:=No) aC (Tn.aT (ah.trans gr V)) λ_ _ _=>id;rw[J] at D;have e':=kl.fr (S:=No) (Tn.aT (ah.trans gr V)) (λ_ _ _=>id) λ_ z=>z;refine e'.1.ix ag (by rw[ns];omega) (by rw[Int.toNat_natCast];exact hw) λp cp=>⟨_,cp,an B rfl (Ci.mark j' D λmm h3 Q o3 c3 er M3=>bK B Q ⟨c3,az λO2 h4 e4 P i' _=>bK (B.aj Q) P ?_⟩)⟩
  have s3:=Q.1;have s4:=P.1;have v':s.n=i:=by have:=os.n;rw[List.length_map,hm] at this;exact this
  have d':=(os.gr Q).gr P;refine d'.ap rfl o3 (iB i' rfl) ag ag λs5 h5 t5 c' _ => ?_;have s':=t5.1;have g':=t5.aK ((B.aj Q).aj P) λq=>q.2.2.1 rfl;refine cE g' aS rfl λh6 o6 k6 => ?_;have s6:=o6.1;have k6:aB h6 y #[Sl.v s5] O3:=by simpa using k6
  -- of b' q' blocks only p' of b' r', and t' cell, have a'
  have W:Tn (λc=>(h.size<=c/\c < I.size/\c≠y/\∀j,j < i->¬(o j<=c/\c < u j))\/c=y) h4 h6:=(t5.mono λc q _=>.inl q).trans (o6.fr.mono λc q _=>.inr q);have X:Tn (λc=>(h.size<=c/\c < I.size/\c≠y/\∀j,j < i->¬(o j<=c/\c < u j))\/c=y) I h6:=((Tn.aT (ah.trans Q P):Tn _ I h4)).trans W;refine aP ag ag (hN _ _ ⟨i+1,b++[mm],λj=>if j=i then I.size else o j,λj=>if j=i then h3.size else u j,s5,by simp,by omega,by simp[hm],?_,k6,?_,λj d => ?_,λj k d y' ne => ?_,λj M' A' w' d E O R => ?_⟩ ag)
  ·exact ((Tn.aT V:Tn No h I).trans' X λc q x'=>by rcases q with q | q <;> omega).aj
  ·rw[List.map_append];refine (c'.tr.fr o6.fr λc q _ e => ?_).mono λc q => ?_
   ·rcases q with q | q
    ·exact q.2.2.1 e
    ·omega
   ·rcases q with q | q
    ·refine ⟨q.1,by omega,q.2.2.1,λj d z => ?_⟩
     by_cases e:j=i
     ·simp only[e,if_true] at z;omega
     ·simp only[if_neg e] at z;exact q.2.2.2 j ag z
    ·refine ⟨by omega,by omega,by omega,λj d z => ?_⟩
     by_cases e:j=i
     ·simp only[e,if_true] at z;omega
     ·simp only[if_neg e] at z;have:=H j ag;omega
  ·by_cases e:j=i
   ·simp only[e,if_true];exact ⟨by omega,by omega⟩
   ·simp only[if_neg e];have:=H j ag;exact ⟨this.1,by omega⟩
  ·by_cases e1:j=i
   ·have e2:k≠i:=λe=>ne (e1.trans e.symm);have:=H k ag;simp only[e1,if_true,if_neg e2];omega
   ·by_cases e2:k=i
    ·have:=H j ag;simp only[e2,if_true,if_neg e1];omega
    ·simp only[if_neg e1,if_neg e2];exact hd j k ag ag ne
  ·by_cases e:j=i
   ·subst e;rw[hM] at E;cases E;rw[hA] at O;cases O;rw[hw] at R;cases R;simp only[if_true];refine ⟨mm,by rw[List.getElem?_append_right ag,hm];simp,by rw[er,J],?_⟩
    rw[J];refine Ci.fr M3 ((Tn.aT P:Tn _ h3 h4).trans W) λc q _ z => ?_;rcases q with q | q
    ·have:=m' c q;rcases z with z | z <;> omega
    ·rcases z with z | z <;> omega
   ·simp only[if_neg e];obtain ⟨m,m1,m2,m3⟩:=Y j M' A' w' ag E O R;refine ⟨m,by rw[List.getElem?_append_left ag];exact m1,m2,o' j M' E m3 X λc q _ z => ?_⟩
    have Z:=G.t.l (List.mem_of_getElem? (g.dy O)) (c:=c);rcases q with q | q
    ·have:=Z q;rcases z with z | z <;> omega
    ·rcases z with z | z
     ·exact z.2.2.2 j ag q
     ·have:=H j ag;omega
 ·have U:=ay U;have:i=KM.length:=ag;subst this;refine hk _ I V ⟨⟨rfl,rfl⟩,b,o,u,hm,λj d=>by have:=H j d;exact ⟨by omega,this.2⟩,hd,⟨y,_,s,rfl,⟨by omega,f',λj d z=>by have:=H j d;omega⟩,B,os.sv,λu' a ha => ?_⟩,λj M A w E O R=>Y j M A w (List.getElem?_eq_some_iff.1 E).1 E O R⟩
  have:=os.at (c:=a.block) ⟨a,ha,rfl⟩;exact ⟨this.1.1,this.1.2.1,this.1.2.2.2⟩
theorem Vh (d:f.can vs):∀(j:Nat) c,f.cs[j]? = some c->∃a,c.can a/\(f.st vs).aC j=c.st a:=λj c b=>⟨_,ai.de b d,ai.iz b vs⟩
theorem bh.SP {N:List Nat} {cs:List (Array Value)} {v KF:Value} {n i j u2:Nat} {K:Value->HP} (G:bh f KM T h r none g) (C:gw f.cs KM) (Q:nQ h h' N cs (eD f g.b g.sf g.sn g.sb r.b) (nL KM g.KT g.kv r) v KF n i j u2) (x:f.k=17\/f.k=18) (d:cz f.k r.b r.b)
  (e:∀F m,fF f.k g.b v KF (.mk F r g.sb m [])=cs) (u:∀a h',ah h h'->one a.F=true->a.F.cells=#[a.F]->a.r=r->bE f KM (Tr T h h') h' (.iface (aU f.k) (.pointer (some ⟨g.b,0,none⟩))) r (some a)->K a.F h'):K (.func (.func (dG f.k)) #[] (N.map pA).toArray) h':=by
 obtain ⟨⟨_,jn,lo,hi,t,s,p,o,l⟩,z,y⟩:=Q.k;exact u _ h' Q.g rfl rfl rfl (G.MP (lo:=lo) (hi:=hi) (jn:=jn) (sp:=[]) C.mB Q s p l t C.1 ag (λq=>by omega) (λ_=>o) d (λq=>by omega) (e _ jn))
theorem adT (n:bp f) (a:f.k=17) (C:gw f.cs KM):qi f (bE f KM):=by
 intro T h v vs K J y H x;obtain ⟨g,rfl,G⟩:=H;have p:=C.mB;have L:=n.right.1.2.2.2.2.2.2.2.2.1 a;have U:=C.1;have E:aU f.k=jw:=by unfold aU;rw[if_neg ag,if_neg ag,if_neg ag,if_neg ag,if_pos a]
 have I:dG f.k=zw:=by unfold dG;rw[if_neg ag,if_neg ag,if_neg ag,if_pos a]
 have D:∀o:Rb,bC f.k o=[]:=λo=>by unfold bC;rw[if_neg ag,if_neg ag,if_neg ag,if_pos ag]
 have e:=KX G.ls (D _);have q:gE (.iface jw (.pointer (some ⟨g.b,0,none⟩))) h K J:=by
  refine aie (Jv.mk (cu:=g.ks) (V2:=nL KM g.KT g.kv (f.st vs)) (λgr u=>(G.fr (S:=No) p (Tn.aT gr) λ_ _ _=>id).ou (i:=0) rfl (.inl a) (by simp[e]) u) eD.gZ eD.one (λgr d=>eD.call G.B gr d) (nL.gZ p λj A z c q=>G.t.l (List.mem_of_getElem? (g.dy z)) q) nL.one (λgr d=>SO G C (.inl a) ag (Vh y) gr d) λs R KF P N O u2 h' Q => ?_)
  have:=G.SP C Q (.inl a) (by unfold cz;rw[if_neg ag,if_neg ag,if_neg ag,if_neg ag,if_pos ag];trivial) (λF m => ?_) x
  ·rw[I] at this;exact this
  ·unfold fF;simp only;rw[if_neg ag,if_neg ag,if_pos ag]
 rw[<-E] at q;exact q
theorem ad0 (y:bp f) (a:f.k=18) (C:gw f.cs KM):qi f (bE f KM):=by
 intro T h v vs K P J H I;obtain ⟨g,rfl,G⟩:=H;have x:=C.mB;have R:=(y.right.1.2.2.2.2.2.2.2.2.2.1 a).2;have Z:=C.1;have N:aU f.k=kH:=by unfold aU;rw[if_neg ag,if_neg ag,if_neg ag,if_neg ag,if_neg ag,if_pos a]
 have O:dG f.k=zu:=by unfold dG;rw[if_neg ag,if_neg ag,if_neg ag,if_neg ag,if_pos a]
 have z:∀e:Rb,bC f.k e=[(bv e.all,Y8),(ints e.ends,Y6)]:=λe=>by unfold bC;rw[if_neg ag,if_neg ag,if_pos a]
 obtain ⟨o,V,d⟩:=xg G.ls (z _);have E:o.n=(f.st vs).b.all.length:=by have:=G.kq (i:=0) (s:=o) (by simp[d]) (by rw[z];rfl);rw[this,eL]
 have q:gE (.iface kH (.pointer (some ⟨g.b,0,none⟩))) h K P:=by
  refine aim (Jr.mk (cu:=o) (mh:=g.ks) (V2:=nL KM g.KT g.kv (f.st vs)) (λgr p=>G.uR (i:=0) x gr rfl (by simp[d]) p) (λgr p=>(G.fr (S:=No) x (Tn.aT gr) λ_ _ _=>id).ou (i:=2) rfl (.inr a) (by simp[d]) p) eD.gZ eD.one (λgr u=>eD.call G.B gr u) (nL.gZ x λj A L c q=>G.t.l (List.mem_of_getElem? (g.dy L)) q) nL.one (λgr u=>SO G C (.inr a) ag (Vh J) gr u) λD Y KF X U W u2 h' Q => ?_)
  have:=G.SP C Q (.inr a) (by unfold cz;rw[if_neg ag,if_neg ag,if_neg ag,if_pos a];exact ⟨List.prefix_refl _,List.prefix_refl _,by rw[cQ];simp only[aG];rw[if_neg ag,if_neg ag,if_pos a,if_neg ag,if_pos a,List.length_map,List.length_map,List.length_range]⟩) (λF m => ?_) I
  ·rw[O] at this;exact this
  ·unfold fF;simp only;rw[if_neg ag,if_neg ag,if_neg ag,if_pos a,E];rfl
 rw[<-N] at q;exact q
end
section
variable {f c:ai} {KM:List bD} {M:bD} {T A:Nat->Prop} {h h0 h':Hp} {r:Raw} {vs:List ak} {m:Option Mem} {g:bI} {w:Value} {Kp:PK}
theorem Wk {K:Sl->HP} (G:bh f KM T h0 (f.st vs) m g) (C:gw f.cs KM) (e':f.k=17\/f.k=18) (hn:KM.length<=4096) (hc:f.can vs) (gr:ah h0 h)
  (hk:∀t h',ah h h'->bN (Nw h) (Nw h) h' t (fU f vs)->K t h'):zR g.ks h K Kp:=by
 have lk:=G.lk;have kl:=G.kl e';have ns:g.ks.n=KM.length:=by rw[kl.1.1,lk.1]
 have CL:=C.1;have dl:(fU f vs).length=KM.length:=by rw[Fi,CL]
 have s0:=gr.1;have Z:=λ(j:Nat) c (D:f.cs[j]? = some c)=>pJ (vs:=vs) D;generalize i':fU f vs=ds at hk dl Z;refine zR.of (Hs.bB (λy x o=>∃(i:Nat) (E:List (Sl × Sl × Sl)),x=i/\i<=ds.length/\E.length=i/\ah h o/\cN h.size 6 o y (List.zipWith aJ.row (ds.take i) E) bG /\
   ∀(j:Nat) (d:aJ) (p:Sl × Sl × Sl),ds[j]? = some d->E[j]? = some p->c7 (λb=>h.size<=b/\¬y.at b) (λb=>h.size<=b/\¬y.at b) o p d)
  (λy x _=>ds.length - x.toNat) ⟨0,[],rfl,by omega,rfl,ah.refl _,cN.nil _ _ _ _,by simp⟩ ?_)
 rintro y x o ⟨i,E,rfl,hi,u,I,B,hu⟩ N1 hN;have a':=B.n;rw[List.length_zipWith,List.length_take] at a';have s1:=I.1;refine aA (λL => ?_) λL => ?_
 ·have L:=ay L;have g':i < ds.length:=ag;have d':i < KM.length:=ag;have X:KM[i]? = some KM[i]:=List.getElem?_eq_getElem d';have hA:g.KT[i]? = some g.KT[i]:=List.getElem?_eq_getElem ag;have U:g.kv[i]? = some g.kv[i]:=List.getElem?_eq_getElem ag;have l:f.cs[i]? = some f.cs[i]:=List.getElem?_eq_getElem ag;generalize KM[i]=M at X;generalize g.KT[i]=A at hA;generalize g.kv[i]=w at U;generalize f.cs[i]=J at l;have Ci:=C.2 i J M l X;have D:=Z i J l;have aC:=Ci.fr (S:=No) (G.aC i M A w X hA U) (Tn.aT (ah.trans gr I)) λ_ _ _=>id;rw[ai.iz l vs] at aC;have b':=kl.fr (S:=No) (Tn.aT (ah.trans gr I)) (λ_ _ _=>id) λ_ z=>z;generalize J.dn (J.st (cg f.k f.w (cj f.cs) i vs))=d at D;refine b'.1.ix ag (by rw[ns];omega) (by rw[Int.toNat_natCast];exact U) λp cp=>⟨_,cp,?_⟩
  have P:=Z i J l;rw[D] at P;refine Ci.done (ai.de l hc) aC λR h3 g3 v3=>az λj' H e4 g4 O _ => ?_;rw[<-Option.some.inj P] at v3 O;have N:ah o H:=ah.trans g3 g4;have s4:=N.1;have v4:=(v3.gr g4).lt;refine (B.aj N).ap ag rfl (new:=[d.row R]) rfl (λr F=>by simp at F;subst F;rfl) (λr F=>by simp at F;subst F;exact ahz d R) (by simpa[aJ.row,uz] using iB O rfl) ag ag λs' h5 Y f' o5=>aP ag ag (hN _ _ _ ⟨i+1,E++[R],by simp,by omega,by simp[u],?_,?_,?_⟩ ag)
  ·exact (((Tn.aT (ah.trans I N):Tn No h H)).trans' Y λb hd c'=>by have:=((B.aj N).at hd).1;omega).aj
  ·rw[Qy D u];exact o5
  ·intro j e v W V;have s:∀b,s'.at b->b < H.size->y.at b:=λb q a=>(f' b q).resolve_right ag;rcases xe u V with ⟨c',V⟩ | ⟨rfl,rfl⟩
   ·refine ((hu j e v W V).lt.gr N).fr Y (λb a _=>a.1.2) (λb a _=>a.1.2) (λb a=>⟨a.1.1,λq=>a.1.2 (s b q ag)⟩) (λb a=>⟨a.1.1,λq=>a.1.2 (s b q ag)⟩)
   ·rw[D] at W;cases W;have Q:∀b,y.at b->h.size<=b/\b < o.size:=λb a=>B.at a;refine v4.fr Y (λb (a:o.size<=b/\_) _ q=>by have:=Q b q;omega) (λb (a:o.size<=b/\_) _ q=>by have:=Q b q;omega) (λb (a:o.size<=b/\b < H.size)=>⟨by omega,λq => ?_⟩) (λb (a:o.size<=b/\b < H.size)=>⟨by omega,λq => ?_⟩)
    ·have:=Q b (s b q a.2);omega
    ·have:=Q b (s b q a.2);omega
 ·have L:=ay L;have:i=ds.length:=ag;subst this;rw[List.take_length] at B;exact hk _ _ I (bN.snoc B u (λb a=>a) λj d p o h2=>(hu j d p o h2).mo (λb a=>a.1) λb a=>a.1)
theorem LB {K:Int->Int->Int->Sl->Sl->Sl->HP} {i j:Nat} {Z:Array Value} {e:TypeId} {n x y:Int} {b t:Sl} (P:aB h i Z e) (R:Z.size=6) (O:aB h j #[.int .i64 n, .int .i64 x, .int .i64 y,Sl.v b,Sl.v Sl.nil,Sl.v Sl.nil] bG) (ne:i≠j)
  (Q:∀h',Tn (λc=>c=j\/c=i) h h'->K n x y b t Sl.nil h'):St h ⟨j,4,none⟩ (Sl.v t) λk=>bq k ⟨j,0,none⟩ λE D C B z s=>bw k ⟨i,0,none⟩ E D C B z s λd=>bq d ⟨i,0,none⟩ λr0 J I H G F=>K r0 J I H G F d:=by
 refine cE O aS rfl λk p l => ?_;have a:aB k j #[.int .i64 n, .int .i64 x, .int .i64 y,Sl.v b,Sl.v t,Sl.v Sl.nil] bG:=by simpa[Sl.v] using l
 exact bq.b a (bw.b (p.aK P ne) R λd L N=>bq.b N (Q d ((p.fr.mono λc q _=>.inl q).trans (L.fr.mono λc q _=>.inr q))))
theorem aci {K:Int->Int->Int->Sl->Sl->Sl->HP} {i j:Nat} {Z:Array Value} {e:TypeId} {n x y:Int} {b t:Sl} (P:aB h i Z e) (R:Z.size=6) (O:aB h j #[.int .i64 n, .int .i64 x, .int .i64 y,Sl.v b,Sl.v Sl.nil,Sl.v Sl.nil] bG) (ne:i≠j)
  (Q:∀h',Tn (λc=>c=j\/c=i) h h'->K n x y b Sl.nil t h'):St h ⟨j,5,none⟩ (Sl.v t) λk=>bq k ⟨j,0,none⟩ λE D C B z s=>bw k ⟨i,0,none⟩ E D C B z s λd=>bq d ⟨i,0,none⟩ λr0 J I H G F=>K r0 J I H G F d:=by
 refine cE O aS rfl λk p l => ?_;have a:aB k j #[.int .i64 n, .int .i64 x, .int .i64 y,Sl.v b,Sl.v Sl.nil,Sl.v t] bG:=by simpa[Sl.v] using l
 exact bq.b a (bw.b (p.aK P ne) R λd L N=>bq.b N (Q d ((p.fr.mono λc q _=>.inl q).trans (L.fr.mono λc q _=>.inr q))))
structure uh (h0 h:Hp) (a2 a3:Nat) (n u:Nat) (b:Sl) (aH:List (List UInt8)):Prop where
 g:ah h0 h
 k2:∃c2 t2,aB h a2 c2 t2/\c2.size=6
 k3:aB h a3 #[.int .i64 (n:Int), .int .i64 0, .int .i64 (u:Int),Sl.v b,Sl.v Sl.nil,Sl.v Sl.nil] bG
 bf:cY (λc=>h0.size<=c/\c≠a2/\c≠a3) (λc=>h0.size<=c/\c≠a2/\c≠a3) h b aH
 l:h0.size<=a2/\h0.size<=a3/\a2≠a3
theorem uh.end {i j n d:Nat} {b:Sl} {aH:List (List UInt8)} (B:uh h0 h i j n d b aH) (gr:ah h h') {a:Hp} (t:Tn (λc=>c=j\/c=i) h' a):ah h0 a/\cY (Nw h0) (Nw h0) a b aH:=by
 have l:=B.l;have k:=B.g.1;refine ⟨((Tn.aT (ah.trans B.g gr):Tn No h0 h').trans' t λc q e=>by omega).aj,(B.bf.gr gr).fr t (λc q _ z => ?_) (λc q _ z => ?_) (λc q=>q.1) λc q=>q.1⟩
 ·rcases z with z | z;exact q.2.2 z;exact q.2.1 z
 ·rcases z with z | z;exact q.2.2 z;exact q.2.1 z
theorem Tv {i b:Nat} {K:Addr->HP} (u:f.k=15\/f.k=16\/f.k=19\/f.k=20) (j:f.cs=[c]) (C:MC c M) (L:f.can vs) (G:bh f [M] T h (f.st vs) m g) (hl:g.SS.length=i) (P:g.b=b)
  (x:∀a h',ah h h'->h.size<=a->bN (Nw h) (Nw h) h' ⟨some ⟨a,0,none⟩,1,1⟩ (fU f vs)->K ⟨a,0,none⟩ h') :
  Ld h ⟨b,16+i,none⟩ id λq=>iP q h (λI H F E D B e=>aD e #[.int .i64 I, .int .i64 H, .int .i64 F,Sl.v E,Sl.v D,Sl.v B] bG K) Kp:=by
 obtain ⟨A,w,N,t,R⟩:=nG G rfl;have aC:=G.aC 0 M A w rfl N t;have d:f.cs[0]? = some c:=by rw[j];rfl
 rw[ai.iz d vs] at aC;have O:fU f vs=[c.dn (c.st (cg f.k f.w (cj f.cs) 0 vs))]:=by
  have e:=pJ (vs:=vs) d;have n:=Fi f vs;rw[j] at n
  match J:fU f vs,n with
  | [y],_=>rw[J] at e;simp at e;rw[e]
 rw[O] at x;refine G.ia P u hl t (C.done (ai.de d L) aC λp e o Q=>az λl n S z s _=>x l n (ah.trans o z) ?_ ?_)
 ·have:=o.1;omega
 ·exact bN.one s (by have:=o.1;show h.size<=l;omega) (Q.gr z)
end
section
variable {f c:ai} {KM:List bD} {M:bD} {T A:Nat->Prop} {h h0 h':Hp} {r:Raw} {vs:List ak} {m:Option Mem} {g:bI} {w:Value} {Kp:PK}
abbrev Ex (h1:Hp) (a:Nat):Nat->Prop:=λc=>h1.size<=c/\c≠a
theorem cV.ic {s:Sl} {l:List Value} {D:Nat->Prop} {H G:Hp} {a:Nat} (v:cV D H s l) (gr:ah H G) (e:H.size<=a) {b:Hp} (d:∀c,D c->b.size<=c):cV (Ex b a) G s l :=
 (v.lt.gr gr).mo λc q=>⟨d c q.1,by have:=q.2;omega⟩
theorem cY.ic {s:Sl} {l:List (List UInt8)} {D:Nat->Prop} {H G:Hp} {a:Nat} (v:cY D D H s l) (gr:ah H G) (e:H.size<=a) {b:Hp} (d:∀c,D c->b.size<=c):cY (Ex b a) (Ex b a) G s l :=
 (v.lt.gr gr).mo (λc q=>⟨d c q.1,by have:=q.2;omega⟩) λc q=>⟨d c q.1,by have:=q.2;omega⟩
theorem BT {J:HP} {H G:Hp} {i j:Nat} {Z:Array Value} {k:TypeId} {b:Sl} {aH:List (List UInt8)} {n u:Nat} (p:ah h H) (l:aB H i Z k) (z:Z.size=6) (t:h.size<=i) (o:ah H G) (v:aB G j bS bG) (s:H.size<=j) (B:cY (Ex H j) (Ex H j) G b aH)
  (x:∀h',uh h h' i j n u b aH->J h'):bw G ⟨j,0,none⟩ (n:Int) 0 (u:Int) b Sl.nil Sl.nil J:=by
 have D:=p.1;have C:=l.lt;refine bw.b v rfl λy a d=>x y ⟨ah.trans p (aM.aj o a s),⟨Z,k,a.aK (l.aj o) ag,z⟩,d,B.fr a.fr (λc q _ e=>q.2 e) (λc q _ e=>q.2 e) (λc q=>⟨by have:=q.1;omega,by have:=q.1;omega,q.2⟩) λc q=>⟨by have:=q.1;omega,by have:=q.1;omega,q.2⟩,⟨t,by omega,by omega⟩⟩
theorem ahL (J:f.k=15) (b':f.cs=[c]) (C:MC c M):qy f (bE f [M]):=by
 intro T h v vs m K Kp hc H hk;obtain ⟨g,rfl,G⟩:=H;have KF:=js C;have ed:aU f.k=jU:=by unfold aU;rw[if_neg ag,if_neg ag,if_pos J]
 have es:∀rb:Rb,bC f.k rb=[(ints rb.ends,Y6)]:=λrb=>by unfold bC;rw[if_neg ag,if_pos ag]
 obtain ⟨s0,V⟩:=mO G.ls (es _);obtain ⟨A0,d'⟩:∃A,g.ST[0]? = some A:=⟨_,List.getElem?_eq_getElem (by rw[G.ls.2,es];exact Nat.one_pos)⟩
 have ef:f.dn (f.st vs)=.mk (f.st vs).b.rows 0 (f.st vs).b.bu [bZ (f.st vs).b,laidB (f.st vs).b.ends 4] (fU f vs) []:=by rw[F3 J,cQ];rfl
 rw[ef] at hk;have el:(f.st vs).b.ends.length<=70000:=by have:=((ai.eC f vs).1 hc).n4;rw[cQ];simp only[aG];rw[if_neg ag,if_pos J,Ez];omega
 have eb:∀x∈(f.st vs).b.ends,x < 2 ^ 63:=by
  rw[cQ];simp only[aG];rw[if_neg ag,if_pos J];intro x d;unfold gH at d;simp only[List.mem_map,List.mem_range] at d;obtain ⟨i,_,rfl⟩:=d;have q1:=Et (λv:ak=>v.items.length) vs i;have q2:(vs.map λv:ak=>v.items.length).sum=(vs.flatMap ak.items).length:=by rw[List.length_flatMap]
  have c':=ai.de (f:=f) (c:=c) (j:=0) (by rw[b'];rfl) hc
  have Z:=((ai.eC c _).1 c').n4;unfold cg at Z;rw[if_pos J] at Z;omega
 have q:iP (.iface jU (.pointer (some ⟨g.b,0,none⟩))) h K Kp:=by
  refine ait (JD.of (az λa2 o e1 g1 k2 _ => ?_));refine bF ?_;have z1:=g1.1;have P:∀{d:Hp},ah o d->bh f [M] T d (f.st vs) m g:=λy=>G.fr (S:=No) KF (Tn.aT (ah.trans g1 y)) λ_ _ _=>id;have kb:=(P (ah.refl _)).B.k;have o0:∀{d:Hp},ah o d->Os A0 d s0 (ints (f.st vs).b.ends) Y6:=λy=>(P y).sl 0 s0 A0 (ints (f.st vs).b.ends,Y6) (by simp[V]) d' (by rw[es];rfl)
  have fin:∀{d:Hp} {e:Nat} {b:Sl},uh h d a2 e (f.st vs).b.rows (f.st vs).b.bu b [bZ (f.st vs).b,laidB (f.st vs).b.ends 4]->qp K Kp (some ⟨g.b,0,none⟩) ⟨a2,0,none⟩ ⟨e,0,none⟩ d:=by
   intro d e b B;refine qp.of ?_;refine bF ?_;obtain ⟨c2,Y,a',e2⟩:=B.k2;have f':=a'.lt;have e':=B.k3.lt;have Gh:=G.fr (S:=No) KF (Tn.aT B.g) λ_ _ _=>id;refine Tv (i:=1) (.inl J) b' C hc Gh (by simp[V]) rfl λa h' gr la ds=>LB (t:=⟨some ⟨a,0,none⟩,1,1⟩) (a'.aj gr) e2 (B.k3.aj gr) B.l.2.2 λX Y => ?_
   obtain ⟨ge,be⟩:=B.end gr Y;have:=B.g.1;exact hk (b,_,Sl.nil) X ge ⟨be,bN.fr Y (λc (q:d.size<=c) _ z=>by omega) (λc (q:d.size<=c) _ z=>by omega) (λc (q:d.size<=c)=>by show h.size<=c;omega) (λc (q:d.size<=c)=>by show h.size<=c;omega) _ ds,bN.nil _⟩
  have q5:=λ{d:Hp} {e:Nat} {b:Sl} (y:ah o d) (p:aB d e bS bG) (R:o.size<=e) (O:cY (Ex o e) (Ex o e) d b [bZ (f.st vs).b,laidB (f.st vs).b.ends 4])=>BT (n:=(f.st vs).b.rows) (u:=(f.st vs).b.bu) g1 k2 rfl ag y p R O λh'=>fin;have q4:∀{d:Hp} {e:Nat} {b:Sl},ah o d->aB d e bS bG->o.size<=e->cY (Ex o e) (Ex o e) d b [bZ (f.st vs).b,laidB (f.st vs).b.ends 4] ->
    dY (some ⟨g.b,0,none⟩) b d (λt0 t1 Y t3 t4 t5 W=>bw W ⟨e,0,none⟩ t0 t1 Y t3 t4 t5 (qp K Kp (some ⟨g.b,0,none⟩) ⟨a2,0,none⟩ ⟨e,0,none⟩)) Kp:=λy p R O=>lO (P y).B λW E=>q5 (ah.trans y E) (p.aj E) R (O.gr E)
  have Z:=λ{d:Hp} {e:Nat} {u t:Sl} (y:ah o d) (p:aB d e bS bG) (R:o.size<=e) (N:cV (Ex o e) d u (bv (bZ (f.st vs).b))) (vt:cV (Ex o e) d t (bv (laidB (f.st vs).b.ends 4))) =>
   pS N vt ⟨y.1,by have:=p.lt;omega⟩ λa W E O=>q4 (ah.trans y E) (p.aj E) R O
  have q2:=λ{d:Hp} {e:Nat} {u:Sl} (y:ah o d) (p:aB d e bS bG) (R:o.size<=e) (N:cV (Ex o e) d u (bv (bZ (f.st vs).b))) =>
   qV (w:=4) (Kp:=Kp) (o0 y) el aL eb λt W I=>Z (ah.trans y I.g) (p.aj I.g) R (N.gr I.g) (I.iS.mo λc (q:d.size<=c)=>⟨by have:=y.1;omega,by have:=p.lt;omega⟩)
  have kx:=λ{d:Hp} (y:ah o d)=>(P y).B.k;refine (P (ah.refl _)).dL (i:=0) (s:=s0) rfl (by simp[V]) ⟨pR (P (ah.refl _)).B λu X F N=>bK kb F ⟨qV (w:=4) (o0 F) el aL eb λt h3 I=>⟨?_,?_⟩,az λe h3 e3 U p _=>bK (kx F) U ?_⟩,az λe X e2 F p _=>bK kb F (pR (P F).B λu h3 U N=>bK (kx F) U ?_)⟩
  ·have z2:=F.1;have Q:=ah.trans F I.g;have z3:=I.g.1;refine pS (D:=λc=>o.size<=c) ((N.gr I.g).mo λc q=>q) (I.iS.mo λc (q:X.size<=c)=>by show o.size<=c;omega) (by show o.size<=h3.size;omega) λa h4 L O=>⟨lO (P (ah.trans Q L)).B λW E=>az λe h6 e6 g6 p _=>bK (kx (ah.trans (ah.trans Q L) E)) g6 ?_,az λe W e5 E p _=>bK (kx (ah.trans Q L)) E ?_⟩
   ·have z4:=L.1;have z5:=E.1;exact q5 (ah.trans (ah.trans (ah.trans Q L) E) g6) p ag (O.ic (ah.trans E g6) ag λc q=>q)
   ·have z4:=L.1;exact q4 (ah.trans (ah.trans Q L) E) p ag (O.ic E ag λc q=>q)
  ·have z2:=F.1;have z3:=I.g.1;have Q:=ah.trans F I.g;refine az λe h4 e4 L p _=>bK (kx Q) L (Z (ah.trans Q L) p ag (N.ic (ah.trans I.g L) ag λc q=>q) (I.iS.ic L ag λc (q:X.size<=c)=>by omega))
  ·have z2:=F.1;exact q2 (ah.trans F U) p ag (N.ic U ag λc q=>q)
  ·have z2:=F.1;exact q2 (ah.trans F U) (p.aj U) ag (N.mo λc (q:X.size<=c)=>⟨by omega,by have:=p.lt;omega⟩)
 rw[<-ed] at q;exact q
end
section
variable {f c:ai} {KM:List bD} {M:bD} {T A:Nat->Prop} {h h0 h':Hp} {r:Raw} {vs:List ak} {m:Option Mem} {g:bI} {w:Value} {Kp:PK}
theorem ahG (b':bp f) (x:f.k=17) (C:gw f.cs KM):qy f (bE f KM):=by
 intro T h v vs m K Kp hc H hk;obtain ⟨g,rfl,G⟩:=H;have KF:=C.mB;have e':=b'.right.1.2.2.2.2.2.2.2.2.1 x;have CL:=C.1;have ed:aU f.k=jw:=by unfold aU;rw[if_neg ag,if_neg ag,if_neg ag,if_neg ag,if_pos x]
 have es:∀rb:Rb,bC f.k rb=[]:=λrb=>by unfold bC;rw[if_neg ag,if_neg ag,if_neg ag,if_pos ag]
 have a':=KX G.ls (es _);have ef:f.dn (f.st vs)=.mk (f.st vs).b.rows 0 (f.st vs).b.bu [bZ (f.st vs).b] (fU f vs) []:=by rw[yo (.inr x),cQ];rfl
 rw[ef] at hk;have q:iP (.iface jw (.pointer (some ⟨g.b,0,none⟩))) h K Kp:=by
  refine aio (Jw.of (az λQ o e1 g1 k2 _ => ?_));simp only[kO];have z1:=g1.1;have R:∀{e:Hp},ah o e->bh f KM T e (f.st vs) m g:=λE=>G.fr (S:=No) KF (Tn.aT (ah.trans g1 E)) λ_ _ _=>id;have fin:∀{e:Hp} {d:Nat} {b:Sl},uh h e Q d (f.st vs).b.rows (f.st vs).b.bu b [bZ (f.st vs).b]->qo K Kp (some ⟨g.b,0,none⟩) ⟨Q,0,none⟩ ⟨d,0,none⟩ e:=by
   intro e d b B;refine qo.of ?_;refine bF ?_;obtain ⟨c2,J,O,e2⟩:=B.k2;have d':=O.lt;have c':=B.k3.lt;have Gh:=G.fr (S:=No) KF (Tn.aT B.g) λ_ _ _=>id;refine Gh.ou (i:=0) rfl (.inl x) (by simp[a']) (Wk G C (.inl x) ag hc B.g λt h' gr ds=>LB (t:=t) (O.aj gr) e2 (B.k3.aj gr) B.l.2.2 λP J => ?_)
   obtain ⟨ge,be⟩:=B.end gr J;have:=B.g.1;exact hk (b,t,Sl.nil) P ge ⟨be,bN.fr J (λc (q:e.size<=c) _ z=>by omega) (λc (q:e.size<=c) _ z=>by omega) (λc (q:e.size<=c)=>by show h.size<=c;omega) (λc (q:e.size<=c)=>by show h.size<=c;omega) _ ds,bN.nil _⟩
  have q5:=λ{e:Hp} {d:Nat} {b:Sl} (E:ah o e) (j:aB e d bS bG) (N:o.size<=d) (I:cY (Ex o d) (Ex o d) e b [bZ (f.st vs).b])=>BT (n:=(f.st vs).b.rows) (u:=(f.st vs).b.bu) g1 k2 rfl ag E j N I λh'=>fin;have q4:∀{e:Hp} {d:Nat} {b:Sl},ah o e->aB e d bS bG->o.size<=d->cY (Ex o d) (Ex o d) e b [bZ (f.st vs).b] ->
    dY (some ⟨g.b,0,none⟩) b e (λZ Y J X W V y=>bw y ⟨d,0,none⟩ Z Y J X W V (qo K Kp (some ⟨g.b,0,none⟩) ⟨Q,0,none⟩ ⟨d,0,none⟩)) Kp:=λE j N I=>lO (R E).B λy p=>q5 (ah.trans E p) (j.aj p) N (I.gr p)
  have q3:∀{e:Hp} {d:Nat} {u:Sl},ah o e->aB e d bS bG->o.size<=d->cV (Ex o d) e u (bv (bZ (f.st vs).b))->aD e #[Sl.v u] fH λa y =>
    dY (some ⟨g.b,0,none⟩) ⟨some a,1,1⟩ y (λZ Y J X W V y=>bw y ⟨d,0,none⟩ Z Y J X W V (qo K Kp (some ⟨g.b,0,none⟩) ⟨Q,0,none⟩ ⟨d,0,none⟩)) Kp :=
   λ{e d u} E j N L=>BQ L ⟨E.1,by have:=j.lt;omega⟩ λa y p _ I=>q4 (ah.trans E p) (j.aj p) N I
  refine ⟨pR (R (ah.refl _)).B λu P s L=>⟨BQ (D:=λc=>o.size<=c) (L.mo λc q=>q) s.1 λa h4 F e4 I=>⟨lO (R (ah.trans s F)).B λy p=>az λd h6 e6 g6 j _ => ?_,az λd y e5 p j _ => ?_⟩,az λd h4 e4 F j _ => ?_⟩,az λd P e2 s j _=>pR (R s).B λu h3 g3 L => ?_⟩
  ·have U:=s.1;have z4:=F.1;have z5:=p.1;exact q5 (ah.trans (ah.trans (ah.trans s F) p) g6) j ag (I.ic (ah.trans p g6) ag λc q=>q)
  ·have U:=s.1;have z4:=F.1;exact q4 (ah.trans (ah.trans s F) p) j ag (I.ic p ag λc q=>q)
  ·have U:=s.1;exact q3 (ah.trans s F) j ag (L.ic F ag λc q=>q)
  ·have U:=s.1;exact q3 (ah.trans s g3) (j.aj g3) ag (L.mo λc (q:P.size<=c)=>⟨by omega,by have:=j.lt;omega⟩)
 rw[<-ed] at q;exact q
theorem ahN (b':bp f) (y:f.k=18) (C:gw f.cs KM):qy f (bE f KM):=by
 intro T h v vs m K Kp hc H hk;obtain ⟨g,rfl,G⟩:=H;have KF:=C.mB;have g':=(b'.right.1.2.2.2.2.2.2.2.2.2.1 y).2;have CL:=C.1;have ed:aU f.k=kH:=by unfold aU;rw[if_neg ag,if_neg ag,if_neg ag,if_neg ag,if_neg ag,if_pos y]
 have es:∀rb:Rb,bC f.k rb=[(bv rb.all,Y8),(ints rb.ends,Y6)]:=λrb=>by unfold bC;rw[if_neg ag,if_neg ag,if_pos y]
 obtain ⟨s1,s0,N⟩:=xg G.ls (es _);obtain ⟨A1,c'⟩:∃A,g.ST[0]? = some A:=⟨_,List.getElem?_eq_getElem (by rw[G.ls.2,es];exact Nat.two_pos)⟩
 obtain ⟨A0,d'⟩:∃A,g.ST[1]? = some A:=⟨_,List.getElem?_eq_getElem (by rw[G.ls.2,es];exact Nat.one_lt_two)⟩
 have ef:f.dn (f.st vs)=.mk (f.st vs).b.rows 0 (f.st vs).b.bu [(f.st vs).b.all,laidB (f.st vs).b.ends 4] (fU f vs) []:=by rw[Om y,cQ];rfl
 rw[ef] at hk;have W:=(ai.eC f vs).1 hc;have al:(f.st vs).b.all.length<=70000:=by have:=W.n4;rw[cQ];simp only[aG];rw[if_neg ag,if_pos y,List.length_map];omega
 have el:(f.st vs).b.ends.length<=70000:=by have:=W.n4;rw[cQ];simp only[aG];rw[if_neg ag,if_neg ag,if_pos y,List.length_map,List.length_range];omega
 have eb:∀x∈(f.st vs).b.ends,x < 2 ^ 63:=by
  rw[cQ];simp only[aG];rw[if_neg ag,if_neg ag,if_pos y];intro x d;simp only[List.mem_map,List.mem_range] at d;obtain ⟨i,hi,rfl⟩:=d;have:=List.length_filter_le (λv=>decide (dM v=dM (vs.getD i v0))) (vs.take i);have:=W.n4;rw[List.length_take] at *;omega
 have q:iP (.iface kH (.pointer (some ⟨g.b,0,none⟩))) h K Kp:=by
  refine aiv (Js.of (az λa2 j e1 g1 k2 _ => ?_));refine bF ?_;have z1:=g1.1;have U:∀{d:Hp},ah j d->bh f KM T d (f.st vs) m g:=λp=>G.fr (S:=No) KF (Tn.aT (ah.trans g1 p)) λ_ _ _=>id;have kb:=(U (ah.refl _)).B.k;have o0:∀{d:Hp},ah j d->Os A0 d s0 (ints (f.st vs).b.ends) Y6:=λp=>(U p).sl 1 s0 A0 (ints (f.st vs).b.ends,Y6) (by simp[N]) d' (by rw[es];rfl)
  have o1:∀{d:Hp},ah j d->Os A1 d s1 (bv (f.st vs).b.all) Y8:=λp=>(U p).sl 0 s1 A1 (bv (f.st vs).b.all,Y8) (by simp[N]) c' (by rw[es];rfl)
  have fin:∀{d:Hp} {e:Nat} {b:Sl},uh h d a2 e (f.st vs).b.rows (f.st vs).b.bu b [(f.st vs).b.all,laidB (f.st vs).b.ends 4]->qn K Kp (some ⟨g.b,0,none⟩) ⟨a2,0,none⟩ ⟨e,0,none⟩ d:=by
   intro d e b B;refine qn.of ?_;refine bF ?_;obtain ⟨c2,Z,a',e2⟩:=B.k2;have f':=a'.lt;have e':=B.k3.lt;have Gh:=G.fr (S:=No) KF (Tn.aT B.g) λ_ _ _=>id;refine Gh.ou (i:=2) rfl (.inr y) (by simp[N]) (Wk G C (.inr y) ag hc B.g λt h' gr ds=>LB (t:=t) (a'.aj gr) e2 (B.k3.aj gr) B.l.2.2 λY Z => ?_)
   obtain ⟨ge,be⟩:=B.end gr Z;have:=B.g.1;exact hk (b,t,Sl.nil) Y ge ⟨be,bN.fr Z (λc (q:d.size<=c) _ z=>by omega) (λc (q:d.size<=c) _ z=>by omega) (λc (q:d.size<=c)=>by show h.size<=c;omega) (λc (q:d.size<=c)=>by show h.size<=c;omega) _ ds,bN.nil _⟩
  have q5:=λ{d:Hp} {e:Nat} {b:Sl} (p:ah j d) (o:aB d e bS bG) (V:j.size<=e) (R:cY (Ex j e) (Ex j e) d b [(f.st vs).b.all,laidB (f.st vs).b.ends 4])=>BT (n:=(f.st vs).b.rows) (u:=(f.st vs).b.bu) g1 k2 rfl ag p o V R λh'=>fin;have q4:∀{d:Hp} {e:Nat} {b:Sl},ah j d->aB d e bS bG->j.size<=e->cY (Ex j e) (Ex j e) d b [(f.st vs).b.all,laidB (f.st vs).b.ends 4] ->
    dY (some ⟨g.b,0,none⟩) b d (λt0 t1 Z t3 t4 t5 X=>bw X ⟨e,0,none⟩ t0 t1 Z t3 t4 t5 (qn K Kp (some ⟨g.b,0,none⟩) ⟨a2,0,none⟩ ⟨e,0,none⟩)) Kp:=λp o V R=>lO (U p).B λX E=>q5 (ah.trans p E) (o.aj E) V (R.gr E)
  have q3:=λ{d:Hp} {e:Nat} {u t:Sl} (p:ah j d) (o:aB d e bS bG) (V:j.size<=e) (O:cV (Ex j e) d u (bv ((f.st vs).b.all))) (vt:cV (Ex j e) d t (bv (laidB (f.st vs).b.ends 4))) =>
   pS O vt ⟨p.1,by have:=o.lt;omega⟩ λa X E R=>q4 (ah.trans p E) (o.aj E) V R
  have q2:=λ{d:Hp} {e:Nat} {u:Sl} (p:ah j d) (o:aB d e bS bG) (V:j.size<=e) (O:cV (Ex j e) d u (bv ((f.st vs).b.all))) =>
   qV (w:=4) (Kp:=Kp) (o0 p) el aL eb λt X J=>q3 (ah.trans p J.g) (o.aj J.g) V (O.gr J.g) (J.iS.mo λc (q:d.size<=c)=>⟨by have:=p.1;omega,by have:=o.lt;omega⟩)
  have P:=λ{d:Hp} (p:ah j d)=>(U p).B.k;refine (U (ah.refl _)).dL (i:=0) (s:=s1) rfl (by simp[N]) ((U (ah.refl _)).dL (i:=1) (s:=s0) rfl (by simp[N]) ⟨GG (o1 (ah.refl _)) al λu Y F O=>bK kb F ⟨qV (w:=4) (o0 F) el aL eb λt h3 J=>⟨?_,?_⟩,az λe h3 e3 Q o _=>bK (P F) Q (bK (P F) Q ?_)⟩,az λe Y e2 F o _=>bK kb F (bK kb F (GG (o1 F) al λu h3 Q O=>bK (P F) Q ?_))⟩)
  ·have z2:=F.1;have L:=ah.trans F J.g;have z3:=J.g.1;refine pS (D:=λc=>j.size<=c) ((O.gr J.g).mo λc q=>q) (J.iS.mo λc (q:Y.size<=c)=>by show j.size<=c;omega) (by show j.size<=h3.size;omega) λa h4 I R=>⟨lO (U (ah.trans L I)).B λX E=>az λe h6 e6 g6 o _=>bK (P (ah.trans (ah.trans L I) E)) g6 (bK (P (ah.trans (ah.trans L I) E)) g6 ?_),az λe X e5 E o _=>bK (P (ah.trans L I)) E (bK (P (ah.trans L I)) E ?_)⟩
   ·have z4:=I.1;have z5:=E.1;exact q5 (ah.trans (ah.trans (ah.trans L I) E) g6) o ag (R.ic (ah.trans E g6) ag λc q=>q)
   ·have z4:=I.1;exact q4 (ah.trans (ah.trans L I) E) o ag (R.ic E ag λc q=>q)
  ·have z2:=F.1;have z3:=J.g.1;have L:=ah.trans F J.g;refine az λe h4 e4 I o _=>bK (P L) I (bK (P L) I<|q3 (ah.trans L I) o ag (O.ic (ah.trans J.g I) ag λc q=>q) (J.iS.ic I ag λc (q:Y.size<=c)=>by omega))
  ·have z2:=F.1;exact q2 (ah.trans F Q) o ag (O.ic Q ag λc q=>q)
  ·have z2:=F.1;exact q2 (ah.trans F Q) (o.aj Q) ag (O.mo λc (q:Y.size<=c)=>⟨by omega,by have:=o.lt;omega⟩)
 rw[<-ed] at q;exact q
end
def jv (l:List Nat) (i:Nat):List UInt8:=(l.take i).zipIdx.foldl (λb x=>if x.1 % 2=1 then kX b x.2 else b) (List.replicate ((l.length+7) / 8) 0)
theorem V6 {l:List Nat} {i n:Nat} (a:l[i]? = some n):jv l (i+1)=if n % 2=1 then kX (jv l i) i else jv l i:=by
 have b:=(List.getElem?_eq_some_iff.1 a).1;have d:l.take (i+1)=l.take i++[n]:=by
  rw[List.take_succ_eq_append_getElem b];rw[List.getElem?_eq_getElem b] at a;cases a;rfl
 unfold jv;rw[d,List.zipIdx_append,List.foldl_append];simp only[List.zipIdx_cons,List.zipIdx_nil,List.foldl_cons,List.foldl_nil,List.length_take,Nat.zero_add,Nat.min_eq_left (Nat.le_of_lt b)]
theorem ajX (l:List Nat):jv l l.length=oM l:=by unfold jv oM;rw[List.take_length]
theorem OQ (l:List Nat):∀i,i<=l.length->(jv l i).length=(l.length+7) / 8
  | 0,_=>by simp[jv]
  | i+1,h=>by
    rw[V6 (List.getElem?_eq_getElem ag)];split
    · rw[xj];exact OQ l i ag
    · exact OQ l i ag
theorem ajR {l:List UInt8} {i:Nat} (h:i < l.length):(bv l)[i]? = some (.int .u8 ((l.getD i 0).toNat:Int)):=by
 unfold bv;rw[List.getElem?_map,List.getD_eq_getElem?_getD,List.getElem?_eq_getElem h];rfl
theorem VZ {l:List UInt8} {i:Nat} {y:UInt8}:(bv l).set i (.int .u8 (y.toNat:Int))=bv (l.set i y):=by simp only[bv,List.map_set]
section
variable {f c:ai} {T A:Nat->Prop} {h h0 h':Hp} {vs:List ak} {m:Option Mem} {g:bI} {Kp:PK}
theorem ajW {b a2:Nat} {s t:Sl} {bb:Nat} {l:List Nat} {K:Int->Int->Int->Sl->Sl->Sl->HP} (os:Os A h0 s (gF l) kI) (hb:∀x∈l,x<=1) (hl:l.length<=70000) (gr:ah h0 h) (o:dX h t bb (bv (jv l 0)) Y8) (lb:h0.size<=bb)
  (hk:∀h',ah h0 h'->dX h' t bb (bv (oM l)) Y8->rO K Kp (some ⟨b,0,none⟩) ⟨a2,0,none⟩ t h'):Ch K Kp (some ⟨b,0,none⟩) ⟨a2,0,none⟩ t s (s.n:Int) 0 h:=by
 have hn:=os.n;rw[gF,List.length_map] at hn;refine Ch.bB (λx h'=>∃i:Nat,x=i/\i<=l.length/\ah h0 h'/\dX h' t bb (bv (jv l i)) Y8) (λx _=>l.length - x.toNat) ⟨0,rfl,Nat.zero_le _,gr,o⟩ ?_;rintro x h1 ⟨i,rfl,hi,g1,o1⟩ N hN;refine aA (λcc => ?_) λcc => ?_
 ·have cc:=ay cc;have jP:i < l.length:=ag;have hx:l[i]? = some l[i]:=List.getElem?_eq_getElem jP;generalize l[i]=y at hx;have hy:=hb y (List.mem_of_getElem? hx);have bl:=OQ l i hi;have tn:t.n=(l.length+7) / 8:=by rw[o1.2.1,eL,bl]
  have hd:i / 8 < (jv l i).length:=ag;have sv:Sv h1 s (gF l):=(os.gr g1).sv;refine sv.ix ag ag (v:=.int .u64 (y:Int)) (by rw[Int.toNat_natCast,gF,List.getElem?_map,hx];rfl) λa ca=>⟨_,ca,mM aL ?_⟩
  have e1:Int.tdiv (i:Int) 8=((i / 8:Nat):Int):=rfl;have e2:Int.tmod (i:Int) 8=((i % 8:Nat):Int):=rfl;rw[e1];refine aP ag ag (o1.sR ag ag ?_);have ei:(((i / 8:Nat):Int)).toNat=i / 8:=Int.toNat_natCast _;refine o1.ld (i:=((i / 8:Nat):Int).toNat) (x:=(((jv l i).getD (i / 8) 0).toNat:Int)) (by rw[ei];omega) (by rw[ei];exact ajR hd) (lT rfl (by omega:y < 2 ^ 8) (mM aL ?_))
  rw[e2];refine yH (fY ag ?_);have em:min (Int.toNat ((i % 8:Nat):Int)) (IntKind.bits .u8)=i % 8:=by
   rw[Int.toNat_natCast];have:=Nat.mod_lt i (show 8 > 0 by decide);show min (i % 8) 8=_;omega
  rw[em];have hp:2 ^ (i % 8) < 2 ^ 8:=Nat.pow_lt_pow_right aL (Nat.mod_lt _ aL);have Uc:=((jv l i).getD (i / 8) 0).toNat_lt;have hle:y*2 ^ (i % 8) < 2 ^ 8:=by
   have:y=0\/y=1:=ag;rcases this with rfl | rfl
   ·simp
   ·rw[Nat.one_mul];exact hp
  have es:(y:Int)*2 ^ (i % 8)=((y*2 ^ (i % 8):Nat):Int):=by push_cast;rfl
  rw[es];refine lT rfl hle (yH ?_);rw[V5 _ _ Uc hle];refine o1.sR ag ag (o1.st (by rw[ei];omega) rfl λh2 w2 o2=>aP ag ag (hN _ _ ⟨i+1,by simp,by omega,aM.aj g1 w2 lb,?_⟩ ag))
  rw[V6 hx];rw[ei] at o2;have:y=0\/y=1:=ag;rcases this with rfl | rfl
  ·rw[if_neg aL];rw[Nat.zero_mul,Nat.or_zero,VZ] at o2;have e:(jv l i).set (i / 8) ((jv l i).getD (i / 8) 0)=jv l i:=by
    rw[List.getD_eq_getElem?_getD,List.getElem?_eq_getElem hd];exact List.set_getElem_self hd
   rwa [e] at o2
  ·rw[if_pos aL];rw[Nat.one_mul] at o2;have e:(((jv l i).getD (i / 8) 0).toNat ||| 2 ^ (i % 8))=(UInt8.ofNat (((jv l i).getD (i / 8) 0).toNat ||| 2 ^ (i % 8))).toNat:=by
    rw[UInt8.toNat_ofNat',Nat.mod_eq_of_lt (Nat.or_lt_two_pow Uc hp)]
   rw[e,VZ] at o2;exact o2
 ·have cc:=ay cc;have:i=l.length:=ag;subst this;rw[ajX] at o1;exact hk h1 g1 o1
theorem agQ (w:Nat) (l:List (List UInt8)) (t:List UInt8):ju w (l++[t])=ju w l++(if t=[] then List.replicate w 0 else t):=by simp[ju]
theorem agP {b a2 a4 w:Nat} {s t:Sl} {bb:Nat} {l:List (List UInt8)} {K:Int->Int->Int->Sl->Sl->Sl->HP} {c4:Array Value} {t4:TypeId} (os:Os A h0 s (strs l) lS) (hb:∀x∈l,x=[]\/x.length=w) (hl:l.length<=70000) (hw:1<=w/\w<=16) (gr:ah h0 h)
  (o:dX h t bb (bv (List.replicate (l.length*w) 0)) Y8) (lb:h0.size<=bb) (k4:aB h a4 c4 t4) (e4:c4[1]? = some (.int .i64 (w:Int))) (ne:a4≠bb) (hk:∀h',ah h0 h'->dX h' t bb (bv (ju w l)) Y8->rO K Kp (some ⟨b,0,none⟩) ⟨a2,0,none⟩ t h') :
  Cg K Kp (some ⟨b,0,none⟩) ⟨a2,0,none⟩ t ⟨a4,0,none⟩ s (s.n:Int) 0 h:=by
 have hn:=os.n;rw[strs,List.length_map] at hn;refine Cg.bB (λx h'=>∃i:Nat,x=i/\i<=l.length/\ah h0 h'/\aB h' a4 c4 t4/\dX h' t bb (bv (ju w (l.take i)++List.replicate ((l.length - i)*w) 0)) Y8) (λx _=>l.length - x.toNat) ⟨0,rfl,Nat.zero_le _,gr,k4,by simpa[ju] using o⟩ ?_
 rintro x h1 ⟨i,rfl,hi,g1,k4,o1⟩ N hN;have fl:(ju w (l.take i)).length=i*w:=by rw[FK λx hx=>hb x (List.mem_of_mem_take hx),List.length_take,Nat.min_eq_left hi]
 refine aA (λcc => ?_) λcc => ?_
 ·have cc:=ay cc;have jP:i < l.length:=ag;have hx:l[i]? = some l[i]:=List.getElem?_eq_getElem jP;have sS:l.take (i+1)=l.take i++[l[i]]:=List.take_succ_eq_append_getElem jP;generalize l[i]=y at hx sS;have hy:=hb y (List.mem_of_getElem? hx);have hyl:y.length<=w:=by rcases hy with rfl | e;simp;omega
  have sv:Sv h1 s (strs l):=(os.gr g1).sv;have tn:t.n=l.length*w:=by
   have:=o1.2.1;rw[eL,List.length_append,fl,List.length_replicate,<-Nat.add_mul] at this;rw[this];congr 1;omega
  obtain ⟨q1,q2,cs,q3,q4,q5,q6⟩:=o1;have hm1:i*w+w<=l.length*w:=by rw[<-Nat.succ_mul];exact Nat.mul_le_mul_right _ jP
  have Bo:l.length*w<=70000*16:=Nat.mul_le_mul hl hw.2;have em:(i:Int)*(w:Int)=((i*w:Nat):Int):=by push_cast;rfl
  refine sv.ix ag ag (v:=.string (bs y)) (by rw[Int.toNat_natCast,strs,List.getElem?_map,hx];rfl) λa ca=>⟨_,ca,?_⟩
  simp only[aI,Nat.zero_add];refine an k4 e4 ?_;rw[em];refine aP ag ag ⟨by simp only[Option.getD_some];omega,by simp only[Option.getD_some,Option.getD_none];omega,by simp only[Option.getD_none];omega,Int.le_refl _,?_⟩
  simp only[Option.getD_some,Option.getD_none,Int.toNat_natCast];have ea:jH t.a (i*w) t.c 1=some ⟨bb,i*w,none⟩:=by
   unfold jH;rw[if_neg ag,q1,Option.map_some,aI];simp
  rw[ea];have ex:((bs y).extract 0 (Nat.min (bs y).size (t.n - i*w))).data.toList.map (λb=>Value.int .u8 b.toNat)=bv y:=by
   have:Nat.min (bs y).size (t.n - i*w)=y.length:=by rw[fG,tn];show min _ _=_;omega
   rw[this];have e2:(bs y).extract 0 y.length=bs y:=by
    have:y.length=(bs y).size:=by rw[fG]
    rw[this,ByteArray.extract_zero_size]
   rw[e2];rfl
  refine ⟨bv y,ex.symm,rL (bv y) q3 (by rw[eL];omega) (λv hv=>by simp only[bv,List.mem_map] at hv;obtain ⟨z,_,rfl⟩:=hv;rfl) λh2 F7 w2 k2 s2 c2=>aP ag ag (hN _ _ ⟨i+1,by simp,by omega,aM.aj g1 w2 lb,w2.aK k4 ne,q1,?_,F7,k2,q4,by rw[s2,q5],λj hj => ?_⟩ ag)⟩
  ·have:(ju w (l.take (i+1))).length=(i+1)*w:=by rw[FK λx hx=>hb x (List.mem_of_mem_take hx),List.length_take,Nat.min_eq_left ag]
   rw[eL,List.length_append,this,List.length_replicate,<-Nat.add_mul,tn];congr 1;omega
  ·rw[c2 j,q6 j hj,sS,agQ,eL];have er:(List.replicate ((l.length - i)*w) (0:UInt8))=List.replicate w 0++List.replicate ((l.length - (i+1))*w) 0:=by
    rw[List.replicate_append_replicate];congr 1;rw[show l.length - i=(l.length - (i+1))+1 by omega,Nat.succ_mul,Nat.add_comm]
   by_cases ey:y=[]
   ·subst ey;rw[if_neg (by rintro ⟨q1,q2⟩;simp at q2;omega),if_pos rfl,er,List.append_assoc]
   ·have TH:y.length=w:=hy.resolve_left ey;rw[if_neg ey,er];simp only[Nat.add_zero,TH];unfold bv
    by_cases hj1:j < i*w
    ·rw[if_neg ag,List.getElem?_map,List.getElem?_map,List.append_assoc,List.getElem?_append_left ag,List.getElem?_append_left ag]
    ·by_cases hj2:j < i*w+w
     ·rw[if_pos ag,List.getElem?_map,List.getElem?_map,List.append_assoc,List.getElem?_append_right ag,List.getElem?_append_left ag,fl]
     ·rw[if_neg ag,List.getElem?_map,List.getElem?_map,List.append_assoc,List.getElem?_append_right ag,List.getElem?_append_right (by rw[List.length_replicate];omega),List.getElem?_append_right ag,List.getElem?_append_right ag,List.length_replicate,TH]
 ·have cc:=ay cc;have:i=l.length:=ag;subst this;rw[List.take_length,Nat.sub_self,Nat.zero_mul,List.replicate_zero,List.append_nil] at o1;exact hk h1 g1 o1
end
section
variable {f c:ai} {T A:Nat->Prop} {h h0 h' hx:Hp} {r:Raw} {vs:List ak} {m:Option Mem} {mm:Mem} {g:bI} {Kp:PK}
theorem LD {K:Int->Int->Int->Sl->Sl->Sl->HP} {n:Nat} {Z:Array Value} {z:TypeId} {t:Sl} {out:List UInt8} (G:bh f [] T h r m g) (gr:ah h hx) (l:aB hx n Z z) (J:Z.size=6) (C:h.size<=n) (y:cV (λc=>h.size<=c/\c≠n) hx t (bv out))
  (F:∀p h',ah h h'->c7 (Nw h) (Nw h) h' p (.mk r.b.rows 0 r.b.bu [bZ r.b,out] [] [])->K r.b.rows 0 r.b.bu p.1 p.2.1 p.2.2 h'):rO K Kp (some ⟨g.b,0,none⟩) ⟨n,0,none⟩ t hx:=by
 have w:∀{o:Hp},ah h o->iQ g.T0 o g.b (eM f.k) f g.sf g.sn g.sb r.b (dB f.k g.SS g.kv g.ks g.sp):=λI=>G.B.fr (S:=No) (Tn.aT I) id λ_ _ _=>id;have M:=l.lt;have O:=gr.1;refine rO.of ?_;simp only[kO];refine pR (w gr) λu R d x => ?_;have N:=d.1;refine pS (D:=λc=>h.size<=c/\c≠n) (x.mo λc (q:hx.size<=c)=>⟨by omega,by omega⟩) (y.gr d) ⟨by omega,by omega⟩ λa Q s L => ?_
 have v:=ah.trans gr (ah.trans d s);refine lO (w v) λP i=>bw.b (((l.aj d).aj s).aj i) J λH j E=>bq.b E (F (_,Sl.nil,Sl.nil) H (aM.aj (ah.trans v i) j C) ⟨(L.gr i).fr j.fr (λc q _ e=>q.2 e) (λc q _ e=>q.2 e) (λc q=>q.1) λc q=>q.1,bN.nil _,bN.nil _⟩)
theorem ahJ (f':bp f) (hp:dU f.k=true):qy f (bE f []):=by
 intro T h v vs m K Kp hc H M;obtain ⟨g,rfl,G⟩:=H;obtain ⟨k1,n',m',e',d',c',X,b',a'⟩:=sH hp;have ed:aU f.k=kF:=by unfold aU;rw[if_neg k1,if_neg ag,if_neg e',if_neg d',if_neg c',if_neg X,if_neg b',if_neg a']
 have V:∀Y:Rb,bC f.k Y=[(gF Y.cm,kI),(strs Y.texts,lS)]:=λY=>by unfold bC;rw[if_neg ag,if_neg ag,if_neg X,if_neg ag]
 obtain ⟨J,O,j⟩:=xg G.ls (V _);obtain ⟨A0,j'⟩:∃A,g.ST[0]? = some A:=⟨_,List.getElem?_eq_getElem (by rw[G.ls.2,V];exact Nat.two_pos)⟩
 obtain ⟨A1,i'⟩:∃A,g.ST[1]? = some A:=⟨_,List.getElem?_eq_getElem (by rw[G.ls.2,V];exact Nat.one_lt_two)⟩
 have F:=(ai.eC f vs).1 hc;have n4:=F.n4;have jr:=f'.right.1;have N:(f.st vs).b.cm=vs.map λv=>(v.num % 2 ^ 64).toNat:=by rw[cQ];simp only[aG,hp,if_true]
 have et:(f.st vs).b.texts=vs.map ak.text:=by rw[cQ];simp only[aG,hp,if_true]
 have q:iP (.iface kF (.pointer (some ⟨g.b,0,none⟩))) h K Kp:=by
  refine air (Ji.of (az λa2 h1 e1 g1 L _ => ?_));refine bF ?_;have z1:=g1.1;have l':=L.lt;have u:∀{hx:Hp},ah h hx->bh f [] T hx (f.st vs) m g:=λU=>G.fr (S:=No) lV (Tn.aT U) λ_ _ _=>id;have o0:∀{hx:Hp},ah h hx->Os A0 hx J (gF (f.st vs).b.cm) kI:=λU=>(u U).sl 0 J A0 (gF (f.st vs).b.cm,kI) (by simp[j]) j' (by rw[V];rfl)
  have o1:∀{hx:Hp},ah h hx->Os A1 hx O (strs (f.st vs).b.texts) lS:=λU=>(u U).sl 1 O A1 (strs (f.st vs).b.texts,lS) (by simp[j]) i' (by rw[V];rfl)
  refine dH.c (BV.F7 (u g1).B.k) (az λa4 h2 e2 g2 C _=>jz.b C rfl λy w3 C=>an C rfl ?_);have z2:=g2.1;have k':=C.lt;have I:ah h1 y:=aM.aj g2 w3 ag;have z3:=I.1;have l:=ah.trans g1 I;have L:=L.aj I;refine aA (λE => ?_) λE => ?_
  ·have E:=ay E;have W:f.dn (f.st vs)=.mk (f.st vs).b.rows 0 (f.st vs).b.bu [bZ (f.st vs).b,oM (f.st vs).b.cm] [] []:=by rw[ym E,cQ];rfl
   rw[W] at M;have n0:=(o0 l).n;rw[gF,List.length_map,N,List.length_map] at n0;refine (u l).dL (i:=0) (s:=J) rfl (by simp[j]) (aP ag ag (mM aL ?_))
   have e1:Int.tdiv ((J.n:Int)+7) 8=(((vs.length+7) / 8:Nat):Int):=by rw[n0];rfl
   rw[e1];refine aP ag ag (Pz ag ag ag λt h4 z P _ => ?_);have z4:=z.1;have G4:=ah.trans l z;refine (u G4).dL (i:=0) (s:=J) rfl (by simp[j]) (ajW (h0:=y) (o0 l) (λx hx => ?_) (by rw[N,List.length_map];omega) z ?_ (Nat.le_refl _) λh' D Q => ?_)
   ·rw[N,List.mem_map] at hx;obtain ⟨v,Z,rfl⟩:=hx;have d:=F.fit v Z;rw[ai.c9] at d;unfold dr at d;simp only[Bool.and_eq_true] at d;have q:=d.2
    by_cases o:v.aq=true
    ·rw[if_pos o] at q;simp only[Bool.and_eq_true,decide_eq_true_eq] at q;have:=q.1.1.1;omega
    ·rw[if_neg o,if_neg ag,if_neg ag,if_neg ag,if_neg ag,if_neg ag,if_neg ag,if_pos E] at q;simp only[Bool.and_eq_true,decide_eq_true_eq] at q;have:=q.2.2;omega
   ·rw[Int.toNat_natCast] at P;unfold jv;rw[List.take_zero];simp only[List.zipIdx_nil,List.foldl_nil,N,List.length_map,bv,List.map_replicate];exact P
   ·have z5:=D.1;exact LD G (ah.trans l D) (L.aj D) rfl ag ⟨Q.sv,λ_ a R=>by rw[Q.1] at R;cases R;exact ⟨by show h.size<=y.size;omega,by show y.size≠a2;omega⟩⟩ M
  ·have E:=ay E;refine aA (λp => ?_) λp => ?_
   ·have p:=ay p;have hw:=jr.2.2.1 p;have W:f.dn (f.st vs)=.mk (f.st vs).b.rows 0 (f.st vs).b.bu [bZ (f.st vs).b,ju f.w.toNat (f.st vs).b.texts] [] []:=by rw[yp p,cQ];rfl
    rw[W] at M;have n1:=(o1 l).n;rw[strs,List.length_map,et,List.length_map] at n1;refine (u l).dL (i:=1) (s:=O) rfl (by simp[j]) (an C rfl ?_)
    have hm:vs.length*f.w.toNat<=4096*16:=Nat.mul_le_mul n4 ag;have em:(O.n:Int)*f.w=((vs.length*f.w.toNat:Nat):Int):=by rw[n1];push_cast;rw[Int.toNat_of_nonneg ag]
    rw[em];refine aP ag ag (Pz ag ag ag λt h4 z P _ => ?_);have z4:=z.1;have G4:=ah.trans l z;refine (u G4).dL (i:=1) (s:=O) rfl (by simp[j]) (agP (h0:=y) (w:=f.w.toNat) (o1 l) (λx hx => ?_) (by rw[et,List.length_map];omega) ⟨by omega,by omega⟩ z ?_ (Nat.le_refl _) (C.aj z) ?_ ag λh' D Q => ?_)
    ·rw[et,List.mem_map] at hx;obtain ⟨v,Z,rfl⟩:=hx;have d:=F.fit v Z;rw[ai.c9] at d;unfold dr at d;simp only[Bool.and_eq_true] at d;have q:=d.2
     by_cases o:v.aq=true
     ·rw[if_pos o] at q;simp only[Bool.and_eq_true,decide_eq_true_eq] at q;exact .inl (List.length_eq_zero_iff.1 q.1.1.2)
     ·rw[if_neg o,if_neg ag,if_neg ag,if_neg ag,if_neg ag,if_neg ag,if_pos (.inr (.inr p))] at q;simp only[Bool.and_eq_true,Bool.or_eq_true,decide_eq_true_eq] at q;exact .inr (q.2.2.2.resolve_left λe=>e p)
    ·rw[Int.toNat_natCast] at P;simp only[et,List.length_map,bv,List.map_replicate];exact P
    ·rw[Int.toNat_of_nonneg ag];rfl
    ·have z5:=D.1;exact LD G (ah.trans l D) (L.aj D) rfl ag ⟨Q.sv,λ_ a R=>by rw[Q.1] at R;cases R;exact ⟨by show h.size<=y.size;omega,by show y.size≠a2;omega⟩⟩ M
   ·have p:=ay p;have hf:3<=f.k/\f.k<=11:=by have:=jr.1;have:=jr.2.1;omega
    have W:f.dn (f.st vs)=.mk (f.st vs).b.rows 0 (f.st vs).b.bu [bZ (f.st vs).b,laidB (f.st vs).b.cm (wB f.k)] [] []:=by rw[vr hf,cQ];rfl
    rw[W] at M;refine (u l).dL (i:=0) (s:=J) rfl (by simp[j]) (an C rfl (ajN (bK (u l).B.k (ah.refl _) (aer (w:=wB f.k) (o0 l) (by rw[N,List.length_map];omega) (by unfold wB;split;decide;split;decide;split <;> decide) (λx hx => ?_) λt h4 gb => ?_))))
    ·rw[N,List.mem_map] at hx;obtain ⟨v,Z,rfl⟩:=hx;omega
    ·have z4:=gb.g.1;exact LD G (ah.trans l gb.g) (L.aj gb.g) rfl ag (gb.iS.mo λc (q:y.size<=c)=>⟨by omega,by omega⟩) M
 rw[<-ed] at q;exact q
theorem U6 {α:Type} {a b:List α} (p:a <+: b):b.take a.length=a:=(List.prefix_iff_eq_take.1 p).symm
theorem akc {K:HP} (hp:dU f.k=true) (e':f.cs=[]) (G:bh f [] T h r (some mm) g) (hk:∀h',Tn T h h'->bE f [] T h' (.iface (aU f.k) (.pointer (some ⟨g.b,0,none⟩))) mm.r (some mm)->K h') :
  bJ Tryz.prog mm.F [] h (λr h1=>r=.tuple #[]/\K h1) Kp:=by
 obtain ⟨p,k',j',H,d',c',o,E,D⟩:=sH hp;have KF:=lV;obtain ⟨⟨F0,i',bm,c1,c2,c3,c4⟩,y,ks⟩:=G.mm mm rfl;obtain ⟨x,eF,mc⟩:=c4 p;have f':fF f.k g.b F0 i' mm=[#[F0],#[.pointer (some ⟨g.b,0,none⟩)],pI mm.r.b.cm.length]:=by unfold fF;simp only;rw[if_neg ag,if_neg H,if_neg ag,if_neg o,if_neg E,if_neg D]
 rw[f'] at mc;obtain ⟨a0,t0,L,r0,k0⟩:=mc.2 0 _ rfl;obtain ⟨a1,t1,e1,r1,S⟩:=mc.2 1 _ rfl;obtain ⟨a2,t2,I,r2,z⟩:=mc.2 2 _ rfl;have ec:x=[.pointer (some ⟨a0,0,none⟩), .pointer (some ⟨a1,0,none⟩), .pointer (some ⟨a2,0,none⟩)]:=by
  match x,mc.1,L,e1,I with
  | [u,v,w],_,L,e1,I=>simp at L e1 I;subst L e1 I;rfl
 have g':dG f.k=zp:=by unfold dG;rw[if_neg ag,if_neg H,if_neg d',if_neg c',if_neg o,if_neg E,if_neg D]
 have l:∀V:Rb,bC f.k V=[(gF V.cm,kI),(strs V.texts,lS)]:=λV=>by unfold bC;rw[if_neg ag,if_neg ag,if_neg o,if_neg ag]
 have W:∀a b:Rb,cz f.k a b↔b.cm <+: a.cm/\b.texts <+: a.texts/\b.cm.length=b.texts.length:=λa b=>by unfold cz;rw[if_neg ag,if_neg H,if_neg E,if_neg o,if_neg ag,if_neg D]
 rw[W] at y;obtain ⟨s0,s1,d⟩:=xg G.ls (l _);obtain ⟨Y,X,j⟩:∃Y X,g.ST=[Y,X]:=by
  have:=G.ls.2;rw[l] at this
  match hg:g.ST,this with
  | [a,b],_=>exact ⟨a,b,rfl⟩
 rw[eF,ec,g'];have hS:∀c,(c=g.b\/g.T0 c)->c < h.size->c=g.b\/g.T0 c:=λc q _=>q;have U:∀c,g.R c->c < h.size->¬(c=g.b\/g.T0 c):=G.av g.dz hS g.cU ag;have nR:∀{c:Nat},g.R c->c≠g.b:=λq e=>G.t.gI g.cU (e ▸ q);refine ajr (Jf.of (an k0 rfl ?_))
 show bJ Tryz.prog F0 [] h _ _
 refine rH G KF bm λh1 Z C => ?_;have p:=Z.aK S (U _ r1 S.lt);have z:=Z.aK z (U _ r2 z.lt);have o0:=C.sl 0 s0 Y (gF r.b.cm,kI) (by simp[d]) (by simp[j]) (by rw[l];rfl)
 have o1:=C.sl 1 s1 X (strs r.b.texts,lS) (by simp[d]) (by simp[j]) (by rw[l];rfl)
 have n0:=o0.n;have n1:=o1.n;have p0:=y.1.length_le;have p1:=y.2.1.length_le;simp only[gF,List.length_map] at n0;simp only[strs,List.length_map] at n1;refine an p rfl (an p rfl (an p rfl ?_));refine bF ?_;refine C.dL (i:=0) (s:=s0) rfl (by simp[d]) (an z rfl (o0.cut (n:=mm.r.b.cm.length) ag rfl λN L P=>an p rfl ?_))
 refine bF ?_;refine C.dL (i:=1) (s:=s1) rfl (by simp[d]) (an z rfl (o1.cut (n:=mm.r.b.cm.length) ag rfl λM e1 O => ?_))
 have q0:(gF r.b.cm).take mm.r.b.cm.length=gF mm.r.b.cm:=by unfold gF;rw[<-List.map_take,U6 y.1]
 have q1:(strs r.b.texts).take mm.r.b.cm.length=strs mm.r.b.texts:=by unfold strs;rw[<-List.map_take,y.2.2,U6 y.2.1]
 rw[q0] at P;rw[q1] at O;refine C.pg (i:=0) (s:=s0) (s':=N) (by simp[d]) C.B.k λh2 J b' => ?_
 have G2:=C.qG (i:=0) (s':=N) (A:=Y) (x':=(gF mm.r.b.cm,kI)) (r':=(r.mb mm.r).up λb=>{ b with cm:=mm.r.b.cm }) KF (by simp[j]) P J b' ⟨rfl,rfl,rfl,rfl⟩ (by rw[l,l];rfl) rfl rfl λQ e q=>by rw[W] at q ⊢;cases e;exact ⟨List.prefix_refl _,q.2⟩
 refine iY z (J.aK z (nR r2)) (iY p (J.aK p (nR r1)) (G2.pg (i:=1) (s:=s1) (s':=M) (by simp[d]) G2.B.k λh3 w3 a' => ?_))
 have G3:=G2.qG (i:=1) (s':=M) (A:=X) (x':=(strs mm.r.b.texts,lS)) (r':=(r.mb mm.r).up λb=>{ b with cm:=mm.r.b.cm,texts:=mm.r.b.texts }) KF (by simp[j]) (O.fr J.fr λc q _ e=>G.t.gI (g.gT (i:=1) (by simp[j])) (e ▸ q)) w3 a' ⟨rfl,rfl,rfl,rfl⟩ (by rw[l,l];rfl) rfl rfl λQ e q=>by rw[W] at q ⊢;cases e;exact ⟨q.1,List.prefix_refl _,q.2.2⟩
 refine hk h3 ?_ ⟨_,by rfl,G3.conv (r':=mm.r) ⟨rfl,rfl,rfl,rfl⟩ (by rw[l,l];rfl) ?_ (λq=>by omega) λQ e q => ?_⟩
 ·exact ((Z.mono λc q _=>q.elim (λe=>e ▸ G.t.tb) λq=>G.jO g.dz q).trans (J.fr.mono λc q _=>q ▸ G.t.tb)).trans (w3.fr.mono λc q _=>q ▸ G.t.tb)
 ·have e1:mm.r.kids=[]:=by
   rw[ks.1];have:=ks.2;rw[e'] at this;rw[List.length_eq_zero_iff.1 this];rfl
  have I:r.kids=[]:=List.length_eq_zero_iff.1 G.lk.2.2;rw[e1];exact I.symm
 ·cases e;rw[W];exact ⟨List.prefix_refl _,List.prefix_refl _,y.2.2⟩
end
theorem Fk (v:ak):v.items.length*16<=bg v.items:=by
 have:∀l:List ak,l.length*16<=bg l:=by
  intro l
  induction l with
  | nil=>simp[bg]
  | cons z l a=>have:=gO z;simp only[bg,List.length_cons];omega
 exact this _
def Pf (v:ak):Prop:=∀{D:Nat->Prop} {h:Hp} {s:Sl} {K:Int->HP} {Kp:PK},au D h s v.items->v.aV<=2 ^ 50->(∀h',ah h h'->K (v.aV:Int) h')->uc v.aq v.num (bs v.text) s h K Kp
theorem YJ {v:ak} (J:∀x∈v.items,Pf x):Pf v:=by
 intro D h s K Z p Q A;have m:=gO v;have O:=Fk v;have R:=p.n;refine uc.of (az λY V e1 G o _ => ?_);simp only[aI,Nat.zero_add];refine an o rfl (aP (by rw[fG];omega) (by rw[fG];omega) (an o rfl ?_))
 rw[fG];refine HH.bB (λy x C=>∃i:Nat,x=i/\i<=v.items.length/\y=((16+v.text.length+bg (v.items.take i):Nat):Int)/\ah h C) (λ_ x _=>v.items.length - x.toNat) ⟨0,rfl,Nat.zero_le _,by simp[bg],G⟩ ?_
 rintro y x q ⟨i,rfl,S,rfl,j⟩ N hN;refine aA (λe => ?_) λe => ?_
 ·have e:=ay e;have g:i < v.items.length:=ag;have l:v.items[i]? = some v.items[i]:=List.getElem?_eq_getElem g;have f:v.items.take (i+1)=v.items.take i++[v.items[i]]:=List.take_succ_eq_append_getElem g;generalize v.items[i]=z at l f;have d:=List.mem_of_getElem? l;have L:=nh d;have M:bg (v.items.take (i+1))<=bg v.items:=by
   have:=lZ (v.items.take (i+1)) (v.items.drop (i+1));rw[List.take_append_drop] at this;omega
  have H:bg (v.items.take (i+1))=bg (v.items.take i)+z.aV:=by rw[f,lZ];simp[bg]
  refine (au.gr p j).ix rfl l λa u I w=>aQ.c I (az λX U W F k _=>bV.b k rfl λB t k=>aQ.b k ?_);have P:=j.1;have r:ah q B:=aM.aj F t ag;refine J z d (au.gr w r) ag λT E=>aP ag ag (aP ag ag (hN _ _ _ ⟨i+1,by simp,by omega,?_,ah.trans j (ah.trans r E)⟩ ag))
  rw[H];push_cast;omega
 ·have e:=ay e;have:i=v.items.length:=ag;subst this;rw[List.take_length,<-m];exact A q j
theorem Ej:∀v:ak,Pf v
 | .mk a b c items=>YJ (v:=.mk a b c items) λx (_:x∈items)=>Ej x
def Pr (x:ak):Prop:=∀{y:ak} {D E:Nat->Prop} {h:Hp} {s t:Sl} {K:Bool->HP} {Kp:PK},au D h s x.items->au E h t y.items->x.aV<=2 ^ 50->(∀b h',ah h h'->(b=true↔x=y)->K b h') ->
 wL x.aq x.num (bs x.text) s y.aq y.num (bs y.text) t h K Kp
theorem YT {x Y:ak}:x=Y↔x.aq=Y.aq/\x.num=Y.num/\x.text=Y.text/\x.items=Y.items:=by
 cases x;cases Y;simp[ak.aq,ak.num,ak.text,ak.items]
theorem abo {x:ak} (IH:∀z∈x.items,Pr z):Pr x:=by
 intro y D E h s t K V O M hw P;have b':=gO x;have c':=Fk x;have Z:=O.n;have hm:=M.n;refine wL.of (az λU h1 e1 g1 d _=>az λT I e2 S k _ => ?_);have d:=d.aj S;have G:=ah.trans g1 S;have A:∀{B:Hp},ah h B->x≠y->K false B:=λg ne=>P false _ g ⟨λe=>(by cases e),λe=>absurd e ne⟩
 have L:x≠y->v7 K V ⟨U,0,none⟩ ⟨T,0,none⟩ true I:=λne=>v7.of (bx rfl (A G ne));have W:x≠y->wg K V ⟨U,0,none⟩ ⟨T,0,none⟩ true I:=λne=>wg.of (bx rfl (L ne));refine an d rfl (an k rfl (aA (λc => ?_) λc => ?_))
 ·exact W λe=>by subst e;simp at c
 have c1:x.aq=y.aq:=by simpa using c
 simp only[aI,Nat.zero_add];refine an d rfl (an k rfl (wg.of (aA (λc => ?_) λc => ?_)))
 ·exact L λe=>by subst e;simp at c
 have c2:x.num=y.num:=by simpa using c
 simp only[aI,Nat.zero_add];refine an d rfl (an k rfl ?_);rw[BS];refine v7.of (aA (λc=>A G λe=>by subst e;simp at c) λc => ?_)
 have c3:x.text=y.text:=by simpa using c
 simp only[aI,Nat.zero_add];refine an d rfl (an k rfl (aA (λJ=>A G λe => ?_) λc => ?_))
 ·have J:=ay J;rw[e] at Z;exact J ag
 have c:=ay c;have c4:x.items.length=y.items.length:=ag;refine Ip.of ?_;simp only[aI,Nat.zero_add];refine an d rfl (Hf.bB (λz B=>∃i:Nat,z=i/\i<=x.items.length/\ah I B/\x.items.take i=y.items.take i) (λz _=>x.items.length - z.toNat) ⟨0,rfl,Nat.zero_le _,ah.refl _,rfl⟩ ?_);rintro z h3 ⟨i,rfl,hi,C,v⟩ N hN;have H:=ah.trans G C;refine aA (λl => ?_) λl => ?_
 ·have l:=ay l;have r:i < x.items.length:=ag;have a:x.items[i]? = some x.items[i]:=List.getElem?_eq_getElem r;have j:y.items[i]? = some y.items[i]:=List.getElem?_eq_getElem ag;have o:x.items.take (i+1)=x.items.take i++[x.items[i]]:=List.take_succ_eq_append_getElem r;have m:y.items.take (i+1)=y.items.take i++[y.items[i]]:=List.take_succ_eq_append_getElem ag;generalize x.items[i]=u at a o;generalize y.items[i]=w at j m;have f:=List.mem_of_getElem? a;have a':=nh f;simp only[aI,Nat.zero_add];refine an (d.aj C) rfl ((au.gr O H).ix rfl a λp p' cp Y=>aQ.c cp (an (k.aj C) rfl ((au.gr M H).ix rfl j λq q' cq X=>aQ.c cq (IH u f Y X ag λb h4 R Q=>aA (λF => ?_) λF => ?_))))
  ·refine A (ah.trans H R) λe => ?_;have:u=w:=by rw[e,j] at a;cases a;rfl
   rw[Q.2 this] at F;cases F
  ·have:u=w:=Q.1 (by simpa using F)
   exact aP ag ag (hN _ _ ⟨i+1,by simp,by omega,ah.trans C R,by rw[o,m,v,this]⟩ ag)
 ·have l:=ay l;have:i=x.items.length:=ag;subst this;refine P true h3 H ⟨λ_=>YT.2 ⟨c1,c2,c3,?_⟩,λ_=>rfl⟩
  rwa [List.take_length,c4,List.take_length] at v
theorem K8:∀x:ak,Pr x
 | .mk a b c items=>abo (x:=.mk a b c items) λx (_:x∈items)=>K8 x
def Pg (v:ak):Prop:=∀{D:Nat->Prop} {h:Hp} {s:Sl} {K:Bool->Int->ByteArray->Sl->HP} {Kp:PK},au D h s v.items->v.aV<=2 ^ 40->(∀t h',ah h h'->au (Nw h) h' t v.items->K v.aq v.num (bs v.text) t h')->qt v.aq v.num (bs v.text) s h K Kp
theorem acO {v:ak} (IH:∀x∈v.items,Pg x):Pg v:=by
 intro D h s K Kp hv hw hk;have i':=gO v;have j':=Fk v;have hn:=hv.n;refine qt.of (az λa1 h1 e1 g1 F _=>az λa2 g e2 X k2 _ => ?_);have F:=F.aj X;have G:=ah.trans g1 X;have s1:=g1.1;have s2:=X.1;have f':=F.lt;have e':=k2.lt;simp only[aI,Nat.zero_add];refine an F rfl (Hi.bB (λl x V=>∃(i:Nat) (E:List Sl),x=i/\i<=v.items.length/\E.length=i/\ah g V/\cN g.size 4 V l (List.zipWith ak.row (v.items.take i) E) bW /\
   ∀(j:Nat) (z:ak) (t:Sl),v.items[j]? = some z->E[j]? = some t->au (λb=>g.size<=b/\¬l.at b) V t z.items)
  (λ_ x _=>v.items.length - x.toNat) ⟨0,[],rfl,Nat.zero_le _,rfl,ah.refl _,cN.nil _ _ _ _,by simp⟩ ?_)
 rintro l x J ⟨i,E,rfl,hi,k,C,A,hu⟩ N hN;have on:=A.n;rw[List.length_zipWith,List.length_take] at on;have s3:=C.1;refine aA (λL => ?_) λL => ?_
 ·have L:=ay L;have c':i < v.items.length:=ag;have I:v.items[i]? = some v.items[i]:=List.getElem?_eq_getElem c';generalize v.items[i]=z at I;have m:=List.mem_of_getElem? I;have g':=nh m;refine (au.gr hv (ah.trans G C)).ix rfl I λa u cx hz=>aQ.c cx (az λa5 h4 e4 g4 T _=>bV.b T rfl λB P T=>aQ.b T ?_);have W:ah J B:=aM.aj g4 P ag;have s5:=W.1;refine IH z m (au.gr hz W) ag λt h6 g6 R=>az λk' Q e7 g7 a' _ => ?_;have M:ah J Q:=ah.trans W (ah.trans g6 g7);have s7:=M.1;refine (A.aj M).ap ag rfl (new:=[z.row t]) rfl (λr H=>by simp at H;subst H;rfl) (λr H=>by simp at H;subst H;exact wY z t) (by simpa[ak.row,qD] using iB a' rfl) ag ag λs' h8 Y d' o8=>aP ag ag (hN _ _ _ ⟨i+1,E++[t],by simp,by omega,by simp[k],?_,?_,?_⟩ ag)
  ·exact (((Tn.aT (ah.trans C M):Tn No g Q)).trans' Y λb hd b'=>by have:=((A.aj M).at hd).1;omega).aj
  ·rw[Qy I k];exact o8
  ·intro j e w U y;have O:∀b,s'.at b->b < Q.size->l.at b:=λb q f=>(d' b q).resolve_right ag;rcases xe k y with ⟨b',y⟩ | ⟨rfl,rfl⟩
   ·exact au.fr Y (λb f _=>f.1.2) (λb f=>⟨f.1.1,λq=>f.1.2 (O b q ag)⟩) _ (au.gr (au.lt _ (hu j e w U y)) M)
   ·rw[I] at U;cases U;have ax:∀b,l.at b->g.size<=b/\b < J.size:=λb f=>A.at f;refine au.fr Y (λb (f:B.size<=b/\_) _ q=>by have:=ax b q;omega) (λb (f:B.size<=b/\b < Q.size)=>⟨by omega,λq => ?_⟩) _ (au.lt _ (au.gr R g7))
    have:=ax b (O b q f.2);omega
 ·have L:=ay L;have:i=v.items.length:=ag;subst this;rw[List.take_length] at A;have R:au (Nw g) J l v.items:=au.snoc A k (λb f=>f) λj d p h1 g=>au.mo (hu j d p h1 g) λb f=>f.1;simp only[aI,Nat.zero_add];refine cE (F.aj C) aS rfl λh4 S o => ?_;have o:aB h4 a1 #[.bool v.aq, .int .i64 v.num, .string (bs v.text),Sl.v l] bW:=by simpa using o
  refine aQ.b o (bV.b (S.aK (k2.aj C) ag) rfl λB P Z=>aQ.b Z (hk l B (aM.aj (aM.aj (ah.trans G C) S ag) P ag) ?_));have t5:Tn (λc=>c=a1\/c=a2) J B:=(S.fr.mono λc q _=>.inl q).trans (P.fr.mono λc q _=>.inr q);exact au.fr t5 (λc (q:g.size<=c) _ z=>by omega) (λc (q:g.size<=c)=>by show h.size<=c;omega) _ R
theorem Ek:∀v:ak,Pg v
 | .mk a b c items=>acO (v:=.mk a b c items) λx (_:x∈items)=>Ek x
section
variable {f c:ai} {KM:List bD} {M:bD} {T D E:Nat->Prop} {h h0 h':Hp} {r r':Raw} {vs:List ak} {m:Option Mem} {g:bI} {x:ak} {s:Sl} {Kp:PK}
theorem bh.EG {sp':List Value} (G:bh f KM T h r m g) (KF:∀(j:Nat) M,KM[j]? = some M->dD M) (t:Tn (λc=>c=g.b\/g.X c) h h')
  (I:aB h' g.b (bt f g.sf g.sn g.sb r.b.rows r.b.bu r.b.aW (dB f.k g.SS g.kv g.ks sp')).toArray (eM f.k)) (a:r'.b.rows=r.b.rows/\r'.b.bu=r.b.bu/\r'.b.bits=r.b.bits/\r'.b.aW=r.b.aW) (e1:bC f.k r'.b=bC f.k r.b) (C:r'.kids=r.kids)
  (F:eY f.k (Tr g.X h h') h' sp' r'.b) (N:∀d,m=some d->cz f.k r.b d.r.b->cz f.k r'.b d.r.b) (rf:f.k=20->Tn (λc=>c=g.b) h h'):bh f KM (Tr T h h') h' r' m { g with sp:=sp',X:=Tr g.X h h' }:=by
 have L:∀c,(c=g.b\/g.X c)->c < h.size->c=g.b\/g.X c:=λc q _=>q;have av:∀{j:Nat} {B:Nat->Prop},g.Ls[j]? = some B->2≠j->∀c,B c->c < h.size->¬(c=g.b\/g.X c):=λJ ne=>G.av g.fe L J ne;have n:=av g.cU ag;refine ⟨G.t.step 2 t.1,⟨by rw[a.1,a.2.1,a.2.2.2];exact I,by rw[a.2.2.1];exact G.B.o.fr t (av g.dz ag),G.B.nT,by rw[a.2.2.1,a.1];exact G.B.len,by rw[a.2.1,a.1];exact G.B.nl,by rw[a.1];exact G.B.rl⟩,by rw[e1];exact G.ls,λi s A x u l v=>(G.sl i s A x u l (e1 ▸ v)).fr t (av (g.gT l) ag),by rw[C];exact G.lk,λj M A w u l v => ?_,
  au.fr t n (λ_ z=>z) _ G.no,λz=>(G.kl z).fr t n λ_ z=>z,F,λd e => ?_⟩
 ·have:=KF j M u (G.aC j M A w u l v) t (av (g.dy l) ag);unfold Raw.aC at this ⊢;rw[C];exact this
 ·obtain ⟨⟨U,y,S,R,Q,P,O⟩,H,ks,sp⟩:=G.mm d e;exact ⟨⟨U,y,S.fr t n (av g.dz ag),R,λz=>(Q z).fr t n,P,λz=>by obtain ⟨p,e,mc⟩:=O z;exact ⟨p,e,mc.fr t n⟩⟩,N d e H,ks,λz=>((sp z).fr (rf z) λc K hl e=>G.t.gI g.fe (e ▸ K)).mono λc q=>.inl q⟩
theorem bT.EG {sp':List Value} (KF:∀(j:Nat) M,KM[j]? = some M->dD M) (S:bT f KM T h0 h r m g E) (t:Tn (λc=>c=g.b\/g.X c) h h')
  (e:aB h' g.b (bt f g.sf g.sn g.sb r.b.rows r.b.bu r.b.aW (dB f.k g.SS g.kv g.ks sp')).toArray (eM f.k)) (n:r'.b.rows=r.b.rows/\r'.b.bu=r.b.bu/\r'.b.bits=r.b.bits/\r'.b.aW=r.b.aW) (e1:bC f.k r'.b=bC f.k r.b) (p:r'.kids=r.kids)
  (d:eY f.k (Tr g.X h h') h' sp' r'.b) (o:∀a,m=some a->cz f.k r.b a.r.b->cz f.k r'.b a.r.b) (rf:f.k=20->Tn (λc=>c=g.b) h h'):bT f KM T h0 h' r' m { g with sp:=sp',X:=Tr g.X h h' } E/\Tn (λc=>¬E c) h h':=by
 exact S.next (S.G.EG KF t e n e1 p d o rf) t (λc q _ z=>q.elim z.1 (z.2 2 _ g.fe aL)) λc l z=>z.set (i:=2) (h:=h) (h':=h') rfl rfl g.fe l
theorem bh.EI {i:Nat} {s:Sl} {A:Nat->Prop} {x':List Value × TypeId} (G:bh f KM T h r m g) (KF:∀(j:Nat) M,KM[j]? = some M->dD M) (u:g.ST[i]? = some A) (H:g.SS[i]? = some s) (t:Tn A h h') (F:Os A h' s x'.1 x'.2)
  (a:r'.b.rows=r.b.rows/\r'.b.bu=r.b.bu/\r'.b.bits=r.b.bits/\r'.b.aW=r.b.aW) (e1:bC f.k r'.b=(bC f.k r.b).set i x') (y:r'.kids=r.kids) (L:r'.b.vals=r.b.vals) (K:∀p,m=some p->cz f.k r.b p.r.b->cz f.k r'.b p.r.b) :
  bh f KM T h' r' m g:=by
 have N:=(List.getElem?_eq_some_iff.1 u).1;have J:∀c,A c->c < h.size->c=g.b\/A c:=λc q _=>.inr q;have v:=g.gT u;have nb:¬A g.b:=G.t.gI v;have av:∀{j:Nat} {B:Nat->Prop},g.Ls[j]? = some B->3+i≠j->∀c,B c->c < h.size->¬A c:=λI ne=>G.av v J I ne;refine ⟨G.t.grow t.1,⟨by rw[a.1,a.2.1,a.2.2.2];exact t.aK G.B.k nb,by rw[a.2.2.1];exact G.B.o.fr t (av g.dz ag),G.B.nT,by rw[a.2.2.1,a.1];exact G.B.len,by rw[a.2.1,a.1];exact G.B.nl,by rw[a.1];exact G.B.rl⟩,?_,λj C B x n l d => ?_,by rw[y];exact G.lk,λj M B w n l d => ?_,
  au.fr t (av g.cU ag) (λ_ z=>z) _ G.no,λz=>(G.kl z).fr t (av g.cU ag) λ_ z=>z,(G.sp.fr t (av g.fe ag)).eq L,λp e => ?_⟩
 ·simp only[List.length_set,e1];exact G.ls
 ·rw[e1,List.getElem?_set] at d
  by_cases e:i=j
  ·subst e;have P:=G.ls.1;have O:=G.ls.2;rw[if_pos rfl,if_pos ag] at d;rw[H] at n;rw[u] at l;cases n;cases l;cases d;exact F
  ·rw[if_neg e] at d;exact (G.sl j C B x n l d).fr t (av (g.gT l) ag)
 ·have:=KF j M n (G.aC j M B w n l d) t (av (g.dy l) ag);unfold Raw.aC at this ⊢;rw[y];exact this
 ·have M:=(G.mm p e).fr t (av g.cU ag) (av g.dz ag) (av g.fe ag);exact ⟨M.c,K p e M.pr,M.ks,M.sp⟩
theorem bT.EI {i:Nat} {s:Sl} {A:Nat->Prop} {x':List Value × TypeId} (KF:∀(j:Nat) M,KM[j]? = some M->dD M) (S:bT f KM T h0 h r m g E) (d:g.ST[i]? = some A) (n:g.SS[i]? = some s) (t:Tn A h h') (l:Os A h' s x'.1 x'.2)
  (p:r'.b.rows=r.b.rows/\r'.b.bu=r.b.bu/\r'.b.bits=r.b.bits/\r'.b.aW=r.b.aW) (e1:bC f.k r'.b=(bC f.k r.b).set i x') (w:r'.kids=r.kids) (v:r'.b.vals=r.b.vals) (u:∀a,m=some a->cz f.k r.b a.r.b->cz f.k r'.b a.r.b) :
  bT f KM T h0 h' r' m g E/\Tn (λc=>¬E c) h h':=by
 have e:=S.G.EI KF d n t l p e1 w v u;exact S.next (e.mono (λc q=>.inl q) λc q=>q.elim (λq=>e.t.lt c q) λq=>q.2) t (λc q _ z=>z.2 (3+i) A (g.gT d) ag q) λc _ o=>o
theorem bh.Ot (G:bh f [M] T h r m g) (l:f.k=19\/f.k=20) (hl:g.SS.length=1):Cs h ⟨g.b,18,none⟩ g.sp:=by
 intro i v j;rw[aI,eW G.B.k,List.getElem?_toArray];have e:∀d,bt f g.sf g.sn g.sb r.b.rows r.b.bu r.b.aW d=bt f g.sf g.sn g.sb r.b.rows r.b.bu r.b.aW []++d:=λ_=>rfl;rw[e,List.getElem?_append_right (by show 16<=_;omega)]
 show (List.map Sl.v g.SS++_)[18+i - 16]? = _
 rw[List.getElem?_append_right cC,List.length_map,hl];unfold jG;have a:=G.lk.1;rw[if_pos ag,List.getElem?_append_right (by rw[a];simp;omega),a]
 rw[show 18+i - 16 - 1 - [M].length=i by simp;omega];exact j
theorem bh.Q0 {K:HP} {H:Hp} {V U y u o n b2 j:Value} (G:bh f [M] T h r m g) (L:f.k=19\/f.k=20) (hl:g.SS.length=1) (q:g.sp=[V,U,y,u]) (F:∀v∈[o,n,b2,j],one v=true)
  (k:aB H g.b (bt f g.sf g.sn g.sb r.b.rows r.b.bu r.b.aW (dB f.k g.SS g.kv g.ks g.sp)).toArray (eM f.k)) (I:∀h',aM g.b H h'->aB h' g.b (bt f g.sf g.sn g.sb r.b.rows r.b.bu r.b.aW (dB f.k g.SS g.kv g.ks [o,n,b2,j])).toArray (eM f.k)->K h'):fI H ⟨g.b,18,none⟩ 0 [o,n,b2,j] K:=by
 obtain ⟨d,p⟩:∃d,g.SS=[d]:=by
  match J:g.SS,hl with
  | [a],_=>exact ⟨a,rfl⟩
 obtain ⟨w,C⟩:∃w,g.kv=[w]:=by
  match J:g.kv,G.lk.1 with
  | [a],_=>exact ⟨a,rfl⟩
 have t:∀sp,dB f.k g.SS g.kv g.ks sp=Sl.v d::w::sp:=λsp=>by unfold dB jG;rw[if_pos ag,p,C];rfl
 rw[t,q] at k;refine rL _ k (by simp[bt]) F λh' cs B A O z=>I h' B ?_
 rw[t];have:cs=(bt f g.sf g.sn g.sb r.b.rows r.b.bu r.b.aW (Sl.v d::w::[o,n,b2,j])).toArray:=by
  apply Array.ext_getElem?;intro i;rw[z i,List.getElem?_toArray,List.getElem?_toArray];have e:∀x,bt f g.sf g.sn g.sb r.b.rows r.b.bu r.b.aW (Sl.v d::w::x)=bt f g.sf g.sn g.sb r.b.rows r.b.bu r.b.aW [Sl.v d,w]++x:=λ_=>rfl;rw[e [V,U,y,u],e [o,n,b2,j]];have l:(bt f g.sf g.sn g.sb r.b.rows r.b.bu r.b.aW [Sl.v d,w]).length=18:=rfl
  by_cases P:i < 18
  ·rw[if_neg ag,List.getElem?_append_left ag,List.getElem?_append_left ag]
  ·rw[List.getElem?_append_right ag,List.getElem?_append_right ag,l]
   by_cases N:i < 22
   ·rw[if_pos cC]
   ·rw[if_neg cC,List.getElem?_eq_none cC,List.getElem?_eq_none cC]
 exact this ▸ A
end
section
variable {f c:ai} {KM:List bD} {M:bD} {T D E:Nat->Prop} {h h0 h':Hp} {r r':Raw} {vs:List ak} {m:Option Mem} {g:bI} {x:ak} {s:Sl} {K:Int->HP} {Kp:PK}
open Classical in
theorem Zk (FA:f.k=20) (Ua:f.cs=[c]) (r:Raw) (v:ak):f.tk r v=bL (cR false r) λr1=>if r1.b.vals.getLast? = some v then cO v.aV (r1.up λb=>{ b with ends:=b.ends.dropLast++[b.rows] })
  else bL (bY 0 (λq=>c.tk q v) r1) λr2=>cO v.aV (r2.up λb=>{ b with ends:=b.ends++[b.rows],vals:=b.vals++[v] }):=by
 rw[ai.jF];unfold gY;rw[if_neg (by omega),if_neg (by omega),if_neg (by omega),if_neg (by omega),if_neg (by omega),if_neg (by omega),if_neg (by omega),if_pos FA,Ua];rfl
theorem UD (b:f.k=19\/f.k=20) (d:f.cs=[c]) (a:f.fit x=true) (e:x.aq=false):c.fit x=true:=by
 rw[ai.c9] at a;unfold dr at a;simp only[Bool.and_eq_true] at a;have q:=a.2;rw[if_neg (by simp[e]),if_pos b,d] at q
 exact q
theorem agT (i:bp f) (b:f.k=20) (d:f.cs=[c]) (a:f.fit x=true):c.fit x=true:=by
  cases e:x.aq with
  | false=>exact UD (.inr b) d a e
  | true =>
    rw[ai.c9] at a;unfold dr at a;simp only[Bool.and_eq_true] at a;have q:=a.2;rw[if_pos e] at q;simp only[Bool.and_eq_true,decide_eq_true_eq] at q;have el:f.lets=c.lets:=by rw[ai.Fg];unfold mw;rw[d,if_pos ⟨b,rfl⟩];rfl
    rw[ai.c9];unfold dr;rw[if_pos e,<-el];simp only[Bool.and_eq_true,decide_eq_true_eq];exact ⟨of_decide_eq_true a.1,q⟩
theorem QD (gB:bp f) (j:f.k=20) (k':f.cs=[c]) (C:MC c M) (PC:fo c) (hc:f.can vs) (afP:f.fit x=true) (hw:x.aV<=4194304) (G:bh f [M] T h (f.st vs) m g) (hv:au D h s x.items) (hD:∀c,D c->c < h.size->Out g c)
  (H:∀h',Tn T h h'->bE f [M] (Tr T h h') h' (.iface (aU f.k) (.pointer (some ⟨g.b,0,none⟩))) (f.tk (f.st vs) x).2 m->K (f.tk (f.st vs) x).1 h'):zJ (some ⟨g.b,0,none⟩) x.aq x.num (bs x.text) s h K Kp:=by
 have KF:=js C;have ed:aU f.k=jT:=by unfold aU;rw[if_neg ag,if_neg ag,if_neg ag,if_neg ag,if_neg ag,if_neg ag,if_neg ag,if_pos j]
 rw[ed] at H;rw[Zk j k'] at H;have P:∀W:Rb,bC f.k W=[(ints W.ends,Y6)]:=λW=>by unfold bC;rw[if_neg ag,if_pos ag]
 have ep:∀a b:Rb,cz f.k a b↔b.ends.length<=a.ends.length/\b.ends.dropLast <+: a.ends/\b.ends.length<=4096:=λa b=>by unfold cz;rw[if_neg ag,if_neg ag,if_neg ag,if_neg ag,if_neg ag,if_pos j]
 have eS:∀X h sp (W:Rb),eY f.k X h sp W↔∃t,sp=[.bool (fN W).aq, .int .i64 (fN W).num, .string (bs (fN W).text),Sl.v t]/\au X h t (fN W).items:=λX h sp W=>by unfold eY;rw[if_neg ag,if_pos j]
 have hco:=(ai.eC f vs).1 hc;obtain ⟨O,p⟩:=mO G.ls (P _);obtain ⟨A,w,hA,f',hkv⟩:=nG G rfl;obtain ⟨A0,v'⟩:∃A,g.ST[0]? = some A:=⟨_,List.getElem?_eq_getElem (by rw[G.ls.2,P];exact Nat.one_pos)⟩
 have s':f.cs[0]? = some c:=by rw[k'];rfl
 have ev:(f.st vs).b.vals=(bR vs).1:=by rw[cQ];simp only[aG];rw[if_neg ag,if_pos j]
 have ee:(f.st vs).b.ends=(bR vs).2:=by rw[cQ];simp only[aG];rw[if_neg ag,if_neg ag,if_neg ag,if_neg ag,if_pos j]
 have I:(f.st vs).b.vals.length=(f.st vs).b.ends.length:=by rw[ev,ee];exact (xq _ vs rfl).2
 have U:(f.st vs).aC 0=c.st (f.st vs).b.vals:=by rw[ai.iz s' vs,ev,j,Ga]
 have c':c.can (f.st vs).b.vals:=by have:=ai.de s' hc;rw[j,Ga,<-ev] at this;exact this
 have hkn:=((ai.eC c _).1 c').n4;have hh:=(eB hc).1;generalize hrv:f.st vs=J at G H I U c' hkn hh;refine zJ.of (az λa h1 ea g1 F _ => ?_);refine bF ?_;have s1:=g1.1;have S1:=(bT.of (E:=λc=>D c/\c < h.size) G λc q=>⟨q.2,hD c q.1 q.2⟩).aj KF g1;generalize hE:(λc=>(D c/\c < h.size)\/(h.size<=c/\c < h1.size))=E at S1;have E1:E a:=by rw[<-hE];exact .inr ⟨by omega,F.lt⟩
 have u':∀c,D c/\c < h.size->E c:=λc q=>by rw[<-hE];exact .inl q
 have qY:au (λc=>D c/\c < h.size) h1 s x.items:=au.gr (au.lt _ hv) g1;have Q:∀{ha hb:Hp},Tn (λc=>¬E c) ha hb->au (λc=>D c/\c < h.size) ha s x.items->au (λc=>D c/\c < h.size) hb s x.items:=λt v=>au.fr t (λc q _ z=>z (u' c q)) (λ_ z=>z) _ v;refine S1.row KF rfl (λq=>bx rfl ?_) λq mg A' h2 t2 S2=>aR rfl ?_
 ·rw[mQ q] at H;exact H h1 S1.t ⟨g,by rw[ed],S1.G⟩
 rw[mP q] at H;have F:=bT.fE t2 F E1;have i':=Q t2 qY;generalize Nr:J.up (Rb.row false)=d at H S2;have L:d.b.vals=J.b.vals/\d.b.ends=J.b.ends/\d.b.aW=J.b.aW/\d.aC 0=J.aC 0/\d.b.rows=J.b.rows+1:=by rw[<-Nr];exact ⟨rfl,rfl,rfl,rfl,rfl⟩
 have n0:O.n=J.b.ends.length:=by have:=S2.G.kq (i:=0) (s:=O) (by simp[p]) (by rw[P];rfl);rw[this,ints,List.length_map,L.2.1]
 have m':d.b.vals.length=d.b.ends.length:=by rw[L.1,L.2.1];exact I
 -- another value than the last
 have V:∀{h3:Hp},ah h2 h3->d.b.vals.getLast? ≠ some x->Cm K Kp (some ⟨g.b,0,none⟩) ⟨a,0,none⟩ h3:=by
  intro h3 g3 j';rw[if_neg j'] at H;have Z:=S2.aj KF g3;have hE3:∀c,E c->E c\/(h2.size<=c/\c < h3.size):=λc q=>.inl q;have F:=F.aj g3;have a':=au.gr i' g3;have R:=Z.G.aC 0 M A w rfl hA f';rw[L.2.2.2.1,U] at R;refine Cm.of ?_;refine bF ?_;obtain ⟨kk,bb,rfl⟩:=C.na R;refine Z.G.ia (i:=1) rfl (.inr (.inr (.inr j))) (by simp[p]) f' (aQ.b F ?_)
  have hgo:bY 0 (λq=>c.tk q x) d=((c.tk (c.st J.b.vals) x).1,d.cK 0 (c.tk (c.st J.b.vals) x).2):=by unfold bY;rw[L.2.2.2.1,U]
  rw[hgo] at H;refine C.take (D:=λc=>D c/\c < h.size) c' (agT gB j k' afP) hw R a' (λY q z=>(Z.e Y (.inl (u' Y q))).2.2 _ A (bI.dy _ hA) ag z) λh4 t4 M4 => ?_;obtain ⟨S4,e'⟩:=Z.aC KF hA t4 λM' w' q1 q2=>by
   simp at q1;subst q1;have q2:g.kv[0]? = some w':=q2;rw[f'] at q2;cases q2;exact M4
  have N:Tn (λc=>¬E c) h3 h4:=e'.mono λc q _ z=>q (.inl z);refine aA (λc2 => ?_) λc2 => ?_
  ·have c2:=ay c2;unfold bL at H;rw[if_neg c2] at H;exact H h4 S4.t ⟨_,by rw[ed],S4.G⟩
  have c2:=ay c2;unfold bL at H;rw[if_pos c2] at H;have F:=bT.fE N F E1;have q':=S4.G.B.k;refine S4.G.dL (i:=0) (s:=O) rfl (by simp[p]) (BV.pH q' (az λa5 h5 e5 g5 k5 _=>bK q' g5 ?_))
  have S5:=S4.aj KF g5;have erw:(d.cK 0 (c.tk (c.st J.b.vals) x).2).b.rows=d.b.rows:=rfl;refine S5.app (i:=0) (s:=O) (x:=(ints d.b.ends,Y6)) (x':=(ints (d.b.ends++[d.b.rows]),Y6)) (r':=(d.cK 0 (c.tk (c.st J.b.vals) x).2).up λb=>{ b with ends:=b.ends++[b.rows] }) (news:=[.int .i64 (d.b.rows:Int)]) KF rfl (by simp[p]) (by rw[P];rfl) rfl ?_ rfl (iB k5 rfl) ag ag (by simp[ints])
   ⟨rfl,rfl,rfl,rfl⟩ (by rw[P,P];rfl) rfl rfl (λmm _ q => ?_) λs0' A0' h6 t6 S6 => ?_
  ·intro v hv;simp only[List.mem_singleton] at hv;subst hv;rfl
  ·rw[ep] at q ⊢;exact ⟨Nat.le_trans q.1 (by show _<=(d.b.ends++[d.b.rows]).length;rw[List.length_append];exact Nat.le_add_right _ _),q.2.1.trans (List.prefix_append _ _),q.2.2⟩
  have d':Tn (λc=>¬E c) h5 h6:=t6.mono λc q _ z=>q (.inl (.inl z));have F:=bT.fE d' (F.aj g5) E1;have g':=Q d' (au.gr (Q N a') g5);refine Io.of (aQ.b F (Ek x g' ag λt h7 g7 vt => ?_));refine bF ?_;have S7:=S6.aj KF g7;have F:=F.aj g7;have hv7:=au.gr g' g7;have sp7:=(eS _ _ _ _).1 S6.G.sp;obtain ⟨t0,l',_⟩:=sp7;refine bV.l (S7.G.Q0 (.inr j) (by simp[p]) l' (by simp[one,Sl.v]) S7.G.B.k λh8 o8 k8 => ?_)
  have s7:=g7.1;have hgl:g.b < h6.size:=S6.G.t.lt _ S6.G.t.tb;have o':Tn (λc=>c=g.b) h6 h8:=(Tn.aT g7:Tn _ h6 h7).trans o8.fr;have S68:=S6.EG (r':=(d.cK 0 (c.tk (c.st J.b.vals) x).2).up λb=>{ b with ends:=b.ends++[b.rows],vals:=b.vals++[x] }) KF (o'.mono λc q _=>.inl q) k8 ⟨rfl,rfl,rfl,rfl⟩ (by rw[P,P];rfl) rfl ((eS _ _ _ _).2 ?_) (λmm _ q => ?_) λ_=>o'
  rotate_left
  ·have el:fN ((d.cK 0 (c.tk (c.st J.b.vals) x).2).up λb=>{ b with ends:=b.ends++[b.rows],vals:=b.vals++[x] }).b=x:=by
    show ((d.b.vals++[x]).getLast?).getD sk=x
    simp
   rw[el];refine ⟨t,rfl,au.fr o8.fr (λc (q:h6.size<=c/\c < h7.size) _ (e:c=g.b)=>by omega) (λc q=>.inr ⟨q.1,by have:=o8.1;omega⟩) _ (au.mo (au.lt _ vt) λc q=>⟨q.1,q.2⟩)⟩
  ·rw[ep] at q ⊢;exact q
  obtain ⟨S8,t8⟩:=S68;have n':Tn (λc=>¬E c) h6 h8:=t8.mono λc q _ z=>q (.inl (.inl z));exact aQ.b (bT.fE n' (bT.fE d' ((bT.fE N ‹aB h3 a _ _› E1).aj g5) E1) E1) (Ej x (Q n' g') ag λh9 g9=>(S8.aj KF g9).lI KF rfl (n:=x.aV) rfl (by show d.b.aW+x.aV < 2 ^ 62;rw[L.2.2.1];omega) λu7 t10 z'=>H u7 z'.t ⟨_,by rw[ed],z'.G⟩)
 refine S2.G.dL (i:=0) (s:=O) rfl (by simp[p]) (aA (λY => ?_) λY => ?_)
 ·have Y:=ay Y;obtain ⟨t0,l',Nl⟩:=(eS _ _ _ _).1 S2.G.sp;have y':=S2.G.Ot (.inr j) (by simp[p])
  rw[l'] at y';have j':d.b.vals≠[]:=λe=>by rw[L.1] at e;rw[e] at I;simp at I;omega
  have u:d.b.vals.getLast? = some (fN d.b):=by
   unfold fN;rw[List.getLast?_eq_some_getLast j'];rfl
  have hlw:(fN d.b).aV<=4194304:=by
   have hm:=List.mem_of_getLast? u;rw[L.1] at hm;have h1:=nh hm;have h2:=(eB c');omega
  refine aQ.c y' (aQ.b F (K8 (fN d.b) Nl i' ag λb h3 g3 hb=>yJ.of (aA (λcb => ?_) λcb=>V g3 λe => ?_)))
  ·have hx:fN d.b=x:=hb.1 cb;rw[hx] at u;rw[if_pos u] at H;have Z:=S2.aj KF g3;have F:=F.aj g3;have a':=au.gr i' g3;refine bF ?_;refine Z.G.dL (i:=0) (s:=O) rfl (by simp[p]) (Z.G.dL (i:=0) (s:=O) rfl (by simp[p]) (aP ag ag (BV.pH Z.G.B.k ?_)))
   have os:=Z.G.sl 0 O A0 (ints d.b.ends,Y6) (by simp[p]) v' (by rw[P];rfl)
   obtain ⟨bb,t'⟩:∃bb,O.a=some ⟨bb,0,none⟩:=by
    rcases os with ⟨e,_⟩ | ⟨bb,_,o⟩
    ·rw[e] at Y;simp[Sl.nil] at Y
    ·exact ⟨bb,o.1⟩
   unfold Ix;rw[t'];refine ⟨by omega,by omega,?_⟩
   rw[aI];refine os.KZ ag ⟨bb,t',by congr 1;omega⟩ rfl λh4 t4 p' _ => ?_
   have e4:(ints d.b.ends).set (O.n - 1) (.int .i64 (d.b.rows:Int))=ints (d.b.ends.dropLast++[d.b.rows]):=by
    have S:d.b.ends≠[]:=λe=>by rw[<-L.2.1,e] at n0;simp at n0;omega
    obtain ⟨l,y,b'⟩:∃l y,d.b.ends=l++[y]:=⟨_,_,(List.dropLast_concat_getLast S).symm⟩;have hn:O.n - 1=l.length:=by rw[n0,<-L.2.1,b'];simp
    rw[hn,b'];simp[ints]
   rw[e4] at p';obtain ⟨S4,e'⟩:=Z.EI (r':=d.up λb=>{ b with ends:=b.ends.dropLast++[b.rows] }) KF v' (by simp[p]) t4 (x':=(ints (d.b.ends.dropLast++[d.b.rows]),Y6)) p' ⟨rfl,rfl,rfl,rfl⟩ (by rw[P,P];rfl) rfl rfl λmm _ q=>by
    rw[ep] at q ⊢;have S:d.b.ends≠[]:=λe=>by rw[<-L.2.1,e] at n0;simp at n0;omega
    obtain ⟨l,y,b'⟩:∃l y,d.b.ends=l++[y]:=⟨_,_,(List.dropLast_concat_getLast S).symm⟩
    show mm.r.b.ends.length<=(d.b.ends.dropLast++[d.b.rows]).length/\mm.r.b.ends.dropLast <+: d.b.ends.dropLast++[d.b.rows]/\mm.r.b.ends.length<=4096
    rw[b'] at q ⊢;rw[List.dropLast_concat];refine ⟨by simp at q ⊢;omega,?_,q.2.2⟩
    have hq2:mm.r.b.ends.dropLast.length<=l.length:=by have:=q.1;simp at this ⊢;omega
    exact (List.prefix_of_prefix_length_le q.2.1 (List.prefix_append l [y]) hq2).trans (List.prefix_append _ _)
   have N:Tn (λc=>¬E c) h3 h4:=e'.mono λc q _ z=>q (.inl z);refine aQ.b (bT.fE N F E1) (Ej x (Q N a') ag λh5 g5 => ?_);have S5:=S4.aj KF g5;exact S5.lI KF rfl (n:=x.aV) rfl (by show d.b.aW+x.aV < 2 ^ 62;rw[L.2.2.1];omega) λh6 t6 S6=>H h6 S6.t ⟨_,by rw[ed],S6.G⟩
  ·rw[u] at e;rw[hb.2 (Option.some.inj e)] at cb;cases cb
 ·have Y:=ay Y;refine yJ.of (aR rfl (V (ah.refl _) λe => ?_));have:d.b.vals=[]:=List.length_eq_zero_iff.1 (by rw[m',L.2.1];omega)
  rw[this] at e;simp at e
theorem XN (e:¬f.small=true) (i:f.k=20) (a:f.cs=[c]) (r:Raw):f.zk r=bL (cR false r) λd=>bL (bY 0 c.zk d) λb=>(3,b):=by
 rw[ai.qB];unfold ng;rw[if_neg (by intro q;rcases q with q | q;exact e q;omega),if_neg ag,if_neg ag,if_neg ag,if_neg ag,a];rfl
theorem XU (u:bp f) (n:f.k=20) (o:f.cs=[c]) (C:MC c M) (W:fo c) (P:f.can vs) (G:bh f [M] T h (f.st vs) m g)
  (a:∀h',Tn T h h'->bE f [M] (Tr T h h') h' (.iface (aU f.k) (.pointer (some ⟨g.b,0,none⟩))) (f.zk (f.st vs)).2 m->K (f.zk (f.st vs)).1 h'):C2 (some ⟨g.b,0,none⟩) h K Kp:=by
 refine C2.of ?_;refine bF ?_;refine an G.B.k (by simp[bt];rfl) ?_
 by_cases p:f.small=true
 ·rw[qA (.inl p)] at a;obtain ⟨_,R,h3,H⟩:=ob u p;exact bx p (aQ.c G.oK (QD u n o C W P R ag G G.no (λc q _=>G.xD q) a))
 rw[XN p n o] at a;refine aR (by simpa using p) ?_
 have KF:=js C;have V:∀F:Rb,bC f.k F=[(ints F.ends,Y6)]:=λF=>by unfold bC;rw[if_neg ag,if_pos ag]
 obtain ⟨s0,L⟩:=mO G.ls (V _);obtain ⟨A,w,Q,l,Z⟩:=nG G rfl;have v:f.cs[0]? = some c:=by rw[o];rfl
 have e:=ai.iz v vs;have J:=bT.of (E:=λ_=>False) G λ_ q=>q.elim;refine J.row KF rfl (λq=>bx rfl ?_) λq Y A' R t2 I=>aR rfl ?_
 ·rw[mQ q] at a;exact a h J.t ⟨g,rfl,J.G⟩
 rw[mP q] at a;have d:=I.G.aC 0 M A w rfl Q l;rw[eZ,e] at d;have N:bY 0 c.zk ((f.st vs).up (Rb.row false))=((c.zk (c.st (cg f.k f.w (cj f.cs) 0 vs))).1,((f.st vs).up (Rb.row false)).cK 0 (c.zk (c.st (cg f.k f.w (cj f.cs) 0 vs))).2):=by unfold bY;rw[eZ,e]
 rw[N] at a;refine I.G.ia (i:=1) rfl (.inr (.inr (.inr n))) (by simp[L]) l (C.zero (ai.de v P) d λH U X => ?_)
 obtain ⟨z,_⟩:=I.aC KF Q U λM' S O y=>by
  simp at O;subst O;have y:g.kv[0]? = some S:=y;rw[l] at y;cases y;exact X
 refine aA (λj => ?_) λj => ?_
 ·have j:=ay j;unfold bL at a;rw[if_neg j] at a;exact a H z.t ⟨_,by rfl,z.G⟩
 ·have j:=ay j;unfold bL at a;rw[if_pos j] at a;exact a H z.t ⟨_,by rfl,z.G⟩
end
theorem ajs {c0 p q d b a:Addr} {h:Hp} {K:HP} {Kp:PK} (H:Jj c0 p q d b a h K Kp):bJ Tryz.prog (.func (.func rY) #[] #[.pointer (some c0), .pointer (some p), .pointer (some q), .pointer (some d), .pointer (some b), .pointer (some a)]) [] h (λr e=>r=.tuple #[]/\K e) Kp:=by
 unfold bJ;exact cast aF H
section
variable {f c:ai} {KM:List bD} {M:bD} {T R D E:Nat->Prop} {h h0 h':Hp} {r r':Raw} {vs:List ak} {m:Option Mem} {mm:Mem} {g:bI} {caps:List Value} {Kp:PK}
theorem adN {Z p o n l k:Array Value} (mc:tN R h caps [Z,p,o,n,l,k]):∃j i e d b a C B A t s q,caps=[.pointer (some ⟨j,0,none⟩), .pointer (some ⟨i,0,none⟩), .pointer (some ⟨e,0,none⟩), .pointer (some ⟨d,0,none⟩), .pointer (some ⟨b,0,none⟩), .pointer (some ⟨a,0,none⟩)] /\
    (R j/\aB h j Z C)/\(R i/\aB h i p B)/\(R e/\aB h e o A)/\(R d/\aB h d n t)/\(R b/\aB h b l s)/\(R a/\aB h a k q):=by
  obtain ⟨j,C,J,Q⟩:=mc.2 0 Z rfl;obtain ⟨i,B,e1,P⟩:=mc.2 1 p rfl;obtain ⟨e,A,I,O⟩:=mc.2 2 o rfl;obtain ⟨d,t,H,N⟩:=mc.2 3 n rfl;obtain ⟨b,s,G,L⟩:=mc.2 4 l rfl;obtain ⟨a,q,F,K⟩:=mc.2 5 k rfl
  match caps,mc.1 with
  | [u,v,w,z,y,x],_ =>
    simp at J e1 I H G F;subst J e1 I H G F;exact ⟨j,i,e,d,b,a,C,B,A,t,s,q,rfl,Q,P,O,N,L,K⟩
theorem bh.Q6 {sp':List Value} (G:bh f KM T h r m g) (KF:∀(j:Nat) M,KM[j]? = some M->dD M) (t:Tn (λc=>c=g.b\/g.X c) h h')
  (F:aB h' g.b (bt f g.sf g.sn g.sb r.b.rows r.b.bu r.b.aW (dB f.k g.SS g.kv g.ks sp')).toArray (eM f.k)) (a:r'.b.rows=r.b.rows/\r'.b.bu=r.b.bu/\r'.b.bits=r.b.bits/\r'.b.aW=r.b.aW) (e1:bC f.k r'.b=bC f.k r.b) (v:r'.kids=r.kids)
  (y:eY f.k g.X h' sp' r'.b) (K:∀mm,m=some mm->cz f.k r.b mm.r.b->cz f.k r'.b mm.r.b) (rf:f.k=20->Tn (λc=>c=g.b) h h'):bh f KM T h' r' m { g with sp:=sp' }:=by
 have J:∀c,(c=g.b\/g.X c)->c < h.size->c=g.b\/g.X c:=λc q _=>q;have av:∀{j:Nat} {B:Nat->Prop},g.Ls[j]? = some B->2≠j->∀c,B c->c < h.size->¬(c=g.b\/g.X c):=λH ne=>G.av g.fe J H ne;have l:=av g.cU ag;refine ⟨G.t.grow t.1,⟨by rw[a.1,a.2.1,a.2.2.2];exact F,by rw[a.2.2.1];exact G.B.o.fr t (av g.dz ag),G.B.nT,by rw[a.2.2.1,a.1];exact G.B.len,by rw[a.2.1,a.1];exact G.B.nl,by rw[a.1];exact G.B.rl⟩,by rw[e1];exact G.ls,λi s A x n d p=>(G.sl i s A x n d (e1 ▸ p)).fr t (av (g.gT d) ag),by rw[v];exact G.lk,λj M A w n d p => ?_,
  au.fr t l (λ_ z=>z) _ G.no,λz=>(G.kl z).fr t l λ_ z=>z,y,λmm e => ?_⟩
 ·have:=KF j M n (G.aC j M A w n d p) t (av (g.dy d) ag);unfold Raw.aC at this ⊢;rw[v];exact this
 ·obtain ⟨⟨S,u,Q,P,O,N,L⟩,C,ks,sp⟩:=G.mm mm e;exact ⟨⟨S,u,Q.fr t l (av g.dz ag),P,λz=>(O z).fr t l,N,λz=>by obtain ⟨caps,e,mc⟩:=L z;exact ⟨caps,e,mc.fr t l⟩⟩,K mm e C,ks,λz=>(sp z).fr (rf z) λc I hl e=>G.t.gI g.fe (e ▸ I)⟩
theorem akb {K:HP} (x:f.k=20) (z':f.cs=[c]) (C:MC c M) (G:bh f [M] T h r (some mm) g) (hk:∀h',Tn T h h'->bE f [M] T h' (.iface (aU f.k) (.pointer (some ⟨g.b,0,none⟩))) mm.r (some mm)->K h') :
    bJ Tryz.prog mm.F [] h (λr h1=>r=.tuple #[]/\K h1) Kp:=by
  have KF:=js C;obtain ⟨⟨F0,KF',bm,c1,c2,c3,c4⟩,pr,ks,d⟩:=G.mm mm rfl;obtain ⟨caps,eF,mc⟩:=c4 ag;obtain ⟨P,em,rfl⟩:=c1 ag;have q':fF f.k g.b F0 P.F mm=[#[F0],#[P.F],#[.pointer (some ⟨g.b,0,none⟩)],pI mm.r.b.ends.length,mm.sp.toArray,pI (mm.r.b.ends.getLastD 0)]:=by unfold fF;simp only;rw[if_neg ag,if_neg ag,if_neg ag,if_neg ag,if_neg ag,if_pos x]
  rw[q'] at mc;obtain ⟨a0,a1,a2,a3,a4,a5,t0,t1,t2,t3,t4,t5,ec,⟨r0,k0⟩,⟨r1,k1⟩,⟨r2,H⟩,⟨r3,J⟩,⟨r4,S⟩,⟨r5,Q⟩⟩:=adN mc;have t':dG f.k=rY:=by unfold dG;rw[if_neg ag,if_neg ag,if_neg ag,if_neg ag,if_neg ag,if_neg ag,if_pos x]
  have I:∀O:Rb,bC f.k O=[(ints O.ends,Y6)]:=λO=>by unfold bC;rw[if_neg ag,if_pos ag]
  have ep:∀a b:Rb,cz f.k a b↔b.ends.length<=a.ends.length/\b.ends.dropLast <+: a.ends/\b.ends.length<=4096:=λa b=>by unfold cz;rw[if_neg ag,if_neg ag,if_neg ag,if_neg ag,if_neg ag,if_pos x]
  have eS:∀X h sp (O:Rb),eY f.k X h sp O↔∃t,sp=[.bool (fN O).aq, .int .i64 (fN O).num, .string (bs (fN O).text),Sl.v t]/\au X h t (fN O).items:=λX h sp O=>by unfold eY;rw[if_neg ag,if_pos x]
  have d:=d x;rw[<-x] at d;rw[ep] at pr;obtain ⟨s0,p⟩:=mO G.ls (I _);obtain ⟨A0,L⟩:∃A0,g.ST=[A0]:=by
    have:=G.ls.2;rw[I] at this
    match hg:g.ST,this with
    | [a],_=>exact ⟨a,rfl⟩
  obtain ⟨A,w,hA,hw,y'⟩:=nG G rfl;rw[eF,ec,t'];have hS:∀c,(c=g.b\/g.T0 c)->c < h.size->c=g.b\/g.T0 c:=λc q _=>q;have N:∀c,g.R c->c < h.size->¬(c=g.b\/g.T0 c):=G.av g.dz hS g.cU ag;have nA:∀c,g.R c->¬A c:=λc q=>G.t.ne g.cU (g.dy hA) ag c q;have nR:∀{c:Nat},g.R c->c≠g.b:=λq e=>G.t.gI g.cU (e ▸ q);have nX:∀c,g.X c->c < h.size->¬(c=g.b\/g.T0 c):=G.av g.dz hS g.fe ag;have j':∀c,g.X c->¬A c:=λc q=>G.t.ne g.fe (g.dy hA) ag c q;have d':∀c,g.X c->c≠g.b:=λc q e=>G.t.gI g.fe (e ▸ q);refine ajs (Jj.of (an k0 rfl ?_))
  show bJ Tryz.prog F0 [] h _ _
  refine rH G KF bm λh1 u1 G1 => ?_;have k1:=u1.aK k1 (N _ r1 k1.lt);have H:=u1.aK H (N _ r2 H.lt);have J:=u1.aK J (N _ r3 J.lt);have S:=u1.aK S (N _ r4 S.lt);have Q:=u1.aK Q (N _ r5 Q.lt);have d:=d.fr u1 nX;have W:=G1.aC 0 M A w rfl hA hw;have e0:((some mm).bind λmm=>mm.ks[0]?)=some P:=by show mm.ks[0]? = some P;rw[em];rfl
  rw[e0] at W;refine an k1 rfl ?_
  show bJ Tryz.prog P.F [] h1 _ _
  refine C.back W λh2 u2 M2 => ?_;have G2:=G1.Be (rj:=P.r) KF hA u2 λM' w' q1 q2=>by
    simp at q1;subst q1;have q2:g.kv[0]? = some w':=q2;rw[hw] at q2;cases q2;rw[e0];exact M2
  have H:=u2.aK H (nA _ r2);have J:=u2.aK J (nA _ r3);have S:=u2.aK S (nA _ r4);have Q:=u2.aK Q (nA _ r5);have d:=d.fr u2 λc q _=>j' c q;have o0:=G2.sl 0 s0 A0 (ints r.b.ends,Y6) (by simp[p]) (by simp[L]) (by rw[I];rfl)
  have n0:=o0.n;have p0:=pr.1;have p1:=pr.2.2;simp only[ints,List.length_map] at n0;refine an H rfl (an H rfl (an H rfl ?_));refine bF ?_;obtain ⟨t,g',v'⟩:=(eS _ _ _ _).1 d;rw[g'] at S;refine G2.dL (i:=0) (s:=s0) rfl (by simp[p]) (an J rfl (o0.cut (n:=mm.r.b.ends.length) ag rfl λj u' c'=>aQ.b S ?_))
  have p':(ints r.b.ends).take mm.r.b.ends.length=ints (r.b.ends.take mm.r.b.ends.length):=by unfold ints;rw[<-List.map_take]
  rw[p'] at c';have a':(r.b.ends.take mm.r.b.ends.length).length=mm.r.b.ends.length:=by rw[List.length_take];omega
  have U:mm.r.b.ends.dropLast <+: r.b.ends.take mm.r.b.ends.length:=List.prefix_of_prefix_length_le pr.2.1 (List.take_prefix _ _) (by rw[a'];simp)
  refine G2.pg (i:=0) (s:=s0) (s':=j) (by simp[p]) G2.B.k λh3 Z m' => ?_
  have G3:=G2.qG (i:=0) (s':=j) (A:=A0) (x':=(ints (r.b.ends.take mm.r.b.ends.length),Y6)) (r':=((r.mb mm.r).cK 0 P.r).up λb=>{ b with ends:=r.b.ends.take mm.r.b.ends.length }) KF (by simp[L]) c' Z m' ⟨rfl,rfl,rfl,rfl⟩ (by rw[I,I];rfl) rfl rfl λV e _=>by rw[ep];cases e;exact ⟨by show _<=(r.b.ends.take mm.r.b.ends.length).length;omega,U,p1⟩
  have H:=Z.aK H (nR r2);have J:=Z.aK J (nR r3);have Q:=Z.aK Q (nR r5);have d:=d.fr Z.fr λc q _ e=>d' c q e;refine iY S (Z.aK S (nR r4)) (iY (by assumption) H ?_)
  obtain ⟨t6,i',_⟩:=(eS _ _ _ _).1 G3.sp;refine bV.l (G3.Q0 (.inr x) (by simp[p]) i' (by simp[one,Sl.v]) G3.B.k λh4 Y l' => ?_)
  have d:=d.fr Y.fr λc q _ e=>d' c q e;rw[g'] at d;have G4:=G3.Q6 (r':=((r.mb mm.r).cK 0 P.r).up λb=>{ b with ends:=r.b.ends.take mm.r.b.ends.length,vals:=mm.r.b.vals }) KF (Y.fr.mono λc q _=>.inl q) l' ⟨rfl,rfl,rfl,rfl⟩ (by rw[I,I];rfl) rfl (d.eq rfl) (λV e q=>by rw[ep] at q ⊢;exact q) λ_=>Y.fr
  have H:=Y.aK H (nR r2);have J:=Y.aK J (nR r3);have Q:=Y.aK Q (nR r5);have tf:Tn T h h4:=(((u1.mono λc q _=>q.elim (λe=>e ▸ G.t.tb) λq=>G.jO g.dz q).trans (u2.mono λc q _=>G.jO (g.dy hA) q)).trans (Z.fr.mono λc q _=>q ▸ G.t.tb)).trans (Y.fr.mono λc q _=>q ▸ G.t.tb);have eK:∀(r9:Raw),r9.kids=r.kids->(r9.cK 0 P.r).kids=mm.r.kids:=by
    intro r9 e9;rw[ks.1,em];obtain ⟨b9,k'⟩:=r9;have hl:=G.lk.2.2;rw[<-e9] at hl
    match k',hl with
    | [y],_=>rfl
  refine Im.of (an J rfl (aA (λcc => ?_) λcc => ?_))
  · have cc:=ay cc;refine an H rfl ?_;refine bF ?_;refine G4.dL (i:=0) (s:=j) rfl (by simp[p]) (an J rfl (aP ag ag (an Q rfl ?_)))
    have os:=G4.sl 0 j A0 (ints (r.b.ends.take mm.r.b.ends.length),Y6) (by simp[p]) (by simp[L]) (by rw[I];rfl)
    have sn:j.n=mm.r.b.ends.length:=u';obtain ⟨bb,f'⟩:∃bb,j.a=some ⟨bb,0,none⟩:=by
      rcases os with ⟨e,_⟩ | ⟨bb,_,o⟩
      · rw[e] at sn;simp[Sl.nil] at sn;omega
      · exact ⟨bb,o.1⟩
    unfold Ix;rw[f'];refine ⟨by omega,by omega,?_⟩
    rw[aI];refine os.KZ ag ⟨bb,f',by congr 1;omega⟩ rfl λh5 t5 b' _ => ?_
    have o':mm.r.b.ends≠[]:=λe=>by rw[e] at cc;simp at cc
    have e4:(ints (r.b.ends.take mm.r.b.ends.length)).set (j.n - 1) (.int .i64 ((mm.r.b.ends.getLastD 0:Nat):Int))=ints mm.r.b.ends:=by
      obtain ⟨l,y,e'⟩:∃l y,mm.r.b.ends=l++[y]:=⟨_,_,(List.dropLast_concat_getLast o').symm⟩;rw[e'] at U a' ⊢;rw[List.dropLast_concat] at U;obtain ⟨z,hz⟩:=U;have n':z.length=1:=by have:=congrArg List.length hz;rw[List.length_append,a'] at this;simp at this;exact this
      rw[<-hz]
      match z,n' with
      | [u],_ =>
        have hn:j.n - 1=l.length:=by rw[sn,e'];simp
        rw[hn];simp[ints]
    rw[e4] at b';have G5:=G4.EI (r':=((r.mb mm.r).cK 0 P.r).up λb=>{ b with ends:=mm.r.b.ends,vals:=mm.r.b.vals }) (i:=0) (s:=j) (A:=A0) (x':=(ints mm.r.b.ends,Y6)) KF (by simp[L]) (by simp[p]) t5 b' ⟨rfl,rfl,rfl,rfl⟩ (by rw[I,I];rfl) rfl rfl λV e _=>by rw[ep];cases e;exact ⟨Nat.le_refl _,List.dropLast_prefix _,p1⟩
    refine hk h5 (tf.trans (t5.mono λc q _=>G.jO (g.gT (i:=0) (by simp[L])) q)) ⟨_,by rfl,G5.conv (r':=mm.r) ⟨rfl,rfl,rfl,rfl⟩ (by rw[I,I];rfl) (eK _ rfl).symm (λ_=>rfl) λV e _=>by cases e;rw[ep];exact ⟨Nat.le_refl _,List.dropLast_prefix _,p1⟩⟩
  · have cc:=ay cc;have he:mm.r.b.ends=[]:=List.length_eq_zero_iff.1 ag;refine hk h4 tf ⟨_,by rfl,G4.conv (r':=mm.r) ⟨rfl,rfl,rfl,rfl⟩ (by rw[I,I,he];rfl) (eK _ rfl).symm (λ_=>rfl) λV e _=>by cases e;rw[ep];exact ⟨Nat.le_refl _,List.dropLast_prefix _,p1⟩⟩
end
section
variable {f c:ai} {M:bD} {T A:Nat->Prop} {h h0 h':Hp} {r:Raw} {vs:List ak} {m:Option Mem} {g:bI} {w:Value} {Kp:PK}
abbrev vo (d:aJ) (p:Sl × Sl × Sl):List Value:=[.int .i64 d.len, .int .i64 d.off, .int .i64 d.aq,Sl.v p.1,Sl.v p.2.1,Sl.v p.2.2]
theorem eO.at {D E:Nat->Prop} {h:Hp} {a n:Nat} {cs:Array Value} {el:TypeId} {d:aJ} {p:Sl × Sl × Sl} (k:aB h a cs el) (q:∀i v,(vo d p)[i]? = some v->cs[n+i]? = some v) (v:c7 D E h p d):eO D E h ⟨a,n,none⟩ d:=by
 obtain ⟨x,o,u,aH,j,ds⟩:=d;unfold eO;refine ⟨p.1,p.2.1,p.2.2,λi w e => ?_,v.b,v.c,v.x⟩;rw[aI,eW k];exact q i w (by simpa[vo,uz,aJ.len,aJ.off,aJ.aq] using e)
theorem bN.two {D E:Nat->Prop} {h:Hp} {a:Nat} {el:TypeId} {O e:aJ} {p q:Sl × Sl × Sl} (k:aB h a (vo O p++vo e q).toArray el) (j:D a) (v:c7 D E h p O) (w:c7 D E h q e):bN D E h ⟨some ⟨a,0,none⟩,2,2⟩ [O,e]:=by
 unfold bN;refine ⟨rfl,Nat.le_refl _,_,rfl,j,eO.at k (λi v b => ?_) v,?_⟩
 ·rw[Nat.zero_add,List.getElem?_toArray,List.getElem?_append_left (List.getElem?_eq_some_iff.1 b).1];exact b
 ·unfold fK;refine ⟨?_,by unfold fK;trivial⟩
  rw[aI];refine eO.at k (λi v b => ?_) w;rw[List.getElem?_toArray,List.getElem?_append_right (by simp[vo]),show 0+1*6+i - (vo O p).length=i by simp[vo]];exact b
theorem Lh:∀(n:Nat) (a:List ak),a.length=n->(bR a).2.length<=a.length/\∀x∈(bR a).2,x<=a.length:=by
  intro n
  induction n with
  | zero=>intro a i;rw[List.length_eq_zero_iff.1 i];exact ⟨Nat.le_refl _,λx d=>by simp[bR] at d⟩
  | succ n o =>
    intro j i;obtain ⟨a,v,rfl⟩:∃a v,j=a++[v]:=by
      rcases List.eq_nil_or_concat j with e | ⟨l,b,e⟩
      · rw[e] at i;simp at i
      · exact ⟨l,b,by rw[e,List.concat_eq_append]⟩
    have k:=o a (by simpa using i)
    rw[AO];unfold uJ;have hl:=(xq a.length a rfl).1;have s:=(xq a.length a rfl).2;split
    · rename_i q
      have p:(bR a).2≠[]:=λe=>by
        have:(bR a).1=[]:=List.length_eq_zero_iff.1 (by rw[s,e];rfl)
        rw[this] at q;simp at q
      refine ⟨?_,λx d => ?_⟩
      · have:=List.length_pos_iff.2 p;simp;omega
      · simp only[List.mem_append,List.mem_singleton] at d;rcases d with d | rfl
        · have:=k.2 x (List.dropLast_subset _ d);simp;omega
        · rw[hl];simp
    · refine ⟨by simp;exact k.1,λx d => ?_⟩
      simp only[List.mem_append,List.mem_singleton] at d;rcases d with d | rfl
      · have:=k.2 x d;simp;omega
      · rw[hl];simp
theorem ahI (N:f.k=20) (a':f.cs=[c]) (C:MC c M):qy f (bE f [M]):=by
 intro T h v vs m K Kp hc H hk;obtain ⟨g,rfl,G⟩:=H;have KF:=js C;have ed:aU f.k=jT:=by unfold aU;rw[if_neg ag,if_neg ag,if_neg ag,if_neg ag,if_neg ag,if_neg ag,if_neg ag,if_pos N]
 have es:∀rb:Rb,bC f.k rb=[(ints rb.ends,Y6)]:=λrb=>by unfold bC;rw[if_neg ag,if_pos ag]
 obtain ⟨W,L⟩:=mO G.ls (es _);obtain ⟨A0,e'⟩:∃A,g.ST[0]? = some A:=⟨_,List.getElem?_eq_getElem (by rw[G.ls.2,es];exact Nat.one_pos)⟩
 have ef:f.dn (f.st vs)=.mk (f.st vs).b.rows 0 0 [] (.mk (f.st vs).b.ends.length 0 0 [[],laidB (f.st vs).b.ends 4] [] []::fU f vs) []:=by rw[Ol N,cQ];rfl
 rw[ef] at hk;have ee:(f.st vs).b.ends=(bR vs).2:=by rw[cQ];simp only[aG];rw[if_neg ag,if_neg ag,if_neg ag,if_neg ag,if_pos N]
 have n4:=((ai.eC f vs).1 hc).n4;have el:(f.st vs).b.ends.length<=70000:=by have:=(Lh _ vs rfl).1;rw[ee];omega
 have eb:∀x∈(f.st vs).b.ends,x < 2 ^ 63:=λx d=>by rw[ee] at d;have:=(Lh _ vs rfl).2 x d;omega
 have q:iP (.iface jT (.pointer (some ⟨g.b,0,none⟩))) h K Kp:=by
  refine aiq (Jl.of (az λY F e1 g1 k2 _ => ?_));refine bF ?_;have z1:=g1.1;have d':=k2.lt;have Gx:∀{d:Hp},ah F d->bh f [M] T d (f.st vs) m g:=λO=>G.fr (S:=No) KF (Tn.aT (ah.trans g1 O)) λ_ _ _=>id;have o0:∀{d:Hp},ah F d->Os A0 d W (ints (f.st vs).b.ends) Y6:=λO=>(Gx O).sl 0 W A0 (ints (f.st vs).b.ends,Y6) (by simp[L]) e' (by rw[es];rfl)
  have n0:=(o0 (ah.refl _)).n;rw[ints,List.length_map] at n0;have fin:∀{d:Hp} {E:Nat} {b:Sl},uh h d Y E (f.st vs).b.ends.length 0 b [[],laidB (f.st vs).b.ends 4]->tO K Kp (some ⟨g.b,0,none⟩) ⟨Y,0,none⟩ ⟨E,0,none⟩ d:=by
   intro d E b B;refine tO.of ?_;refine bF ?_;obtain ⟨c2,t2,Z,e2⟩:=B.k2;have d':=Z.lt;have c':=B.k3.lt;have V:=G.fr (S:=No) KF (Tn.aT B.g) λ_ _ _=>id;obtain ⟨A,w,hA,hw,f'⟩:=nG V rfl;have aC:=V.aC 0 M A w rfl hA hw;have R:f.cs[0]? = some c:=by rw[a'];rfl
   rw[ai.iz R vs] at aC;have ek:fU f vs=[c.dn (c.st (cg f.k f.w (cj f.cs) 0 vs))]:=by
    have F:=pJ (vs:=vs) R;have X:=Fi f vs;rw[a'] at X
    match hq:fU f vs,X with
    | [y],_=>rw[hq] at F;simp at F;rw[F]
   rw[ek] at hk;refine BV.pH V.B.k (bq.b B.k3 (V.ia (i:=1) rfl (.inr (.inr (.inr N))) (by simp[L]) hw (C.done (ai.de R hc) aC λp h3 o D3=>bK B.k3 o (bK V.B.k o (az λb' h4 e4 z k4 _=>bK (V.B.k.aj o) z ?_)))))
   have z3:=o.1;have z4:=z.1;have zB:=B.g.1;have U:=ah.trans o z;refine bw.b (Z.aj U) e2 λh5 o5 k5=>bq.b k5 (hk (Sl.nil,⟨some ⟨b',0,none⟩,2,2⟩,Sl.nil) h5 (aM.aj (ah.trans B.g U) o5 B.l.1) ⟨cY.none,?_,bN.nil _⟩);have d2:bN (λc=>h.size<=c/\c≠Y) (λc=>h.size<=c/\c≠Y) h4 ⟨some ⟨b',0,none⟩,2,2⟩ [.mk (f.st vs).b.ends.length 0 0 [[],laidB (f.st vs).b.ends 4] [] [],c.dn (c.st (cg f.k f.w (cj f.cs) 0 vs))] :=
    bN.two (p:=(b,Sl.nil,Sl.nil)) (q:=p) k4 ⟨by omega,by omega⟩ ⟨(B.bf.gr U).mo (λc q=>⟨q.1,q.2.1⟩) λc q=>⟨q.1,q.2.1⟩,bN.nil _,bN.nil _⟩ ((D3.gr z).fr (S:=No) (Tn.refl _ _) (λ_ _ _=>id) (λ_ _ _=>id) (λc (q:d.size<=c)=>⟨by omega,by omega⟩) λc (q:d.size<=c)=>⟨by omega,by omega⟩)
   exact bN.fr o5.fr (λc q _ e=>q.2 e) (λc q _ e=>q.2 e) (λc q=>q.1) (λc q=>q.1) _ d2
  have q5:∀{d:Hp} {E:Nat} {b:Sl},ah F d->aB d E bS bG->F.size<=E->cY (Ex F E) (Ex F E) d b [[],laidB (f.st vs).b.ends 4]->bw d ⟨E,0,none⟩ (W.n:Int) 0 0 b Sl.nil Sl.nil (tO K Kp (some ⟨g.b,0,none⟩) ⟨Y,0,none⟩ ⟨E,0,none⟩) :=
   λO J l3 Q=>by rw[n0];exact BT (n:=(f.st vs).b.ends.length) (u:=0) g1 k2 rfl ag O J l3 Q λh'=>fin
  have I:=λ{d:Hp} (O:ah F d)=>(Gx O).B.k;have vn:∀{d:Hp} {D:Nat->Prop},cV D d Sl.nil (bv []):=λ{d D}=>⟨Sv.nil d,λq=>absurd rfl q⟩;refine (Gx (ah.refl _)).dL (i:=0) (s:=W) rfl (by simp[L]) ((Gx (ah.refl _)).dL (i:=0) (s:=W) rfl (by simp[L]) ⟨qV (w:=4) (o0 (ah.refl _)) el aL eb λt X j=>bK (I (ah.refl _)) j.g ⟨?_,?_⟩,az λE X e2 P J _=>bK (I (ah.refl _)) P (bK (I (ah.refl _)) P (qV (w:=4) (o0 P) el aL eb λt h3 j=>bK (I P) j.g ?_))⟩)
  ·have z2:=j.g.1;refine pS (D:=λc=>F.size<=c) (s:=Sl.nil) vn (j.iS.mo λc q=>q) z2 λa h3 o Q=>bK (I j.g) o (az λE h4 e4 z J _=>bK (I (ah.trans j.g o)) z (bK (I (ah.trans j.g o)) z ?_));have z3:=o.1;exact q5 (ah.trans (ah.trans j.g o) z) J ag (Q.ic z ag λc q=>q)
  ·have z2:=j.g.1;exact az λE h3 e3 o J _=>bK (I j.g) o (bK (I j.g) o (pS (D:=Ex F E) (s:=Sl.nil) vn (j.iS.ic o ag λc q=>q) ⟨by have:=o.1;omega,by have:=J.lt;omega⟩ λa h4 z Q=>bK (I (ah.trans j.g o)) z (q5 (ah.trans (ah.trans j.g o) z) (J.aj z) ag Q)))
  ·have z2:=P.1;have z3:=j.g.1;have c':=J.lt;exact pS (D:=Ex F E) (s:=Sl.nil) vn (j.iS.mo λc (q:X.size<=c)=>⟨by omega,by omega⟩) ⟨by omega,by omega⟩ λa h4 z Q=>bK (I (ah.trans P j.g)) z (q5 (ah.trans (ah.trans P j.g) z) ((J.aj j.g).aj z) ag Q)
 rw[<-ed] at q;exact q
end
noncomputable def Vq:Code:=Tryz.f198.body.getD .skip
noncomputable abbrev Lr:Code:=sub [1,0] Vq
def lz (VB V2:ij) (b a1:Nat) (cu:Sl) (w:Value) (q0:Bool) (q1:Int) (q2:ByteArray) (q3:Sl):List Cl:=[vb 8 b,vb 9 b,vc 10 (.pointer (some ⟨b,0,none⟩)), .vl 11 VB,vb 12 b,vb 13 b,vc 14 (.pointer (some ⟨b,16,none⟩)),vc 15 (Sl.v cu),vc 16 (.int .i64 (cu.n:Int)),vb 17 b,vb 18 b,vc 19 (.pointer (some ⟨b,18,none⟩)),vc 20 (.agg #[.bool q0, .int .i64 q1, .string q2,Sl.v q3]),vb 21 b,vb 22 b,vc 23 (.pointer (some ⟨b,17,none⟩)),vc 24 (w), .vl 25 V2, .al 3 #[.nilFunc] 1 22 3, .al 4 #[.int .i64 0] 3 23 8, .al 5 dO 41 24 12, .al 6 #[.nilFunc] 1 25 17, .st 18 3, .st 19 8, .st 20 12, .st 21 17]
abbrev agD (b a1:Nat):Fr:=([some (pA b),some (pA a1),some .nilFunc]++nn 34)
def Sb:List (Nat × OT × List Nat):=[(4,(OT.l [0,1,2,3,4,5,6,7,8] .fin),[0,1,3,7,0,16,63,127,255])]
theorem Jk.mk {b:Nat} {h:Hp} {K:Value->HP} {V:PK} {cu:Sl} {w:Value} {q0:Bool} {q1:Int} {q2:ByteArray} {q3:Sl} {U V2:ij} {HE:Int->Prop} (i':∀{f:Hp} {X:Sl->Prop},ah h f->X cu->Ld f ⟨b,16,none⟩ Sl.v X) (l17:∀{f:Hp} {X:Value->Prop},ah h f->X w->Ld f ⟨b,17,none⟩ id X) (l18:∀{f:Hp} {X:Bool->Int->ByteArray->Sl->Prop},ah h f->X q0 q1 q2 q3->aQ f ⟨b,18,none⟩ X) (sB:iu h U) (cB:One U) (HB:∀{B:Hp} {X:Value->HP},ah h B->(∀v f,ah B f->U v B.size f.size f->X v f)->mL (some ⟨b,0,none⟩) B X V) (s2:iu h V2) (c2:One V2) (H2:∀{B:Hp} {X:Value->HP},ah h B->(∀v f,ah B f->V2 v B.size f.size f->X v f)->gE w B X V)
  (q':∀{f:Hp} {X:Int->Prop},ah h f->0 < cu.n->(∀e:Int,HE e->X e)->Ix cu.a cu.n 1 ((cu.n:Int) - 1) λa=>Ld f a mI X)
  (hn:cu.n < 2 ^ 62) (j:∀J (e:Int) F0 KF l0 u0 l2 u2 f,(0 < cu.n->HE e)->(cu.n=0->e=0)->nQ h f J [#[F0],#[KF],#[pA b],#[.int .i64 (cu.n:Int)],#[.bool q0, .int .i64 q1, .string q2,Sl.v q3],#[.int .i64 e]] U V2 F0 KF l0 u0 l2 u2->K (.func (.func rY) #[] (J.map pA).toArray) f):Jk (some ⟨b,0,none⟩) h K V:=by
 refine agJ (aZ:=[]) (o:=Sb) (zs:=[.nilFunc]) (Kv:=K) Tryz.func198 aF (S:=aD h #[pA b] 90 λl B=>sF Tryz.prog (kY Lr) (λfr h=>c8 Tryz.prog [] (Aj Tryz.prog Sb) none (sub [1,1] Vq) (iT Tryz.prog [.tmp 2] [.nilFunc] K) V fr h) V (kY Lr).size (List.range (kY Lr).size) ([some (pA b),some (.pointer (some l)),some .nilFunc]++nn 34) B) ?_ aF aF;refine az λl B e1 x R _=>sP (C:=lz U V2 b l cu w q0 q1 q2 q3) (cF:=agD b l) aF aF aF ⟨
  o0 1 (pA l) λK h g j=>jo (R.aj g) j,
  oE 0,
  oE 1,
  oF 2 (sB.mo x.1) λK h g j=>HB (X:=λF f=>K (some F) f) (ah.trans x g) j,
  o0 1 (pA l) λK h g j=>jo (R.aj g) j,
  oE 4,
  oE 5,
  oX 6 λK h g j=>i' (X:=λs=>K (some s.v) h) (ah.trans x g) j,
  oE 7,
  o0 1 (pA l) λK h g j=>jo (R.aj g) j,
  oE 9,
  oE 10,
  oX 11 λK h g j=>l18 (X:=λx0 x1 x2 x3=>K (some (.agg #[.bool x0, .int .i64 x1, .string x2,Sl.v x3])) h) (ah.trans x g) j,
  o0 1 (pA l) λK h g j=>jo (R.aj g) j,
  oE 13,
  oE 14,
  oX 15 λK h g j=>l17 (X:=λs=>K (some s) h) (ah.trans x g) j,
  oF 16 (s2.mo x.1) λK h g j=>H2 (X:=λF f=>K (some F) f) (ah.trans x g) j,
  oA,
  oA,
  oA,
  oA,
  oS true cB,
  oS false (sK _),
  So (raw:=false) aF rfl rfl (λv lo N h q=>by rw[show v=_ from q];exact ⟨rfl,λy hy=>by simp[Value.cells,Sl.v] at hy;rcases hy with rfl | rfl | rfl | rfl <;> rfl,λe=>by cases e⟩),
  oS true c2,
  trivial⟩ λfr h2 F A lo N M => ?_
 have d:∀{i:Nat},i∉([]:List Nat):=List.not_mem_nil;have s1:=x.1;obtain ⟨p0,q0',y0,z0⟩:_/\_/\_/\_:=M.c 0 _ rfl d;rw[(q0':F 0=_)] at p0;obtain ⟨p1,q1',y1,z1⟩:_/\_/\_/\_:=M.c 1 _ rfl d;rw[(q1':F 1=_)] at p1;obtain ⟨p2,q2',y2,z2⟩:_/\_/\_/\_:=M.c 2 _ rfl d;rw[(q2':F 2=_)] at p2;obtain ⟨p3,Z,y3,z3⟩:_/\_/\_/\_:=M.c 3 _ rfl d;obtain ⟨p4,q4',y4,z4⟩:_/\_/\_/\_:=M.c 4 _ rfl d;rw[(q4':F 4=_)] at p4;obtain ⟨p5,z',y5,z5⟩:_/\_/\_/\_:=M.c 5 _ rfl d;rw[(z':F 5=_)] at p5;obtain ⟨p6,y',y6,z6⟩:_/\_/\_/\_:=M.c 6 _ rfl d;rw[(y':F 6=_)] at p6;obtain ⟨p7,x',y7,z7⟩:_/\_/\_/\_:=M.c 7 _ rfl d;rw[(x':F 7=_)] at p7;obtain ⟨p8,Y,y8,z8⟩:_/\_/\_/\_:=M.c 8 _ rfl d;rw[(Y:F 8=_)] at p8;obtain ⟨p9,w',y9,z9⟩:_/\_/\_/\_:=M.c 9 _ rfl d;rw[(w':F 9=_)] at p9;obtain ⟨g',p',y10,Yd⟩:_/\_/\_/\_:=M.c 10 _ rfl d;rw[(p':F 10=_)] at g';obtain ⟨f',o',y11,Yc⟩:_/\_/\_/\_:=M.c 11 _ rfl d;rw[(o':F 11=_)] at f';obtain ⟨e',E,y12,z12⟩:_/\_/\_/\_:=M.c 12 _ rfl d;rw[(E:F 12=_)] at e';obtain ⟨d',n',y13,Yb⟩:_/\_/\_/\_:=M.c 13 _ rfl d;rw[(n':F 13=_)] at d';obtain ⟨c',m',y14,z14⟩:_/\_/\_/\_:=M.c 14 _ rfl d;rw[(m':F 14=_)] at c';obtain ⟨b',l',y15,z15⟩:_/\_/\_/\_:=M.c 15 _ rfl d;rw[(l':F 15=_)] at b';obtain ⟨a',k',y16,z16⟩:_/\_/\_/\_:=M.c 16 _ rfl d;rw[(k':F 16=_)] at a';obtain ⟨p17,D,y17,r'⟩:_/\_/\_/\_:=M.c 17 _ rfl d;obtain ⟨p18,y18,I⟩:_/\_/\_:=M.c 18 _ rfl d;obtain ⟨p19,y19,t⟩:_/\_/\_:=M.c 19 _ rfl d;obtain ⟨p20,y20,H⟩:_/\_/\_:=M.c 20 _ rfl d;obtain ⟨p21,y21,G⟩:_/\_/\_:=M.c 21 _ rfl d;rw[if_neg d,(cB _ _ _ _ Z).2] at I;rw[if_neg d,(Y:F 8=_)] at t;rw[if_neg d,(E:F 12=_)] at H;rw[if_neg d,(c2 _ _ _ _ D).2] at G;have p_0:fr.getD 0 none=some (pA b):=M.o.2 0 (by simp[lz,Cl.dst])
 have p_1:fr.getD 1 none=some (pA l):=M.o.2 1 (by simp[lz,Cl.dst])
 have p_2:fr.getD 2 none=some .nilFunc:=M.o.2 2 (by simp[lz,Cl.dst])
 have efr:fr=([some (pA b),some (pA l),some .nilFunc,some (pA (A 18)),some (pA (A 19)),some (pA (A 20)),some (pA (A 21)),none,some (pA b),some (pA b),some (.pointer (some ⟨b,0,none⟩)),some (F 3),some (pA b),some (pA b),some (.pointer (some ⟨b,16,none⟩)),some (Sl.v cu),some (.int .i64 (cu.n:Int)),some (pA b),some (pA b),some (.pointer (some ⟨b,18,none⟩)),some (.agg #[.bool q0, .int .i64 q1, .string q2,Sl.v q3]),some (pA b),some (pA b),some (.pointer (some ⟨b,17,none⟩)),some (w),some (F 17)]++nn 11):=agB (by rw[M.o.1];rfl) λi N=>by
  match i,N with
  | 0,_=>exact p_0
  | 1,_=>exact p_1
  | 2,_=>exact p_2
  | 3,_=>exact p18
  | 4,_=>exact p19
  | 5,_=>exact p20
  | 6,_=>exact p21
  | 7,_=>exact M.o.2 7 (by simp[lz,Cl.dst])
  | 8,_=>exact p0
  | 9,_=>exact p1
  | 10,_=>exact p2
  | 11,_=>exact p3
  | 12,_=>exact p4
  | 13,_=>exact p5
  | 14,_=>exact p6
  | 15,_=>exact p7
  | 16,_=>exact p8
  | 17,_=>exact p9
  | 18,_=>exact g'
  | 19,_=>exact f'
  | 20,_=>exact e'
  | 21,_=>exact d'
  | 22,_=>exact c'
  | 23,_=>exact b'
  | 24,_=>exact a'
  | 25,_=>exact p17
  | 26,_=>exact M.o.2 26 (by simp[lz,Cl.dst])
  | 27,_=>exact M.o.2 27 (by simp[lz,Cl.dst])
  | 28,_=>exact M.o.2 28 (by simp[lz,Cl.dst])
  | 29,_=>exact M.o.2 29 (by simp[lz,Cl.dst])
  | 30,_=>exact M.o.2 30 (by simp[lz,Cl.dst])
  | 31,_=>exact M.o.2 31 (by simp[lz,Cl.dst])
  | 32,_=>exact M.o.2 32 (by simp[lz,Cl.dst])
  | 33,_=>exact M.o.2 33 (by simp[lz,Cl.dst])
  | 34,_=>exact M.o.2 34 (by simp[lz,Cl.dst])
  | 35,_=>exact M.o.2 35 (by simp[lz,Cl.dst])
  | 36,_=>exact M.o.2 36 (by simp[lz,Cl.dst])
  | i+37,N=>exact absurd N (by simp[nn])
 subst efr;have j':=R.aj M.g;have gM:=ah.trans x M.g;refine cast aF (show aD h2 #[.int .i64 0] 3 λm h3=>St h3 m (.int .i64 0) λk=>Ld k ⟨A 19,0,none⟩ mI λv'=>If (decide (v' > 0)) (Ld k ⟨l,0,none⟩ Value.pointer λu'=>NN u' λp29=>Ld k (p29.add 16) Sl.v λW=>Ld k ⟨A 19,0,none⟩ mI λt'=>Wr .i64 (t' - 1) λs'=>Ix W.a W.n 1 s' λa34=>Ld k a34 mI λP=>St k m (.int .i64 P) λr=>K (.func (.func rY) #[] #[pA (A 18),pA (A 21),pA (l),pA (A 19),pA (A 20), .pointer (some m)]) r) (K (.func (.func rY) #[] #[pA (A 18),pA (A 21),pA (l),pA (A 19),pA (A 20), .pointer (some m)]) k) from (az λm h3 e7 g3 L _=>cE L aS rfl λk o4 L => ?_));have s3:=g3.1;have gM1:=gM.1;have u:ah h2 k:=aM.aj g3 o4 ag;have L:aB k m #[.int .i64 0] 3:=by simpa using L
 have a7l:=L.lt;have fin:∀(e:Int) r,aM m k r\/r=k->(0 < cu.n->HE e)->(cu.n=0->e=0)->aB r m #[.int .i64 e] 3->K (.func (.func rY) #[] #[pA (A 18),pA (A 21),pA (l),pA (A 19),pA (A 20), .pointer (some ⟨m,0,none⟩)]) r:=by
  intro e r o5 he he0 k5;have Q:Tn (λc=>c=m) k r:=by rcases o5 with o | rfl;exact o.fr;exact Tn.refl _ _
  have O:ah h2 r:=((Tn.aT u:Tn No h2 k).trans' Q λc q fO=>by omega).aj
  have z5:=O.1;refine j [A 18,A 21,l,A 19,A 20,m] e (F 3) (F 17) (lo 3) (N 3) (lo 17) (N 17) r he he0 ⟨ah.trans gM O,rfl,λi a p => ?_,⟨?_,by omega,by omega⟩,⟨?_,by omega,by omega⟩,M.vv 3 17 _ _ _ _ rfl rfl d d aL⟩
  ·rcases i with _ | _ | _ | _ | _ | _ | i
   ·cases p;exact ⟨by omega,M.av 18 17 _ _ _ _ _ _ _ rfl rfl d d,_,_,rfl,I.aj O⟩
   ·cases p;exact ⟨by omega,M.av 21 17 _ _ _ _ _ _ _ rfl rfl d d,_,_,rfl,G.aj O⟩
   ·cases p;exact ⟨by omega,λq=>by have:=R.lt;omega,_,_,rfl,j'.aj O⟩
   ·cases p;exact ⟨by omega,M.av 19 17 _ _ _ _ _ _ _ rfl rfl d d,_,_,rfl,t.aj O⟩
   ·cases p;exact ⟨by omega,M.av 20 17 _ _ _ _ _ _ _ rfl rfl d d,_,_,rfl,H.aj O⟩
   ·cases p;exact ⟨by omega,λq=>by omega,_,_,rfl,k5⟩
   ·simp at p
  ·exact sB (λc=>c=m) _ _ _ _ _ (sB No _ _ _ _ _ Z ag z3 (Tn.aT u) λ_ q=>q.elim) ag (by have:=u.1;omega) Q λc q=>⟨by omega,by omega⟩
  ·exact s2 (λc=>c=m) _ _ _ _ _ (s2 No _ _ _ _ _ D ag r' (Tn.aT u) λ_ q=>q.elim) ag (by have:=u.1;omega) Q λc q=>⟨by omega,by omega⟩
 refine an (t.aj u) rfl (aA (λT => ?_) λT => ?_)
 ·have T:=ay T;refine an (j'.aj u) rfl ?_;refine bF ?_;refine i' (ah.trans gM u) (an (t.aj u) rfl (aP ag ag ?_));have q:=q' (X:=λP=>St k ⟨m,0,none⟩ (.int .i64 P) λr=>K (.func (.func rY) #[] #[pA (A 18),pA (A 21),pA (l),pA (A 19),pA (A 20), .pointer (some ⟨m,0,none⟩)]) r) (ah.trans gM u) ag λe he=>cE L aS rfl λr o5 k5=>fin e r (.inl o5) (λ_=>he) (λz=>by omega) (by simpa using k5)
  exact q
 ·have T:=ay T;exact fin 0 k (.inr rfl) (λq=>by omega) (λ_=>rfl) L
section
variable {f c:ai} {KM:List bD} {M:bD}
theorem adV (d:f.k=20) (E:f.cs=[c]) (C:MC c M):qi f (bE f [M]):=by
 intro T h v vs K Kp hc H hk;obtain ⟨g,rfl,G⟩:=H;have R:=js C;have ed:aU f.k=jT:=by unfold aU;rw[if_neg ag,if_neg ag,if_neg ag,if_neg ag,if_neg ag,if_neg ag,if_neg ag,if_pos d]
 have eb:dG f.k=rY:=by unfold dG;rw[if_neg ag,if_neg ag,if_neg ag,if_neg ag,if_neg ag,if_neg ag,if_pos d]
 have N:∀o:Rb,bC f.k o=[(ints o.ends,Y6)]:=λo=>by unfold bC;rw[if_neg ag,if_pos ag]
 have eS:∀X h sp (o:Rb),eY f.k X h sp o↔∃t,sp=[.bool (fN o).aq, .int .i64 (fN o).num, .string (bs (fN o).text),Sl.v t]/\au X h t (fN o).items:=λX h sp o=>by unfold eY;rw[if_neg ag,if_pos d]
 obtain ⟨u,j⟩:=mO G.ls (N _);obtain ⟨A,w,U,P,c'⟩:=nG G rfl;obtain ⟨A0,Y⟩:∃A,g.ST[0]? = some A:=⟨_,List.getElem?_eq_getElem (by rw[G.ls.2,N];exact Nat.one_pos)⟩
 have I:f.cs[0]? = some c:=by rw[E];rfl
 have O:u.n=(f.st vs).b.ends.length:=by have:=G.kq (i:=0) (s:=u) (by simp[j]) (by rw[N];rfl);rw[this,ints,List.length_map]
 have aC:=G.aC 0 M A w rfl U P;have r:=ai.iz I vs;have Z:∀c,A c->c < h.size:=λc q=>G.t.l (List.mem_of_getElem? (g.dy U)) q;obtain ⟨t,J,b'⟩:=(eS _ _ _ _).1 G.sp;have n4:=((ai.eC f vs).1 hc).n4;have ee:(f.st vs).b.ends=(bR vs).2:=by rw[cQ];simp only[aG];rw[if_neg ag,if_neg ag,if_neg ag,if_neg ag,if_pos d]
 have el:(f.st vs).b.ends.length<=4096:=by have:=(Lh _ vs rfl).1;rw[ee];omega
 have p:∀{V:Hp},ah h V->bh f [M] T V (f.st vs) none g:=λgr=>G.fr (S:=No) R (Tn.aT gr) λ_ _ _=>id;have q:gE (.iface jT (.pointer (some ⟨g.b,0,none⟩))) h K Kp:=by
  rw[r] at aC;refine aih (Jk.mk (cu:=u) (w:=w) (q0:=(fN (f.st vs).b).aq) (q1:=(fN (f.st vs).b).num) (q2:=bs (fN (f.st vs).b).text) (q3:=t) (V2:=gV M A w ((f.st vs).aC 0)) (HE:=λe=>e=(((f.st vs).b.ends.getLastD 0:Nat):Int)) (λgr y=>G.uR (i:=0) R gr rfl (by simp[j]) y) (λgr y=>(p gr).ia (i:=1) rfl (.inr (.inr (.inr d))) (by simp[j]) P y) (λgr y => ?_) eD.gZ eD.one (λgr x=>eD.call G.B gr x) (gV.gZ C.fr Z) gV.one (λgr x => ?_) (λgr hp x => ?_) ag λa' e F0 KF l0 u0 l2 u2 V he W Q => ?_)
  ·have L:=(p gr).Ot (.inr d) (by simp[j])
   rw[J] at L;exact aQ.c L y
  ·rw[r] at x;exact gV.call C (ai.de I hc) aC gr x
  ·have os:=(p gr).sl 0 u A0 (ints (f.st vs).b.ends,Y6) (by simp[j]) Y (by rw[N];rfl)
   have D:(f.st vs).b.ends≠[]:=λe=>by rw[e] at O;simp at O;omega
   refine os.sv.ix ag ag (v:=.int .i64 (((f.st vs).b.ends.getLastD 0:Nat):Int)) ?_ λa ha=>GS ha (x _ rfl);have e1:((u.n:Int) - 1).toNat=(f.st vs).b.ends.length - 1:=ag;rw[e1]
   show (ints (f.st vs).b.ends)[_]? = _
   unfold ints;rw[List.getElem?_map,<-List.getLast?_eq_getElem?,List.getLast?_eq_some_getLast D,List.getLastD_eq_getLast?,List.getLast?_eq_some_getLast D];rfl
  ·have ev:e=(((f.st vs).b.ends.getLastD 0:Nat):Int):=by
    by_cases z:u.n=0
    ·have:(f.st vs).b.ends=[]:=List.length_eq_zero_iff.1 ag;rw[W z,this];rfl
    ·exact he ag
   have:=G.Ff (sp:=g.sp) R E U P Q (.inr (.inr (.inr d))) (by unfold cz;rw[if_neg ag,if_neg ag,if_neg ag,if_neg ag,if_neg ag,if_pos d];exact ⟨Nat.le_refl _,List.dropLast_prefix _,el⟩) (λ_=>by have:=(p Q.g).sp;rw[d] at this;exact this) (λF m => ?_) hk
   ·rw[eb] at this;exact this
   ·unfold fF;simp only;rw[if_neg ag,if_neg ag,if_neg ag,if_neg ag,if_neg ag,if_pos d];have e2:(Mem.mk F (f.st vs) g.sb [m] g.sp).sp=[.bool (fN (f.st vs).b).aq, .int .i64 (fN (f.st vs).b).num, .string (bs (fN (f.st vs).b).text),Sl.v t]:=J;rw[e2,O,ev];rfl
 rw[<-ed] at q;exact q
theorem Zv (e:bp f) (a:f.k=20) (i:f.cs=[c]) (C:MC c M) (t:fo c):pW f (bE f [M]):=by
 intro T D h v vs m x s K u o d j H l p n;obtain ⟨g,rfl,G⟩:=H;have r:aU f.k=jT:=by unfold aU;rw[if_neg ag,if_neg ag,if_neg ag,if_neg ag,if_neg ag,if_neg ag,if_neg ag,if_pos a]
 have q:iZ (.iface jT (.pointer (some ⟨g.b,0,none⟩))) x.aq x.num (bs x.text) s h K u:=ah7 (QD e a i C t o d j G l (λc q _=>G.out (p c q)) n);rw[<-r] at q;exact q
theorem X3 (d:bp f) (a:f.k=20) (e:f.cs=[c]) (C:MC c M) (n:fo c):pU f (bE f [M]):=by
 intro T h v vs m K o j H i;obtain ⟨g,rfl,G⟩:=H;have l:aU f.k=jT:=by unfold aU;rw[if_neg ag,if_neg ag,if_neg ag,if_neg ag,if_neg ag,if_neg ag,if_neg ag,if_pos a]
 have q:iO (.iface jT (.pointer (some ⟨g.b,0,none⟩))) h K o:=ahY (XU d a e C n j G i);rw[<-l] at q;exact q
theorem E0 (a:dU f.k=true) {vs:List ak} (d:f.can vs):(f.st vs).b.cm.length<=70000/\(f.st vs).b.texts.length<=70000:=by
 have e:=((ai.eC f vs).1 d).n4;rw[cQ];simp only[aG,a,if_true,List.length_map];omega
theorem Zw (a:dU f.k=true):pW f (bE f []):=by
 intro T D h v vs m x s K w d p A H B C t;obtain ⟨g,rfl,G⟩:=H;obtain ⟨r,z,y,o,n,l,j,i,e⟩:=sH a;have u:aU f.k=kF:=by unfold aU;rw[if_neg r,if_neg ag,if_neg o,if_neg n,if_neg l,if_neg j,if_neg i,if_neg e]
 have q:iZ (.iface kF (.pointer (some ⟨g.b,0,none⟩))) x.aq x.num (bs x.text) s h K w:=ah8 (QE a lV G (E0 a d).1 (E0 a d).2 (by have:=(eB d).1;omega) (by have:=Qf x;omega) t)
 rw[<-u] at q;exact q
theorem X4 (p:bp f) (a:dU f.k=true):pU f (bE f []):=by
 intro T h v vs m K w d H r;obtain ⟨g,rfl,G⟩:=H;obtain ⟨s,y,x,o,n,l,j,i,e⟩:=sH a;have u:aU f.k=kF:=by unfold aU;rw[if_neg s,if_neg ag,if_neg o,if_neg n,if_neg l,if_neg j,if_neg i,if_neg e]
 have q:iO (.iface kF (.pointer (some ⟨g.b,0,none⟩))) h K w:=by
  have t:¬(16<=f.k/\f.k<=20):=ag;rw[qA (.inr t)] at r;refine ahZ (Jg.of ?_);refine bF ?_;exact aQ.c G.oK (QE a lV G (E0 a d).1 (E0 a d).2 (by have:=(eB d).1;omega) (by have:=Sy p;omega) r)
 rw[<-u] at q;exact q
end
theorem alh {α:Type} {x:α} {K:α->Prop} (h:K x):Lt x K:=h
abbrev PV (a:Nat) (t:TypeId) (h:Hp) (x:Int) (K:HP):Prop:=∀h',Tn (λc=>c=a) h h'->aB h' a #[.int .u64 x] t->K h'
section
variable {a:Nat} {t:TypeId} {h:Hp} {x:Int} {K:HP} {Kp:PK}
theorem NS {c:Int} (k:aB h a #[.int .u64 x] t) (d:PV a t h (hB x c) K):wK (some ⟨a,0,none⟩) c h K Kp:=by
 refine wK.of ?_;simp only[kO];exact an k rfl (cE k aS rfl λe o b=>d e o.fr (by simpa[hB] using b))
theorem Ny {n:Int} (k:aB h a #[.int .u64 x] t) (m:PV a t h (hN 8 x n) K):wJ (some ⟨a,0,none⟩) n h K Kp:=by
 refine wJ.of (He.bB (λy i f=>∃j:Nat,i=j/\j<=8/\Tn (λc=>c=a) h f/\∃z,aB f a #[.int .u64 z] t/\hN (8 - j) z y=hN 8 x n) (λ_ i _=>8 - i.toNat) ⟨0,rfl,by omega,Tn.refl _ _,x,k,rfl⟩ ?_)
 rintro y i p ⟨j,rfl,r,b,z,d,e⟩ N o;refine aA (λc => ?_) λc => ?_
 ·have c:=ay c;refine NS d λs g l=>fY ag (alh (aP ag ag (o _ _ _ ⟨j+1,by simp,by omega,b.trans g,_,l,?_⟩ ag)))
  rw[<-e,show 8 - j=8 - (j+1)+1 by omega];rfl
 ·have c:=ay c;have:j=8:=ag;subst this;have q:z=hN 8 x n:=e;exact m p b (q ▸ d)
def PU (v:ak):Prop:=∀{D:Nat->Prop} {a:Nat} {t:TypeId} {h:Hp} {s:Sl} {x:Int} {K:HP} {Kp:PK},au D h s v.items->¬D a->v.aV<=2 ^ 40->aB h a #[.int .u64 x] t->PV a t h (v.jr x) K->zK (some ⟨a,0,none⟩) v.aq v.num (bs v.text) s h K Kp
theorem TM:∀(l m:List ak) (x:Int),oB (l++m) x=oB m (oB l x)
 | [],_,_=>by simp[oB]
 | v::l,m,x=>by simp only[List.cons_append,oB];exact TM l m _
theorem afg {v:ak} (IH:∀x∈v.items,PU x):PU v:=by
 intro D a t h s x K Kp E W hw k hk;have c':=gO v;have d':=Fk v;have hn:=E.n;have a':=k.lt;refine zK.of (az λY o e1 H V _ => ?_);have k:=k.aj H;have E:=au.gr (au.lt _ E) H;have s1:=H.1;have l:∀{F:Hp},Tn (λc=>c=a) o F->au (λc=>D c/\c < h.size) F s v.items/\aB F Y #[.bool v.aq, .int .i64 v.num, .string (bs v.text),Sl.v s] bW:=λtn=>⟨au.fr tn (λc q _ e=>W (e ▸ q.1)) (λ_ q=>q) _ E,tn.aK V ag⟩;have J:∀{b:Int},b=(if v.aq then 1 else 0)->yK K Kp (some ⟨a,0,none⟩) ⟨Y,0,none⟩ b o:=by
  intro b hb;refine yK.of (NS k λF C k => ?_);simp only[aI,Nat.zero_add];refine an (l C).2 rfl (Ny k λh3 I k=>an (l (C.trans I)).2 rfl (Ny k λh4 U k=>an (l ((C.trans I).trans U)).2 rfl ?_));rw[fG] at k ⊢;generalize R:hN 8 _ _=T at k;refine Hg.bB (λi r=>∃j:Nat,i=j/\j<=v.text.length/\Tn (λc=>c=a) o r/\aB r a #[.int .u64 (hT T (v.text.take j))] t) (λi _=>v.text.length - i.toNat) ⟨0,rfl,Nat.zero_le _,((C.trans I).trans U),k⟩ ?_;rintro i h5 ⟨j,rfl,hj,m,k⟩ N M;refine aA (λc => ?_) λc => ?_
  ·have c:=ay c;have f:j < v.text.length:=ag;refine an (l m).2 rfl (Ja (b:=v.text[j]) rfl (by rw[KN];exact List.getElem?_eq_getElem f) (NS k λh6 B k=>aP ag ag (M _ _ ⟨j+1,by simp,by omega,m.trans B,?_⟩ ag)))
   rw[List.take_succ_eq_append_getElem f];unfold hT at k ⊢;rw[List.foldl_append];exact k
  ·have c:=ay c;have:j=v.text.length:=ag;subst this;rw[List.take_length] at k;refine Iq.of ?_;simp only[aI,Nat.zero_add];refine an (l m).2 rfl (Ny k λh6 B k=>an (l (m.trans B)).2 rfl ?_);have en:(s.n:Int)=(v.items.length:Int):=by rw[hn.1]
   rw[en] at k ⊢;generalize Q:hN 8 (hT T v.text) _=S at k;have y:v.jr x=oB v.items S:=by
    rw[<-Q,<-R,hb];obtain ⟨a,b,c,d⟩:=v;rfl
   refine Hh.bB (λi r=>∃j:Nat,i=j/\j<=v.items.length/\Tn (λc=>c=a) o r/\aB r a #[.int .u64 (oB (v.items.take j) S)] t) (λi _=>v.items.length - i.toNat) ⟨0,rfl,Nat.zero_le _,(m.trans B),by simpa[oB] using k⟩ ?_
   rintro i O ⟨j,rfl,hj,A,k⟩ N M;refine aA (λc => ?_) λc => ?_
   ·have c:=ay c;have f:j < v.items.length:=ag;have L:v.items[j]? = some v.items[j]:=List.getElem?_eq_getElem f;have w:v.items.take (j+1)=v.items.take j++[v.items[j]]:=List.take_succ_eq_append_getElem f;generalize v.items[j]=z at L w;have g:=List.mem_of_getElem? L;have b':=nh g;refine (l A).1.ix rfl L λp u cx hz=>aQ.c cx (az λa7 h8 e8 g8 k8 _=>bV.b k8 rfl λX Z k9=>aQ.b k9 ?_);have z7:=A.1;have G:ah O X:=aM.aj g8 Z ag;have z9:=G.1;refine IH z g (au.gr hz G) (λq=>W q.1) ag (k.aj G) λe' P k=>aP ag ag (M _ _ ⟨j+1,by simp,by omega,A.trans ((Tn.aT G:Tn _ O X).trans P),?_⟩ ag)
    rw[w,TM];simpa[oB] using k
   ·have c:=ay c;have:j=v.items.length:=ag;subst this;rw[List.take_length,<-y] at k;exact hk O ((Tn.aT H:Tn _ h o).trans A) k
 exact an V rfl (aA (λc=>J (by rw[if_pos c])) λc=>J (by rw[c];rfl))
theorem TL:∀v:ak,PU v
 | .mk a b c items=>afg (v:=.mk a b c items) λx (_:x∈items)=>TL x
theorem NT (v:ak) {D:Nat->Prop} {s:Sl} {K:Int->HP} (o:au D h s v.items) (n:v.aV<=2 ^ 40) (p:∀i,ah h i->K v.hash i):wM v.aq v.num (bs v.text) s h K Kp:=by
 refine wM.of (az λF B e1 k g _=>az λE A C e d _=>cE d aS rfl λu f d=>aQ.b (f.aK (g.aj e) (by have:=g.lt;omega)) ?_)
 have z:=k.1;have y:=e.1;have j:=aM.aj (ah.trans k e) f ag;exact TL v (D:=λc=>D c/\c < h.size) (au.gr (au.lt _ o) j) (λq=>by omega) n (by simpa using d) λr l m=>an m rfl (p r (((Tn.aT j:Tn No h u).trans' l λc q w=>by omega).aj))
end
theorem Fz (vals:List ak) (n:Nat) (u:Int):hl vals (n+1) u=hl vals n u++if (vals.getD n v0).hash=u then [n] else []:=by
 unfold hl;rw[List.range_succ,List.filter_append]
 congr 1
 by_cases e:(vals.getD n v0).hash=u
 ·rw[if_pos e,List.filter_cons_of_pos (by simpa using e)];rfl
 ·rw[if_neg e,List.filter_cons_of_neg (by simpa using e)];rfl
theorem NF (vals:List ak) (n:Nat) (u:Int):(hl vals n u).length<=n:=by
 have:=List.length_filter_le (λi=>decide ((vals.getD i v0).hash=u)) (List.range n);rw[List.length_range] at this;exact this
theorem ML {vals:List ak} {n i:Nat} {u:Int}:i∈hl vals n u↔i < n/\(vals.getD i v0).hash=u:=by
 unfold hl;simp
theorem afF {v w:List ak} {n:Nat} (h:∀i,i < n->v.getD i v0=w.getD i v0) (u:Int):hl v n u=hl w n u:=by
 unfold hl;refine List.filter_congr λi a => ?_;rw[h i (List.mem_range.1 a)]
theorem N6 {α:Type} {f:α->α} {l:List α} {i j:Nat}:(l.modify j f)[i]? = if j=i then (l[i]?).map f else l[i]? := by
 rw[List.getElem?_modify];split <;> simp
section
variable {es:List MapEntry} {P P':Int->Prop} {S S':Int->Sl} {h:Hp} {mr c:Nat} {ea:Array MapEntry}
theorem jC.key (E:jC es P S):∀x∈es,MapKept.IsKey (.int .u64) x.key:=λx b=>by obtain ⟨u,e,_⟩:=E.a x b;rw[e];rfl
theorem jC.congr (E:jC es P S) (d:∀u,P u↔P' u) (j:∀u,P u->S u=S' u):jC es P' S' :=
 ⟨λe i=>by obtain ⟨u,e1,k,f⟩:=E.a e i;exact ⟨u,e1,by rw[k,j u f],(d u).1 f⟩,λu g=>E.b u ((d u).2 g),E.c⟩
theorem jC.find (E:jC es P S) (u:Int):(P u/\∃j e,Instr.findNow (.int .u64) (.int .u64 u) es 0=some (some (j,Sl.v (S u)))/\es[j]? = some e/\e.key=.int .u64 u)\/(¬P u/\Instr.findNow (.int .u64) (.int .u64 u) es 0=some none/\∀x∈es,x.key≠.int .u64 u):=by
 rcases MapKept.findNow_spec (d:=.int .u64) (k:=.int .u64 u) rfl es 0 E.key with ⟨g,f⟩ | ⟨j,e,g,f,i⟩
 ·refine .inr ⟨λp => ?_,g,f⟩;obtain ⟨e,m,l⟩:=E.b u p;exact f e m l
 ·obtain ⟨w,e1,q,o⟩:=E.a e (List.mem_of_getElem? f);rw[i] at e1;cases e1;exact .inl ⟨o,j,e,by rw[g,q,Nat.zero_add],f,i⟩
theorem jC.ne (E:jC es P S) {i j:Nat} {x y:MapEntry} (o:es[i]? = some x) (m:es[j]? = some y) (e:x.key=y.key):i=j:=by
 have d:=List.pairwise_iff_getElem.1 E.c;obtain ⟨b,g⟩:=List.getElem?_eq_some_iff.1 o;obtain ⟨a,f⟩:=List.getElem?_eq_some_iff.1 m;rcases Nat.lt_trichotomy i j with q | q | q
 ·exact absurd (by rw[g,f];exact e) (d i j b a q)
 ·exact q
 ·exact absurd (by rw[g,f];exact e.symm) (d j i a b q)
theorem jC.lk {K:Sl->Bool->Prop} {u:Int} (E:jC ea.toList P S) (k:h[mr]? = some (.map ea c)) {a:Sl} (f:P u->S u=a) (d:¬P u->a=Sl.nil) (b:∀ok,K a ok):Lk h (some mr) (.int .u64) (.int .u64 u) (.slice none 0 0) Sl.v K:=by
 unfold Lk;rcases E.find u with ⟨p,j,e,q,_⟩ | ⟨p,q,_⟩
 ·exact ⟨ea,c,_,k,q,S u,rfl,by rw[f p];exact b _⟩
 ·exact ⟨ea,c,_,k,q,Sl.nil,rfl,by rw[<-d p];exact b _⟩
theorem sE {o:Obj} (a:mr < h.size):aM mr h (h.setIfInBounds mr o)/\(h.setIfInBounds mr o)[mr]? = some o :=
 ⟨⟨by simp,λd b=>by rw[Array.getElem?_setIfInBounds_ne (Ne.symm b)]⟩,by rw[Array.getElem?_setIfInBounds_self_of_lt a]⟩
open Classical in
theorem jC.put {K:HP} {u:Int} {s:Sl} (E:jC ea.toList P S) (k:h[mr]? = some (.map ea c)) (hk:∀h' FT c',aM mr h h'->h'[mr]? = some (.map FT c')->jC FT.toList (λw=>P w\/w=u) (λw=>if w=u then s else S w)->K h') :
  Up h (some mr) (.int .u64) (.int .u64 u) (Sl.v s) K:=by
 have hm:=(Array.getElem?_eq_some_iff.1 k).1
 unfold Up
 rcases E.find u with ⟨p,j,e,q,hj,ek⟩ | ⟨p,q,hx⟩
 ·refine ⟨ea,c,_,k,q,hk _ _ _ (sE hm).1 (sE hm).2 ?_⟩
  have tl:(ea.modify j λe=>{ e with key:=.int .u64 u,val:=Sl.v s }).toList=ea.toList.modify j λe=>{ e with key:=.int .u64 u,val:=Sl.v s }:=by simp
  have get:∀(i:Nat) x,(ea.toList.modify j λe=>{ e with key:=.int .u64 u,val:=Sl.v s })[i]? = some x->(i=j/\x.key=.int .u64 u/\x.val=Sl.v s)\/(i≠j/\ea.toList[i]? = some x):=by
   intro i x hi
   rw[N6] at hi
   by_cases e0:j=i
   ·subst e0
    rw[if_pos rfl,hj] at hi
    cases hi;exact .inl ⟨rfl,rfl,rfl⟩
   ·rw[if_neg e0] at hi
    exact .inr ⟨λz=>e0 z.symm,by simpa using hi⟩
  refine ⟨λx hx => ?_,λw hw => ?_,?_⟩
  ·rw[tl] at hx
   obtain ⟨i,hi⟩:=List.mem_iff_getElem?.1 hx
   rcases get i x hi with ⟨_,e1,e2⟩ | ⟨ne,jP⟩
   ·exact ⟨u,e1,by rw[e2,if_pos rfl], .inr rfl⟩
   ·obtain ⟨w,e1,e2,e3⟩:=E.a x (List.mem_of_getElem? jP)
    have:w≠u:=λz=>ne (E.ne jP hj (by rw[e1,ek,z]))
    exact ⟨w,e1,by rw[e2,if_neg this], .inl e3⟩
  ·rw[tl]
   by_cases e0:w=u
   ·subst e0
    exact ⟨_,List.mem_iff_getElem?.2 ⟨j,by rw[N6,if_pos rfl,hj];rfl⟩,rfl⟩
   ·obtain ⟨x,hx,e1⟩:=E.b w (hw.resolve_right e0)
    obtain ⟨i,hi⟩:=List.mem_iff_getElem?.1 hx
    have:j≠i:=λz=>by rw[<-z,hj] at hi;cases hi;rw[ek] at e1;cases e1;exact e0 rfl
    exact ⟨x,List.mem_iff_getElem?.2 ⟨i,by rw[N6,if_neg this,hi]⟩,e1⟩
  ·have:=MapKept.modify_keys (es:=ea) j (λe=>{ e with key:=.int .u64 u,val:=Sl.v s }) λx hx=>by
    have hx:ea.toList[j]? = some x:=by simpa using hx
    rw[hj] at hx;cases hx;exact ek.symm
   have hc:=E.c
   rw[<-List.pairwise_map (R:=λx y=>x≠y)] at hc ⊢
   rw[this];exact hc
 ·refine ⟨ea,c,_,k,q,hk _ _ _ (sE hm).1 (sE hm).2 ?_⟩
  refine ⟨λx TJ => ?_,λw hw => ?_,?_⟩
  ·rw[Array.toList_push] at TJ
   rcases List.mem_append.1 TJ with q1 | q1
   ·obtain ⟨w,e1,e2,e3⟩:=E.a x q1
    have:w≠u:=λz=>hx x q1 (by rw[e1,z])
    exact ⟨w,e1,by rw[e2,if_neg this], .inl e3⟩
   ·rw[List.mem_singleton] at q1;subst q1
    exact ⟨u,rfl,by rw[if_pos rfl], .inr rfl⟩
  ·rw[Array.toList_push]
   by_cases e0:w=u
   ·exact ⟨_,List.mem_append_right _ (List.mem_singleton.2 rfl),by rw[e0]⟩
   ·obtain ⟨x,q1,e1⟩:=E.b w (hw.resolve_right e0)
    exact ⟨x,List.mem_append_left _ q1,e1⟩
  ·rw[Array.toList_push,List.pairwise_append]
   exact ⟨E.c,List.pairwise_singleton _ _,λx q1 y q2=>by rw[List.mem_singleton] at q2;subst q2;exact hx x q1⟩
theorem jC.del {K:HP} {u:Int} (E:jC ea.toList P S) (k:h[mr]? = some (.map ea c)) (r:∀m f B,aM mr h m->m[mr]? = some (.map f B)->jC f.toList (λw=>P w/\w≠u) S->K m):r7 h (some mr) (.int .u64) (.int .u64 u) K:=by
 have l:=(Array.getElem?_eq_some_iff.1 k).1;unfold r7;rcases E.find u with ⟨p,j,e,q,s,t⟩ | ⟨p,q,g⟩
 ·refine ⟨ea,c,_,k,q,r _ _ _ (sE l).1 (sE l).2 ?_⟩;have v:(ea.eraseIdxIfInBounds j).toList=ea.toList.eraseIdx j:=by simp
  rw[v];refine ⟨λx g => ?_,λw o => ?_,E.c.sublist (List.eraseIdx_sublist ..)⟩
  ·obtain ⟨i,ne,d⟩:=List.mem_eraseIdx_iff_getElem?.1 g;obtain ⟨w,e1,A,y⟩:=E.a x (List.mem_of_getElem? d);exact ⟨w,e1,A,y,λz=>ne (E.ne d s (by rw[e1,t,z]))⟩
  ·obtain ⟨x,g,e1⟩:=E.b w o.1;obtain ⟨i,d⟩:=List.mem_iff_getElem?.1 g;refine ⟨x,List.mem_eraseIdx_iff_getElem?.2 ⟨i,λz => ?_,d⟩,e1⟩;rw[z,s] at d;cases d;rw[t] at e1;cases e1;exact o.2 rfl
 ·refine ⟨ea,c,_,k,q,r _ _ _ (sE l).1 (sE l).2 (E.congr (λw=>⟨λz=>⟨z,λe=>p (e ▸ z)⟩,λz=>z.1⟩) λ_ _=>rfl)⟩
end
section
variable {X:Nat->Prop} {h:Hp} {sv:Sl} {mr n:Nat} {vals:List ak} {u:Int}
open Classical in
theorem di.add (d:di X h sv mr vals n) (NV:∀c,X c->c < h.size) (hn:n<=5000) (hu:(vals.getD n v0).hash=u):∃s0:Sl,
  (∀{h1:Hp} {K:Sl->Bool->Prop},ah h h1->(∀ok,K s0 ok)->Lk h1 (some mr) (.int .u64) (.int .u64 u) (.slice none 0 0) Sl.v K) /\
  ∀{h1:Hp} {a:Nat} {t:TypeId} {K:HP} {b:Nat} {cs:Array Value} {el:TypeId},ah h h1->aB h1 a #[.int .i64 (n:Int)] t->aB h1 b cs el->¬X b->(∀h3,Tn X h1 h3->di (Tr X h1 h3) h3 sv mr vals (n+1)->K h3) ->
   Ap h1 Y6 #[.int .i64 0] 1 8 s0 1 (rd h1 (some ⟨a,0,none⟩) (1*1)) λt83 h2=>aO h1 h2 ⟨b,19,none⟩ 1 (Up h2 (some mr) (.int .u64) (.int .u64 u) (Sl.v t83) K):=by
 obtain ⟨Xi,ts,S,bk,⟨q1,q2,q3,q4,q5⟩,⟨p1,p2,p3⟩,es,c,e1,E⟩:=d
 have hm:=(Array.getElem?_eq_some_iff.1 e1).1
 refine ⟨if hl vals n u≠[] then S u else Sl.nil,λ{h1 K} g hk=>E.lk ((g.2 mr hm).trans e1) (λp=>by rw[if_pos p]) (λp=>by rw[if_neg p]) hk,?_⟩
 intro h1 a t K b cs el g ka kb hb hk
 have s1:=g.1
 have o:Os (λc=>hl vals n u≠[]/\c=bk u) h1 (if hl vals n u≠[] then S u else Sl.nil) (ints (hl vals n u)) Y6:=by
  by_cases p:hl vals n u≠[]
  ·rw[if_pos p];exact .inr ⟨bk u,⟨p,rfl⟩,(q4 u p).2.2.aj g⟩
  ·rw[if_neg p];exact .inl ⟨rfl,by rw[not_not.1 p];rfl⟩
 have on:=o.n
 rw[ints,List.length_map] at on
 have hlen:=NF vals n u
 refine o.Wi (news:=[.int .i64 (n:Int)]) rfl (λx hx=>by rw[List.mem_singleton] at hx;subst hx;rfl) rfl (iB ka rfl) (by omega) (by omega) λs' h2 t2 os=>iY kb (t2.aK kb λq=>hb (q.2 ▸ (q4 u q.1).1)) ?_
 obtain ⟨b',q8,own⟩:∃b',Or (λc=>hl vals n u≠[]/\c=bk u) h1 b'/\dX h2 s' b' (ints (hl vals n u)++[.int .i64 (n:Int)]) Y6:=by
  rcases os with ⟨_,e⟩ | ⟨b',q,o⟩
  ·simp at e
  ·exact ⟨b',q,o⟩
 have s2:=t2.1
 have em:h2[mr]? = some (.map es c):=(t2.2 mr (by omega) λq=>(q4 u q.1).2.1 q.2.symm).trans ((g.2 mr hm).trans e1)
 refine E.put em λh3 FT c' o3 e3 E3=>hk h3 ?_ ?_
 ·exact (t2.mono λc q _=>q.2 ▸ (q4 u q.1).1).trans (o3.fr.mono λc q _=>q ▸ q3)
 have s3:=o3.1
 have T3:Tn (λc=>(hl vals n u≠[]/\c=bk u)\/c=mr) h h3:=(Tn.aT g:Tn _ h h1).trans ((t2.mono λc q _=>.inl q).trans (o3.fr.mono λc q _=>.inr q))
 have eP:∀w,hl vals (n+1) w≠[]↔hl vals n w≠[]\/w=u:=λw=>by
  rw[Fz,hu]
  by_cases e:u=w
  ·rw[if_pos e];simp[e]
  ·rw[if_neg e];simp[Ne.symm e]
 have bl:b' < h2.size:=own.lt
 have ne:∀c,X c->(∀w,hl vals n w≠[]->c≠bk w)->∀w,hl vals (n+1) w≠[]->c≠if w=u then b' else bk w:=λc hc hw w pw=>by
  by_cases e:w=u
  ·rw[if_pos e]
   rcases q8 with q | q
   ·rw[q.2];exact hw u q.1
   ·have:=NV c hc;omega
  ·rw[if_neg e];exact hw w (((eP w).1 pw).resolve_right e)
 refine ⟨Xi,ts,λw=>if w=u then s' else S w,λw=>if w=u then b' else bk w,⟨λc hc=>⟨.inl (q1 c hc).1,(q1 c hc).2.1,(q1 c hc).2.2.1,ne c (q1 c hc).1 (q1 c hc).2.2.2⟩,λc hc=>⟨.inl (q2 c hc).1,(q2 c hc).2.1,ne c (q2 c hc).1 (q2 c hc).2.2⟩, .inl q3,λw pw => ?_,λv w pv pw vw => ?_⟩,⟨p1,?_,λj v t h1 h2 => ?_⟩,FT,c',e3,E3.congr (λw=>(eP w).symm) λ_ _=>rfl⟩
 ·dsimp only
  by_cases e:w=u
  ·rw[if_pos e]
   have nm:b'≠mr:=by
    rcases q8 with q | q
    ·rw[q.2];exact (q4 u q.1).2.1
    ·omega
   refine ⟨?_,nm,?_⟩
   ·rcases q8 with q | q
    ·rw[q.2];exact .inl (q4 u q.1).1
    ·exact .inr ⟨q,by omega⟩
   ·have ei:ints (hl vals (n+1) w)=ints (hl vals n u)++[.int .i64 (n:Int)]:=by rw[Fz,e,if_pos hu];simp[ints]
    simp only[if_pos e]
    rw[ei]
    exact own.only o3 nm
  ·have AU:=((eP w).1 pw).resolve_right e
   simp only[if_neg e]
   obtain ⟨r1,r2,r3⟩:=q4 w AU
   refine ⟨.inl r1,r2,?_⟩
   have ei:hl vals (n+1) w=hl vals n w:=by rw[Fz,hu,if_neg (Ne.symm e),List.append_nil]
   rw[ei]
   exact r3.fr T3 λq=>q.elim (λq=>q5 w u AU q.1 e q.2) r2
 ·dsimp only
  by_cases e:v=u
  ·have ew:w≠u:=λz=>vw (e.trans z.symm)
   have AU:=((eP w).1 pw).resolve_right ew
   rw[if_pos e,if_neg ew]
   rcases q8 with q | q
   ·rw[q.2];exact q5 u w q.1 AU (e ▸ vw)
   ·have:=NV _ (q4 w AU).1;omega
  ·have LA:=((eP v).1 pv).resolve_right e
   rw[if_neg e]
   by_cases ew:w=u
   ·rw[if_pos ew]
    rcases q8 with q | q
    ·rw[q.2];exact q5 v u LA q.1 e
    ·have:=NV _ (q4 v LA).1;omega
   ·rw[if_neg ew];exact q5 v w LA (((eP w).1 pw).resolve_right ew) vw
 ·exact Lj p2 T3 λc hc q=>q.elim (λq=>(q2 c hc).2.2 u q.1 q.2) (q2 c hc).2.1
 ·exact au.fr T3 (λc hc _ q=>q.elim (λq=>(q1 c hc).2.2.2 u q.1 q.2) (q1 c hc).2.2.1) (λ_ z=>z) _ (p3 j v t h1 h2)
open Classical in
theorem di.sub (d:di X h sv mr vals (n+1)) (hu:(vals.getD n v0).hash=u):∃s0:Sl,(∀{K:Sl->Bool->Prop},(∀ok,K s0 ok)->Lk h (some mr) (.int .u64) (.int .u64 u) (.slice none 0 0) Sl.v K)/\s0.n=(hl vals n u).length+1 /\
  ∀{K:Sl->Prop},(∀s1,(∀{K:HP},(∀h2,aM mr h h2->(hl vals n u≠[]->di X h2 sv mr vals n)->(hl vals n u=[]->∀{K:HP},(∀h3,aM mr h h3->di X h3 sv mr vals n->K h3)->r7 h2 (some mr) (.int .u64) (.int .u64 u) K)->K h2)->Up h (some mr) (.int .u64) (.int .u64 u) (Sl.v s1) K)->K s1) ->
   gp s0 1 none (some ((hl vals n u).length:Int)) none K:=by
 obtain ⟨Xi,ts,S,bk,⟨q1,q2,q3,q4,q5⟩,⟨p1,p2,p3⟩,es,c,e1,E⟩:=d
 have hm:=(Array.getElem?_eq_some_iff.1 e1).1
 have eh:∀w,hl vals (n+1) w=hl vals n w++if u=w then [n] else []:=λw=>by rw[Fz,hu]
 have pu:hl vals (n+1) u≠[]:=by rw[eh,if_pos rfl];simp
 have eP:∀w,hl vals n w≠[]->hl vals (n+1) w≠[]:=λw q=>by rw[eh];simp[q]
 have UP:∀w,hl vals (n+1) w≠[]->w≠u->hl vals n w≠[]:=λw q ne=>by rw[eh,if_neg (Ne.symm ne),List.append_nil] at q;exact q
 have own:=(q4 u pu).2.2
 have o:Os (λc=>c=bk u) h (S u) (ints (hl vals (n+1) u)) Y6:=.inr ⟨bk u,rfl,own⟩
 have on:=o.n
 rw[ints,List.length_map,eh,if_pos rfl,List.length_append,List.length_singleton] at on
 refine ⟨S u,λhk=>E.lk e1 (λ_=>rfl) (λp=>absurd pu p) hk,on,λ{K} hK=>o.cut (by omega) rfl λs1 n1 o1=>hK s1 λ{K} hk => ?_⟩
 refine E.put e1 λh2 es2 c2 o2 k2 E2 => ?_
 have Bo:mr < h2.size:=by rw[o2.1];exact hm
 have etk:(ints (hl vals (n+1) u)).take (hl vals n u).length=ints (hl vals n u):=by
  rw[eh,if_pos rfl];unfold ints;rw[List.map_append,List.take_append_of_le_length (by simp),List.take_of_length_le (by simp)]
 rw[etk] at o1
 have fin:∀{h3:Hp} {By c3},aM mr h h3->h3[mr]? = some (.map By c3)->jC By.toList (λw=>hl vals n w≠[]) (λw=>if w=u then s1 else S w)->di X h3 sv mr vals n:=by
  intro h3 By c3 o3 k3 E3
  refine ⟨Xi,ts,λw=>if w=u then s1 else S w,bk,⟨λc hc=>⟨(q1 c hc).1,(q1 c hc).2.1,(q1 c hc).2.2.1,λw pw=>(q1 c hc).2.2.2 w (eP w pw)⟩,λc hc=>⟨(q2 c hc).1,(q2 c hc).2.1,λw pw=>(q2 c hc).2.2 w (eP w pw)⟩,q3,λw pw => ?_,λv w pv pw=>q5 v w (eP v pv) (eP w pw)⟩,⟨p1,?_,λj v t h1 h2 => ?_⟩,By,c3,k3,E3⟩
  ·obtain ⟨r1,r2,r3⟩:=q4 w (eP w pw)
   refine ⟨r1,r2,?_⟩
   by_cases e:w=u
   ·simp only[if_pos e]
    subst e
    rcases o1 with ⟨_,e⟩ | ⟨b,rfl,o1⟩
    ·exact absurd (List.map_eq_nil_iff.1 e) pw
    ·exact o1.only o3 r2
   ·simp only[if_neg e]
    rw[eh,if_neg (Ne.symm e),List.append_nil] at r3
    exact r3.only o3 r2
  ·exact Lj p2 o3.fr λc hc q=>(q2 c hc).2.1 q
  ·exact au.fr o3.fr (λc hc _ q=>(q1 c hc).2.2.1 q) (λ_ z=>z) _ (p3 j v t h1 h2)
 refine hk h2 o2 (λne=>fin o2 k2 (E2.congr (λw=>⟨λq => ?_,λq=>.inl (eP w q)⟩) λ_ _=>rfl)) λem K hk=>E2.del k2 λh3 By c3 o3 k3 E3=>hk h3 (o2.trans o3) (fin (o2.trans o3) k3 (E3.congr (λw=>⟨λq => ?_,λq=>⟨.inl (eP w q),λz=>q (z ▸ em)⟩⟩) λ_ _=>rfl))
 ·rcases q with q | rfl
  ·by_cases e:w=u
   ·exact e ▸ ne
   ·exact UP w q e
  ·exact ne
 ·exact UP w (q.1.resolve_right q.2) q.2
end
section
variable {X D:Nat->Prop} {h:Hp} {sv:Sl} {mr n:Nat} {vals:List ak} {u:Int} {x y:ak} {s t:Sl}
theorem sX {m:List ak} (a:n<=vals.length) (u:Int):hl (vals++m) n u=hl vals n u :=
 afF (λi b=>by rw[List.getD_eq_getElem?_getD,List.getD_eq_getElem?_getD,List.getElem?_append_left ag]) u
theorem Ed {a:List Sl} (hl:a.length=vals.length):List.zipWith ak.row (vals++[x]) (a++[t])=List.zipWith ak.row vals a++[x.row t]:=by
 rw[List.zipWith_append hl.symm];rfl
theorem di.push {K:Sl->HP} {a:Nat} {ty:TypeId} (d:di X h sv mr vals n) (w:∀c,X c->c < h.size) (e:n<=vals.length) (hn:vals.length<=5000) (W:aB h a #[.bool false, .int .i64 0, .string (bs []), .slice none 0 0] ty)
  (Z:∀k g,Tn X h g->di (Tr X h g) g k mr (vals++[sk]) n->K k g):Ap h bW dO 4 56 sv 1 (rd h (some ⟨a,0,none⟩) (1*4)) K:=by
 obtain ⟨Xi,O,S,bk,⟨J,i,R,I,Q⟩,⟨F,L,U⟩,es,c,e1,E⟩:=d;have Y:=(Array.getElem?_eq_some_iff.1 e1).1;have V:=L.n;rw[List.length_zipWith] at V;refine L.ap (Nat.zero_le _) rfl (new:=[sk.row Sl.nil]) rfl (λr l=>by simp at l;subst l;rfl) (λr l=>by simp at l;subst l;exact wY sk Sl.nil) (iB W rfl) ag ag λk g f H M=>Z k g (f.mono λc q _=>(i c q).1) ?_
 have z1:=f.1;have p:∀c,k.at c->sv.at c\/(h.size<=c/\c < g.size):=λc q=>(H c q).imp id λT=>⟨T,(M.at q).2⟩;refine ⟨Xi,O++[Sl.nil],S,bk,⟨λc m => ?_,λc m => ?_, .inl R,λu b => ?_,λu v b N => ?_⟩,⟨by simp[F],by rw[Ed F];exact M,λj v t o G => ?_⟩,es,c,(f.2 mr Y λq=>(i mr q).2.1 rfl).trans e1,E.congr (λu=>by rw[sX e]) λ_ _=>rfl⟩
 ·obtain ⟨A,C,B,P⟩:=J c m;have:=w c A;exact ⟨.inl A,λq=>(p c q).elim C λq=>by omega,B,λu b=>P u (by rw[sX e] at b;exact b)⟩
 ·rcases p c m with q | q
  ·exact ⟨.inl (i c q).1,(i c q).2.1,λu b=>(i c q).2.2 u (by rw[sX e] at b;exact b)⟩
  ·exact ⟨.inr q,by omega,λu b=>by rw[sX e] at b;have:=w _ (I u b).1;omega⟩
 ·rw[sX e] at b ⊢;obtain ⟨A,C,B⟩:=I u b;exact ⟨.inl A,C,B.fr f λq=>(i _ q).2.2 u b rfl⟩
 ·rw[sX e] at b N;exact Q u v b N
 ·rcases xe F G with ⟨a',G⟩ | ⟨rfl,rfl⟩
  ·rw[List.getElem?_append_left ag] at o;exact au.fr f (λc m _ q=>(J c m).2.1 q) (λ_ z=>z) _ (U j v t o G)
  ·rw[List.getElem?_append_right (Nat.le_refl _)] at o;simp at o;subst o;exact au.nil g
theorem di.len (d:di X h sv mr vals n):sv.n=vals.length:=by
 obtain ⟨i,c,S,g,_,⟨f,a,e⟩,_⟩:=d;have b:=a.n;rw[List.length_zipWith] at b;omega
theorem di.set (d:di X h sv mr (vals++[y]) n):∃k,X k/\sv.a=some ⟨k,0,none⟩/\(∀{K:Addr->Prop},K ⟨k,vals.length*4,none⟩->Ix sv.a sv.n 4 (vals.length:Int) K) /\
  ∀{X:Nat->Prop} {h:Hp} {K:HP} {t:Sl},di X h sv mr (vals++[y]) n->n<=vals.length->au D h t x.items->(∀c,D c->¬X c)->(∀h',Tn X h h'->di (λc=>X c\/D c) h' sv mr (vals++[x]) n->K h')->fI h ⟨k,vals.length*4,none⟩ 0 (x.row t) K:=by
 have dn:=d.len;rw[List.length_append,List.length_singleton] at dn;obtain ⟨k,G,hX⟩:∃k,sv.a=some ⟨k,0,none⟩/\X k:=by
  obtain ⟨Xi,O,S,bk,⟨T,A,R,Q,q5⟩,⟨M,U,p3⟩,_⟩:=d;rcases U.cases with ⟨p,_⟩ | ⟨k,_,r⟩
  ·rw[p] at dn;simp[Sl.nil] at dn
  ·exact ⟨k,r.a,(A k ⟨_,r.a,rfl⟩).1⟩
 refine ⟨k,hX,G,λ{K} W => ?_,?_⟩
 ·unfold Ix;rw[G];refine ⟨by omega,by omega,?_⟩
  rw[aI]
  simpa using W
 intro X h K t d Z N hD W;obtain ⟨Xi,O,S,bk,⟨T,A,R,Q,q5⟩,⟨M,U,p3⟩,es,c,e1,E⟩:=d;have hm:=(Array.getElem?_eq_some_iff.1 e1).1;rcases U.cases with ⟨p,_⟩ | ⟨I,_,r⟩
 ·rw[p] at dn;simp[Sl.nil] at dn
 have eb:I=k:=by have:=r.a;rw[G] at this;cases this;rfl
 subst eb;obtain ⟨m,t',rfl⟩:∃l z,O=l++[z]:=by
  rcases List.eq_nil_or_concat O with e | ⟨l,z,e⟩
  ·rw[e] at M;simp at M
  ·exact ⟨l,z,by rw[e,List.concat_eq_append]⟩
 have C:m.length=vals.length:=by simpa using M
 have zl:(List.zipWith ak.row vals m).length=vals.length:=by rw[List.length_zipWith,C,Nat.min_self]
 rw[Ed C] at r;refine r.set (i:=vals.length) (r:=x.row t) (by simp[zl]) rfl (wY x t) λh' F B => ?_
 have J:∀c,sv.at c↔c=I:=λc=>⟨λ⟨a,ha,e⟩=>by rw[G] at ha;cases ha;exact e.symm,λe=>⟨_,G,e.symm⟩⟩
 have a':(List.zipWith ak.row vals m++[y.row t']).set vals.length (x.row t)=List.zipWith ak.row (vals++[x]) (m++[t]):=by
  rw[Ed C,List.set_append_right _ _ ag,zl];simp
 rw[a'] at B;have o:=A I ((J I).2 rfl);refine W h' (F.fr.mono λc q _=>q ▸ o.1) ?_;have b:∀(z:ak) u,hl (vals++[z]) n u=hl vals n u:=λz u=>sX Z u;refine ⟨λc=>Xi c\/D c,m++[t],S,bk,⟨λc g => ?_,λc g=>⟨.inl (A c g).1,(A c g).2.1,λu f=>(A c g).2.2 u (by rw[b] at f ⊢;exact f)⟩, .inl R,λu f => ?_,λu v f N => ?_⟩,⟨by simp[C],⟨B.len,B.n, .inr ⟨I,Nat.zero_le _,B.lt,B.own⟩⟩,λj v w H Y => ?_⟩,es,c,(F.2 mr (λq=>o.2.1 q.symm)).trans e1,E.congr (λu=>by rw[b,b]) λ_ _=>rfl⟩
 ·rcases g with g | g
  ·obtain ⟨p,P,L,r4⟩:=T c g;exact ⟨.inl p,P,L,λu f=>r4 u (by rw[b] at f ⊢;exact f)⟩
  ·have V:=hD c g;exact ⟨.inr g,λq=>V (A c q).1,λq=>V (q ▸ R),λu f q=>V (q ▸ (Q u (by rw[b] at f ⊢;exact f)).1)⟩
 ·rw[b] at f;obtain ⟨p,P,L⟩:=Q u (by rw[b];exact f)
  rw[b] at L ⊢;exact ⟨.inl p,P,L.only F λq=>o.2.2 u (by rw[b];exact f) q.symm⟩
 ·rw[b] at f N;exact q5 u v (by rw[b];exact f) (by rw[b];exact N)
 ·rcases xe C Y with ⟨b',Y⟩ | ⟨rfl,rfl⟩
  ·rw[List.getElem?_append_left ag] at H;exact au.fr F.fr (λc g _ q=>(T c g).2.1 ((J c).2 q)) (λ_ z=>.inl z) _ (p3 j v w (by rw[List.getElem?_append_left ag];exact H) (by rw[List.getElem?_append_left ag];exact Y))
  ·rw[List.getElem?_append_right (Nat.le_refl _)] at H;simp at H;subst H;exact au.fr F.fr (λc g _ q=>hD c g (q ▸ o.1)) (λ_ z=>.inr z) _ N
theorem di.cut {m:Nat} {k:Int} {K:Sl->Prop} (d:di X h sv mr vals n) (z:n<=m) (C:m<=vals.length) (e:k=m) (R:∀s',di X h s' mr (vals.take m) n->K s'):gp sv 4 none (some k) none K:=by
 subst e;have dn:=d.len;obtain ⟨Xi,l,S,bk,⟨q1,Z,Y,W,V⟩,⟨O,N,p3⟩,L,c,e1,E⟩:=d;have cap:=N.cap;refine ⟨Int.le_refl _,by simp,by simp;omega,by simp,?_⟩
 simp only[Option.getD_none,Option.getD_some,Int.toNat_zero,Int.toNat_natCast,Nat.sub_zero];have g:∀u,hl (vals.take m) n u=hl vals n u:=λu=>by
  have:=sX (vals:=vals.take m) (m:=vals.drop m) (n:=n) (by rw[List.length_take];omega) u
  rw[List.take_append_drop] at this;exact this.symm
 have fin:∀s':Sl,(∀c,s'.at c->sv.at c)->cN 0 4 h s' (List.zipWith ak.row (vals.take m) (l.take m)) bW->di X h s' mr (vals.take m) n:=by
  intro s' w o;refine ⟨Xi,l.take m,S,bk,⟨λc I => ?_,λc I => ?_,Y,λu f => ?_,λu v f Q => ?_⟩,⟨by simp[O],o,λj v t z C => ?_⟩,L,c,e1,E.congr (λu=>by rw[g]) λ_ _=>rfl⟩
  ·obtain ⟨p,B,G,U⟩:=q1 c I;exact ⟨p,λq=>B (w c q),G,λu f=>U u (by rw[g] at f;exact f)⟩
  ·obtain ⟨p,B,G⟩:=Z c (w c I);exact ⟨p,B,λu f=>G u (by rw[g] at f;exact f)⟩
  ·rw[g] at f ⊢;exact W u f
  ·rw[g] at f Q;exact V u v f Q
  ·rw[List.getElem?_take] at z C;split at z
   ·rename_i q;rw[if_pos q] at C;exact p3 j v t z C
   ·cases z
 rcases N.cases with ⟨p,B⟩ | ⟨b,hb,r⟩
 ·have:vals.length=0:=by rw[p] at dn;exact dn.symm
  have:m=0:=ag;subst this;rw[p];refine R _ (fin _ (λc ⟨a,J,_⟩=>by simp[jH,Sl.nil] at J) ?_)
  have L:(⟨jH Sl.nil.a 0 Sl.nil.c 4,0,Sl.nil.c⟩:Sl)=Sl.nil:=by simp[jH,Sl.nil]
  rw[L];exact cN.nil _ _ _ _
 ·obtain ⟨M,a2,cs,T,a4,a5,a6⟩:=r.own;have ea:jH sv.a 0 sv.c 4=some ⟨b,0,none⟩:=by
   simp only[jH];split
   ·exact M
   ·rw[M];simp[aI]
  rw[ea];have A:List.zipWith ak.row (vals.take m) (l.take m)=(List.zipWith ak.row vals l).take m:=by rw[List.take_zipWith]
  have H:qm 4 (List.zipWith ak.row (vals.take m) (l.take m)):=λx P=>r.len x (by rw[A] at P;exact List.mem_of_mem_take P)
  have F:(List.zipWith ak.row (vals.take m) (l.take m)).length=m:=by simp[O];omega
  refine R _ (fin _ (λc ⟨a,J,e⟩=>⟨a,by rw[M];exact J,e⟩) ⟨H,F.symm, .inr ⟨b,Nat.zero_le _,T.lt,rfl,by rw[H.flat,F],cs,T,Nat.le_trans (by show m<=sv.n;omega) a4,a5,λi k => ?_⟩⟩)
  have k:i < m*4:=k;rw[a6 i ag];have:=List.take_append_drop m (List.zipWith ak.row vals l);rw[<-A] at this
  conv=>lhs;rw[<-this]
  rw[List.flatten_append,List.getElem?_append_left (by rw[H.flat,F];exact k)]
theorem di.vs (d:di X h sv mr vals n):au (λ_=>True) h sv vals:=by
 obtain ⟨k,g,S,i,_,⟨c,b,a⟩,_⟩:=d;exact au.snoc b c (λ_ _=>trivial) λj d p f e=>au.mo (a j d p f e) λ_ _=>trivial
theorem di.look (d:di X h sv mr vals n) (u:Int):∃b:Sl,Sv h b (ints (hl vals n u))/\∀{a:Hp} {K:Sl->Bool->Prop},ah h a->(∀ok,K b ok)->Lk a (some mr) (.int .u64) (.int .u64 u) (.slice none 0 0) Sl.v K:=by
 classical
 obtain ⟨w,j,S,r,⟨o,m,l,e,k⟩,_,q,c,e1,E⟩:=d;have f:=(Array.getElem?_eq_some_iff.1 e1).1;refine ⟨if hl vals n u≠[] then S u else Sl.nil,?_,λ{a K} g i=>E.lk ((g.2 mr f).trans e1) (λp=>by rw[if_pos p]) (λp=>by rw[if_neg p]) i⟩
 by_cases p:hl vals n u≠[]
 ·rw[if_pos p];exact (e u p).2.2.sv
 ·rw[if_neg p,Classical.not_not.1 p];exact Sv.nil h
noncomputable def EZ (x:ak) (vals:List ak):Int:=match dS x vals with | some i=>(i:Int) | none => -1
theorem acw {b:Nat} {cs:Array Value} {el:TypeId} {K:Int->HP} {Kp:PK} (d:di X h sv mr vals vals.length) (O:aB h b cs el) (eX:cs[18]? = some (Sl.v sv)) (Y:cs[19]? = some (.map (some mr))) (hn:vals.length<=5000) (T:∀v∈vals,v.aV<=2 ^ 50) (hv:au D h s x.items) (hw:x.aV<=2 ^ 40)
    (hk:∀J,ah h J->K (EZ x vals) J):C3 (some ⟨b,0,none⟩) x.aq x.num (bs x.text) s h K Kp:=by
  refine C3.of (az λa I e1 L F _ => ?_);refine bF ?_;refine an (O.aj L) Y (aQ.b F (NT x (au.gr hv L) hw λP R=>bK (O.aj L) R ?_));have F:=F.aj R;have G:=ah.trans L R;obtain ⟨s0,B,lk⟩:=d.look x.hash;refine lk G λok => ?_;have n0:s0.n=(hl vals vals.length x.hash).length:=by have:=B.1;rw[ints,List.length_map] at this;exact this
  have a':=NF vals vals.length x.hash;refine Hj.bB (λz J=>∃j:Nat,z=j/\j<=(hl vals vals.length x.hash).length/\ah P J/\∀(i p:Nat),i < j->(hl vals vals.length x.hash)[i]? = some p->vals[p]? ≠ some x) (λz _=>(hl vals vals.length x.hash).length - z.toNat) ⟨0,rfl,Nat.zero_le _,ah.refl _,λi p k=>by omega⟩ ?_
  rintro z h3 ⟨j,rfl,hj,Q,m⟩ N hN;have w:=ah.trans G Q;refine aA (λA => ?_) λA => ?_
  · have A:=ay A;have C:j < (hl vals vals.length x.hash).length:=ag;have g:(hl vals vals.length x.hash)[j]? = some (hl vals vals.length x.hash)[j]:=List.getElem?_eq_getElem C;generalize (hl vals vals.length x.hash)[j]=p at g;have U:=ML.1 (List.mem_of_getElem? g);have f:vals[p]? = some vals[p]:=List.getElem?_eq_getElem U.1;generalize hy:vals[p]=y at f;have l:=List.mem_of_getElem? f;refine (B.aj w).ix ag ag (v:=.int .i64 (p:Int)) (by rw[Int.toNat_natCast,ints,List.getElem?_map,g];rfl) λq H=>GS H ?_
    refine bF ?_;refine an (O.aj w) eX ((au.gr d.vs w).ix rfl f λq t cq hy=>aQ.c cq (aQ.b (F.aj Q) (K8 y hy (au.gr hv w) (T y l) λb h4 g4 hb=>aA (λM => ?_) λM => ?_)))
    · have E:=hb.1 M;have S:dS x vals=some p:=by
        cases H:dS x vals with
        | none=>exact absurd (E ▸ l) (AW.1 H)
        | some r =>
          obtain ⟨I,P⟩:=AV H
          by_cases e:r=p
          · rw[e]
          · exfalso
            have b':¬p < r:=λq=>P p q (by rw[f,E])
            have W:r∈hl vals vals.length x.hash:=ML.2 ⟨(List.getElem?_eq_some_iff.1 I).1,by rw[List.getD_eq_getElem?_getD,I];rfl⟩
            obtain ⟨i,k⟩:=List.mem_iff_getElem?.1 W;have Z:(hl vals vals.length x.hash).Pairwise (· < ·):=List.pairwise_lt_range.filter _;have c':¬j<=i:=λq=>by
              have:=List.pairwise_iff_getElem.1 Z j i C (List.getElem?_eq_some_iff.1 k).1;rw[(List.getElem?_eq_some_iff.1 k).2,(List.getElem?_eq_some_iff.1 g).2] at this;rcases Nat.lt_or_eq_of_le q with q | q
              · have:=this q;omega
              · subst q;rw[g] at k;cases k;exact e rfl
            exact m i r ag k I
      have:=hk h4 (ah.trans w g4);unfold EZ at this;rw[S] at this;exact this
    · refine aP ag ag (hN _ _ ⟨j+1,by simp,by omega,ah.trans Q g4,λi r k o => ?_⟩ ag)
      by_cases e:i=j
      · rw[e,g] at o;cases o;intro z;rw[f] at z;cases z;rw[hb.2 rfl] at M;cases M
      · exact m i r ag o
  · have A:=ay A;have S:dS x vals=none:=AW.2 λhm=>by
      obtain ⟨p,g⟩:=List.mem_iff_getElem?.1 hm;have V:p∈hl vals vals.length x.hash:=ML.2 ⟨(List.getElem?_eq_some_iff.1 g).1,by rw[List.getD_eq_getElem?_getD,g];rfl⟩
      obtain ⟨i,k⟩:=List.mem_iff_getElem?.1 V;exact m i p (by have:=(List.getElem?_eq_some_iff.1 k).1;omega) k g
    have:=hk h3 w;unfold EZ at this;rw[S] at this;exact this
end
section
variable {f c:ai} {KM:List bD} {M:bD} {T D E:Nat->Prop} {h h0 h':Hp} {r r':Raw} {vs:List ak} {m:Option Mem} {g:bI} {x:ak} {s:Sl} {K:Int->HP} {Kp:PK}
theorem Zp (d:f.k=19) (e:f.cs=[c]) (r:Raw) (v:ak):f.tk r v=bL (cR v.aq r) λa=>if v.aq then cO 16 (a.up λb=>{ b with ends:=b.ends++[0] }) else match dS v a.b.vals with
  | some i=>cO v.aV (a.up λb=>{ b with ends:=b.ends++[i] })
  | none=>if pG f.ix<=a.b.vals.length then (102,a) else bL (bY 0 (λq=>c.tk q v) a) λj=>cO v.aV (j.up λb=>{ b with vals:=b.vals++[v],ends:=b.ends++[b.vals.length] }):=by
 rw[ai.jF];unfold gY;rw[if_neg ag,if_neg ag,if_neg ag,if_neg ag,if_neg ag,if_neg ag,if_pos d,e];rfl
theorem Ss {b:Nat} {K:Int->HP} (G:bh f KM T h r m g) (e:g.b=b) (a:K (pG f.ix:Int) h):zL (some ⟨b,0,none⟩) h K Kp:=by
 subst e;refine zL.of ?_;refine bF ?_;refine an G.B.k (by simp[bt];rfl) ?_
 unfold pG at a;refine aA (λc => ?_) λc=>aA (λd => ?_) λd => ?_
 ·rw[if_pos (by simpa using c)] at a;exact a
 ·rw[if_neg (by simpa using c),if_pos (by simpa using d)] at a;exact a
 ·rw[if_neg (by simpa using c),if_neg (by simpa using d)] at a;exact a
theorem vi (b:f.k=19) (a:Rb):bC f.k a=[(ints a.ends,Y6)]:=by unfold bC;rw[if_neg ag,if_pos ag]
theorem FV (d:f.k=19) (a b:Rb):cz f.k a b↔b.ends <+: a.ends/\b.vals <+: a.vals/\a.vals.length<=5000/\∀v∈a.vals,v.aV<=4194304:=by unfold cz;rw[if_neg ag,if_neg ag,if_pos d]
theorem BB (b:f.k=19) (X:Nat->Prop) (h:Hp) (sp:List Value) (a:Rb):eY f.k X h sp a↔∃sv d,sp=[Sl.v sv, .map (some d)]/\di X h sv d a.vals a.vals.length:=by unfold eY;rw[if_pos b]
theorem UZ {i:Nat} {K:HP} {b:Nat} (e:f.k=19) (KF:∀(j:Nat) M,KM[j]? = some M->dD M) (S:bT f KM T h0 h r m g E) (O:g.b=b) (W:r.b.ends.length<=70000)
  (H:∀h' A B,bT f KM T h0 h' (r.up λb=>{ b with ends:=b.ends++[i] }) m A B->A.b=b->Tn (λc=>¬E c) h h'->(∀c,E c->B c)->K h') :
  Ld h ⟨b,16,none⟩ Sl.v λp=>aD h #[.int .i64 (i:Int)] Y6 λt w=>Ap w Y6 #[.int .i64 0] 1 8 p 1 (rd w (some t) (1*1)) λo L=>St L ⟨b,16,none⟩ (Sl.v o) K:=by
 subst O;have d:=vi e;have N:=FV e;obtain ⟨l,a⟩:=mO S.G.ls (d _);have U:l.n=r.b.ends.length:=by have:=S.G.kq (i:=0) (s:=l) (by simp[a]) (by rw[d];rfl);rw[this,ints,List.length_map]
 refine S.G.dL (i:=0) (s:=l) rfl (by simp[a]) (az λY J X y F _ => ?_)
 refine (S.aj KF y).app (i:=0) (s:=l) (x:=(ints r.b.ends,Y6)) (x':=(ints (r.b.ends++[i]),Y6)) (r':=r.up λb=>{ b with ends:=b.ends++[i] }) (news:=[.int .i64 (i:Int)]) KF rfl (by simp[a]) (by rw[d];rfl) rfl ?_ rfl (iB F rfl) ag ag (by simp[ints])
  ⟨rfl,rfl,rfl,rfl⟩ (by rw[d,d];rfl) rfl rfl (λV _ q => ?_) λQ R I C P=>H I _ _ P rfl ((Tn.aT y:Tn _ h J).trans (C.mono λc q _ z=>q (.inl z))) (λc q=>.inl q)
 ·intro v u;simp only[List.mem_singleton] at u;subst u;rfl
 ·rw[N] at q ⊢;exact ⟨q.1.trans (List.prefix_append _ _),q.2⟩
theorem UY {i a:Nat} {D:Nat->Prop} {b:Nat} (l:f.k=19) (KF:∀(j:Nat) M,KM[j]? = some M->dD M) (S:bT f KM T h0 h r m g E) (e:g.b=b) (A:r.b.ends.length<=70000) (L:r.b.aW<=2 ^ 50) (J:x.aV<=4194304)
  (w:aB h a #[.bool x.aq, .int .i64 x.num, .string (bs x.text),Sl.v s] bW) (F:E a) (y:au D h s x.items) (o:∀c,D c->E c)
  (B:∀h',Tn T h0 h'->bE f KM (Tr T h0 h') h' (.iface (aU f.k) (.pointer (some ⟨b,0,none⟩))) (cO x.aV (r.up λb=>{ b with ends:=b.ends++[i] })).2 m->K (cO x.aV (r.up λb=>{ b with ends:=b.ends++[i] })).1 h') :
  tP K Kp (some ⟨b,0,none⟩) ⟨a,0,none⟩ (i:Int) h:=by
 subst e;refine tP.of ?_;refine bF ?_;exact UZ l KF S rfl A λP Q R H e u N=>aQ.b (bT.fE u w F) (Ej x (au.fr u (λc q _ z=>z (o c q)) (λ_ z=>z) _ y) ag λO C=>(H.aj KF C).lI KF e (n:=x.aV) rfl (by show r.b.aW+x.aV < 2 ^ 62;omega) λp I d=>B p d.t ⟨_,by rw[e],d.G⟩)
theorem KR {b:Nat} {H:Hp} {ty:TypeId} {t S d e j a:Sl} {n i wt:Nat} {w V:Value} {K:HP} (k:aB H b (bt f t S d n i wt [Sl.v e,w,Sl.v a,V]).toArray ty)
  (p:∀h',aM b H h'->aB h' b (bt f t S d n i wt [Sl.v e,w,Sl.v j,V]).toArray ty->K h'):St H ⟨b,18,none⟩ (Sl.v j) K:=cE k (by simp[bt]) rfl λh' o l=>p h' o (by simpa[bt] using l)
theorem ahQ {a i:Nat} {D:Nat->Prop} {s0 sv:Sl} {w:Value} {vals:List ak} {b:Nat} (a':f.k=19) (KF:∀(j:Nat) M,KM[j]? = some M->dD M) (S:bT f KM T h0 h r m g E) (eb:g.b=b) (hn:r.b.ends.length<=70000) (hh:r.b.aW<=2 ^ 50) (hw:x.aV<=4194304)
  (ka:aB h a #[.bool x.aq, .int .i64 x.num, .string (bs x.text),Sl.v s] bW) (ea:E a) (hv:au D h s x.items) (k':∀c,D c->E c) (q':g.SS=[s0]) (v':g.kv=[w]) (t':g.sp=[Sl.v sv, .map (some i)]) (g':r.b.vals=vals) (z':vals.length<=4999) (d:di g.X h sv i vals vals.length)
  (hk:∀h',Tn T h0 h'->bE f KM (Tr T h0 h') h' (.iface (aU f.k) (.pointer (some ⟨b,0,none⟩))) (cO x.aV (r.up λb=>{ b with vals:=b.vals++[x],ends:=b.ends++[b.vals.length] })).2 m->K (cO x.aV (r.up λb=>{ b with vals:=b.vals++[x],ends:=b.ends++[b.vals.length] })).1 h') :
  (qt x.aq x.num (bs x.text) s h (λF C A y h5=>aO h h5 ⟨b,18,none⟩ 1<|aD h5 #[(.bool false),(.int .i64 0),(.string (bs [])),(.slice none 0 0)] bW λO V=>aO h5 V ⟨a,0,none⟩ 4<|aO h5 V ⟨b,18,none⟩ 1 <|
   Ap V bW dO 4 56 sv 1 (rd V (some O) (1*4)) λo p=>Ix o.a o.n 4 (sv.n:Int) λL=>NN (some ⟨b,0,none⟩) λJ=>(bV p L F C A y λH=>St H (J.add 18) (Sl.v o) λU=>mJ K Kp (some ⟨b,0,none⟩) ⟨a,0,none⟩ (sv.n:Int) x.hash U) /\
    (St p (J.add 18) (Sl.v o) λH=>bV H L F C A y λU=>mJ K Kp (some ⟨b,0,none⟩) ⟨a,0,none⟩ (sv.n:Int) x.hash U)) Kp) /\
  (aD h #[(.bool false),(.int .i64 0),(.string (bs [])),(.slice none 0 0)] bW λO h5=>aO h h5 ⟨a,0,none⟩ 4<|aO h h5 ⟨b,18,none⟩ 1<|qt x.aq x.num (bs x.text) s h5 (λF C A y V=>aO h5 V ⟨b,18,none⟩ 1 <|
   Ap V bW dO 4 56 sv 1 (rd V (some O) (1*4)) λo p=>Ix o.a o.n 4 (sv.n:Int) λL=>NN (some ⟨b,0,none⟩) λJ=>(bV p L F C A y λH=>St H (J.add 18) (Sl.v o) λU=>mJ K Kp (some ⟨b,0,none⟩) ⟨a,0,none⟩ (sv.n:Int) x.hash U) /\
    (St p (J.add 18) (Sl.v o) λH=>bV H L F C A y λU=>mJ K Kp (some ⟨b,0,none⟩) ⟨a,0,none⟩ (sv.n:Int) x.hash U)) Kp):=by
 subst eb;have es:=vi a';have ep:=FV a';have eS:=BB a';have p':sv.n=vals.length:=d.len;rw[p'];have ex:∀q:Sl,dB f.k g.SS g.kv g.ks [Sl.v q, .map (some i)]=[Sl.v s0,w,Sl.v q, .map (some i)]:=λq=>by unfold dB jG;rw[if_pos ag,q',v'];rfl
 have kb:=S.G.B.k;rw[t',ex] at kb;have b':∀c,g.X c->c < h.size:=λc q=>S.G.t.l (List.mem_of_getElem? g.fe) q;have f':¬g.X g.b:=S.G.t.gI g.fe;have bl:=kb.lt;have fin:∀{Z:Hp} {s':Sl},Tn (λc=>c=g.b\/g.X c) h Z->aB Z g.b (bt f g.sf g.sn g.sb r.b.rows r.b.bu r.b.aW [Sl.v s0,w,Sl.v s', .map (some i)]).toArray (eM f.k)->di (Tr g.X h Z) Z s' i (vals++[x]) vals.length->mJ K Kp (some ⟨g.b,0,none⟩) ⟨a,0,none⟩ (vals.length:Int) x.hash Z:=by
  intro Z s' tx R dx;have zx:=tx.1;have nb:¬Tr g.X h Z g.b:=λq=>q.elim f' λq=>by omega
  have d':∀{h1 h3:Hp},ah Z h1->Tn (Tr g.X h Z) h1 h3->di (Tr (Tr g.X h Z) h1 h3) h3 s' i (vals++[x]) (vals.length+1)->tP K Kp (some ⟨g.b,0,none⟩) ⟨a,0,none⟩ (vals.length:Int) h3:=by
   intro h1 h3 I t3 d3;have z1:=I.1;have z3:=t3.1;have tt:Tn (λc=>c=g.b\/g.X c) h h3:=(tx.trans (Tn.aT I)).trans' t3 λc q u'=>q.elim .inr λq=>by omega
   have x':=S.EG (r':=r.up λb=>{ b with vals:=b.vals++[x] }) (sp':=[Sl.v s', .map (some i)]) KF tt (by rw[ex];exact t3.aK (R.aj I) nb) ⟨rfl,rfl,rfl,rfl⟩ (by rw[es,es];rfl) rfl ((eS _ _ _ _).2 ⟨s',i,rfl,?_⟩) (λmm _ q => ?_) λq=>by omega
   rotate_left
   ·show di _ h3 s' i (r.b.vals++[x]) (r.b.vals++[x]).length
    rw[g',List.length_append,List.length_singleton];exact d3.mono λc q=>by
     rcases q with (q | q) | q
     ·exact .inl q
     ·exact .inr ⟨q.1,by omega⟩
     ·exact .inr ⟨by omega,q.2⟩
   ·rw[ep] at q ⊢;refine ⟨q.1,q.2.1.trans (List.prefix_append _ _),?_,λv hv => ?_⟩
    ·show (r.b.vals++[x]).length<=5000
     rw[g'];simp;omega
    ·have hv:v∈r.b.vals++[x]:=hv;rcases List.mem_append.1 hv with z | z
     ·exact q.2.2.2 v z
     ·rw[List.mem_singleton.1 z];exact hw
   obtain ⟨S6,t6⟩:=x';subst g';obtain ⟨rb,rk⟩:=r;exact UY (r:=(Raw.mk rb rk).up λb=>{ b with vals:=b.vals++[x] }) (g:={ g with sp:=[Sl.v s', .map (some i)],X:=Tr g.X h h3 }) a' KF S6 rfl hn hh hw (bT.fE t6 ka ea) ea (au.fr t6 (λc q _ z=>z (k' c q)) (λ_ z=>z) _ hv) k' hk
  obtain ⟨sq,lk,l'⟩:=dx.add (u:=x.hash) (λc q=>q.elim (λq=>by have:=b' c q;omega) λq=>q.2) ag (by rw[List.getD_eq_getElem?_getD,List.getElem?_append_right (Nat.le_refl _),Nat.sub_self];rfl)
  refine mJ.of ?_;refine bF ?_;refine an R (by simp[bt]) (an R (by simp[bt]) ⟨lk (ah.refl _) λok=>iY R R (az λa8 h1 e1 I k1 _=>bK R I (bK R I (l' I k1 (R.aj I) nb λh3 t3 d3=>d' I t3 d3))),az λa8 h1 e1 I k1 _=>bK R I (bK R I (lk I λok=>iY (R.aj I) (R.aj I) (l' I k1 (R.aj I) nb λh3 t3 d3=>d' I t3 d3)))⟩)
 have Q:∀{p:Hp} {O:Nat} {ty:TypeId} {t:Sl},ah h p->aB p O #[(.bool false),(.int .i64 0),(.string (bs [])),(.slice none 0 0)] ty->au (λc=>h.size<=c/\c < p.size) p t x.items ->
   Ap p bW dO 4 56 sv 1 (rd p (some ⟨O,0,none⟩) (1*4)) λo p=>Ix o.a o.n 4 (vals.length:Int) λL=>NN (some ⟨g.b,0,none⟩) λJ=>(bV p L x.aq x.num (bs x.text) t λH=>St H (J.add 18) (Sl.v o) λU=>mJ K Kp (some ⟨g.b,0,none⟩) ⟨a,0,none⟩ (vals.length:Int) x.hash U) /\
    (St p (J.add 18) (Sl.v o) λH=>bV H L x.aq x.num (bs x.text) t λU=>mJ K Kp (some ⟨g.b,0,none⟩) ⟨a,0,none⟩ (vals.length:Int) x.hash U):=by
  intro p O ty t P n' vt;have z7:=P.1;refine (d.fr (S:=No) (Tn.aT P) λ_ _ _=>id).push (λc q=>by have:=b' c q;omega) (Nat.le_refl _) ag n' λs' H t8 d8 => ?_
  have z8:=t8.1;obtain ⟨bb,y',Ud,ix,c'⟩:=d8.set (D:=λc=>h.size<=c/\c < p.size) (x:=x);have nb:¬Tr g.X p H g.b:=λq=>q.elim f' λq=>by omega
  have j':=t8.aK (kb.aj P) f';have nD:∀c,(h.size<=c/\c < p.size)->¬Tr g.X p H c:=λc q z=>z.elim (λz=>by have:=b' c z;omega) λz=>by omega
  have i':au (λc=>h.size<=c/\c < p.size) H t x.items:=au.fr t8 (λc q _ z=>by have:=b' c z;omega) (λ_ z=>z) _ vt
  have mo:∀{N:Hp},H.size<=N.size->∀c,(Tr g.X p H c\/(h.size<=c/\c < p.size))->Tr g.X h N c:=λhl c q=>by
   rcases q with (q | q) | q
   ·exact .inl q
   ·exact .inr ⟨by omega,by omega⟩
   ·exact .inr ⟨q.1,by omega⟩
  have tt:∀{N:Hp},Tn (λc=>c=g.b\/Tr g.X p H c) H N->Tn (λc=>c=g.b\/g.X c) h N:=λY=>((Tn.aT P:Tn _ h p).trans (t8.mono λc q _=>.inr q)).trans' Y λc q u'=>q.elim .inl λq=>q.elim .inr λq=>by omega
  refine ix ?_;refine bF ?_;refine ⟨bV.l (c' d8 (Nat.le_refl _) i' nD λU t9 d9=>KR (t9.aK j' nb) λN e' o' => ?_),KR j' λU o9 k9=>bV.l (c' (d8.fr o9.fr λc q _ e=>nb (e ▸ q)) (Nat.le_refl _) (au.fr o9.fr (λc q _ (e:c=g.b)=>by omega) (λ_ z=>z) _ i') nD λN Y w' => ?_)⟩
  ·have z9:=t9.1;have m':=e'.1;exact fin (tt ((t9.mono λc q _=>.inr q).trans (e'.fr.mono λc q _=>.inl q))) o' ((d9.fr e'.fr λc q _ e=>by
    rcases q with q | q
    ·exact nb (e ▸ q)
    ·have:c=g.b:=e;omega).mono (mo ag))
  ·have z9:=o9.1;have m':=Y.1;exact fin (tt ((o9.fr.mono λc q _=>.inl q).trans (Y.mono λc q _=>.inr q))) (Y.aK k9 nb) (w'.mono (mo ag))
 refine ⟨Ek x hv ag λt V W vt=>bK kb W (az λa7 p e7 P k7 _=>bK (ka.aj W) P (bK (kb.aj W) P ?_)),az λa6 V e6 W k6 _=>bK ka W (bK kb W (Ek x (au.gr hv W) ag λt p P vt=>bK (kb.aj W) P ?_))⟩
 ·have z7:=P.1;exact Q (ah.trans W P) k7 (au.gr (au.mo (au.lt _ vt) λc q=>⟨q.1,by omega⟩) P)
 ·have z6:=W.1;exact Q (ah.trans W P) (k6.aj P) (au.mo (au.lt _ vt) λc (q:V.size<=c/\c < p.size)=>⟨by omega,q.2⟩)
end
section
variable {f c:ai} {M:bD} {T D:Nat->Prop} {h:Hp} {vs:List ak} {m:Option Mem} {g:bI} {x:ak} {s:Sl} {K:Int->HP} {Kp:PK}
theorem aax {a b:Sl} {n i:Nat} (e:([Sl.v a, .map (some n)]:List Value)=[Sl.v b, .map (some i)]):a=b/\n=i:=by
 obtain ⟨o,l,k⟩:=a;obtain ⟨j,b2,d⟩:=b
 simpa[Sl.v,and_assoc] using e
theorem On (a:f.k=19) (e:f.can vs):(f.st vs).b.vals=ez vs/\(ez vs).length<=4097/\(f.st vs).b.ends.length<=70000:=by
 have d:=(ai.eC f vs).1 e;have i:=d.n4;refine ⟨by rw[cQ];simp only[aG];rw[if_pos a],Nat.le_trans (d.ds a) (by unfold pG;split;omega;split <;> omega),?_⟩
 rw[cQ];simp only[aG];rw[if_neg ag,if_neg ag,if_neg ag,if_pos a,List.length_map];omega
theorem QH (l:f.k=19) (S:f.cs=[c]) (C:MC c M) (hc:f.can vs) (i':f.fit x=true) (hw:x.aV<=4194304) (G:bh f [M] T h (f.st vs) m g) (hv:au D h s x.items) (hD:∀c,D c->c < h.size->Out g c)
    (j:∀h',Tn T h h'->bE f [M] (Tr T h h') h' (.iface (aU f.k) (.pointer (some ⟨g.b,0,none⟩))) (f.tk (f.st vs) x).2 m->K (f.tk (f.st vs) x).1 h'):zM (some ⟨g.b,0,none⟩) x.aq x.num (bs x.text) s h K Kp:=by
  have KF:=js C;rw[Zp l S] at j;have eS:=BB l;obtain ⟨s0,Q⟩:=mO G.ls ((vi l) _);obtain ⟨A,w,hA,O,b'⟩:=nG G rfl;have c':f.cs[0]? = some c:=by rw[S];rfl
  obtain ⟨ev,a',q'⟩:=On l hc;have y:(f.st vs).aC 0=c.st (f.st vs).b.vals:=by rw[ai.iz c' vs,ev,l,BE]
  have R:c.can (f.st vs).b.vals:=by have:=ai.de c' hc;rw[l,BE,<-ev] at this;exact this
  rw[<-ev] at a';have o':=eB R;have hh:=(eB hc).1;generalize v':f.st vs=p at G j y R o' hh a' q';refine zM.of (az λa h1 ea g1 o _ => ?_);refine bF ?_;have s1:=g1.1;have S1:=(bT.of (E:=λc=>D c/\c < h.size) G λc q=>⟨q.2,hD c q.1 q.2⟩).aj KF g1;generalize hE:(λc=>(D c/\c < h.size)\/(h.size<=c/\c < h1.size))=E at S1;have E1:E a:=by rw[<-hE];exact .inr ⟨by omega,o.lt⟩
  have I:∀c,D c/\c < h.size->E c:=λc q=>by rw[<-hE];exact .inl q
  have m':au (λc=>D c/\c < h.size) h1 s x.items:=au.gr (au.lt _ hv) g1;have V:∀{ha hb:Hp},Tn (λc=>¬E c) ha hb->au (λc=>D c/\c < h.size) ha s x.items->au (λc=>D c/\c < h.size) hb s x.items:=λt v=>au.fr t (λc q _ z=>z (I c q)) (λ_ z=>z) _ v;refine an o rfl (S1.row KF rfl (λq=>bx rfl ?_) λq t' A' h2 t2 U=>aR rfl ?_)
  · rw[mQ q] at j;exact j h1 S1.t ⟨g,rfl,S1.G⟩
  rw[mP q] at j;have o:=bT.fE t2 o E1;have Z:=V t2 m';generalize n':p.up (Rb.row x.aq)=F at j U;have r:F.b.vals=p.b.vals/\F.b.ends=p.b.ends/\F.b.aW=p.b.aW/\F.aC 0=p.aC 0:=by rw[<-n'];exact ⟨rfl,rfl,rfl,rfl⟩
  refine an o rfl ?_;cases hn:x.aq with
  | true =>
    rw[hn,if_pos rfl] at j;exact bx rfl (UZ (i:=0) l KF U rfl (by rw[r.2.1];omega) λh6 g' E' S6 eb t6 x'=>S6.lI KF eb (n:=16) rfl (by show F.b.aW+16 < 2 ^ 62;rw[r.2.2.1];omega) λr' s' d'=>j r' d'.t ⟨_,by rw[eb],d'.G⟩)
  | false =>
  rw[hn] at j o;rw[if_neg aL] at j;rw[<-hn] at o;obtain ⟨sv,mr,H,d⟩:=(eS _ _ _ _).1 U.G.sp;rw[r.1] at d;have ex:dB f.k g.SS g.kv g.ks [Sl.v sv, .map (some mr)]=[Sl.v s0,w,Sl.v sv, .map (some mr)]:=by unfold dB jG;rw[if_pos ag,Q,b'];rfl
  have kb:=U.G.B.k;rw[H,ex] at kb;have u':=d.len;refine aR rfl (It.of (aQ.b o (acw d kb (by simp[bt]) (by simp[bt]) ag (λv hm=>by have:=nh hm;omega) Z ag λh3 g3 => ?_)))
  have L:=U.aj KF g3;have o:=o.aj g3;have P:=au.gr Z g3;unfold EZ;rw[r.1] at j;cases hp:dS x p.b.vals with
  | some i =>
    rw[hp] at j;exact aR aS (UY l KF L rfl (by rw[r.2.1];omega) (by rw[r.2.2.1];omega) hw o (.inl E1) P (λc q=>.inl (I c q)) j)
  | none =>
  rw[hp] at j;refine bx rfl ?_;refine bF ?_;refine an (kb.aj g3) (by simp[bt];rfl) (Ss L.G rfl (aA (λJ => ?_) λJ => ?_))
  · have J:=ay J;simp only at j;rw[if_pos ag] at j;exact j h3 L.t ⟨_,by rfl,L.G⟩
  have J:=ay J;simp only at j;rw[if_neg ag] at j;have u:=L.G.aC 0 M A w rfl hA O;rw[r.2.2.2,y] at u;obtain ⟨kk,bb,rfl⟩:=C.na u;refine L.G.ia (i:=1) rfl (.inr (.inr (.inl l))) (by simp[Q]) O (aQ.b o ?_)
  have p':bY 0 (λq=>c.tk q x) F=((c.tk (c.st p.b.vals) x).1,F.cK 0 (c.tk (c.st p.b.vals) x).2):=by unfold bY;rw[r.2.2.2,y]
  rw[p'] at j;refine C.take (D:=λc=>D c/\c < h.size) R (UD (.inl l) S i' hn) hw u P (λJ q z=>(L.e J (.inl (I J q))).2.2 _ A (bI.dy _ hA) ag z) λh4 t4 M4 => ?_;obtain ⟨S4,j'⟩:=L.aC KF hA t4 λM' w' q1 q2=>by
    simp at q1;subst q1;have q2:g.kv[0]? = some w':=q2;rw[O] at q2;cases q2;exact M4
  have W:Tn (λc=>¬E c) h3 h4:=j'.mono λc q _ z=>q (.inl z);refine aA (λN => ?_) λN => ?_
  · have N:=ay N;unfold bL at j;rw[if_neg N] at j;exact j h4 S4.t ⟨_,by rfl,S4.G⟩
  have N:=ay N;unfold bL at j;rw[if_pos N] at j;have o:=bT.fE W o E1;have Y:=V W P;refine aQ.b o (NT x Y ag λh5 g5 => ?_);have S5:=S4.aj KF g5;obtain ⟨k',l',f',d5⟩:=(eS _ _ _ _).1 S5.G.sp;have e':g.sp=[Sl.v k', .map (some l')]:=f';obtain ⟨rfl,rfl⟩:=aax (H.symm.trans e');have d5:di g.X h5 sv mr p.b.vals p.b.vals.length:=by
    have e:(F.cK 0 (c.tk (c.st p.b.vals) x).2).b.vals=p.b.vals:=r.1;rw[e] at d5;exact d5
  refine an S5.G.B.k ?_ (aQ.b (o.aj g5) (ahQ (E:=λc=>(E c\/(h2.size<=c/\c < h3.size))\/(h4.size<=c/\c < h5.size)) l KF S5 rfl (by show F.b.ends.length<=_;rw[r.2.1];omega) (by show F.b.aW<=_;rw[r.2.2.1];omega) hw (o.aj g5) (.inl (.inl E1)) (au.gr Y g5) (λc q=>.inl (.inl (I c q))) Q b' H r.1 ag d5 j))
  show (bt _ _ _ _ _ _ _ (dB f.k g.SS g.kv g.ks g.sp)).toArray[18]? = _
  rw[H,ex];simp[bt]
theorem XP (j:¬f.small=true) (d:f.k=19) (e:f.cs=[c]) (r:Raw):f.zk r=bL (cR false r) λa=>if pG f.ix<=a.b.vals.length then (102,a) else bL (bY 0 c.zk a) λi=>(3,i):=by
 rw[ai.qB];unfold ng;rw[if_neg (by intro q;rcases q with q | q;exact j q;omega),if_neg ag,if_neg ag,if_neg ag,if_pos d,e];rfl
theorem XX (R:bp f) (e:f.k=19) (r:f.cs=[c]) (C:MC c M) (X:f.can vs) (G:bh f [M] T h (f.st vs) m g)
  (a:∀J,Tn T h J->bE f [M] (Tr T h J) J (.iface (aU f.k) (.pointer (some ⟨g.b,0,none⟩))) (f.zk (f.st vs)).2 m->K (f.zk (f.st vs)).1 J):C4 (some ⟨g.b,0,none⟩) h K Kp:=by
 refine C4.of ?_;refine bF ?_;refine an G.B.k (by simp[bt];rfl) ?_
 by_cases u:f.small=true
 ·rw[qA (.inl u)] at a;obtain ⟨_,O,h3,N⟩:=ob R u;exact bx u (aQ.c G.oK (QH e r C X O ag G G.no (λc q _=>G.xD q) a))
 rw[XP u e r] at a;refine aR (by simpa using u) ?_
 have KF:=js C;obtain ⟨s0,z⟩:=mO G.ls ((vi e) _);obtain ⟨A,w,Y,p,S⟩:=nG G rfl;have F:f.cs[0]? = some c:=by rw[r];rfl
 have n:=ai.iz F vs;have P:=bT.of (E:=λ_=>False) G λ_ q=>q.elim;refine P.row KF rfl (λq=>bx rfl ?_) λq a' A' O t2 j=>aR rfl ?_
 ·rw[mQ q] at a;exact a h P.t ⟨g,rfl,P.G⟩
 rw[mP q] at a;obtain ⟨sv,W,Q,d⟩:=(BB e _ _ _ _).1 j.G.sp;have ex:dB f.k g.SS g.kv g.ks [Sl.v sv, .map (some W)]=[Sl.v s0,w,Sl.v sv, .map (some W)]:=by unfold dB jG;rw[if_pos ag,z,S];rfl
 have I:=j.G.B.k;rw[Q,ex] at I;have b':=d.len;refine an I (by simp[bt];rfl) (Ss j.G rfl (iY I I (aA (λy => ?_) λy => ?_)))
 ·have y:=ay y;rw[if_pos ag] at a;exact a O j.t ⟨_,by rfl,j.G⟩
 have y:=ay y;rw[if_neg ag] at a;have l:=j.G.aC 0 M A w rfl Y p;rw[eZ,n] at l;have U:bY 0 c.zk ((f.st vs).up (Rb.row false))=((c.zk (c.st (cg f.k f.w (cj f.cs) 0 vs))).1,((f.st vs).up (Rb.row false)).cK 0 (c.zk (c.st (cg f.k f.w (cj f.cs) 0 vs))).2):=by unfold bY;rw[eZ,n]
 rw[U] at a;refine j.G.ia (i:=1) rfl (.inr (.inr (.inl e))) (by simp[z]) p (C.zero (ai.de F X) l λN t4 M4 => ?_)
 obtain ⟨L,_⟩:=j.aC KF Y t4 λM' Z V H=>by
  simp at V;subst V;have H:g.kv[0]? = some Z:=H;rw[p] at H;cases H;exact M4
 refine aA (λo => ?_) λo => ?_
 ·have o:=ay o;unfold bL at a;rw[if_neg o] at a;exact a N L.t ⟨_,by rfl,L.G⟩
 ·have o:=ay o;unfold bL at a;rw[if_pos o] at a;exact a N L.t ⟨_,by rfl,L.G⟩
theorem Zz (a:f.k=19) (e:f.cs=[c]) (C:MC c M):pW f (bE f [M]):=by
 intro T D h v vs m x s K Kp n d i H j o l;obtain ⟨g,rfl,G⟩:=H;have p:aU f.k=kG:=by unfold aU;rw[if_neg ag,if_neg ag,if_neg ag,if_neg ag,if_neg ag,if_neg ag,if_pos a]
 have q:iZ (.iface kG (.pointer (some ⟨g.b,0,none⟩))) x.aq x.num (bs x.text) s h K Kp:=aib (QH a e C n d i G j (λc q _=>G.out (o c q)) l);rw[<-p] at q;exact q
theorem X7 (d:bp f) (a:f.k=19) (e:f.cs=[c]) (C:MC c M):pU f (bE f [M]):=by
 intro T h v vs m K Kp j H i;obtain ⟨g,rfl,G⟩:=H;have l:aU f.k=kG:=by unfold aU;rw[if_neg ag,if_neg ag,if_neg ag,if_neg ag,if_neg ag,if_neg ag,if_pos a]
 have q:iO (.iface kG (.pointer (some ⟨g.b,0,none⟩))) h K Kp:=ah2 (XX d a e C j G i);rw[<-l] at q;exact q
end
theorem ajt {c0 p q b a:Addr} {h:Hp} {K:HP} {Kp:PK} (H:Jm c0 p q b a h K Kp):bJ Tryz.prog (.func (.func zq) #[] #[.pointer (some c0), .pointer (some p), .pointer (some q), .pointer (some b), .pointer (some a)]) [] h (λr d=>r=.tuple #[]/\K d) Kp:=by
 unfold bJ;exact cast aF H
section
variable {f c:ai} {KM:List bD} {M:bD} {T R D E:Nat->Prop} {h h0 h':Hp} {r r':Raw} {vs:List ak} {m:Option Mem} {mm:Mem} {g:bI} {caps:List Value} {Kp:PK}
theorem adO {Z n l k j:Array Value} (mc:tN R h caps [Z,n,l,k,j]):∃i e d b a t s q p o,caps=[.pointer (some ⟨i,0,none⟩), .pointer (some ⟨e,0,none⟩), .pointer (some ⟨d,0,none⟩), .pointer (some ⟨b,0,none⟩), .pointer (some ⟨a,0,none⟩)] /\
    (R i/\aB h i Z t)/\(R e/\aB h e n s)/\(R d/\aB h d l q)/\(R b/\aB h b k p)/\(R a/\aB h a j o):=by
  obtain ⟨i,t,C,J⟩:=mc.2 0 Z rfl;obtain ⟨e,s,e1,I⟩:=mc.2 1 n rfl;obtain ⟨d,q,B,H⟩:=mc.2 2 l rfl;obtain ⟨b,p,A,G⟩:=mc.2 3 k rfl;obtain ⟨a,o,x,F⟩:=mc.2 4 j rfl
  match caps,mc.1 with
  | [u,v,w,z,y],_ =>
    simp at C e1 B A x;subst C e1 B A x;exact ⟨i,e,d,b,a,t,s,q,p,o,rfl,J,I,H,G,F⟩
theorem di.xm {A:Nat->Prop} {sv:Sl} {i n:Nat} {a:List ak} (d:di A h sv i a n):A i:=by obtain ⟨_,_,_,_,⟨_,_,q,_⟩,_⟩:=d;exact q
theorem adZ (a:f.k=19) (u:f.cs=[c]) (C:MC c M):qi f (bE f [M]):=by
 intro T h v vs K Kp L H Z;obtain ⟨g,rfl,G⟩:=H;have N:=js C;have ed:aU f.k=kG:=by unfold aU;rw[if_neg ag,if_neg ag,if_neg ag,if_neg ag,if_neg ag,if_neg ag,if_pos a]
 have eb:dG f.k=zq:=by unfold dG;rw[if_neg ag,if_neg ag,if_neg ag,if_neg ag,if_neg ag,if_pos a]
 have W:=vi a;obtain ⟨I,e⟩:=mO G.ls (W _);obtain ⟨A,w,O,J,c'⟩:=nG G rfl;have o:f.cs[0]? = some c:=by rw[u];rfl
 have X:I.n=(f.st vs).b.ends.length:=by have:=G.kq (i:=0) (s:=I) (by simp[e]) (by rw[W];rfl);rw[this,ints,List.length_map]
 have aC:=G.aC 0 M A w rfl O J;have j:=ai.iz o vs;have U:∀c,A c->c < h.size:=λc q=>G.t.l (List.mem_of_getElem? (g.dy O)) q;obtain ⟨sv,mr,V,d⟩:=(BB a _ _ _ _).1 G.sp;obtain ⟨ev,a',d'⟩:=On a L;have P:c.can (f.st vs).b.vals:=by have:=ai.de o L;rw[a,BE,<-ev] at this;exact this
 have b':=eB P;have x:∀{h':Hp},ah h h'->bh f [M] T h' (f.st vs) none g:=λgr=>G.fr (S:=No) N (Tn.aT gr) λ_ _ _=>id;have q:gE (.iface kG (.pointer (some ⟨g.b,0,none⟩))) h K Kp:=by
  rw[j] at aC;refine ail (Jn.mk (cu:=I) (w:=w) (mh:=sv) (V2:=gV M A w ((f.st vs).aC 0)) (λgr p=>G.uR (i:=0) N gr rfl (by simp[e]) p) (λgr p=>(x gr).ia (i:=1) rfl (.inr (.inr (.inl a))) (by simp[e]) J p) (λgr p => ?_) eD.gZ eD.one (λgr z=>eD.call G.B gr z) (gV.gZ C.fr U) gV.one (λgr z => ?_) λcaps F0 KF l0 u0 l2 u2 h' Q => ?_)
  ·have y:=(x gr).Ot (.inl a) (by simp[e])
   rw[V] at y;exact GS (y 0 _ rfl) p
  ·rw[j] at z;exact gV.call C (ai.de o L) aC gr z
  ·have:=G.Ff (sp:=[]) N u O J Q (.inr (.inr (.inl a))) ((FV a _ _).2 ⟨List.prefix_refl _,List.prefix_refl _,by rw[ev];omega,λv Y=>by have:=nh Y;omega⟩) (λq=>by omega) (λF m => ?_) Z
   ·rw[eb] at this;exact this
   ·unfold fF;simp only;rw[if_neg ag,if_neg ag,if_neg ag,if_neg ag,if_pos a,X,d.len];rfl
 rw[<-ed] at q;exact q
theorem akf {K:HP} (o:f.k=19) (Ua:f.cs=[c]) (C:MC c M) (G:bh f [M] T h r (some mm) g) (hk:∀h',Tn T h h'->bE f [M] T h' (.iface (aU f.k) (.pointer (some ⟨g.b,0,none⟩))) mm.r (some mm)->K h') :
  bJ Tryz.prog mm.F [] h (λr h1=>r=.tuple #[]/\K h1) Kp:=by
 have KF:=js C;obtain ⟨⟨F0,KF',bm,c1,c2,c3,c4⟩,pr,ks,spm⟩:=G.mm mm rfl;obtain ⟨caps,eF,mc⟩:=c4 ag;obtain ⟨H,em,rfl⟩:=c1 ag;have ecl:fF f.k g.b F0 H.F mm=[#[F0],#[H.F],#[.pointer (some ⟨g.b,0,none⟩)],pI mm.r.b.ends.length,pI mm.r.b.vals.length]:=by unfold fF;simp only;rw[if_neg ag,if_neg ag,if_neg ag,if_neg ag,if_pos o]
 rw[ecl] at mc;obtain ⟨a0,a1,a2,a3,a4,t0,t1,t2,t3,W,ec,⟨r0,k0⟩,⟨r1,k1⟩,⟨r2,j⟩,⟨r3,k3⟩,⟨r4,Z⟩⟩:=adO mc;have ebk:dG f.k=zq:=by unfold dG;rw[if_neg ag,if_neg ag,if_neg ag,if_neg ag,if_neg ag,if_pos o]
 have I:=vi o;have ep:=FV o;have eS:=BB o;rw[ep] at pr;obtain ⟨j',l,b',L⟩:=pr;obtain ⟨s0,Q⟩:=mO G.ls (I _);obtain ⟨A0,n'⟩:∃A0,g.ST=[A0]:=by
  have:=G.ls.2;rw[I] at this
  match hg:g.ST,this with
  | [a],_=>exact ⟨a,rfl⟩
 obtain ⟨A,w,hA,hw,u'⟩:=nG G rfl;rw[eF,ec,ebk];have hS:∀c,(c=g.b\/g.T0 c)->c < h.size->c=g.b\/g.T0 c:=λc q _=>q;have V:∀c,g.R c->c < h.size->¬(c=g.b\/g.T0 c):=G.av g.dz hS g.cU ag;have nA:∀c,g.R c->¬A c:=λc q=>G.t.ne g.cU (g.dy hA) ag c q;have nR:∀{c:Nat},g.R c->c≠g.b:=λq e=>G.t.gI g.cU (e ▸ q);have e':∀{c:Nat},g.R c->¬g.X c:=λq=>G.t.ne g.cU g.fe ag _ q;have c':¬g.X g.b:=G.t.gI g.fe;refine ajt (Jm.of (an k0 rfl ?_))
 show bJ Tryz.prog F0 [] h _ _
 refine rH G KF bm λh1 u1 G1 => ?_;have k1:=u1.aK k1 (V _ r1 k1.lt);have j:=u1.aK j (V _ r2 j.lt);have k3:=u1.aK k3 (V _ r3 k3.lt);have Z:=u1.aK Z (V _ r4 Z.lt);have a':=G1.aC 0 M A w rfl hA hw;have e0:((some mm).bind λmm=>mm.ks[0]?)=some H:=by show mm.ks[0]? = some H;rw[em];rfl
 rw[e0] at a';refine an k1 rfl ?_
 show bJ Tryz.prog H.F [] h1 _ _
 refine C.back a' λh2 u2 M2 => ?_;have G2:=G1.Be (rj:=H.r) KF hA u2 λM' w' q1 q2=>by
  simp at q1;subst q1;have q2:g.kv[0]? = some w':=q2;rw[hw] at q2;cases q2;rw[e0];exact M2
 have j:=u2.aK j (nA _ r2);have k3:=u2.aK k3 (nA _ r3);have Z:=u2.aK Z (nA _ r4);have o0:=G2.sl 0 s0 A0 (ints r.b.ends,Y6) (by simp[Q]) (by simp[n']) (by rw[I];rfl)
 have n0:=o0.n;have p0:=j'.length_le;simp only[ints,List.length_map] at n0;refine an j rfl (an j rfl ?_);refine bF ?_;refine G2.dL (i:=0) (s:=s0) rfl (by simp[Q]) (an k3 rfl (o0.cut (n:=mm.r.b.ends.length) ag rfl λJ e0' k' => ?_))
 have z':(ints r.b.ends).take mm.r.b.ends.length=ints mm.r.b.ends:=by
  conv=>rhs;rw[List.prefix_iff_eq_take.1 j']
  unfold ints;rw[<-List.map_take]
 rw[z'] at k';refine G2.pg (i:=0) (s:=s0) (s':=J) (by simp[Q]) G2.B.k λh3 w3 p' => ?_
 have G3:=G2.qG (i:=0) (s':=J) (A:=A0) (x':=(ints mm.r.b.ends,Y6)) (r':=((r.mb mm.r).cK 0 H.r).up λb=>{ b with ends:=mm.r.b.ends }) KF (by simp[n']) k' w3 p' ⟨rfl,rfl,rfl,rfl⟩ (by rw[I,I];rfl) rfl rfl λl' e _=>by rw[ep];cases e;exact ⟨List.prefix_refl _,l,b',L⟩
 have j:=w3.aK j (nR r2);have Z:=w3.aK Z (nR r4);obtain ⟨sv,Y,i',d⟩:=(eS _ _ _ _).1 G3.sp;have i':g.sp=[Sl.v sv, .map (some Y)]:=i';have d:di g.X h3 sv Y r.b.vals r.b.vals.length:=d;have dl:=d.len;have xm:=d.xm;have ex:∀q:Sl,dB f.k (g.SS.set 0 J) g.kv g.ks [Sl.v q, .map (some Y)]=[Sl.v J,w,Sl.v q, .map (some Y)]:=λq=>by unfold dB jG;rw[if_pos ag,Q,u'];rfl
 have kb:=G3.B.k;dsimp only at kb;rw[i',ex] at kb;refine Is.of (an j rfl ?_);refine bF ?_;refine an kb (by simp[bt] <;> rfl) (aP ag ag ?_)
 have U:=l.length_le;refine Hl.bB (λz hx=>∃n:Nat,z=(n:Int) - 1/\mm.r.b.vals.length<=n/\n<=r.b.vals.length/\Tn g.X h3 hx/\di g.X hx sv Y r.b.vals n) (λz _=>(z+1).toNat) ⟨r.b.vals.length,by rw[dl],U,Nat.le_refl _,Tn.refl _ _,d⟩ ?_
 rintro z h4 ⟨n,rfl,NC,Nz,W,d4⟩ N hZ;have O:=W.aK kb c';have P:=W.aK j (e' r2);have m':=W.aK Z (e' r4);refine an m' rfl (aA (λcc => ?_) λcc => ?_)
 ·have cc:=ay cc;obtain ⟨n,rfl⟩:∃k,n=k+1:=⟨n - 1,by omega⟩
  have hx:r.b.vals[n]? = some r.b.vals[n]:=List.getElem?_eq_getElem ag;generalize r.b.vals[n]=x at hx;have hu:(r.b.vals.getD n v0).hash=x.hash:=by rw[List.getD_eq_getElem?_getD,hx];rfl
  refine an P rfl ?_;refine bF ?_;refine an O (by simp[bt] <;> rfl) (d4.vs.ix (i:=n) ag hx λp u cp q'=>aQ.c cp (NT x q' (by have:=L x (List.mem_of_getElem? hx);omega) λh5 g5 => ?_))
  have d5:=d4.fr (S:=No) (Tn.aT g5) λ_ _ _=>id;obtain ⟨sq,lk,nq,KY⟩:=d5.sub hu;have f':=O.aj g5;have g':=P.aj g5;have hlen:=NF r.b.vals n x.hash;refine an g' rfl ?_;refine bF ?_;refine an f' (by simp[bt] <;> rfl) (lk λok=>an g' rfl ?_)
  refine bF ?_;refine an f' (by simp[bt] <;> rfl) (aP ag ag ?_)
  rw[show ((sq.n:Int) - 1)=((hl r.b.vals n x.hash).length:Int) by omega]
  refine KY λs1 up=>up λh6 o6 t' v'=>aA (λc1 => ?_) λc1 => ?_
  ·have c1:=ay c1;have nm:g.b≠Y:=λe=>c' (e ▸ xm);refine an (o6.aK g' λe=>e' r2 (e ▸ xm)) rfl ?_;refine bF ?_;refine an (o6.aK f' nm) (by simp[bt] <;> rfl) (v' (List.length_eq_zero_iff.1 ag) λh7 o7 d7=>aP ag ag (hZ _ _ ⟨n,by omega,by omega,by omega,W.trans ((Tn.aT g5:Tn _ h4 h5).trans (o7.fr.mono λc q _=>q ▸ xm)),d7⟩ ag))
  ·have c1:=ay c1;exact aP ag ag (hZ _ _ ⟨n,by omega,by omega,by omega,W.trans ((Tn.aT g5:Tn _ h4 h5).trans (o6.fr.mono λc q _=>q ▸ xm)),t' λe=>by rw[e] at nq;simp at nq;omega⟩ ag)
 ·have cc:=ay cc;have en:n=mm.r.b.vals.length:=ag;subst en;refine Ir.of (an P rfl (an P rfl ?_));refine bF ?_;refine an O (by simp[bt] <;> rfl) (an m' rfl (d4.cut (Nat.le_refl _) U rfl λs' d'=>KR O λh5 o5 k5 => ?_))
  have y':r.b.vals.take mm.r.b.vals.length=mm.r.b.vals:=(List.prefix_iff_eq_take.1 l).symm;rw[y'] at d';have d':=d'.fr o5.fr λc q _ e=>c' (e ▸ q);have G4:=G3.Q6 (sp':=[Sl.v s', .map (some Y)]) (r':=((r.mb mm.r).cK 0 H.r).up λb=>{ b with ends:=mm.r.b.ends,vals:=mm.r.b.vals }) KF ((W.mono λc q _=>.inr q).trans (o5.fr.mono λc q _=>.inl q)) (by dsimp only;rw[ex];exact k5) ⟨rfl,rfl,rfl,rfl⟩ (by rw[I,I];rfl) rfl ((eS _ _ _ _).2 ⟨s',Y,rfl,d'⟩) (λl' e q=>by
   cases e;rw[ep];exact ⟨List.prefix_refl _,List.prefix_refl _,Nat.le_trans U b',λv hv=>L v (l.subset hv)⟩) λq=>by omega
  have tf:Tn T h h5:=((((u1.mono λc q _=>q.elim (λe=>e ▸ G.t.tb) λq=>G.jO g.dz q).trans (u2.mono λc q _=>G.jO (g.dy hA) q)).trans (w3.fr.mono λc q _=>q ▸ G.t.tb)).trans (W.mono λc q _=>G.jO g.fe q)).trans (o5.fr.mono λc q _=>q ▸ G.t.tb);have eK:∀(r9:Raw),r9.kids=r.kids->(r9.cK 0 H.r).kids=mm.r.kids:=by
   intro r9 e9;rw[ks.1,em];obtain ⟨b9,o'⟩:=r9;have hl:=G.lk.2.2;rw[<-e9] at hl
   match o',hl with
   | [y],_=>rfl
  exact hk h5 tf ⟨_,by rfl,G4.conv (r':=mm.r) ⟨rfl,rfl,rfl,rfl⟩ (by rw[I,I];rfl) (eK _ rfl).symm (λ_=>rfl) λl' e _=>by cases e;rw[ep];exact ⟨List.prefix_refl _,List.prefix_refl _,Nat.le_trans U b',λv hv=>L v (l.subset hv)⟩⟩
end
section
variable {f c:ai} {M:bD} {h:Hp} {vs:List ak} {Kp:PK}
theorem Ky {ix:Int} {K:Int->HP} (b:3<=ix/\ix<=10) (a:K (wB ix:Int) h):qu ix h K Kp:=by
 have:ix=3\/ix=4\/ix=5\/ix=6\/ix=7\/ix=8\/ix=9\/ix=10:=ag;rcases this with rfl | rfl | rfl | rfl | rfl | rfl | rfl | rfl <;> exact qu.of a
theorem ahM (c':bp f) (L:f.k=19) (d':f.cs=[c]) (C:MC c M):qy f (bE f [M]):=by
 intro T h v vs m K Kp hc H hk;obtain ⟨g,rfl,G⟩:=H;have KF:=js C;have W:=(c'.right.1.2.2.2.2.2.1 L).2.2;have ed:aU f.k=kG:=by unfold aU;rw[if_neg ag,if_neg ag,if_neg ag,if_neg ag,if_neg ag,if_neg ag,if_pos L]
 have es:=vi L;obtain ⟨s0,V⟩:=mO G.ls (es _);obtain ⟨A0,e'⟩:∃A,g.ST[0]? = some A:=⟨_,List.getElem?_eq_getElem (by rw[G.ls.2,es];exact Nat.one_pos)⟩
 have ef:f.dn (f.st vs)=.mk (f.st vs).b.rows 0 (f.st vs).b.bu [bZ (f.st vs).b,laidB (f.st vs).b.ends (wB f.ix)] [] (fU f vs):=by rw[F2 L,cQ];rfl
 rw[ef] at hk;obtain ⟨ev,i',el⟩:=On L hc;have eb:∀x∈(f.st vs).b.ends,x < 2 ^ 63:=by
  rw[cQ];simp only[aG];rw[if_neg ag,if_neg ag,if_neg ag,if_pos L];intro x d;obtain ⟨v,_,rfl⟩:=List.mem_map.1 d;split
  ·omega
  ·cases hp:dS v (ez vs) with
   | none=>show (0:Nat) < _;omega
   | some p=>have:=(List.getElem?_eq_some_iff.1 (AV hp).1).1;show p < _;omega
 have b':wB f.ix<=8:=by unfold wB;split;omega;split;omega;split <;> omega
 have q:iP (.iface kG (.pointer (some ⟨g.b,0,none⟩))) h K Kp:=by
  refine aiu (Jo.of (az λa2 r e1 g1 k2 _ => ?_));refine bF ?_;have z1:=g1.1;have R:∀{d:Hp},ah r d->bh f [M] T d (f.st vs) m g:=λF=>G.fr (S:=No) KF (Tn.aT (ah.trans g1 F)) λ_ _ _=>id;have kb:=(R (ah.refl _)).B.k;have o0:∀{d:Hp},ah r d->Os A0 d s0 (ints (f.st vs).b.ends) Y6:=λF=>(R F).sl 0 s0 A0 (ints (f.st vs).b.ends,Y6) (by simp[V]) e' (by rw[es];rfl)
  have fin:∀{d:Hp} {e:Nat} {b:Sl},uh h d a2 e (f.st vs).b.rows (f.st vs).b.bu b [bZ (f.st vs).b,laidB (f.st vs).b.ends (wB f.ix)]->oO K Kp (some ⟨g.b,0,none⟩) ⟨a2,0,none⟩ ⟨e,0,none⟩ d:=by
   intro d e b B;refine oO.of ?_;refine bF ?_;obtain ⟨c2,Z,a',e2⟩:=B.k2;have g':=a'.lt;have f':=B.k3.lt;have Gh:=G.fr (S:=No) KF (Tn.aT B.g) λ_ _ _=>id;refine Tv (i:=1) (.inr (.inr (.inl L))) d' C hc Gh (by simp[V]) rfl λa h' gr la ds=>aci (t:=⟨some ⟨a,0,none⟩,1,1⟩) (a'.aj gr) e2 (B.k3.aj gr) B.l.2.2 λY Z => ?_
   obtain ⟨ge,be⟩:=B.end gr Z;have:=B.g.1;exact hk (b,Sl.nil,_) Y ge ⟨be,bN.nil _,bN.fr Z (λc (q:d.size<=c) _ z=>by omega) (λc (q:d.size<=c) _ z=>by omega) (λc (q:d.size<=c)=>by show h.size<=c;omega) (λc (q:d.size<=c)=>by show h.size<=c;omega) _ ds⟩
  have q5:=λ{d:Hp} {e:Nat} {b:Sl} (F:ah r d) (o:aB d e bS bG) (U:r.size<=e) (Q:cY (Ex r e) (Ex r e) d b [bZ (f.st vs).b,laidB (f.st vs).b.ends (wB f.ix)])=>BT (n:=(f.st vs).b.rows) (u:=(f.st vs).b.bu) g1 k2 rfl ag F o U Q λh'=>fin;have q4:∀{d:Hp} {e:Nat} {b:Sl},ah r d->aB d e bS bG->r.size<=e->cY (Ex r e) (Ex r e) d b [bZ (f.st vs).b,laidB (f.st vs).b.ends (wB f.ix)] ->
    dY (some ⟨g.b,0,none⟩) b d (λt0 t1 Z t3 t4 t5 X=>bw X ⟨e,0,none⟩ t0 t1 Z t3 t4 t5 (oO K Kp (some ⟨g.b,0,none⟩) ⟨a2,0,none⟩ ⟨e,0,none⟩)) Kp:=λF o U Q=>lO (R F).B λX I=>q5 (ah.trans F I) (o.aj I) U (Q.gr I)
  have q3:=λ{d:Hp} {e:Nat} {u t:Sl} (F:ah r d) (o:aB d e bS bG) (U:r.size<=e) (P:cV (Ex r e) d u (bv (bZ (f.st vs).b))) (vt:cV (Ex r e) d t (bv (laidB (f.st vs).b.ends (wB f.ix)))) =>
   pS P vt ⟨F.1,by have:=o.lt;omega⟩ λa X I Q=>q4 (ah.trans F I) (o.aj I) U Q
  have q2:=λ{d:Hp} {e:Nat} {u:Sl} (F:ah r d) (o:aB d e bS bG) (U:r.size<=e) (P:cV (Ex r e) d u (bv (bZ (f.st vs).b))) =>
   qV (w:=wB f.ix) (Kp:=Kp) (o0 F) el b' eb λt X N=>q3 (ah.trans F N.g) (o.aj N.g) U (P.gr N.g) (N.iS.mo λc (q:d.size<=c)=>⟨by have:=F.1;omega,by have:=o.lt;omega⟩)
  have y:=λ{d:Hp} (F:ah r d)=>(R F).B.k;refine (R (ah.refl _)).dL (i:=0) (s:=s0) rfl (by simp[V]) (an kb (by simp[bt] <;> rfl) ⟨pR (R (ah.refl _)).B λu Y j P=>bK kb j (bK kb j ⟨Ky W (iY (y j) (y j) ⟨qV (w:=wB f.ix) (o0 j) el b' eb λt h3 N=>⟨?_,?_⟩,az λe h3 e3 E o _=>bK (y j) E (bK (y j) E ?_)⟩),az λe h3 e3 E o _=>bK (y j) E (bK (y j) E (Ky W (iY (y (ah.trans j E)) (y (ah.trans j E)) ?_)))⟩),az λe Y e2 j o _=>bK kb j (bK kb j (pR (R j).B λu h3 E P=>bK (y j) E (bK (y j) E (Ky W (iY (y (ah.trans j E)) (y (ah.trans j E)) ?_)))))⟩)
  ·have z2:=j.1;have O:=ah.trans j N.g;have z3:=N.g.1;refine pS (D:=λc=>r.size<=c) ((P.gr N.g).mo λc q=>q) (N.iS.mo λc (q:Y.size<=c)=>by show r.size<=c;omega) (by show r.size<=h3.size;omega) λa h4 J Q=>⟨lO (R (ah.trans O J)).B λX I=>az λe h6 e6 g6 o _=>bK (y (ah.trans (ah.trans O J) I)) g6 (bK (y (ah.trans (ah.trans O J) I)) g6 ?_),az λe X e5 I o _=>bK (y (ah.trans O J)) I (bK (y (ah.trans O J)) I ?_)⟩
   ·have z4:=J.1;have z5:=I.1;exact q5 (ah.trans (ah.trans (ah.trans O J) I) g6) o ag (Q.ic (ah.trans I g6) ag λc q=>q)
   ·have z4:=J.1;exact q4 (ah.trans (ah.trans O J) I) o ag (Q.ic I ag λc q=>q)
  ·have z2:=j.1;have z3:=N.g.1;have O:=ah.trans j N.g;refine az λe h4 e4 J o _=>bK (y O) J (bK (y O) J (q3 (ah.trans O J) o ag (P.ic (ah.trans N.g J) ag λc q=>q) (N.iS.ic J ag λc (q:Y.size<=c)=>by omega)))
  ·have z2:=j.1;exact q2 (ah.trans j E) o ag (P.ic E ag λc q=>q)
  ·have z2:=j.1;exact q2 (ah.trans j E) o ag (P.ic E ag λc q=>q)
  ·have z2:=j.1;exact q2 (ah.trans j E) (o.aj E) ag (P.mo λc (q:Y.size<=c)=>⟨by omega,by have:=o.lt;omega⟩)
 rw[<-ed] at q;exact q
end
mutual
def ai.hY:ai->bD
 | .mk nm aq k w id ix cs=>bE (.mk nm aq k w id ix cs) (A4 cs)
def A4:List ai->List bD
 | []=>[]
 | f::fs=>f.hY::A4 fs
end
theorem SH:∀cs:List ai,A4 cs=cs.map ai.hY
 | []=>by simp[A4]
 | f::a=>by simp[A4,SH a]
theorem ai.SI (f:ai):f.hY=bE f (f.cs.map ai.hY):=by
 obtain ⟨a,aq,k,w,id,ix,cs⟩:=f;rw[<-SH];simp only[ai.hY];rfl
def amo (f:ai) (M:bD):Prop:=∀{T:Nat->Prop} {h:Hp} {v:Value} {r:Raw} {mm:Mem} {K:HP} {Kp:PK},M T h v r (some mm) ->
  (∀h',Tn T h h'->M T h' v mm.r (some mm)->K h')->bJ Tryz.prog mm.F [] h (λr h1=>r=.tuple #[]/\K h1) Kp
section
variable {f:ai} {KM:List bD}
theorem gw.drop (C:gw f.cs KM):∀(j:Nat) M,KM[j]? = some M->∀{T:Nat->Prop} {h:Hp} {v:Value} {r:Raw} {m:Option Mem},M T h v r m->M T h v r none:=by
 intro j M a T h v r m;have c:=(List.getElem?_eq_some_iff.1 a).1;have b:j < f.cs.length:=by have:=C.1;omega
 exact (C.2 j _ M (List.getElem?_eq_getElem b) a).drop
theorem qQ (C:gw f.cs KM) (t:pW f (bE f KM)) (z:pU f (bE f KM)) (k:qi f (bE f KM)) (b:amo f (bE f KM)) (d:qy f (bE f KM)):MC f (bE f KM) :=
 ⟨bE.fr (v:=.bool false) C.mB,bE.lt,bE.na,bE.mono,bE.drop C.drop,t,z,k,b,d,bE.count,bE.weight⟩
theorem adI (b:bp f) (D:∀c∈f.cs,MC c c.hY):MC f f.hY:=by
 have C:gw f.cs (f.cs.map ai.hY):=⟨List.length_map ..,λj c M u B=>by
  rw[List.getElem?_map,u] at B;cases B;exact D c (List.mem_of_getElem? u)⟩
 have z:∀c∈f.cs,fo c/\cW c c.zk c.bO:=λc u=>⟨(ED c (b.aC u)).1,(ED c (b.aC u)).2.1⟩;rw[ai.SI];have flat:f.k≠15/\f.k≠16/\f.k≠19/\f.k≠20/\f.k≠17/\f.k≠18->f.cs=[]:=λq=>List.length_eq_zero_iff.1 (b.right.1.2.2.2.2.2.2.2.2.2.2 q);have one:f.k=15\/f.k=16\/f.k=19\/f.k=20->∃c,f.cs=[c]/\MC c c.hY/\fo c/\cW c c.zk c.bO:=λq=>by
  obtain ⟨c,u,_⟩:=b.one q;have A:c∈f.cs:=by rw[u];simp
  exact ⟨c,u,D c A,z c A⟩
 by_cases x:f.k=1
 ·have a:=flat ag;exact qQ C (by rw[a];exact Zx x) (by rw[a];exact X5 x) (by rw[a];exact adX x a) (by rw[a];rintro T h v r t K w ⟨g,rfl,G⟩ e;exact akd x a G e) (by rw[a];exact ahK x)
 by_cases s:f.k=12\/f.k=13
 ·have a:=flat ag;exact qQ C (by rw[a];exact Zs b s) (by rw[a];exact X0 b s) (by rw[a];exact adS s a) (by rw[a];rintro T h v r t K w ⟨g,rfl,G⟩ e;exact aj8 s a G e) (by rw[a];exact ahF s)
 by_cases p:f.k=15
 ·obtain ⟨c,a,d,P,_⟩:=one ag;exact qQ C (by rw[a];exact Zy b p a d P) (by rw[a];exact X6 b p a d P) (by rw[a];exact adY p a d) (by rw[a];rintro T h v r t K w ⟨g,rfl,G⟩ e;exact ake p a d G e) (by rw[a];exact ahL p a d)
 by_cases o:f.k=16
 ·obtain ⟨c,a,d,P,Z⟩:=one ag;exact qQ C (by rw[a];exact Zu b o a d P Z) (by rw[a];exact X2 b o a d P Z) (by rw[a];exact adU o a d) (by rw[a];rintro T h v r t K w ⟨g,rfl,G⟩ e;exact aka o a d G e) (by rw[a];exact ahH o a d)
 by_cases n:f.k=17
 ·exact qQ C (Zt b n C z) (X1 b n C z) (adT b n C) (by rintro T h v r t K w ⟨g,rfl,G⟩ e;exact aj9 b n C G e) (ahG b n C)
 by_cases m:f.k=18
 ·exact qQ C (ZA b m C z) (X8 b m C z) (ad0 b m C) (by rintro T h v r t K w ⟨g,rfl,G⟩ e;exact akg b m C G e) (ahN b m C)
 by_cases l:f.k=19
 ·obtain ⟨c,a,d,P,_⟩:=one ag;exact qQ C (by rw[a];exact Zz l a d) (by rw[a];exact X7 b l a d) (by rw[a];exact adZ l a d) (by rw[a];rintro T h v r t K w ⟨g,rfl,G⟩ e;exact akf l a d G e) (by rw[a];exact ahM b l a d)
 by_cases i:f.k=20
 ·obtain ⟨c,a,d,P,_⟩:=one ag;exact qQ C (by rw[a];exact Zv b i a d P) (by rw[a];exact X3 b i a d P) (by rw[a];exact adV i a d) (by rw[a];rintro T h v r t K w ⟨g,rfl,G⟩ e;exact akb i a d G e) (by rw[a];exact ahI i a d)
 have y:dU f.k=true:=by simp[dU];omega
 have a:=flat ag;exact qQ C (by rw[a];exact Zw y) (by rw[a];exact X4 b y) (by rw[a];exact adW y a) (by rw[a];rintro T h v r t K w ⟨g,rfl,G⟩ e;exact akc y a G e) (by rw[a];exact ahJ b y)
end
theorem uP:∀f:ai,bp f->MC f f.hY
  | .mk e aq k w id ix cs,a=>by
    have b:∀c∈cs,MC c c.hY:=λc d=>uP c (a.aC d);exact adI a b
theorem Eg (f:ai):f.wz<=4194305:=by
 rw[ai.ux];unfold si;split <;> omega
theorem Li {h:Hp} {a:Nat} {f:ai} {s:Sl} (k:aB h a (f.row s).toArray fP):Cs h ⟨a,2,none⟩ [.int .i64 f.k, .int .i64 f.w, .int .i64 f.id, .int .i64 f.ix,Sl.v s]:=by
 intro i v b;rw[aI,eW k];rcases i with _ | _ | _ | _ | _ | i
 ·simpa[ai.row,kj] using b
 ·simpa[ai.row,kj] using b
 ·simpa[ai.row,kj] using b
 ·simpa[ai.row,kj] using b
 ·simpa[ai.row,kj] using b
 ·simp at b
theorem Yz {f:ai} (gB:bp f) (IH:∀c∈f.cs,vM c):vM f:=by
  cases hl:f.lets with
  | true=>exact YA hl
  | false =>
  intro h s K Kp hs hk;have jr:=gB.right.1;obtain ⟨_,_,xW,xV,_,_,_,h1,Bv,N0,_⟩:=jr;refine nV.of (az λa1 h1' e1 g1 k1 _=>aN.b k1 (Ba (f:=f) (hs.gr g1) λh2 g2=>aR hl ?_));have s1:=g1.1;have s2:=g2.1;have G2:=ah.trans g1 g2;have k1:=k1.aj g2;simp only[aI,Nat.zero_add];refine dH.c (Li k1) (az λa3 h3 e3 g3 k3 _=>jz.b k3 rfl λh4 o4 k3=>an k3 rfl ?_);have s3:=g3.1;have Ng:=k3.lt;have G4:ah h h4:=aM.aj (ah.trans G2 g3) o4 ag;have sU:=hs.gr G4;have fin:∀{h':Hp} (n:Nat) {x:Int},ah h4 h'->f.wz=min 4194305 n->x=(n:Int)->Lt (if 4194305 < x then 4194305 else x) λt63=>K t63 h':=by
    rintro h' n x g e rfl;have:=hk h' (ah.trans G4 g);have e2:(if 4194305 < (n:Int) then (4194305:Int) else (n:Int))=(f.wz:Int):=by rw[e];split <;> omega
    unfold Lt;rw[e2];exact this
  have ew:f.wz=min 4194305 (if f.k=14 then 16+f.w.toNat else if f.k=16 then 16+f.w.toNat*(f.cs.map ai.wz).getD 0 0 else if f.k=17 then 16+(f.cs.map ai.wz).sum else if f.k=18 then 16+(f.cs.map ai.wz).getD 0 0 else if f.k=19\/f.k=20 then (f.cs.map ai.wz).getD 0 0 else 16):=by
    rw[ai.ux,hl];rfl
  have aC:∀{c:ai},f.cs[0]? = some c->(f.cs.map ai.wz).getD 0 0=c.wz:=λhc=>by rw[List.getD_eq_getElem?_getD,List.getElem?_map,hc];rfl
  simp only[aI,Nat.zero_add];refine aA (λm5 => ?_) λm5=>aA (λpQ => ?_) λpQ=>aA (λtG => ?_) λtG=>aA (λeX => ?_) λeX => ?_
  · have m5:=ay m5;have hw:=xW m5;rw[if_pos m5] at ew;exact an k3 rfl (aP ag ag (fin (16+f.w.toNat) (ah.refl _) ew (by push_cast;omega)))
  · simp only[sm,reduceCtorEq] at m5 pQ;have hw:=xV pQ;rw[if_neg m5,if_pos pQ] at ew;have hc:=h1 ag;have iW:f.cs[0]? = some f.cs[0]:=List.getElem?_eq_getElem ag;generalize f.cs[0]=c at iW;rw[aC iW] at ew;have wl:=Eg c;refine an k3 rfl (an k3 rfl (sU.ix (x:=0) (i:=0) rfl iW λp hp => ?_));obtain ⟨u,cp,hu⟩:=hp.row;refine aN.c cp (IH c (List.mem_of_getElem? iW) hu λh5 g5=>bK k3 g5 ?_);have e1:f.w*(c.wz:Int)=((f.w.toNat*c.wz:Nat):Int):=by push_cast;rw[Int.toNat_of_nonneg ag]
    have e2:f.w.toNat*c.wz<=64*4194305:=Nat.mul_le_mul ag wl;rw[e1];exact aP ag ag (aP ag ag (fin (16+f.w.toNat*c.wz) g5 ew (by push_cast;rfl)))
  · simp only[sm,reduceCtorEq] at m5 pQ tG;rw[if_neg m5,if_neg pQ,if_pos tG] at ew;have hn:=sU.n;have Ul:=Bv tG;have afc:∀i,((f.cs.map ai.wz).take i).sum<=i*4194305:=by
      intro i
      induction i with
      | zero=>simp
      | succ i ih =>
        by_cases hi:i < (f.cs.map ai.wz).length
        · rw[List.take_succ_eq_append_getElem hi,List.sum_append];have:=Eg (f.cs[i]'(by simpa using hi))
          simp only[List.getElem_map,List.sum_cons,List.sum_nil];omega
        · have q1:(f.cs.map ai.wz).take (i+1)=f.cs.map ai.wz:=List.take_of_length_le ag;have q2:(f.cs.map ai.wz).take i=f.cs.map ai.wz:=List.take_of_length_le ag;rw[q1];rw[q2] at ih;exact Nat.le_trans ih (Nat.mul_le_mul_right _ (Nat.le_succ i))
    refine an k3 rfl (HG.bB (λy z h'=>∃i:Nat,z=i/\i<=f.cs.length/\y=((16+((f.cs.map ai.wz).take i).sum:Nat):Int)/\ah h4 h') (λ_ z _=>f.cs.length - z.toNat) ⟨0,rfl,Nat.zero_le _,by simp,ah.refl _⟩ ?_)
    rintro y z h5 ⟨i,rfl,hi,ey,g5⟩ N hN;subst ey;have hb:=afc i;refine aA (λcc => ?_) λcc => ?_
    · have cc:=ay cc;have fO:i < f.cs.length:=ag;have iW:f.cs[i]? = some f.cs[i]:=List.getElem?_eq_getElem fO;have sS:(f.cs.map ai.wz).take (i+1)=(f.cs.map ai.wz).take i++[f.cs[i].wz]:=by rw[List.take_succ_eq_append_getElem (by simpa using fO)];simp
      generalize f.cs[i]=c at iW sS;have wl:=Eg c;refine (sU.gr g5).ix rfl iW λp hp => ?_;obtain ⟨u,cp,hu⟩:=hp.row;refine aN.c cp (az λa6 h6 e6 g6 k6 _=>dW.b k6 rfl λh7 o7 k7=>aN.b k7 ?_);have s5:=g5.1;have g7:ah h5 h7:=aM.aj g6 o7 ag;refine IH c (List.mem_of_getElem? iW) (hu.gr g7) λh8 g8=>aP ag ag (aP ag ag (hN _ _ _ ⟨i+1,by simp,by omega,?_,ah.trans g5 (ah.trans g7 g8)⟩ ag))
      rw[sS,List.sum_append];simp;omega
    · have cc:=ay cc;have:i=f.cs.length:=ag;subst this;rw[List.take_of_length_le aS];exact fin (16+(f.cs.map ai.wz).sum) g5 ew (by push_cast;rfl)
  · simp only[sm,reduceCtorEq] at m5 pQ tG eX;rw[if_neg m5,if_neg pQ,if_neg tG,if_pos eX] at ew;have hc:=(N0 eX).1;have iW:f.cs[0]? = some f.cs[0]:=List.getElem?_eq_getElem ag;generalize f.cs[0]=c at iW;rw[aC iW] at ew;have wl:=Eg c;refine an k3 rfl (sU.ix (x:=0) (i:=0) rfl iW λp hp => ?_);obtain ⟨u,cp,hu⟩:=hp.row;exact aN.c cp (IH c (List.mem_of_getElem? iW) hu λh5 g5=>aP ag ag (fin (16+c.wz) g5 ew (by push_cast;rfl)))
  · simp only[sm,reduceCtorEq] at m5 pQ tG eX;rw[if_neg m5,if_neg pQ,if_neg tG,if_neg eX] at ew;have deep:f.k=19\/f.k=20->Ld h4 ⟨a3,4,none⟩ Sl.v λt58=>Ix t58.a t58.n 7 0 λa59=>aN h4 a59 λZK ZJ ZI ZH ZG ZF ZE=>nV ZK ZJ ZI ZH ZG ZF ZE h4 (λt61 h5=>Lt (if 4194305 < t61 then 4194305 else t61) λt63=>K t63 h5) Kp:=by
      intro q;rw[if_pos q] at ew;have hc:=h1 ag;have iW:f.cs[0]? = some f.cs[0]:=List.getElem?_eq_getElem ag;generalize f.cs[0]=c at iW;rw[aC iW] at ew;refine an k3 rfl (sU.ix (x:=0) (i:=0) rfl iW λp hp => ?_);obtain ⟨u,cp,hu⟩:=hp.row;exact aN.c cp (IH c (List.mem_of_getElem? iW) hu λh5 g5=>fin c.wz g5 ew rfl)
    refine aA (λyx=>bx yx ?_) λyx=>aA (λBN => ?_) λBN => ?_
    · have yx:=ay yx;exact deep (.inl yx)
    · have BN:=ay BN;exact deep (.inr BN)
    · simp only[sm,reduceCtorEq] at yx BN;rw[if_neg ag] at ew;exact fin 16 (ah.refl _) ew rfl
theorem Qd:∀f:ai,bp f->vM f
  | .mk e aq k w id ix cs,a=>by
    have b:∀c∈cs,vM c:=λc d=>Qd c (a.aC d);exact Yz a b
open Go Go.Sh Go.Shelf
def RE:Ren where
 f:=λx=>match x with | 99=>78 | 105=>63 | 165=>79 | 166=>80 | 169=>82 | 170=>81 | 206=>94 | 212=>77 | 240=>95 | 241=>96 | 263=>92 | 264=>93 | 276=>108 | 277=>109 | n=>n
 t:=λx=>match x with | 37=>47 | 46=>164 | 51=>210 | 53=>200 | 70=>191 | 72=>193 | 75=>196 | 76=>197 | 109=>188 | 127=>215 | 146=>211 | 148=>213 | 164=>225 | 80=>199 | n=>n
 g:=λn=>n
theorem AQ:Lays.n105 Tryz.prog RE where
 mixed:=by kernel_rfl
 f99:=by kernel_rfl
 f105:=by kernel_rfl
 f165:=by kernel_rfl
 f166:=by kernel_rfl
 f169:=by kernel_rfl
 f170:=by kernel_rfl
 f206:=by kernel_rfl
 f212:=by kernel_rfl
 f240:=by kernel_rfl
 f241:=by kernel_rfl
 f263:=by kernel_rfl
 f264:=by kernel_rfl
 f276:=by kernel_rfl
 f277:=by kernel_rfl
 t0:=Tryz.underlying0
 a0:=Tryz.isAgg0
 z0:=Tryz.sizeOf0
 v0:=Tryz.zeroValue0
 t3:=Tryz.underlying3
 a3:=Tryz.isAgg3
 z3:=Tryz.sizeOf3
 v3:=Tryz.zeroValue3
 t4:=Tryz.underlying4
 a4:=Tryz.isAgg4
 z4:=Tryz.sizeOf4
 v4:=Tryz.zeroValue4
 t5:=Tryz.underlying5
 a5:=Tryz.isAgg5
 z5:=Tryz.sizeOf5
 v5:=Tryz.zeroValue5
 t9:=Tryz.underlying9
 a9:=Tryz.isAgg9
 z9:=Tryz.sizeOf9
 v9:=Tryz.zeroValue9
 t20:=Tryz.underlying20
 a20:=Tryz.isAgg20
 z20:=Tryz.sizeOf20
 v20:=Tryz.zeroValue20
 t37:=Tryz.underlying47
 a37:=Tryz.isAgg47
 z37:=Tryz.sizeOf47
 v37:=Tryz.zeroValue47
 t46:=Tryz.underlying164
 a46:=Tryz.isAgg164
 z46:=Tryz.sizeOf164
 v46:=Tryz.zeroValue164
 t51:=Tryz.underlying210
 a51:=Tryz.isAgg210
 z51:=Tryz.sizeOf210
 v51:=Tryz.zeroValue210
 t53:=Tryz.underlying200
 a53:=Tryz.isAgg200
 z53:=Tryz.sizeOf200
 v53:=Tryz.zeroValue200
 t70:=Tryz.underlying191
 a70:=Tryz.isAgg191
 z70:=Tryz.sizeOf191
 v70:=Tryz.zeroValue191
 t72:=Tryz.underlying193
 a72:=Tryz.isAgg193
 z72:=Tryz.sizeOf193
 v72:=Tryz.zeroValue193
 t75:=Tryz.underlying196
 a75:=Tryz.isAgg196
 z75:=Tryz.sizeOf196
 v75:=Tryz.zeroValue196
 t76:=Tryz.underlying197
 a76:=Tryz.isAgg197
 z76:=Tryz.sizeOf197
 v76:=Tryz.zeroValue197
 t109:=Tryz.underlying188
 a109:=Tryz.isAgg188
 z109:=Tryz.sizeOf188
 v109:=Tryz.zeroValue188
 t127:=Tryz.underlying215
 a127:=Tryz.isAgg215
 z127:=Tryz.sizeOf215
 v127:=Tryz.zeroValue215
 t146:=Tryz.underlying211
 a146:=Tryz.isAgg211
 z146:=Tryz.sizeOf211
 v146:=Tryz.zeroValue211
 t148:=Tryz.underlying213
 a148:=Tryz.isAgg213
 z148:=Tryz.sizeOf213
 v148:=Tryz.zeroValue213
 t164:=Tryz.underlying225
 a164:=Tryz.isAgg225
 z164:=Tryz.sizeOf225
 v164:=Tryz.zeroValue225
theorem abV:Builder.Extra Tryz.prog RE where
 sizeBuilder:=by kernel_rfl
 liesBuilder:=by kernel_rfl
 t5:=AQ.t5
 a5:=AQ.a5
 z5:=AQ.z5
 v5:=AQ.v5
 infoByte:=by kernel_rfl
 cellsByte:=by kernel_rfl
 sizeByte:=by kernel_rfl
 neB5:=by decide
theorem RC:∀n:Nat,Lib.repeatL [0] n=List.replicate n 0
 | 0=>rfl
 | n+1=>by simp[Lib.repeatL,RC n,List.replicate_succ]
theorem abU {h:Hp} {n:Int} {K:ByteArray->HP} {Kp:PK} (h0:0<=n/\n<=1000) (hk:∀h',ah h h'->K (bs (List.replicate n.toNat 0)) h'):Xm (bs [0]) n h K Kp:=by
 intro w hw;obtain ⟨m,rfl⟩:∃m:Nat,n=m:=⟨n.toNat,by omega⟩
 refine (Any.strings_Repeat AQ abV (bs [0]) m w ag (by show 1*m<=_;omega)).mono ?_
 rintro e w' ⟨rfl,b⟩;have lt:∀{k:Nat} {d:Obj},w.heap[k]? = some d->k < w.heap.size:=λq=>(Array.getElem?_eq_some_iff.1 q).1;refine ⟨⟨b.tape,b.os,b.output,b.size,λk ds q=>by rw[b.block k (lt q)];exact q⟩,_,rfl,?_⟩
 have e:(Lib.repeatL (bs [0]).data.toList m).toArray=(List.replicate m 0).toArray:=by rw[show (bs [0]).data.toList=[0] from rfl,RC]
 rw[e];refine hk _ ?_;rw[<-hw];refine ⟨by unfold aE;simp only[Array.size_map];exact b.size,λk Bp => ?_⟩
 unfold aE at Bp ⊢;simp only[Array.size_map] at Bp;rw[Array.getElem?_map,Array.getElem?_map,b.block k Bp]
def iG (lo:Nat) (h:Hp) (t:Sl) (vals:List ak):Prop :=
 ∃ss:List Sl,ss.length=vals.length/\cN lo 4 h t (List.zipWith ak.row vals ss) bW/\∀(j:Nat) (z:ak) (u:Sl),vals[j]? = some z->ss[j]? = some u->au (λb=>lo<=b/\¬t.at b) h u z.items
section
variable {lo:Nat} {h h':Hp} {t u:Sl} {vals:List ak} {z:ak}
theorem iG.nil:iG lo h Sl.nil []:=⟨[],rfl,cN.nil _ _ _ _,by simp⟩
theorem iG.fr {S:Nat->Prop} (o:iG lo h t vals) (f:Tn S h h') (b:∀c,lo<=c->c < h.size->¬S c):iG lo h' t vals:=by
 obtain ⟨a,e,r,v⟩:=o;exact ⟨a,e,r.fr f b,λj z u i g=>au.fr f (λc d hl=>b c d.1 hl) (λ_ q=>q) _ (v j z u i g)⟩
theorem iG.aj (o:iG lo h t vals) (g:ah h h'):iG lo h' t vals:=o.fr (S:=No) (Tn.aT g) λ_ _ _=>id
theorem iG.at (o:iG lo h t vals) {c:Nat} (q:t.at c):lo<=c/\c < h.size:=by obtain ⟨a,e,r,v⟩:=o;exact r.at q
theorem iG.app {a:Nat} {ty:TypeId} {K:Sl->HP} (o:iG lo h t vals) (m:lo<=h.size) (G:vals.length<=5000) (k:aB h a (z.row u).toArray ty) (v:au (λb=>lo<=b/\¬t.at b) h u z.items)
  (D:∀y h',Tn t.at h h'->iG lo h' y (vals++[z])->K y h'):Ap h bW dO 4 56 t 1 (rd h (some ⟨a,0,none⟩) (1*4)) K:=by
 obtain ⟨A,e,r,w⟩:=o;have B:=r.n;rw[List.length_zipWith] at B;refine r.ap m rfl (new:=[z.row u]) rfl (λr f=>by simp at f;subst f;rfl) (λr f=>by simp at f;subst f;exact wY z u) (by simpa[ak.row,qD] using iB k rfl) ag ag λs E l p C=>D s E l ⟨A++[u],by simp[e],by rw[Ed e];exact C,λj x q g d => ?_⟩
 have i:∀b,s.at b->b < h.size->t.at b:=λb q c=>(p b q).resolve_right ag;rcases xe e d with ⟨F,d⟩ | ⟨rfl,rfl⟩
 ·rw[List.getElem?_append_left ag] at g;exact au.fr l (λb c _=>c.1.2) (λb c=>⟨c.1.1,λq=>c.1.2 (i b q c.2)⟩) _ (au.lt _ (w j x q g d))
 ·rw[List.getElem?_append_right (Nat.le_refl _)] at g;simp at g;subst g;exact au.fr l (λb c _=>c.1.2) (λb c=>⟨c.1.1,λq=>c.1.2 (i b q c.2)⟩) _ (au.lt _ v)
theorem iG.vs (o:iG lo h t vals):au (λb=>lo<=b) h t vals:=by
 obtain ⟨g,e,r,v⟩:=o;exact au.snoc r e (λb a=>a) λj d p f c=>au.mo (v j d p f c) λb a=>a.1
theorem au.one {a:Nat} {ty:TypeId} {D:Nat->Prop} (k:aB h a (z.row u).toArray ty) (l:D a) (v:au D h u z.items):au D h ⟨some ⟨a,0,none⟩,1,1⟩ [z]:=by
 refine au.Sq (b:=a) (ss:=[u]) (el:=ty) ⟨λr e=>by simp at e;subst e;rfl,rfl,rfl,rfl,_,k,Nat.le_refl _,rfl,λi g => ?_⟩ rfl l λj d p c f => ?_
 ·simp
 ·rcases j with _ | j
  ·simp at c f;subst c f;exact v
  ·simp at c
end
theorem XH {f:ai} (gB:bp f) (IH:∀c∈f.cs,vK c):vK f:=by
 cases hl:f.lets with
 | true=>exact XI hl
 | false =>
 intro h s K Kp hs hk;have jr:=gB.right.1;obtain ⟨_,_,xW,xV,_,_,_,Z,Bv,N0,_⟩:=jr;refine nU.of (az λa1 h1' e1 g1 k1 _=>az λM h2 e2 g2 j _=>aN.b (k1.aj g2) (Ba (f:=f) ((hs.gr g1).gr g2) λh3 g3=>aR hl (az λR h4 e4 g4 m _ => ?_)));have s1:=g1.1;have s2:=g2.1;have s3:=g3.1;have s4:=g4.1;have k1l:=k1.lt;have k2l:=j.lt;have Ng:=m.lt;have k1:=((k1.aj g2).aj g3).aj g4;have j:=(j.aj g3).aj g4;simp only[aI,Nat.zero_add];refine dH.c (Li k1) (az λa4 h5 e5 g5 r _=>jz.b r rfl λy o6 r=>an r rfl ?_);have s5:=g5.1;have s6:=o6.1;have k4l:=r.lt;have e':ah h4 y:=aM.aj g5 o6 ag;have j:=j.aj e';have m:=m.aj e';have G6:ah h y:=ah.trans (ah.trans (ah.trans (ah.trans g1 g2) g3) g4) e';have c':=hs.gr G6;have C:f.zv=if f.k=14 then .mk false 0 (List.replicate f.w.toNat 0) [] else if f.k=16 then .mk false 0 [] (List.replicate f.w.toNat ((f.cs.map ai.zv).getD 0 v0)) else if f.k=17 then .mk false 0 [] (f.cs.map ai.zv)
   else if f.k=18 then .mk false 0 [] [(f.cs.map ai.zv).getD 0 v0] else if f.k=19\/f.k=20 then (f.cs.map ai.zv).getD 0 v0 else .mk false 0 [] []:=by
  rw[ai.Ec,hl];rfl
 have aC:∀{c:ai},f.cs[0]? = some c->(f.cs.map ai.zv).getD 0 v0=c.zv:=λhc=>by rw[List.getD_eq_getElem?_getD,List.getElem?_map,hc];rfl
 have a':∀{d:Hp} {c2:Array Value} {t:Sl},ah h d->aB d M c2 bW->c2.size=4->au (λb=>y.size<=b) d t f.zv.items->bV d ⟨M,0,none⟩ f.zv.aq f.zv.num (bs f.zv.text) t λI=>aQ I ⟨M,0,none⟩ λH G F E=>K H G F E I:=by
  intro d c2 t L j e2 P;refine bV.b j e2 λI o8 W=>aQ.b W (hk t I (aM.aj L o8 ag) (au.fr o8.fr (λc (q:y.size<=c) _ (e:c=M)=>by omega) (λc (q:y.size<=c)=>by show h.size<=c;omega) _ P))
 have fin:∀{d:Hp} {c2:Array Value} {t:Sl} {tx:List UInt8} {xs:List ak},ah h d->aB d M c2 bW->c2.size=4->aB d R #[.bool false, .int .i64 0, .string (bs tx),Sl.v t] bW->f.zv=.mk false 0 tx xs->au (λb=>y.size<=b) d t xs ->
   aQ d ⟨R,0,none⟩ λk' j' i' g'=>bV d ⟨M,0,none⟩ k' j' i' g' λI=>aQ I ⟨M,0,none⟩ λH G F E=>K H G F E I:=by
  intro d c2 t tx xs L j e2 m e P;have:=a' L j e2 (t:=t) (by rw[e];exact P)
  rw[e] at this;exact aQ.b m this
 -- one more, where rows are made
 have more:∀{d Z:Hp} {t u:Sl} {vals:List ak} {z:ak} {X:HP},ah h d->y.size<=d.size->aB d M dO bW->aB d a4 #[.int .i64 f.k, .int .i64 f.w, .int .i64 f.id, .int .i64 f.ix,Sl.v s] mG->aB d R #[.bool false, .int .i64 0, .string (bs []),Sl.v t] bW->iG y.size d t vals->vals.length<=5000->ah d Z->au (Nw d) Z u z.items ->
   (∀Y V,ah h Y->y.size<=Y.size->aB Y M dO bW->aB Y a4 #[.int .i64 f.k, .int .i64 f.w, .int .i64 f.id, .int .i64 f.ix,Sl.v s] mG->aB Y R #[.bool false, .int .i64 0, .string (bs []),Sl.v V] bW->iG y.size Y V (vals++[z])->X Y) ->
   aD Z #[.bool z.aq, .int .i64 z.num, .string (bs z.text),Sl.v u] bW λa33 h2=>aO Z h2 ⟨R,3,none⟩ 1 (Ap h2 bW dO 4 56 t 1 (rd h2 (some a33) (1*4)) λt34 h3=>St h3 ⟨R,3,none⟩ (Sl.v t34) X):=by
  intro d Z t u vals z X L lx j r m o hn g1 vu hX;refine az λa8 I e8 B W _=>bK (m.aj g1) B ?_;have G8:=ah.trans g1 B;have z8:=G8.1;have f':∀c,t.at c->y.size<=c/\c < d.size:=λc hc=>o.at hc;refine (o.aj G8).app ag hn W (au.mo (au.gr vu B) λc (q:d.size<=c)=>⟨by omega,λz=>by have:=f' c z;omega⟩) λV h9 t9 o9 => ?_
  have n9:∀{c:Nat},c < y.size->¬t.at c:=λhc z=>by have:=(f' _ z).1;omega
  have z9:=t9.1;refine cE (t9.aK (m.aj G8) (n9 ag)) aS rfl λz' S xP => ?_;have g10:ah h z':=aM.aj (((Tn.aT (ah.trans L G8):Tn No h I).trans' t9 λc q d'=>by have:=(f' c q).1;omega).aj) S ag
  exact hX z' V g10 (by have:=S.1;omega) (S.aK (t9.aK (j.aj G8) (n9 ag)) ag) (S.aK (t9.aK (r.aj G8) (n9 ag)) ag) (by simpa using xP) (o9.fr S.fr λc q _ (e:c=R)=>by omega)
 have T:aB y R #[.bool false, .int .i64 0, .string (bs []),Sl.v Sl.nil] bW:=m;simp only[aI,Nat.zero_add];refine aA (λl => ?_) λl=>aA (λA => ?_) λA=>aA (λD => ?_) λD=>aA (λeX => ?_) λeX => ?_
 ·have l:=ay l;have hw:=xW l;rw[if_pos l] at C;exact an r rfl (abU ag λh7 J=>cE (T.aj J) aS rfl λI o8 W=>fin (t:=Sl.nil) (tx:=List.replicate f.w.toNat 0) (aM.aj (ah.trans G6 J) o8 ag) (o8.aK (j.aj J) ag) rfl (by simpa using W) C (au.nil _))
 ·simp only[sm,reduceCtorEq] at l A;have hw:=xV A;rw[if_neg l,if_pos A] at C;have hc:=Z ag;have g:f.cs[0]? = some f.cs[0]:=List.getElem?_eq_getElem ag;generalize f.cs[0]=c at g;rw[aC g] at C;refine an r rfl (HF.bB (λz d=>∃(i:Nat) (t:Sl),z=i/\(i:Int)<=f.w/\ah h d/\y.size<=d.size/\aB d M dO bW/\aB d a4 #[.int .i64 f.k, .int .i64 f.w, .int .i64 f.id, .int .i64 f.ix,Sl.v s] mG/\aB d R #[.bool false, .int .i64 0, .string (bs []),Sl.v t] bW/\iG y.size d t (List.replicate i c.zv)) (λz _=>(f.w - z).toNat) ⟨0,Sl.nil,rfl,by omega,G6,Nat.le_refl _,j,r,T,iG.nil⟩ ?_)
  rintro z d ⟨i,t,rfl,hi,L,lx,j,r,m,o⟩ N hN;simp only[aI,Nat.zero_add];refine aA (λQ => ?_) λQ => ?_
  ·have Q:=ay Q;refine an m rfl (an r rfl ((hs.gr L).ix (x:=0) (i:=0) rfl g λp hp => ?_));obtain ⟨u,cp,hu⟩:=hp.row;refine aN.c cp (IH c (List.mem_of_getElem? g) hu λV h7 J P=>bK m J (more L lx j r m o cC J P λY V gy ly j r m o=>aP ag ag (hN _ _ ⟨i+1,V,by simp,by omega,gy,ly,j,r,m,?_⟩ ag)))
   rw[List.replicate_succ'];exact o
  ·have Q:=ay Q;have:i=f.w.toNat:=ag;subst this;exact fin L j rfl m C o.vs
 ·simp only[sm,reduceCtorEq] at l A D;rw[if_neg l,if_neg A,if_pos D] at C;have hn:=c'.n;have Ul:=Bv D;refine an r rfl (HD.bB (λz d=>∃(i:Nat) (t:Sl),z=i/\i<=f.cs.length/\ah h d/\y.size<=d.size/\aB d M dO bW/\aB d a4 #[.int .i64 f.k, .int .i64 f.w, .int .i64 f.id, .int .i64 f.ix,Sl.v s] mG/\aB d R #[.bool false, .int .i64 0, .string (bs []),Sl.v t] bW/\iG y.size d t ((f.cs.map ai.zv).take i)) (λz _=>f.cs.length - z.toNat) ⟨0,Sl.nil,rfl,Nat.zero_le _,G6,Nat.le_refl _,j,r,T,iG.nil⟩ ?_);rintro z d ⟨i,t,rfl,hi,L,lx,j,r,m,o⟩ N hN;refine aA (λQ => ?_) λQ => ?_
  ·have Q:=ay Q;have d':i < f.cs.length:=ag;have g:f.cs[i]? = some f.cs[i]:=List.getElem?_eq_getElem d';have y':(f.cs.map ai.zv).take (i+1)=(f.cs.map ai.zv).take i++[f.cs[i].zv]:=by rw[List.take_succ_eq_append_getElem (by simpa using d')];simp
   generalize f.cs[i]=c at g y';refine (hs.gr L).ix rfl g λp hp => ?_;obtain ⟨u,cp,hu⟩:=hp.row;refine aN.c cp (az λa6 h7 e7 J k6 _=>dW.b k6 rfl λI o8 W => ?_);have zx:=L.1;have B:ah d I:=aM.aj J o8 ag;have z8:=B.1;simp only[aI,Nat.zero_add];refine an (m.aj B) rfl (aN.b W (IH c (List.mem_of_getElem? g) (hu.gr B) λV h9 g9 P=>bK (m.aj B) g9 (more (ah.trans L B) ag (j.aj B) (r.aj B) (m.aj B) (o.aj B) cC g9 P λY V gy ly j r m o=>aP ag ag (hN _ _ ⟨i+1,V,by simp,by omega,gy,ly,j,r,m,?_⟩ ag))))
   rw[y'];exact o
  ·have Q:=ay Q;have:i=f.cs.length:=ag;subst this;rw[List.take_of_length_le aS] at o;exact fin L j rfl m C o.vs
 ·simp only[sm,reduceCtorEq] at l A D eX;rw[if_neg l,if_neg A,if_neg D,if_pos eX] at C;have hc:=(N0 eX).1;have g:f.cs[0]? = some f.cs[0]:=List.getElem?_eq_getElem ag;generalize f.cs[0]=c at g;rw[aC g] at C;refine an r rfl (c'.ix (x:=0) (i:=0) rfl g λp hp => ?_);obtain ⟨u,cp,hu⟩:=hp.row;refine aN.c cp (IH c (List.mem_of_getElem? g) hu λt h7 J P=>az λa8 I e8 B W _=>cE (T.aj (ah.trans J B)) aS rfl λh9 o9 k9 => ?_);have z7:=J.1;have z8:=B.1;exact fin (t:=⟨some ⟨a8,0,none⟩,1,1⟩) (tx:=[]) (aM.aj (ah.trans G6 (ah.trans J B)) o9 ag) (o9.aK (j.aj (ah.trans J B)) ag) rfl (by simpa[Sl.v] using k9) C (au.one (o9.aK W ag) ag (au.fr o9.fr (λc (q:y.size<=c) _ (e:c=R)=>by omega) (λ_ q=>q) _ (au.gr P B)))
 ·simp only[sm,reduceCtorEq] at l A D eX;rw[if_neg l,if_neg A,if_neg D,if_neg eX] at C;have b':f.k=19\/f.k=20->Ld y ⟨a4,4,none⟩ Sl.v λx'=>Ix x'.a x'.n 7 0 λa68=>aN y a68 λw' v' u' s' r' q' p'=>nU w' v' u' s' r' q' p' y (λo' n' m' l' h7=>bV h7 ⟨M,0,none⟩ o' n' m' l' λI=>aQ I ⟨M,0,none⟩ λH G F E=>K H G F E I) Kp:=by
   intro q;rw[if_pos q] at C;have hc:=Z ag;have g:f.cs[0]? = some f.cs[0]:=List.getElem?_eq_getElem ag;generalize f.cs[0]=c at g;rw[aC g] at C;refine an r rfl (c'.ix (x:=0) (i:=0) rfl g λp hp => ?_);obtain ⟨u,cp,hu⟩:=hp.row;refine aN.c cp (IH c (List.mem_of_getElem? g) hu λt h7 J P => ?_);have:=a' (ah.trans G6 J) (j.aj J) rfl (t:=t) (by rw[C];exact P)
   rw[C] at this;exact this
  refine aA (λO=>bx O ?_) λO=>aA (λU => ?_) λU => ?_
  ·have O:=ay O;exact b' (.inl O)
  ·have U:=ay U;exact b' (.inr U)
  ·simp only[sm,reduceCtorEq] at O U;rw[if_neg ag] at C;exact fin G6 j rfl T C (au.nil _)
theorem P8:∀f:ai,bp f->vK f
  | .mk e aq k w id ix cs,a=>by
    have b:∀c∈cs,vK c:=λc d=>P8 c (a.aC d);exact XH a b
theorem EP:∀{l:List ak},ku l->∀y∈l,y.mq
  | [],_,y,a=>by simp at a
  | x::b,h,y,a=>by
    rcases List.mem_cons.1 a with e | e
    · rw[e];exact h.1
    · exact EP h.2 y e
theorem ak.mq.items {v:ak} (h:v.mq):ku v.items:=by obtain ⟨_,n,_,a⟩:=v;exact h.2
section
variable {f:ai} {D:Nat->Prop} {h:Hp} {x left:Nat} {v:ak} {s t:Sl} {K:Bool->HP} {Kp:PK}
theorem fW.tn {g:Hp} (u:fW h) {c:Value} {ty:TypeId} (k:aB h x #[c] ty) (d:∀n,c≠.int .u8 n) (tn:Tn (·=x) h g):fW g:=by
 have e:∀(b:Nat) (n:Int),cell h ⟨b,0,none⟩=some (.int .u8 n)->b≠x:=by
  rintro b n q rfl;rw[eW k] at q;simp at q;exact d n q
 exact u.fr tn (e 0 _ (u.f 0 aL)) (e 1 _ (u.a 0 aL).1)
theorem FL (k:aB h x #[.int .i64 (left:Int)] mF) (hl:left<=4194304) (I:bz D h s f.cs) (B:¬D x) (H:au D h t v.items)
  (p:∀b a,Tn (·=x) h a->(b=true↔v.aV<=left/\f.fit v=true)->(b=true->aB a x #[.int .i64 ((left - v.aV:Nat):Int)] mF)->K b a)
  (d:∀a j i,Tn (·=x) h a->aB a x #[.int .i64 ((left - 16 - v.text.length:Nat):Int)] mF->16+v.text.length<=left->v.items.length<=4096->v.aq=false ->
   aB a j #[.bool v.aq, .int .i64 v.num, .string (bs v.text),Sl.v t] bW->aB a i #[.int .i64 f.k, .int .i64 f.w, .int .i64 f.id, .int .i64 f.ix,Sl.v s] mG->h.size<=j->h.size<=i->qq K Kp (some ⟨x,0,none⟩) ⟨j,0,none⟩ ⟨i,0,none⟩ f.k (f.k == 19 || f.k == 20) a) :
  qv (some ⟨x,0,none⟩) f.name f.aq f.k f.w f.id f.ix s v.aq v.num (bs v.text) t h K Kp:=by
 refine Uz k hl I B H (λa l q=>p false a l (by simpa using q) (λe=>by cases e)) (λa l F z y=>p true a l (by simp[z,y]) λ_=>F) λJ V j m E L b2 gJ o n S C=>yR.of ?_
 have P:=k.lt;simp only[aI,Nat.zero_add];refine dH.c (Li o) (az λi T U u g _=>jz.b g rfl λr A g=>an g rfl ?_);have Q:=u.1;have R:=m.1;have O:=o.lt;have N:=n.lt;have M:=g.lt;have G:ah J r:=aM.aj u A ag;have:=d r j i (m.trans (Tn.aT G)) (E.aj G) L b2 gJ (n.aj G) g C ag;refine aA (λc => ?_) λc => ?_
 ·rw[c] at this ⊢;exact this
 ·rw[c] at this;exact this
theorem agY (N:f.k=12\/f.k=13\/f.k=14) (E:f.k=14->1<=f.w/\f.w<=16):iN f:=by
  intro D h x left v s t K Kp L k hl M H J U I;have o:=gO v;refine FL k hl M J H I λm C B G y V b2 gJ u z T S => ?_;have p:f.fit v=(decide (v.num=0) && (decide (v.items.length=0) && ((decide (f.k≠12) || gh v.text) && (decide (f.k≠14) || decide (v.text.length=f.w.toNat))))):=by
    rw[ai.c9];unfold dr;rw[if_neg (by simp[gJ]),if_neg ag,if_neg ag,if_neg ag,if_neg ag,if_neg ag,if_pos N]
    simp[b2]
  have fin:∀b d,ah m d->b=f.fit v->K b d:=λb d g e=>by
    have y:=y.aj g;refine I b d (G.trans (Tn.aT g)) ⟨λq => ?_,λq=>by rw[e];exact q.2⟩ λq => ?_
    · have i:=e ▸ q;rw[p] at i;simp only[Bool.and_eq_true,decide_eq_true_eq] at i;have:v.items=[]:=List.length_eq_zero_iff.1 i.2.1;rw[this] at o;exact ⟨by rw[o];simp[bg];omega,by rw[<-e];exact q⟩
    · have i:=e ▸ q;rw[p] at i;simp only[Bool.and_eq_true,decide_eq_true_eq] at i;have:v.items=[]:=List.length_eq_zero_iff.1 i.2.1;rw[this] at o;have R:left - v.aV=left - 16 - v.text.length:=by rw[o];simp[bg];omega
      rw[R];exact y
  have F:(f.k == 19 || f.k == 20)=false:=by simp;omega
  rw[F];have l:tQ K Kp ⟨C,0,none⟩ ⟨B,0,none⟩ true m:=by
    refine tQ.of (bx rfl ?_);simp only[aI,Nat.zero_add];have j:∀b d,ah m d->b=(decide (v.num=0) && (decide (v.items.length=0) && (decide (f.k≠12) || gh v.text)))->wj K Kp ⟨C,0,none⟩ ⟨B,0,none⟩ b d:=by
      intro b d g e;refine wj.of (aA (λc=>an (z.aj g) rfl (aA (λa=>fin _ _ g ?_) λa => ?_)) λc=>fin _ _ g ?_)
      · have a:=ay a;rw[e] at c;rw[p];simp only[Bool.and_eq_true] at c;rw[c.1,c.2.1,c.2.2];simp[a]
      · have a:=ay a;simp only[aI,Nat.zero_add];refine an (u.aj g) rfl (an (z.aj g) rfl (fin _ _ g ?_));rw[e] at c;rw[p];simp only[Bool.and_eq_true] at c;have o:=E a;rw[fG,c.1,c.2.1,c.2.2,Bool.eq_iff_iff];simp[a];omega
      · rw[e] at c;rw[p];cases A:decide (v.num=0) with
        | false=>simp
        | true =>
          cases P:decide (v.items.length=0) with
          | false=>simp
          | true =>
            rw[A,P] at c;simp only[Bool.true_and] at c ⊢;rw[c];simp
    have r:∀b,b=(decide (v.num=0) && decide (v.items.length=0))->yU K Kp ⟨C,0,none⟩ ⟨B,0,none⟩ b m:=by
      intro b e;refine yU.of (aA (λc=>an z rfl (aA (λa => ?_) λa => ?_)) λc => ?_)
      · have a:=ay a;have:=j true m (ah.refl _) (by
          rw[e] at c;simp only[Bool.and_eq_true] at c;rw[c.1,c.2];simp[a])
        exact this
      · have a:=ay a;simp only[aI,Nat.zero_add];refine an u rfl (YQ (L.tn k aS G) (KN _) ag λO Q=>j _ O Q ?_);rw[e] at c;simp only[Bool.and_eq_true] at c;rw[c.1,c.2];simp[a]
      · exact (j false m (ah.refl _) (by
          rw[e] at c;cases A:decide (v.num=0) with
          | false=>simp
          | true=>rw[A] at c;simp only[Bool.true_and] at c;rw[c];simp))
    refine an u rfl (aA (λc => ?_) λc=>r _ ?_)
    · have c:v.num=0:=by simpa using c
      refine an u rfl (r _ ?_);have:=H.n.1;rw[Bool.eq_iff_iff];simp only[c,decide_true,Bool.true_and,beq_iff_eq,decide_eq_true_eq];omega
    · have c:v.num≠0:=by simpa using c
      simp[c]
  refine qq.of (aR rfl (aR cC (aR cC (aR cC (rV.of (aR cC (aA (λc => ?_) λc=>aA (λc => ?_) λa => ?_)))))))
  · rw[c];exact l
  · rw[c];exact l
  · simp only[sm,reduceCtorEq] at c a;have e:(f.k == 14)=true:=by simp;omega
    rw[e];exact l
end
section
variable {f:ai} {D:Nat->Prop} {h:Hp} {x left:Nat} {v:ak} {s t:Sl} {K:Bool->HP} {Kp:PK}
def uS (f:ai) (j:Nat):Nat:=if f.k=17 then j else 0
def CT (f:ai) (l:List ak) (n:Nat):Prop:=∀(j:Nat) y,j < n->l[j]? = some y->∃c,f.cs[uS f j]? = some c/\c.fit y=true
theorem agW {l:List ak} (IH:∀c∈f.cs,iN c) (h1:f.k≠17->f.cs.length=1) (m':f.k=16->1<=f.w) (hu:fW h) (k:aB h x #[.int .i64 (left:Int)] mF) (hl:left<=4194304) (hs:bz D h s f.cs) (hv:au D h t l) (X:¬D x) (hr:ku l) (u':l.length<=4096)
  (hk:∀b a,Tn (·=x) h a->(b=true↔bg l<=left/\(f.k=16->l.length=f.w.toNat)/\(f.k=17->l.length=f.cs.length)/\CT f l l.length)->(b=true->aB a x #[.int .i64 ((left - bg l:Nat):Int)] mF)->K b a) :
  Dc (some ⟨x,0,none⟩) f.k f.w f.id f.ix s t h K Kp:=by
 refine Dc.of (az λW o e1 I E _ => ?_);have xl:=k.lt;have s1:=I.1;have o':=E.lt;have hn:=hv.n;have q':=hs.n;have Y:∀{a},Tn (·=x) h a->¬(bg l<=left/\(f.k=16->l.length=f.w.toNat)/\(f.k=17->l.length=f.cs.length)/\CT f l l.length)->K false a:=λt q=>hk false _ t (by simpa using q) λe=>by cases e
 have go:(f.k=16->l.length=f.w.toNat)->(f.k=17->l.length=f.cs.length)->yO K Kp (some ⟨x,0,none⟩) t ⟨W,0,none⟩ o:=by
  intro m O;refine yO.of (HA.bB (λz a=>∃i:Nat,z=i/\i<=l.length/\Tn (·=x) o a/\bg (l.take i)<=left/\aB a x #[.int .i64 ((left - bg (l.take i):Nat):Int)] mF/\CT f l i) (λz _=>l.length - z.toNat) ⟨0,rfl,Nat.zero_le _,Tn.refl _ _,by simp[bg],by simpa[bg] using k.aj I,λj y hj=>by omega⟩ ?_)
  rintro z V ⟨i,rfl,hi,U,hw,k2,Q⟩ N hN;have T2:Tn (·=x) h V:=(Tn.aT I:Tn _ h o).trans U;refine aA (λL => ?_) λL => ?_
  ·have L:=ay L;have B:i < l.length:=ag;have H:l[i]? = some l[i]:=List.getElem?_eq_getElem B;have R:l.take (i+1)=l.take i++[l[i]]:=List.take_succ_eq_append_getElem B;generalize l[i]=y at H R;have T:=List.mem_of_getElem? H;have a':bg (l.take (i+1))=bg (l.take i)+y.aV:=by rw[R,lZ];simp[bg]
   have r':bg (l.take (i+1))<=bg l:=by
    have:=lZ (l.take (i+1)) (l.drop (i+1));rw[List.take_append_drop] at this;omega
   have b':au D V t l:=au.fr T2 (λb F _ e=>X (e ▸ F)) (λ_ q=>q) _ hv;have P:=U.aK E (show ¬W=x by omega)
   refine b'.ix rfl H λp u cp e'=>aQ.c cp (az λa8 h3 e3 g3 Z _=>bV.b Z rfl λr o4 Z=>an (P.aj (aM.aj g3 o4 ag)) rfl ?_);have s2:=U.1;have s3:=g3.1;have G:ah V r:=aM.aj g3 o4 ag;have s4:=G.1;have T4:Tn (·=x) h r:=T2.trans (Tn.aT G);have bad:∀{a},Tn (·=x) r a->¬(y.aV<=left - bg (l.take i)/\∃c,f.cs[uS f i]? = some c/\c.fit y=true)->K false a:=by
    intro a t' q;refine Y (T4.trans t') λz=>q ⟨by have:=z.1;omega,z.2.2.2 i y B H⟩
   have J:∀{j:Nat} {jx:Int},jx=j->j=uS f i->yN K Kp N (some ⟨x,0,none⟩) ⟨W,0,none⟩ ⟨a8,0,none⟩ jx t (t.n:Int) (i:Int) r:=by
    intro j jx ej ei;have g':j < f.cs.length:=by
     rw[ei];unfold uS;split
     ·rename_i q;have:=O q;omega
     ·rename_i q;have:=h1 q;omega
    have d:f.cs[j]? = some f.cs[j]:=List.getElem?_eq_getElem g';generalize f.cs[j]=c at d;rw[ei] at d;refine yN.of ?_;simp only[aI,Nat.zero_add];have f':bz D r s f.cs:=bz.fr T4 (λb F e=>X (e ▸ F)) (λ_ q=>q) _ hs;refine an (P.aj G) rfl (f'.ix ej (by rw[ei];exact d) λp2 u2 n' d'=>aN.c n' (aQ.b Z (IH c (List.mem_of_getElem? d) (hu.tn k aS T4) (k2.aj G) ag d' (au.gr e' G) X (EP hr y T) λb h5 t5 F k'=>aA (λg => ?_) λg => ?_)))
    ·have g:b=false:=by simpa using g
     refine bad t5 λq => ?_;obtain ⟨c',S,i'⟩:=q.2;rw[d] at S;cases S;rw[F.2 ⟨q.1,i'⟩] at g;cases g
    ·have g:b=true:=by simpa using g
     have l':=F.1 g;refine aP ag ag (hN _ _ ⟨i+1,by simp,by omega,(U.trans (Tn.aT G)).trans t5,by omega,?_,λj' y' s' A => ?_⟩ ag)
     ·have:=k' g;rw[a',<-Nat.sub_sub];exact this
     ·by_cases e:j'=i
      ·subst e;rw[H] at A;cases A;exact ⟨c,d,l'.2⟩
      ·exact Q j' y' ag A
   refine aA (λC=>J rfl ?_) λC=>J (j:=0) rfl ?_
   ·unfold uS;rw[if_pos (by simpa using C)]
   ·unfold uS;rw[if_neg (by simpa using C)]
  ·have L:=ay L;have:i=l.length:=ag;subst this;rw[List.take_length] at hw k2;exact hk true V T2 ⟨λ_=>⟨hw,m,O,Q⟩,λ_=>rfl⟩ λ_=>k2
 have r:(f.k=16->l.length=f.w.toNat)->wh K Kp (some ⟨x,0,none⟩) t ⟨W,0,none⟩ false o:=by
  intro m;refine wh.of (aR rfl (an E rfl (aA (λc => ?_) λc=>go m λq => ?_)))
  ·have c:=ay c;simp only[aI,Nat.zero_add];refine an E rfl (aA (λM=>Y (Tn.aT I) λq => ?_) λM=>go m λ_ => ?_)
   ·have M:=ay M;have:=q.2.2.1 c;omega
   ·have M:=ay M;omega
  ·have c:=ay c;exact absurd q c
 refine an E rfl (aA (λc => ?_) λc=>r λq => ?_)
 ·have c:=ay c;have p':=m' c;simp only[aI,Nat.zero_add];refine an E rfl ?_
  by_cases e:(t.n:Int)=f.w
  ·have e2:((t.n:Int) != f.w)=false:=by simpa using e
   rw[e2];exact r λ_=>by omega
  ·have e2:((t.n:Int) != f.w)=true:=by simpa using e
   rw[e2];refine wh.of (bx rfl (Y (Tn.aT I) λq => ?_));have:=q.2.1 c;omega
 ·have c:=ay c;exact absurd q c
theorem Wm:∀{F:List (ak->Bool)} {l:List ak},m6 F l=true↔l.length=F.length/\∀(j:Nat) y,l[j]? = some y->∃g,F[j]? = some g/\g y=true
  | [],[]=>by simp[m6]
  | [],y::d=>by simp[m6]
  | g::e,[]=>by simp[m6]
  | g::e,y::d=>by
    simp only[m6,Bool.and_eq_true,Wm (F:=e) (l:=d),List.length_cons,Nat.add_right_cancel_iff];constructor
    · rintro ⟨i,c,b⟩;refine ⟨c,λj z a => ?_⟩;rcases j with _ | j
      · simp at a;subst a;exact ⟨g,rfl,i⟩
      · exact b j z (by simpa using a)
    · rintro ⟨c,b⟩;obtain ⟨m,e1,k⟩:=b 0 y rfl;simp at e1;subst e1;exact ⟨k,c,λj z a=>b (j+1) z (by simpa using a)⟩
theorem agZ (IH:∀c∈f.cs,iN c) (hf:f.k=15\/f.k=16\/f.k=17) (T:f.k≠17->f.cs.length=1) (O:f.k=16->1<=f.w):iN f:=by
 intro D h x left v s t K Kp hu k hl Q H B hr I;have hw:=gO v;refine FL k hl Q B H I λu W V r Z b1 b2 gJ G k7 l5 l7 => ?_;have hn:=H.n;have s5:=r.1;have xl:=k.lt;have U:f.fit v=true↔v.num=0/\v.text.length=0/\(f.k=16->v.items.length=f.w.toNat)/\(f.k=17->v.items.length=f.cs.length)/\CT f v.items v.items.length:=by
  rw[ai.c9];unfold dr CT uS;rw[if_neg (by simp[gJ]),if_neg ag,if_neg ag]
  have d:f.k≠17->((v.items.all ((f.cs.map ai.fit).getD 0 om)=true)↔∀(j:Nat) y,j < v.items.length->v.items[j]? = some y->∃c,f.cs[if f.k=17 then j else 0]? = some c/\c.fit y=true):=λne=>by
   have hc:=T ne;have l:f.cs[0]? = some f.cs[0]:=List.getElem?_eq_getElem ag;have e:(f.cs.map ai.fit).getD 0 om=(f.cs[0]).fit:=by rw[List.getD_eq_getElem?_getD,List.getElem?_map,l];rfl
   generalize f.cs[0]=c at l e;rw[e,List.all_eq_true];simp only[if_neg ne,l];constructor
   ·intro q j y _ a;exact ⟨c,rfl,q y (List.mem_of_getElem? a)⟩
   ·intro q y a;obtain ⟨j,R⟩:=List.mem_iff_getElem?.1 a;obtain ⟨c',e1,i⟩:=q j y (List.getElem?_eq_some_iff.1 R).1 R;cases e1;exact i
  by_cases p:f.k=15
  ·rw[if_pos p];simp only[Bool.and_eq_true,decide_eq_true_eq,d ag];exact ⟨λq=>⟨q.2.1,q.2.2.1,λz=>by omega,λz=>by omega,q.2.2.2⟩,λq=>⟨b2,q.1,q.2.1,q.2.2.2.2⟩⟩
  by_cases o:f.k=16
  ·rw[if_neg p,if_pos o];simp only[Bool.and_eq_true,decide_eq_true_eq,d ag];exact ⟨λq=>⟨q.2.1,q.2.2.1,λz=>q.2.2.2.1,λz=>by omega,q.2.2.2.2⟩,λq=>⟨b2,q.1,q.2.1,q.2.2.1 o,q.2.2.2.2⟩⟩
  ·have m:f.k=17:=ag;rw[if_neg p,if_neg o,if_pos m];simp only[Bool.and_eq_true,decide_eq_true_eq,Wm,List.length_map,if_pos m];refine ⟨λq=>⟨q.2.1,q.2.2.1,λz=>by omega,λz=>q.2.2.2.1,λj y _ a => ?_⟩,λq=>⟨b2,q.1,q.2.1,q.2.2.2.1 m,λj y a => ?_⟩⟩
   ·obtain ⟨g,e1,i⟩:=q.2.2.2.2 j y a;rw[List.getElem?_map,Option.map_eq_some_iff] at e1;obtain ⟨c,e3,rfl⟩:=e1;exact ⟨c,e3,i⟩
   ·obtain ⟨c,e1,i⟩:=q.2.2.2.2 j y (List.getElem?_eq_some_iff.1 a).1 a;exact ⟨c.fit,by rw[List.getElem?_map,e1];rfl,i⟩
 have P:(f.k == 19 || f.k == 20)=false:=by simp;omega
 rw[P];have Y:f.fit v≠true->K false u:=λq=>I false u r (by simpa using λ_=>q) λe=>by cases e
 have S:∀b,b=(decide (v.num=0) && decide (v.text.length=0))->yQ K Kp (some ⟨x,0,none⟩) ⟨W,0,none⟩ ⟨V,0,none⟩ b u:=by
  intro b e;refine yQ.of (aA (λc=>dH.b k7 ?_) λc=>Y λq => ?_)
  ·rw[e] at c;simp only[Bool.and_eq_true,decide_eq_true_eq] at c;have M:bz D u s f.cs:=bz.fr r (λb A e=>B (e ▸ A)) (λ_ q=>q) _ Q;have L:au D u t v.items:=au.fr r (λb A _ e=>B (e ▸ A)) (λ_ q=>q) _ H;simp only[aI,Nat.zero_add];refine an G rfl (agW IH T O (hu.tn k aS r) Z ag M L B hr.items b2 λb h6 X A N=>I b h6 (r.trans X) (A.trans ?_) λq => ?_)
   ·rw[U];constructor
    ·rintro ⟨q1,F,E,C⟩;exact ⟨by omega,c.1,c.2,F,E,C⟩
    ·rintro ⟨q0,_,_,F,E,C⟩;exact ⟨by omega,F,E,C⟩
   ·have:=N q;have i:left - v.aV=left - 16 - v.text.length - bg v.items:=ag;rw[i];exact this
  ·have q:=U.1 q;rw[e] at c;simp[q.1,q.2.1] at c
 have J:rV K Kp (some ⟨x,0,none⟩) ⟨W,0,none⟩ ⟨V,0,none⟩ f.k true u:=by
  refine rV.of (bx rfl ?_);simp only[aI,Nat.zero_add];refine an G rfl (aA (λc => ?_) λc=>S _ ?_)
  ·have c:v.num=0:=by simpa using c
   refine an G rfl (S _ ?_);rw[GB];simp[c]
  ·have c:v.num≠0:=by simpa using c
   simp[c]
 refine qq.of (aR rfl (aR cC (aA (λc => ?_) λc=>aA (λc => ?_) λc2 => ?_)))
 ·rw[c];exact J
 ·rw[c];exact J
 ·simp only[sm,reduceCtorEq] at c c2;have e:(f.k == 17)=true:=by simp;omega
  rw[e];exact J
theorem ag0 (IH:∀c∈f.cs,iN c) (T:f.k=18) (b':f.cs.length<=32):iN f:=by
 intro D h x left v s t K Kp Y k hl H G A Z I;have C:=gO v;refine FL k hl H A G I λE a5 a7 j X b1 b2 gJ l R l5 l7 => ?_;have hn:=G.n;have a':=H.n;have s5:=j.1;have xl:=k.lt;have r:f.fit v=true↔v.text.length=0/\0<=v.num/\v.num < f.cs.length/\v.items.length=1/\(f.cs.map ai.fit).getD v.num.toNat om (v.items.getD 0 v0)=true:=by
  rw[ai.c9];unfold dr;rw[if_neg (by simp[gJ]),if_neg ag,if_pos T]
  simp only[Bool.and_eq_true,decide_eq_true_eq,List.length_map];exact ⟨λq=>q.2,λq=>⟨b2,q⟩⟩
 have P:(f.k == 19 || f.k == 20)=false:=by simp;omega
 rw[P];have B:f.fit v≠true->K false E:=λq=>I false E j (by simpa using λ_=>q) λe=>by cases e
 refine qq.of (aR rfl (bx (by simpa using T) ?_))
 simp only[aI,Nat.zero_add];refine an l rfl ?_;rw[GB];refine aA (λc => ?_) λc=>B λq => ?_;rotate_left
 ·have:=(r.1 q).1;have c:=ay c;exact c this
 have c:=ay c;refine an l rfl (aA (λm => ?_) λm=>B λq => ?_);rotate_left
 ·have:=(r.1 q).2.1;have m:=ay m;omega
 have m:=ay m;refine an l rfl (an R rfl (aA (λz => ?_) λz=>B λq => ?_));rotate_left
 ·have:=(r.1 q).2.2.1;have z:=ay z;omega
 have z:=ay z;refine an l rfl (aA (λw => ?_) λw=>B λq => ?_);rotate_left
 ·have:=(r.1 q).2.2.2.1;have w:=ay w;omega
 have w:=ay w;have N:bz D E s f.cs:=bz.fr j (λb o e=>A (e ▸ o)) (λ_ q=>q) _ H;have L:au D E t v.items:=au.fr j (λb o _ e=>A (e ▸ o)) (λ_ q=>q) _ G;have d:f.cs[v.num.toNat]? = some (f.cs[v.num.toNat]' ag):=List.getElem?_eq_getElem ag;obtain ⟨y,g⟩:∃y,v.items=[y]:=by
  have:v.items.length=1:=ag
  match hq:v.items,this with
  | [a],_=>exact ⟨a,rfl⟩
 have S:v.items[0]? = some y:=by rw[g];rfl
 generalize f.cs[v.num.toNat]' ag=U at d;refine an R rfl (an l rfl (N.ix (i:=v.num.toNat) ag d λp u cp M=>aN.c cp (an l rfl (L.ix (x:=0) (i:=0) rfl S λp2 u2 Q J=>aQ.c Q (IH U (List.mem_of_getElem? d) (Y.tn k aS j) X ag M J A (EP Z.items y (List.mem_of_getElem? S)) λb h6 V o O=>I b h6 (j.trans V) (o.trans ?_) λq => ?_)))))
 ·rw[r,g];rw[g] at C;simp only[bg] at C;have e1:(f.cs.map ai.fit).getD v.num.toNat om ([y].getD 0 v0)=U.fit y:=by rw[List.getD_eq_getElem?_getD,List.getElem?_map,d];rfl
  rw[e1];constructor
  ·rintro ⟨W,F⟩;exact ⟨by omega,c,m,by omega,rfl,F⟩
  ·rintro ⟨W,_,_,_,_,F⟩;exact ⟨by omega,F⟩
 ·have:=O q;rw[g] at C;simp only[bg] at C;have e2:left - v.aV=left - 16 - v.text.length - y.aV:=ag;rw[e2];exact this
theorem agX (R:∀c∈f.cs,iN c) (M:f.k=19\/f.k=20) (Y:f.cs.length=1):iN f:=by
 intro D h x left v s t K Kp J k hl F E l L G;have W:=gO v;refine FL k hl F l E G λX a5 a7 B d Z b2 gJ C I V U => ?_;have S:=k.lt;have T:=B.1;have a:f.cs[0]? = some (f.cs[0]' ag):=List.getElem?_eq_getElem ag;generalize f.cs[0]' ag=o at a;have O:f.fit v=o.fit v:=by
  rw[ai.c9];unfold dr;rw[if_neg (by simp[gJ]),if_pos M]
  have e1:(f.cs.map ai.fit).getD 0 om=o.fit:=by rw[List.getD_eq_getElem?_getD,List.getElem?_map,a];rfl
  rw[e1];simp[b2]
 have A:(f.k == 19 || f.k == 20)=true:=by simp;omega
 rw[A];refine qq.of (bx rfl ?_);refine bF ?_;refine an d rfl (an C rfl (aP (by rw[fG];omega) (by rw[fG];omega) (aP (by rw[fG];omega) (by rw[fG];omega) (cE d aS rfl λm n d => ?_))))
 rw[fG] at d;have P:((left - 16 - v.text.length:Nat):Int)+(16+(v.text.length:Int))=(left:Int):=ag;have d:aB m x #[.int .i64 (left:Int)] mF:=by simpa[P] using d
 have j:Tn (·=x) h m:=B.trans n.fr;have y:bz D m s f.cs:=bz.fr j (λb g e=>l (e ▸ g)) (λ_ q=>q) _ F;have r:au D m t v.items:=au.fr j (λb g _ e=>l (e ▸ g)) (λ_ q=>q) _ E;refine an (n.aK I ag) rfl (y.ix (x:=0) (i:=0) rfl a λp u Q w=>aN.c Q (aQ.b (n.aK C ag) (R o (List.mem_of_getElem? a) (J.tn k aS j) d hl w r l L λb N H g z=>G b N (j.trans H) (by rw[O];exact g) z)))
end
theorem agS {f:ai} (g:bp f) (e:∀c∈f.cs,iN c):iN f:=by
 obtain ⟨n,rf,l,j,_,_,_,m,o,i,_⟩:=g.right.1
 by_cases a:f.k<=11
 ·exact UG ⟨n,a⟩
 by_cases b:f.k=12\/f.k=13\/f.k=14
 ·exact agY b l
 by_cases c:f.k=15\/f.k=16\/f.k=17
 ·exact agZ e c (λq=>m ag) λq=>(j q).1
 by_cases d:f.k=18
 ·exact ag0 e d (i d).2
 ·exact agX e ag (m ag)
theorem UF:∀f:ai,bp f->iN f
  | .mk e aq k w id ix cs,a=>by
    have b:∀c∈cs,iN c:=λc d=>UF c (a.aC d);exact agS a b
end Go.Proofs.YtikpikmkhdapiaaGreatDoor
