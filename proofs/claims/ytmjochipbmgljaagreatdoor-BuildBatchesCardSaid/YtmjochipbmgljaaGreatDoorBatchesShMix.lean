import Derived.Test.YtmjochipbmgljaaGreatDoorBatchesShAll
import Derived.Test.YtmjochipbmgljaaGreatDoorBatchesShLoc
set_option linter.all false
namespace Go.Sh
variable {ops:Array Oper} {o:Oper} {K:Fr->HP} {Kp:PK} {fr fW:Fr} {h h0:Hp} {d t i:Nat} {v:Value}
variable {P:Program}
inductive Cl
 |al (d:Nat) (z:Array Value) (ty:TypeId) (s u:Nat)
 |st (j u:Nat)
 |vl (d:Nat) (V:Value->Nat->Nat->HP)
variable {C:List Cl}
def Cl.dst:Cl->Option Nat|.al d _ _ _ _=>some d|.st _ _=>none|.vl d _=>some d
def Ic(C:List Cl)(fW fr:Fr):Prop:=fr.length=fW.length/\∀t,(∀c∈C,c.dst≠some t)->fr.getD t none=fW.getD t none
def Ii(rem:cG)(fr:Fr)(h0 h:Hp)(F:Nat->Value)(A lo hi:Nat->Nat)(i:Nat):Cl->Prop
 |.al d z ty s u=>fr.getD d none=some (.pointer (some ⟨A i,0,none⟩))/\h0.size<=A i/\aN h (A i) (if s∈rem then z else(F u).cells) ty
 |.st _ _=>True
 |.vl d V=>fr.getD d none=some (F i)/\V (F i) (lo i) (hi i) h/\h0.size<=lo i/\hi i<=h.size
structure VY(C:List Cl)(fW:Fr)(h0:Hp)(rem:cG)(fr:Fr)(h:Hp)(F:Nat->Value)(A lo hi:Nat->Nat):Prop where
 g:az h0 h
 o:Ic C fW fr
 c:∀(i:Nat)c,C[i]? =some c->i∉rem->Ii rem fr h0 h F A lo hi i c
 aa:∀(i j:Nat)d z ty s u d' z' ty' s' u',C[i]? =some (.al d z ty s u)->C[j]? =some (.al d' z' ty' s' u')->i∉rem->j∉rem->i≠j->A i≠A j
 av:∀(i j:Nat)d z ty s u d' V,C[i]? =some (.al d z ty s u)->C[j]? =some (.vl d' V)->i∉rem->j∉rem->¬(lo j<=A i/\A i<hi j)
 vv:∀(i j:Nat)d V d' V',C[i]? =some (.vl d V)->C[j]? =some (.vl d' V')->i∉rem->j∉rem->i≠j->hi i<=lo j\/hi j<=lo i
 sd:∀(s j u:Nat),C[s]? =some (.st j u)->s∉rem->j∉rem/\u∉rem
def oL(P:Program)(ops:Array Oper)(Kp:PK)(C:List Cl)(fW:Fr)(h0:Hp)(i:Nat)(o:Oper):Cl->Prop
 |.al d z ty _ _=>o.guard=none/\o.dst=some d/\o.op=.alloc ty/\(zeroOf P ty).map Value.cells=some z
 | .st j u=>o.guard=none/\o.dst=none/\j∈jF o/\u∈jF o/\∃t dj z ty du V,C[j]? =some (.al dj z ty i u)/\C[u]? =some (.vl du V)/\o.op=.store t (.tmp dj) (.tmp du)/\jo P t=some z.size/\
   ∀v lo hi h,V v lo hi h->v.cells.size=z.size/\(∀x∈v.cells.toList,one x=true)/\(tu P t=true->v.cells=#[v])
 | .vl d V=>(∀(S:aQ)v lo hi h h',V v lo hi h->h0.size<=lo->hi<=h.size->Tn S h h'->(∀c,S c->h0.size<=c/\¬(lo<=c/\c<hi))->V v lo hi h')/\
   ∀(K:Fr->HP)fr h,az h0 h->Ic C fW fr->(∀e∈jF o,∀d' V',C[e]? =some (.vl d' V')->∃v lo hi,fr.getD d' none=some v/\V' v lo hi h)->
    (∀v h',az h h'->V v h.size h'.size h'->K (fr.set d (some v)) h')->lq P ops o K Kp fr h
theorem amS{z:Array Value}{ty:TypeId}(s:o.guard=none/\o.dst=some d/\o.op=.alloc ty/\(zeroOf P ty).map Value.cells=some z)
  (H:aH h z ty (λa l=>K (fr.set d (some (dw a))) l)):lq P ops o K Kp fr h:=by
 obtain⟨g,k,f,b⟩:=s;unfold lq gd;rw[g,k,f];simp only[iL];cases c:zeroOf P ty with
 |none=>grind
 |some v=>rw[c]at b;simp only[pH,mC]at b;subst b;exact H
theorem amL{t:TypeId}{dj du a:Nat}{z:Array Value}{ty:TypeId}(w:o.guard=none)(y:o.dst=none)(r:o.op=.store t (.tmp dj) (.tmp du))
    (B:fr.getD dj none=some (bI a)) (A:fr.getD du none=some v) (k:aN h a z ty) (m:jo P t=some z.size) (c:v.cells.size=z.size/\(∀x∈v.cells.toList,one x=true)/\(tu P t=true->v.cells=#[v]))
    (s:∀b,eD a h b->aN b a v.cells ty->K fr b):lq P ops o K Kp fr h:=by
  unfold lq gd;rw[w,y,r];simp only[iL,ev,B,A];have key:(if jo P t=some v.cells.size then ji h (aJ a) 0 v.cells.toList (λb=>K fr b)else False):=by
    rw[aI (by rw[m,c.1])]
    refine wW _ k (by simp[c.1]) c.2.1 λb cs l g D f=>s b l ?_
    have:cs=v.cells:=by
      apply Al;intro i;rw[f i];split
      ·simp
      ·simp_all
    exact this▸g
  unfold vG;cases p:tu P t with
  |false=>exact key
  | true=>
    have e:=c.2.2 p;rw[e]at key;exact⟨e,key⟩
theorem Kw{v:Option Value}(h:d<fr.length):(fr.set d v).getD d none=v:=by
 simp[*]
theorem getD_set_ne{v:Option Value}(h:d≠t):(fr.set d v).getD t none=fr.getD t none:=by
 simp[*]
theorem Ii.step{N:cG}{cW:Fr}{g:Hp}{F J:Nat->Value}{A K b l f p:Nat->Nat}{k:Nat}{c:Cl}{S:aQ}(m:Ii N fr h0 h F A b f i c)(ne:i≠k)
    (B:∀j,j≠k->J j=F j) (D:∀j,j≠k->K j=A j) (hl:∀j,j≠k->l j=b j) (I:∀j,j≠k->p j=f j) (q:∀d,c.dst=some d->cW.getD d none=fr.getD d none) (t:Tn S h g)
    (H:∀d z ty s u,c=.al d z ty s u->s≠k/\¬S (A i)/\(s∉N->u≠k)) (E:∀d V,c=.vl d V->V (F i) (b i) (f i) h->h0.size<=b i->f i<=h.size->V (F i) (b i) (f i) g) (G:N.Nodup):Ii (N.erase k) cW h0 g J K l p i c:=by
  cases c with
  | al d z ty s u=>
    obtain⟨v,r,a⟩:=m;obtain⟨M,x,L⟩:=H d z ty s u rfl;refine⟨by rw[q d rfl,D i ne];exact v,dM,?_⟩
    rw[D i ne];have e:(s∈N.erase k)=(s∈N):=by rw[G.mem_erase_iff];simp[M]
    simp only[e]
    by_cases w:s∈N
    ·rw[aI w]at a ⊢;exact t.aZ a x
    ·rw[aC w]at a ⊢;rw[B u (L w)];exact t.aZ a x
  |st j u=>trivial
  | vl d V=>
    obtain⟨v,r,a,y⟩:=m;refine⟨by rw[q d rfl,B i ne];exact v,?_,dM,by rw[I i ne];exact iY y t.1⟩
    rw[B i ne,hl i ne,I i ne];exact E d V rfl r a y
structure ayX(P:Program)(ops:Array Oper)(Kp:PK)(C:List Cl)(fW:Fr)(h0:Hp):Prop where
 n:C.length=ops.size
 nd:(C.filterMap Cl.dst).Nodup
 lt:∀d∈C.filterMap Cl.dst,d<fW.length
 s:∀(i:Nat)d z ty s u,C[i]? =some (.al d z ty s u)->C[s]? =some (.st i u)
 ok:∀(i:Nat)o c,ops[i]? =some o->C[i]? =some c->oL P ops Kp C fW h0 i o c
theorem au1(a:(C.filterMap Cl.dst).Nodup){i j:Nat}{c m:Cl}{d:Nat}(b:C[i]? =some c)(f:C[j]? =some m)(e:c.dst=some d)(l:m.dst=some d):i=j:=by
  induction C generalizing i j with
  |nil=>simp at b
  | cons x C p=>
    grind
theorem Ic.set{v:Option Value}{c:Cl}(o:Ic C fW fr)(m:c∈C)(e:c.dst=some d):Ic C fW (fr.set d v):=
 ⟨by rw[Ca];exact o.1,λt a=>by rw[getD_set_ne (λq=>a c m dM)];exact o.2 t a⟩
theorem mix(ok:ayX P ops Kp C fW h0)
    (hf:∀fr h F A O Q,VY C fW h0 [] fr h F A O Q->K fr h):zq P ops K Kp ops.size (List.range ops.size) fW h0:=by
  refine an0 (I:=λE fr h=>(∀x∈E,x<C.length)/\∃F A O Q,VY C fW h0 E fr h F A O Q) ?_ (λfr h q=>?_) _ _ _ _ List.nodup_range aA ?_
  · rintro E fr h L ⟨g',F,A,O,Q,M⟩ i N o ho Y;have W:∀x∈E.erase i,x<C.length:=bU;obtain⟨c,b⟩:∃c,C[i]? =some c:=⟨_,bx (g' i N)⟩;have S:=ok.ok i o c ho b;have f':=bL b;have split:∀{j:Nat},j∉E.erase i->j≠i->j∉E:=bU;have i':∀{d:Nat}{v:Option Value}{j:Nat}{c':Cl},c.dst=some d->C[j]? =some c'->j≠i->∀t,c'.dst=some t->(fr.set d v).getD t none=fr.getD t none:=by
      intro d v j c' hd l ne t ht;refine getD_set_ne λe=>ne ?_;subst e;exact au1 ok.nd l b ht hd
    have k':∀{d:Nat},c.dst=some d->d<fr.length:=λhd=>by rw[M.o.1];exact ok.lt _ (L9.2 ⟨c,f',hd⟩)
    have qj:∀{j:Nat}{d:Nat}{V:Value->Nat->Nat->HP},C[j]? =some (.vl d V)->∀(S:aQ)v O Q h h',V v O Q h->h0.size<=O->Q<=h.size->Tn S h h'->(∀c,S c->h0.size<=c/\¬(O<=c/\c<Q))->V v O Q h':=by
      intro j d V l;have p':j<ops.size:=by rw[<-ok.n];exact(cU.1 l).1
      have q:=ok.ok j ops[j] _ (Ak p') l;exact q.1
    have sz:=M.g.1;cases c with
    | al d z ty s u=>
      refine amS S (aG λa h1 ea g1 k1 _=>⟨W,F,λj=>if j=i then a else A j,O,Q,?_⟩)
      have s1:=g1.1;have hs:=ok.s i d z ty s u b;have o':s≠i:=bU
      have m':s∈E:=yL λq=>(M.sd s i u hs q).1 N;have eA:∀j,j≠i->(if j=i then a else A j)=A j:=λj e=>aC e
      have a':∀(j:Nat)d z ty s u,C[j]? =some (.al d z ty s u)->j∉E->A j<h.size:=λj d z ty s u l f=>by
        have:=(M.c j _ l f).2.2;exact this.lt
      refine⟨ak M.g g1,M.o.set f' rfl,λj c' l f=>?_,λj y d1 z1 t1 s1 u1 d2 z2 t2 s2 u2 l r f p ne=>?_,λj y d1 z1 t1 s1 u1 d2 V l r f p=>?_,λj y d1 V1 d2 V2 l r f p ne=>?_,λG y J m f=>?_⟩
      · by_cases e:j=i
        · subst e;rw[b]at l;cases l;refine⟨by simp only[gu];exact Kw (k' rfl),dM,?_⟩
          grind
        · refine(M.c j c' l (split f e)).step (S:=No) e (λ_ _=>rfl) eA (λ_ _=>rfl) (λ_ _=>rfl) (i' rfl l e) (bh g1) (λd' z' U G J T=>?_) (λd' V' T v1 v2 v3=>?_) L
          ·subst T;have m:=ok.s j d' z' U G J l;exact⟨λe=>bU,id,λq e=>(M.sd G j J m q).2 (e▸N)⟩
          ·subst T;exact qj l No _ _ _ _ _ v1 v2 v3 (bh g1) λ_ q=>q.elim
      · by_cases e1:j=i
        ·grind
        · by_cases w:y=i
          ·grind
          ·simp only[aC e1,aC w];exact M.aa j y _ _ _ _ _ _ _ _ _ _ l r (split f e1) (split p w) ne
      · have w:y≠i:=bU
        have hv:=(M.c y _ r (split p w)).2.2.2
        by_cases e1:j=i
        ·simp[*]
        ·simp only[aC e1];exact M.av j y _ _ _ _ _ _ _ l r (split f e1) (split p w)
      · have e1:j≠i:=bU
        have w:y≠i:=bU
        exact M.vv j y _ _ _ _ l r (split f e1) (split p w) ne
      · have e1:G≠i:=bU
        have q:=M.sd G y J m (split f e1);grind
    | st j u=>
      obtain⟨hg,q',l,hu,t,dj,z,ty,du,V,b',r',n',l',hV⟩:=S;have nj:=Y j l;have nu:=Y u hu;obtain⟨m1,m2,m3⟩:=M.c j _ b' nj;obtain⟨w1,w2,w3,w4⟩:=M.c u _ r' nu;rw[aI N]at m3;refine amL hg q' n' m1 w1 m3 l' (hV _ _ _ _ w2) λh1 o1 k1=>⟨W,F,A,O,Q,?_⟩;have s1:=o1.1;refine⟨bE M.g o1 m2,M.o,λx c' B f=>?_,λx Z d1 z1 t1 s1 u1 d2 z2 t2 s2 u2 B D f p ne=>?_,λx Z d1 z1 t1 s1 u1 d2 V B D f p=>?_,λx Z d1 V1 d2 V2 B D f p ne=>?_,λG Z J m f=>?_⟩
      · by_cases e:x=i
        ·subst e;rw[b]at B;cases B;trivial
        · have e':=split f e
          by_cases ej:x=j
          ·subst ej;rw[b']at B;cases B;refine⟨m1,m2,?_⟩;grind
          · refine(M.c x c' B e').step e (λ_ _=>rfl) (λ_ _=>rfl) (λ_ _=>rfl) (λ_ _=>rfl) (λ_ _=>rfl) o1.fr (λd' z' U G J T=>?_) (λd' V' T v1 v2 v3=>?_) L
            ·subst T;have m:=ok.s x d' z' U G J B;refine⟨λe=>?_,λe=>M.aa x j _ _ _ _ _ _ _ _ _ _ B b' e' nj ej e,λq e=>(M.sd G x J m q).2 (e▸N)⟩;grind
            ·subst T;exact qj B (·=A j) _ _ _ _ _ v1 v2 v3 o1.fr λq e=>e▸⟨m2,M.av j x _ _ _ _ _ _ _ b' B nj e'⟩
      · have e1:x≠i:=bU
        have w:Z≠i:=bU
        exact M.aa x Z _ _ _ _ _ _ _ _ _ _ B D (split f e1) (split p w) ne
      · have e1:x≠i:=bU
        have w:Z≠i:=bU
        exact M.av x Z _ _ _ _ _ _ _ B D (split f e1) (split p w)
      · have e1:x≠i:=bU
        have w:Z≠i:=bU
        exact M.vv x Z _ _ _ _ B D (split f e1) (split p w) ne
      · by_cases e1:G=i
        ·grind
        ·have q:=M.sd G Z J m (split f e1);grind
    | vl d V=>
      refine S.2 _ fr h M.g M.o (λe he d' V' hC=>?_) λv h1 g1 hV=>⟨W,λj=>if j=i then v else F j,A,λj=>if j=i then h.size else O j,λj=>if j=i then h1.size else Q j,?_⟩
      ·have q:=M.c e _ hC (Y e he);exact⟨_,_,_,q.1,q.2.1⟩
      have s1:=g1.1;have a':∀(j:Nat)d z ty s u,C[j]? =some (.al d z ty s u)->j∉E->A j<h.size:=λj d z ty s u l f=>by
        have:=(M.c j _ l f).2.2;exact this.lt
      refine⟨ak M.g g1,M.o.set f' rfl,λj c' l f=>?_,λj y d1 z1 t1 s1 u1 d2 z2 t2 s2 u2 l r f p ne=>?_,λj y d1 z1 t1 s1 u1 d2 V l r f p=>?_,λj y d1 V1 d2 V2 l r f p ne=>?_,λG y J m f=>?_⟩
      · by_cases e:j=i
        ·subst e;rw[b]at l;cases l;simp only[Ii,gu];exact⟨Kw (k' rfl),hV,sz,bP _⟩
        · refine(M.c j c' l (split f e)).step (S:=No) e (λx e=>aC e) (λ_ _=>rfl) (λx e=>aC e) (λx e=>aC e) (i' rfl l e) (bh g1) (λd' z' U G J T=>?_) (λd' V' T v1 v2 v3=>?_) L
          ·subst T;have m:=ok.s j d' z' U G J l;exact⟨λe=>bU,id,λq e=>(M.sd G j J m q).2 (e▸N)⟩
          ·subst T;exact qj l No _ _ _ _ _ v1 v2 v3 (bh g1) λ_ q=>q.elim
      · have e1:j≠i:=bU
        have w:y≠i:=bU
        exact M.aa j y _ _ _ _ _ _ _ _ _ _ l r (split f e1) (split p w) ne
      · have e1:j≠i:=bU
        have lA:=a' _ _ _ _ _ _ l (split f e1)
        by_cases w:y=i
        ·grind
        ·simp only[aC w];exact M.av j y _ _ _ _ _ _ _ l r (split f e1) (split p w)
      · by_cases e1:j=i
        ·have w:y≠i:=ag;have:=(M.c y _ r (split p w)).2.2.2;simp[*]
        · by_cases w:y=i
          ·have:=(M.c j _ l (split f e1)).2.2.2;simp[*]
          ·simp only[aC e1,aC w];exact M.vv j y _ _ _ _ l r (split f e1) (split p w) ne
      · have e1:G≠i:=bU
        have q:=M.sd G y J m (split f e1);grind
  ·exact hf fr h _ _ _ _ q.2.choose_spec.choose_spec.choose_spec.choose_spec
  · have no:∀{i:Nat}{c:Cl}{X:Prop},C[i]? =some c->i∉List.range ops.size->X:=λR f=>absurd (wO.2 (by rw[<-ok.n];grind)) f
    exact⟨λx B=>by rw[ok.n];grind,λ_=>undef,λ_=>0,λ_=>0,λ_=>0,cK _,⟨rfl,λ_ _=>rfl⟩,λi c R f=>no R f,λi j _ _ _ _ _ _ _ _ _ _ R _ f=>no R f,λi j _ _ _ _ _ _ _ R _ f=>no R f,λi j _ _ _ _ R _ f=>no R f,λs j u R f=>no R f⟩
def pU(v:Value):Value->Nat->Nat->HP:=λx _ _ _=>x=v
def e1(v:Value):Operand->Option Value|.tmp _=>some v|x=>ev [] x
def Dk(op:Op)(t:Nat):Bool:=op.operands.all λ|.tmp x=>x==t|_=>true
theorem amP(g:o.guard=none)(k:o.dst=some d)(a:Dk o.op t=true)(f:fr.getD t none=some v)
  (H:iL P o.op o.type (e1 v) (λb l=>K (fr.set d b) l) Kp h):lq P ops o K Kp fr h:=by
 refine amT (e1 v) g (λx c=>?_) ?_
 ·unfold Dk at a;rw[afh]at a;have:=a x c;cases x with
  |tmp y=>simp only[nv]at this;subst this;exact f
  |_=>rfl
 ·rw[k];exact H
def afO(C:List Cl)(fW:Fr)(o:Oper)(t:Nat)(v:Value):Prop:=((∀c∈C,c.dst≠some t)/\fW.getD t none=some v)\/∃e,e∈jF o/\C[e]? =some (.vl t (pU v))
theorem YU{v0:Value}{V:Value->Nat->Nat->HP}(r:o.guard=none)(w:o.dst=some d)(p:Dk o.op t=true)(m:afO C fW o t v0)
  (qj:∀(S:aQ)v b f h a,V v b f h->h0.size<=b->f<=h.size->Tn S h a->(∀c,S c->h0.size<=c/\¬(b<=c/\c<f))->V v b f a)
  (H:∀(K:Option Value->HP)h,az h0 h->(∀v a,az h a->V v h.size a.size a->K (some v) a)->iL P o.op o.type (e1 v0) K Kp h):oL P ops Kp C fW h0 i o (.vl d V):=by
 refine⟨qj,λK fr h g of B q=>amP r w p ?_ (H _ h g λv a A x=>q v a A x)⟩;rcases m with⟨k,l⟩|⟨e,s,y⟩
 ·rw[of.2 t k];exact l
 ·obtain⟨v,_,_,k,rfl⟩:=B e s _ _ y;exact k
theorem YV{v0 v1:Value}(f:o.guard=none)(k:o.dst=some d)(b:Dk o.op t=true)(a:afO C fW o t v0)
  (H:∀(K:Option Value->HP)h,az h0 h->K (some v1) h->iL P o.op o.type (e1 v0) K Kp h):oL P ops Kp C fW h0 i o (.vl d (pU v1)):=
 YU f k b a (λ_ _ _ _ _ _ q _ _ _ _=>q) λK h g c=>H K h g (c v1 h (cK _) rfl)
def Dj(c:Code)(i:Nat):Oper:=(oY c).getD i default
def H9(P:Program)(c:Code)(Kp:PK)(C:List Cl)(fW:Fr)(h0:Hp):Nat->List Cl->Prop
 |_,[]=>True
 |i,x::xs=>oL P (oY c) Kp C fW h0 i (Dj c i) x/\H9 P c Kp C fW h0 (i+1) xs
theorem H9.get{c:Code}:∀{f:List Cl}{i:Nat},H9 P c Kp C fW h0 i f->∀(j:Nat)x,f[j]? =some x->oL P (oY c) Kp C fW h0 (i+j) (Dj c (i+j)) x
  |[],_,_,j,x,a=>by simp at a
  |y::f,i,s,0,x,a=>by simp at a;subst a;exact s.1
  | y::f,i,s,j+1,x,a=>by
    have:=H9.get s.2 j x (by simpa using a)
    grind
def adp(C:List Cl)(n:Nat):Bool:=decide (C.filterMap Cl.dst).Nodup&&(C.filterMap Cl.dst).all λd=>decide (d<n)
def ZF(C:List Cl):Bool:=C.zipIdx.all λx=>match x.1 with|.al _ _ _ s u=>(match C[s]? with|some (.st j v)=>j==x.2&&v==u|_=>false)|_=>true
theorem zE{c:Code}(m:C.length=(oY c).size)(a:adp C fW.length=true)(f:ZF C=true)(ok:H9 P c Kp C fW h0 0 C)
  (r:∀fr h F A g b,VY C fW h0 [] fr h F A g b->K fr h):zq P (oY c) K Kp (oY c).size (List.range (oY c).size) fW h0:=by
 unfold adp at a;simp only[dm,dQ,Aj]at a;refine mix ⟨m,a.1,λd p=>a.2 d p,λi d z ty s u b=>?_,λi o x l k=>?_⟩ r
 ·unfold ZF at f;have:=Aj.1 f (.al d z ty s u,i) (ri.2 ⟨i,dM⟩)
  grind
 ·have:=ok.get i x k;rw[cz]at this;have e:Dj c i=o:=by unfold Dj;rw[tQ,l];rfl
  grind
def yg(o:Oper)(d t:Nat):Bool:=o.guard.isNone&&o.dst==some d&&Dk o.op t
def TS(o:Oper)(d:Nat)(ty:TypeId):Bool:=o.guard.isNone&&o.dst==some d&&(match o.op with|.alloc t=>t==ty|_=>false)
def K9(P:Program)(o:Oper)(j u dj du n:Nat)(raw:Bool):Bool:=o.guard.isNone&&o.dst.isNone&&(jF o).contains j&&(jF o).contains u&&
 (match o.op with|.store t (.tmp x) (.tmp y)=>x==dj&&y==du&&jo P t==some n&&tu P t==raw|_=>false)
section
variable {j u e dj du n:Nat} {z:Array Value} {ty:TypeId} {v0 v1:Value} {V:Value->Nat->Nat->HP} {raw:Bool}
theorem TR(h:yg o d t=true):o.guard=none/\o.dst=some d/\Dk o.op t=true:=by
 simp only[yg,dm,U3,nv]at h;simp[*]
theorem okE(a:(yg o d t&&(jF o).contains e)=true)(g:C[e]? =some (.vl t (pU v0)))(H:∀(K:Option Value->HP)h,az h0 h->K (some v1) h->iL P o.op o.type (e1 v0) K Kp h):oL P ops Kp C fW h0 i o (.vl d (pU v1)):=by
 simp only[dm,Ek,dQ]at a;obtain⟨f,c,b⟩:=TR a.1;exact YV f c b (.inr ⟨e,a.2,g⟩) H
theorem ok0(a:(yg o d t&&C.all λc=>c.dst !=some t)=true)(k:fW.getD t none=some v0)(H:∀(K:Option Value->HP)h,az h0 h->K (some v1) h->iL P o.op o.type (e1 v0) K Kp h):oL P ops Kp C fW h0 i o (.vl d (pU v1)):=by
 simp only[dm,Aj,yN]at a;obtain⟨g,f,b⟩:=TR a.1;exact YV g f b (.inl ⟨a.2,k⟩) H
def lW(h0:Hp)(V:Value->Nat->Nat->HP):Prop:=∀(S:aQ)v lo hi h h',V v lo hi h->h0.size<=lo->hi<=h.size->Tn S h h'->(∀c,S c->h0.size<=c/\¬(lo<=c/\c<hi))->V v lo hi h'
theorem lW.mo{g:Hp}(s:lW h0 V)(A:h0.size<=g.size):lW g V:=λS v l m h p k r f b a=>s S v l m h p k ag f b λc q=>⟨bU,(a c q).2⟩
theorem okF(b:(yg o d t&&(jF o).contains e)=true)(k:C[e]? =some (.vl t (pU v0)))(st:lW h0 V)(H:∀(K:Option Value->HP)h,az h0 h->(∀v a,az h a->V v h.size a.size a->K (some v) a)->iL P o.op o.type (e1 v0) K Kp h):oL P ops Kp C fW h0 i o (.vl d V):=by
 simp only[dm,Ek,dQ]at b;obtain⟨g,f,c⟩:=TR b.1;exact YU g f c (.inr ⟨e,b.2,k⟩) st H
theorem uz{s:Nat}(a:TS o d ty=true)(b:(zeroOf P ty).map Value.cells=some z):oL P ops Kp C fW h0 i o (.al d z ty s u):=by
 simp only[TS,dm,U3,nv]at a;refine⟨a.1.1,a.1.2,?_,b⟩;grind
theorem okS(f:K9 P o j u dj du z.size raw=true)(k:C[j]? =some (.al dj z ty i u))(g:C[u]? =some (.vl du V))(l:∀v b c h,V v b c h->v.cells.size=z.size/\(∀x∈v.cells.toList,one x=true)/\(raw=true->v.cells=#[v])):oL P ops Kp C fW h0 i o (.st j u):=by
 simp only[K9,dm,U3,Ek,dQ]at f;obtain⟨⟨⟨⟨A,w⟩,s⟩,r⟩,a⟩:=f;split at a
 ·rename_i t x y e
  simp only[dm,nv]at a;obtain⟨⟨⟨rfl,rfl⟩,p⟩,m⟩:=a;exact⟨A,w,s,r,t,_,z,ty,_,V,k,g,e,p,λv b c h q=>m▸l v b c h q⟩
 ·cases a
def One(V:Value->Nat->Nat->HP):Prop:=∀v lo hi h,V v lo hi h->one v=true/\v.cells=#[v]
theorem One.cst(h:one v=true)(a:v.cells=#[v]):One (pU v):=λx _ _ _ e=>by rw[show x=v from e];simp[*]
theorem ap9(p:K9 P o j u dj du 1 raw=true)(l:C[j]? =some (.al dj z ty i u))(k:C[u]? =some (.vl du V))(a:z.size=1)(r:One V):oL P ops Kp C fW h0 i o (.st j u):=
 okS (a▸p) l k λv g m h q=>by
  obtain⟨f,c⟩:=r v g m h q;simp[*]
theorem oE(e:Nat)(c:C[e]? =some (.vl t (pU v0)):=by rfl)(b:(yg o d t&&(jF o).contains e)=true:=by kernel_rfl)(H:∀(K:Option Value->HP)h,az h0 h->K (some v1) h->iL P o.op o.type (e1 v0) K Kp h:=by intro K h g a;exact cast (by kernel_rfl) a):oL P ops Kp C fW h0 i o (.vl d (pU v1)):=okE b c H
theorem oX(e:Nat){Q:(Option Value->HP)->HP}(H:∀(K:Option Value->HP)h,az h0 h->K (some v1) h->Q K h)(c:C[e]? =some (.vl t (pU v0)):=by rfl)(b:(yg o d t&&(jF o).contains e)=true:=by kernel_rfl)(hQ:∀K h,Q K h=iL P o.op o.type (e1 v0) K Kp h:=by intros;kernel_rfl):oL P ops Kp C fW h0 i o (.vl d (pU v1)):=okE b c λK h g a=>hQ K h▸H K h g a
theorem o0(t:Nat)(v0:Value){Q:(Option Value->HP)->HP}(H:∀(K:Option Value->HP)h,az h0 h->K (some v1) h->Q K h)(hv:fW.getD t none=some v0:=by rfl)(b:(yg o d t&&C.all λc=>c.dst !=some t)=true:=by kernel_rfl)(hQ:∀K h,Q K h=iL P o.op o.type (e1 v0) K Kp h:=by intros;kernel_rfl):oL P ops Kp C fW h0 i o (.vl d (pU v1)):=ok0 b hv λK h g a=>hQ K h▸H K h g a
theorem oF(e:Nat)(st:lW h0 V){Q:(Option Value->HP)->HP}(H:∀(K:Option Value->HP)h,az h0 h->(∀v a,az h a->V v h.size a.size a->K (some v) a)->Q K h)(f:C[e]? =some (.vl t (pU v0)):=by rfl)(c:(yg o d t&&(jF o).contains e)=true:=by kernel_rfl)(hQ:∀K h,Q K h=iL P o.op o.type (e1 v0) K Kp h:=by intros;kernel_rfl):oL P ops Kp C fW h0 i o (.vl d V):=okF c f st λK h g b=>hQ K h▸H K h g b
theorem oA{s:Nat}(b:TS o d ty=true:=by kernel_rfl)(a:(zeroOf P ty).map Value.cells=some z:=by kernel_rfl):oL P ops Kp C fW h0 i o (.al d z ty s u):=uz b a
theorem oS(raw:Bool)(g:One V)(c:C[j]? =some (.al dj z ty i u):=by rfl)(b:C[u]? =some (.vl du V):=by rfl)(f:K9 P o j u dj du 1 raw=true:=by kernel_rfl)(a:z.size=1:=by rfl):oL P ops Kp C fW h0 i o (.st j u):=ap9 f c b a g
end
theorem AV{D:Nat->Array Oper->(Fr->HP)->PK->Fr->HP}{rd:Option Nat}{id d1 m:Nat}{fn:Fn}{caps:Array Operand}{vs:bg}{b a:Oper}{z:Value}{c:de}
  (x:b.op=.makeFunc fn #[] caps) (A:b.guard=none) (g:b.dst=some d1) (w:a.op=.assign (.tmp d1)) (y:a.guard=none) (f:a.dst=some m) (q:d1<fr.length) (p:m<fr.length) (s:iH (ev fr) caps.toList=some vs)
  (r:z=.nilFunc) (v:c (.func fn #[] vs.toArray) h):fV P [] D rd (.seq (.region id #[b,a] false) .ret) (mM P [.tmp m] [z] c) Kp fr h:=by
 subst r;have e:(List.range (#[b,a]:Array Oper).size)=[0,1]:=rfl;simp only[fV,iy,e,Fv,fS.next,fS.FJ,vK];have l:(#[b,a]:Array Oper)[0]? =some b:=rfl;have k:(#[b,a]:Array Oper)[1]? =some a:=rfl;simp only[l,k,A,y,x,w,g,f,iL,iH,s,gR,ev,zm,fS.at,fV,mM,lC,Kw q];rw[Kw dM]
 exact v
theorem at3{L:Fr}(hl:fr.length=L.length)(h:∀i,i<L.length->fr.getD i none=L.getD i none):fr=L:=by
 apply U2 hl;grind
theorem aua{bS:fS}{o:List (Nat×OT)}{f:FuncId}{b:Func}{zs:bg}{a:bg}{Kv:de}{S:Prop}{l:de}(p:P.funcs[f]? =some b)(q:b.body.isSome=true)
  (H:S) (k:S=fV P bS (ET P o) none (b.body.getD .skip) (mM P b.results.toList zs Kv) Kp (a.map some++List.replicate (b.ntmps-a.length) none) h)
  (r:(λv s=>gO zs v λm=>Kv m s)=l):dP P f a h l Kp:=by
 obtain⟨c,g⟩:=Mb.1 q;rw[g]at k;exact r▸To (adq o) p g (k▸H)
theorem By{bS:fS}{f:FuncId}{fn:Func}{zs:bg}{a:bg}{Kv:de}{S:Prop}{k:de}(m:P.funcs[f]? =some fn)(p:fn.body.isSome=true)
  (H:S) (g:S=fV P bS (ET P []) none (fn.body.getD .skip) (mM P fn.results.toList zs Kv) Kp (a.map some++List.replicate (fn.ntmps-a.length) none) h)
  (q:(λv r=>gO zs v λl=>Kv l r)=k):dP P f a h k Kp:=by
 obtain⟨c,b⟩:=Mb.1 p;rw[b]at g;exact q▸To (adq []) m b (g▸H)
end Go.Sh
