import Derived.Test.YtikpikmkhdapiaaGreatDoorBeginsShAll
import Derived.Test.YtikpikmkhdapiaaGreatDoorBeginsShLoc
set_option linter.unusedSimpArgs false
set_option linter.unusedVariables false
set_option maxRecDepth 100000
set_option maxHeartbeats 1000000
namespace Go.Sh
variable {P:Program}
inductive Cl
 | al (d:Nat) (z:Array Value) (ty:TypeId) (s u:Nat)
 | st (j u:Nat)
 | vl (d:Nat) (V:Value->Nat->Nat->Hp->Prop)
def Cl.dst:Cl->Option Nat | .al d _ _ _ _=>some d | .st _ _=>none | .vl d _=>some d
def B8 (C:List Cl) (cF fr:Fr):Prop:=fr.length=cF.length/\∀t,(∀c∈C,c.dst≠some t)->fr.getD t none=cF.getD t none
def Cd (rem:List Nat) (fr:Fr) (h0 h:Hp) (F:Nat->Value) (A lo hi:Nat->Nat) (i:Nat):Cl->Prop
 | .al d z ty s u=>fr.getD d none=some (.pointer (some ⟨A i,0,none⟩))/\h0.size<=A i/\aB h (A i) (if s∈rem then z else (F u).cells) ty
 | .st _ _=>True
 | .vl d V=>fr.getD d none=some (F i)/\V (F i) (lo i) (hi i) h/\h0.size<=lo i/\hi i<=h.size
structure PB (C:List Cl) (cF:Fr) (h0:Hp) (rem:List Nat) (fr:Fr) (h:Hp) (F:Nat->Value) (A lo hi:Nat->Nat):Prop where
 g:ah h0 h
 o:B8 C cF fr
 c:∀(i:Nat) c,C[i]? = some c->i∉rem->Cd rem fr h0 h F A lo hi i c
 aa:∀(i j:Nat) d z ty s u d' z' Zf s' u',C[i]? = some (.al d z ty s u)->C[j]? = some (.al d' z' Zf s' u')->i∉rem->j∉rem->i≠j->A i≠A j
 av:∀(i j:Nat) d z ty s u d' V,C[i]? = some (.al d z ty s u)->C[j]? = some (.vl d' V)->i∉rem->j∉rem->¬(lo j<=A i/\A i < hi j)
 vv:∀(i j:Nat) d V d' V',C[i]? = some (.vl d V)->C[j]? = some (.vl d' V')->i∉rem->j∉rem->i≠j->hi i<=lo j\/hi j<=lo i
 sd:∀(s j u:Nat),C[s]? = some (.st j u)->s∉rem->j∉rem/\u∉rem
def kK (P:Program) (ops:Array Oper) (Kp:List PanicEntry->Hp->Prop) (C:List Cl) (cF:Fr) (h0:Hp) (i:Nat) (o:Oper):Cl->Prop
 | .al d z ty _ _=>o.guard=none/\o.dst=some d/\o.op=.alloc ty/\(zeroOf P ty).map Value.cells=some z
 | .st j u=>o.guard=none/\o.dst=none/\j∈gk o/\u∈gk o/\∃t dj z ty du V,C[j]? = some (.al dj z ty i u)/\C[u]? = some (.vl du V)/\o.op=.store t (.tmp dj) (.tmp du)/\fB P t=some z.size /\
   ∀v lo hi h,V v lo hi h->v.cells.size=z.size/\(∀x∈v.cells.toList,one x=true)/\(nH P t=true->v.cells=#[v])
 | .vl d V=>(∀(S:Nat->Prop) v lo hi h h',V v lo hi h->h0.size<=lo->hi<=h.size->Tn S h h'->(∀c,S c->h0.size<=c/\¬(lo<=c/\c < hi))->V v lo hi h') /\
   ∀(K:Fr->Hp->Prop) fr h,ah h0 h->B8 C cF fr->(∀e∈gk o,∀d' V',C[e]? = some (.vl d' V')->∃v lo hi,fr.getD d' none=some v/\V' v lo hi h) ->
    (∀v h',ah h h'->V v h.size h'.size h'->K (fr.set d (some v)) h')->gQ P ops o K Kp fr h
theorem aaj {ops:Array Oper} {o:Oper} {K:Fr->Hp->Prop} {Kp:List PanicEntry->Hp->Prop} {fr:Fr} {h:Hp} {d:Nat} {z:Array Value} {ty:TypeId} (s:o.guard=none/\o.dst=some d/\o.op=.alloc ty/\(zeroOf P ty).map Value.cells=some z)
  (H:aD h z ty (λa l=>K (fr.set d (some (.pointer (some a)))) l)):gQ P ops o K Kp fr h:=by
 obtain ⟨g,k,f,b⟩:=s;unfold gQ gd;rw[g,k,f];simp only[fc];cases c:zeroOf P ty with
 | none=>rw[c] at b;cases b
 | some v=>rw[c] at b;simp only[Option.map_some,Option.some.injEq] at b;subst b;exact H
theorem aac {ops:Array Oper} {o:Oper} {K:Fr->Hp->Prop} {Kp:List PanicEntry->Hp->Prop} {fr:Fr} {h:Hp} {t:TypeId} {dj du a:Nat} {z:Array Value} {ty:TypeId} {v:Value} (w:o.guard=none) (y:o.dst=none) (r:o.op=.store t (.tmp dj) (.tmp du))
    (B:fr.getD dj none=some (.pointer (some ⟨a,0,none⟩))) (A:fr.getD du none=some v) (k:aB h a z ty) (m:fB P t=some z.size) (c:v.cells.size=z.size/\(∀x∈v.cells.toList,one x=true)/\(nH P t=true->v.cells=#[v]))
    (s:∀b,aM a h b->aB b a v.cells ty->K fr b):gQ P ops o K Kp fr h:=by
  unfold gQ gd;rw[w,y,r];simp only[fc,ev,B,A];have key:(if fB P t=some v.cells.size then fI h ⟨a,0,none⟩ 0 v.cells.toList (λb=>K fr b) else False):=by
    rw[if_pos (by rw[m,c.1])]
    refine rL _ k (by simp[c.1]) c.2.1 λb cs l g D f=>s b l ?_
    have:cs=v.cells:=by
      apply Array.ext_getElem?;intro i;rw[f i];split
      · simp
      · rename_i q
        have:z.size<=i:=by simp at q;omega
        rw[Array.getElem?_eq_none this,Array.getElem?_eq_none ag]
    exact this ▸ g
  unfold pe;cases p:nH P t with
  | false=>exact key
  | true =>
    have e:=c.2.2 p;rw[e] at key;exact ⟨e,key⟩
theorem FH {fr:Fr} {d:Nat} {v:Option Value} (h:d < fr.length):(fr.set d v).getD d none=v:=by
 rw[List.getD_eq_getElem?_getD,List.getElem?_set_self h];rfl
theorem getD_set_ne {fr:Fr} {d t:Nat} {v:Option Value} (h:d≠t):(fr.set d v).getD t none=fr.getD t none:=by
 rw[List.getD_eq_getElem?_getD,List.getElem?_set_ne h,<-List.getD_eq_getElem?_getD]
theorem Cd.step {N:List Nat} {fr bH:Fr} {h0 h g:Hp} {F J:Nat->Value} {A K b l f p:Nat->Nat} {i k:Nat} {c:Cl} {S:Nat->Prop} (m:Cd N fr h0 h F A b f i c) (ne:i≠k)
    (B:∀j,j≠k->J j=F j) (D:∀j,j≠k->K j=A j) (hl:∀j,j≠k->l j=b j) (I:∀j,j≠k->p j=f j) (q:∀d,c.dst=some d->bH.getD d none=fr.getD d none) (t:Tn S h g)
    (H:∀d z ty s u,c=.al d z ty s u->s≠k/\¬S (A i)/\(s∉N->u≠k)) (E:∀d V,c=.vl d V->V (F i) (b i) (f i) h->h0.size<=b i->f i<=h.size->V (F i) (b i) (f i) g) (G:N.Nodup):Cd (N.erase k) bH h0 g J K l p i c:=by
  cases c with
  | al d z ty s u =>
    obtain ⟨v,r,a⟩:=m;obtain ⟨M,x,L⟩:=H d z ty s u rfl;refine ⟨by rw[q d rfl,D i ne];exact v,by rw[D i ne];exact r,?_⟩
    rw[D i ne];have e:(s∈N.erase k)=(s∈N):=by rw[G.mem_erase_iff];simp[M]
    simp only[e]
    by_cases w:s∈N
    · rw[if_pos w] at a ⊢;exact t.aK a x
    · rw[if_neg w] at a ⊢;rw[B u (L w)];exact t.aK a x
  | st j u=>trivial
  | vl d V =>
    obtain ⟨v,r,a,y⟩:=m;refine ⟨by rw[q d rfl,B i ne];exact v,?_,by rw[hl i ne];exact a,by rw[I i ne];exact Nat.le_trans y t.1⟩
    rw[B i ne,hl i ne,I i ne];exact E d V rfl r a y
structure ale (P:Program) (ops:Array Oper) (Kp:List PanicEntry->Hp->Prop) (C:List Cl) (cF:Fr) (h0:Hp):Prop where
 n:C.length=ops.size
 nd:(C.filterMap Cl.dst).Nodup
 lt:∀d∈C.filterMap Cl.dst,d < cF.length
 s:∀(i:Nat) d z ty s u,C[i]? = some (.al d z ty s u)->C[s]? = some (.st i u)
 ok:∀(i:Nat) o c,ops[i]? = some o->C[i]? = some c->kK P ops Kp C cF h0 i o c
theorem ahy {C:List Cl} (a:(C.filterMap Cl.dst).Nodup) {i j:Nat} {c m:Cl} {d:Nat} (b:C[i]? = some c) (f:C[j]? = some m) (e:c.dst=some d) (l:m.dst=some d):i=j:=by
  induction C generalizing i j with
  | nil=>simp at b
  | cons x C p =>
    have mem:∀{k:Nat} {y:Cl},C[k]? = some y->y.dst=some d->d∈C.filterMap Cl.dst:=λr q=>List.mem_filterMap.2 ⟨_,List.mem_of_getElem? r,q⟩;rcases i with _ | i
    · rcases j with _ | j
      · rfl
      · simp at b f;subst b;rw[List.filterMap_cons_some e,List.nodup_cons] at a;exact absurd (mem f l) a.1
    · rcases j with _ | j
      · simp at b f;subst f;rw[List.filterMap_cons_some l,List.nodup_cons] at a;exact absurd (mem b e) a.1
      · have g:(C.filterMap Cl.dst).Nodup:=by
          cases h:x.dst with
          | none=>rwa [List.filterMap_cons_none h] at a
          | some y=>rw[List.filterMap_cons_some h,List.nodup_cons] at a;exact a.2
        exact congrArg (·+1) (p g (by simpa using b) (by simpa using f))
theorem B8.set {C:List Cl} {cF fr:Fr} {d:Nat} {v:Option Value} {c:Cl} (o:B8 C cF fr) (b:c∈C) (e:c.dst=some d):B8 C cF (fr.set d v) :=
 ⟨by rw[List.length_set];exact o.1,λt a=>by rw[getD_set_ne (λq=>a c b (by rw[<-q];exact e))];exact o.2 t a⟩
theorem mix {ops:Array Oper} {K:Fr->Hp->Prop} {Kp:List PanicEntry->Hp->Prop} {C:List Cl} {cF:Fr} {h0:Hp} (ok:ale P ops Kp C cF h0)
    (hf:∀fr h F A O Q,PB C cF h0 [] fr h F A O Q->K fr h):sF P ops K Kp ops.size (List.range ops.size) cF h0:=by
  refine abk (I:=λE fr h=>(∀x∈E,x < C.length)/\∃F A O Q,PB C cF h0 E fr h F A O Q) ?_ (λfr h q => ?_) _ _ _ _ List.nodup_range aS ?_
  · rintro E fr h L ⟨g',F,A,O,Q,M⟩ i N o ho Y;have W:∀x∈E.erase i,x < C.length:=λx B=>g' x (List.mem_of_mem_erase B);obtain ⟨c,b⟩:∃c,C[i]? = some c:=⟨_,List.getElem?_eq_getElem (g' i N)⟩;have S:=ok.ok i o c ho b;have f':=List.mem_of_getElem? b;have split:∀{j:Nat},j∉E.erase i->j≠i->j∉E:=λl ne q=>l ((L.mem_erase_iff).2 ⟨ne,q⟩);have i':∀{d:Nat} {v:Option Value} {j:Nat} {c':Cl},c.dst=some d->C[j]? = some c'->j≠i->∀t,c'.dst=some t->(fr.set d v).getD t none=fr.getD t none:=by
      intro d v j c' hd l ne t ht;refine getD_set_ne λe=>ne ?_;subst e;exact ahy ok.nd l b ht hd
    have k':∀{d:Nat},c.dst=some d->d < fr.length:=λhd=>by rw[M.o.1];exact ok.lt _ (List.mem_filterMap.2 ⟨c,f',hd⟩)
    have gZ:∀{j:Nat} {d:Nat} {V:Value->Nat->Nat->Hp->Prop},C[j]? = some (.vl d V)->∀(S:Nat->Prop) v O Q h h',V v O Q h->h0.size<=O->Q<=h.size->Tn S h h'->(∀c,S c->h0.size<=c/\¬(O<=c/\c < Q))->V v O Q h':=by
      intro j d V l;have p':j < ops.size:=by rw[<-ok.n];exact (List.getElem?_eq_some_iff.1 l).1
      have q:=ok.ok j ops[j] _ (Array.getElem?_eq_getElem p') l;exact q.1
    have sz:=M.g.1;cases c with
    | al d z ty s u =>
      refine aaj S (az λa h1 ea g1 k1 _=>⟨W,F,λj=>if j=i then a else A j,O,Q,?_⟩)
      have s1:=g1.1;have al:=k1.lt;have hs:=ok.s i d z ty s u b;have o':s≠i:=λe=>by rw[e,b] at hs;cases hs
      have m':s∈E:=Classical.byContradiction λq=>(M.sd s i u hs q).1 N;have eA:∀j,j≠i->(if j=i then a else A j)=A j:=λj e=>if_neg e
      have a':∀(j:Nat) d z ty s u,C[j]? = some (.al d z ty s u)->j∉E->A j < h.size:=λj d z ty s u l f=>by
        have:=(M.c j _ l f).2.2;exact this.lt
      refine ⟨ah.trans M.g g1,M.o.set f' rfl,λj c' l f => ?_,λj y d1 z1 t1 s1 u1 d2 z2 t2 s2 u2 l r f p ne => ?_,λj y d1 z1 t1 s1 u1 d2 V l r f p => ?_,λj y d1 V1 d2 V2 l r f p ne => ?_,λG y J m f => ?_⟩
      · by_cases e:j=i
        · subst e;rw[b] at l;cases l;refine ⟨by simp only[if_true];exact FH (k' rfl),by simp only[if_true];omega,?_⟩
          rw[if_pos ((L.mem_erase_iff).2 ⟨o',m'⟩)];simp only[if_true];exact k1
        · refine (M.c j c' l (split f e)).step (k:=i) (S:=No) e (λ_ _=>rfl) eA (λ_ _=>rfl) (λ_ _=>rfl) (i' rfl l e) (Tn.aT g1) (λd' z' U G J T => ?_) (λd' V' T v1 v2 v3 => ?_) L
          · subst T;have m:=ok.s j d' z' U G J l;exact ⟨λe=>(by rw[e,b] at m;cases m),id,λq e=>(M.sd G j J m q).2 (e ▸ N)⟩
          · subst T;exact gZ l No _ _ _ _ _ v1 v2 v3 (Tn.aT g1) λ_ q=>q.elim
      · by_cases e1:j=i
        · by_cases w:y=i
          · omega
          · have:=a' _ _ _ _ _ _ r (split p w);simp only[e1,if_true,if_neg w];omega
        · by_cases w:y=i
          · have:=a' _ _ _ _ _ _ l (split f e1);simp only[w,if_true,if_neg e1];omega
          · simp only[if_neg e1,if_neg w];exact M.aa j y _ _ _ _ _ _ _ _ _ _ l r (split f e1) (split p w) ne
      · have w:y≠i:=λe=>by rw[e,b] at r;cases r
        have hv:=(M.c y _ r (split p w)).2.2.2
        by_cases e1:j=i
        · simp only[e1,if_true];omega
        · simp only[if_neg e1];exact M.av j y _ _ _ _ _ _ _ l r (split f e1) (split p w)
      · have e1:j≠i:=λe=>by rw[e,b] at l;cases l
        have w:y≠i:=λe=>by rw[e,b] at r;cases r
        exact M.vv j y _ _ _ _ l r (split f e1) (split p w) ne
      · have e1:G≠i:=λe=>by rw[e,b] at m;cases m
        have q:=M.sd G y J m (split f e1);exact ⟨λH=>q.1 (List.mem_of_mem_erase H),λH=>q.2 (List.mem_of_mem_erase H)⟩
    | st j u =>
      obtain ⟨hg,q',l,hu,t,dj,z,ty,du,V,b',r',n',l',hV⟩:=S;have nj:=Y j l;have nu:=Y u hu;obtain ⟨m1,m2,m3⟩:=M.c j _ b' nj;obtain ⟨w1,w2,w3,w4⟩:=M.c u _ r' nu;rw[if_pos N] at m3;refine aac hg q' n' m1 w1 m3 l' (hV _ _ _ _ w2) λh1 o1 k1=>⟨W,F,A,O,Q,?_⟩;have s1:=o1.1;have kA:=m3.lt;refine ⟨aM.aj M.g o1 m2,M.o,λx c' B f => ?_,λx Z d1 z1 t1 s1 u1 d2 z2 t2 s2 u2 B D f p ne => ?_,λx Z d1 z1 t1 s1 u1 d2 V B D f p => ?_,λx Z d1 V1 d2 V2 B D f p ne => ?_,λG Z J m f => ?_⟩
      · by_cases e:x=i
        · subst e;rw[b] at B;cases B;trivial
        · have e':=split f e
          by_cases ej:x=j
          · subst ej;rw[b'] at B;cases B;refine ⟨m1,m2,?_⟩;rw[if_neg (λq=>((L.mem_erase_iff).1 q).1 rfl)];exact k1
          · refine (M.c x c' B e').step (k:=i) (S:=(·=A j)) e (λ_ _=>rfl) (λ_ _=>rfl) (λ_ _=>rfl) (λ_ _=>rfl) (λ_ _=>rfl) o1.fr (λd' z' U G J T => ?_) (λd' V' T v1 v2 v3 => ?_) L
            · subst T;have m:=ok.s x d' z' U G J B;refine ⟨λe => ?_,λe=>M.aa x j _ _ _ _ _ _ _ _ _ _ B b' e' nj ej e,λq e=>(M.sd G x J m q).2 (e ▸ N)⟩;subst e;rw[b] at m;cases m;exact ej rfl
            · subst T;exact gZ B (·=A j) _ _ _ _ _ v1 v2 v3 o1.fr λq e=>e ▸ ⟨m2,M.av j x _ _ _ _ _ _ _ b' B nj e'⟩
      · have e1:x≠i:=λe=>by rw[e,b] at B;cases B
        have w:Z≠i:=λe=>by rw[e,b] at D;cases D
        exact M.aa x Z _ _ _ _ _ _ _ _ _ _ B D (split f e1) (split p w) ne
      · have e1:x≠i:=λe=>by rw[e,b] at B;cases B
        have w:Z≠i:=λe=>by rw[e,b] at D;cases D
        exact M.av x Z _ _ _ _ _ _ _ B D (split f e1) (split p w)
      · have e1:x≠i:=λe=>by rw[e,b] at B;cases B
        have w:Z≠i:=λe=>by rw[e,b] at D;cases D
        exact M.vv x Z _ _ _ _ B D (split f e1) (split p w) ne
      · by_cases e1:G=i
        · subst e1;rw[b] at m;cases m;exact ⟨λH=>nj (List.mem_of_mem_erase H),λH=>nu (List.mem_of_mem_erase H)⟩
        · have q:=M.sd G Z J m (split f e1);exact ⟨λH=>q.1 (List.mem_of_mem_erase H),λH=>q.2 (List.mem_of_mem_erase H)⟩
    | vl d V =>
      refine S.2 _ fr h M.g M.o (λe he d' V' hC => ?_) λv h1 g1 hV=>⟨W,λj=>if j=i then v else F j,A,λj=>if j=i then h.size else O j,λj=>if j=i then h1.size else Q j,?_⟩
      · have q:=M.c e _ hC (Y e he);exact ⟨_,_,_,q.1,q.2.1⟩
      have s1:=g1.1;have a':∀(j:Nat) d z ty s u,C[j]? = some (.al d z ty s u)->j∉E->A j < h.size:=λj d z ty s u l f=>by
        have:=(M.c j _ l f).2.2;exact this.lt
      refine ⟨ah.trans M.g g1,M.o.set f' rfl,λj c' l f => ?_,λj y d1 z1 t1 s1 u1 d2 z2 t2 s2 u2 l r f p ne => ?_,λj y d1 z1 t1 s1 u1 d2 V l r f p => ?_,λj y d1 V1 d2 V2 l r f p ne => ?_,λG y J m f => ?_⟩
      · by_cases e:j=i
        · subst e;rw[b] at l;cases l;simp only[Cd,if_true];exact ⟨FH (k' rfl),hV,sz,Nat.le_refl _⟩
        · refine (M.c j c' l (split f e)).step (k:=i) (S:=No) e (λx e=>if_neg e) (λ_ _=>rfl) (λx e=>if_neg e) (λx e=>if_neg e) (i' rfl l e) (Tn.aT g1) (λd' z' U G J T => ?_) (λd' V' T v1 v2 v3 => ?_) L
          · subst T;have m:=ok.s j d' z' U G J l;exact ⟨λe=>(by rw[e,b] at m;cases m),id,λq e=>(M.sd G j J m q).2 (e ▸ N)⟩
          · subst T;exact gZ l No _ _ _ _ _ v1 v2 v3 (Tn.aT g1) λ_ q=>q.elim
      · have e1:j≠i:=λe=>by rw[e,b] at l;cases l
        have w:y≠i:=λe=>by rw[e,b] at r;cases r
        exact M.aa j y _ _ _ _ _ _ _ _ _ _ l r (split f e1) (split p w) ne
      · have e1:j≠i:=λe=>by rw[e,b] at l;cases l
        have lA:=a' _ _ _ _ _ _ l (split f e1)
        by_cases w:y=i
        · simp only[w,if_true];omega
        · simp only[if_neg w];exact M.av j y _ _ _ _ _ _ _ l r (split f e1) (split p w)
      · by_cases e1:j=i
        · have w:y≠i:=λe=>ne (e1.trans e.symm);have:=(M.c y _ r (split p w)).2.2.2;simp only[e1,if_true,if_neg w];omega
        · by_cases w:y=i
          · have:=(M.c j _ l (split f e1)).2.2.2;simp only[w,if_true,if_neg e1];omega
          · simp only[if_neg e1,if_neg w];exact M.vv j y _ _ _ _ l r (split f e1) (split p w) ne
      · have e1:G≠i:=λe=>by rw[e,b] at m;cases m
        have q:=M.sd G y J m (split f e1);exact ⟨λH=>q.1 (List.mem_of_mem_erase H),λH=>q.2 (List.mem_of_mem_erase H)⟩
  · exact hf fr h _ _ _ _ q.2.choose_spec.choose_spec.choose_spec.choose_spec
  · have no:∀{i:Nat} {c:Cl} {X:Prop},C[i]? = some c->i∉List.range ops.size->X:=λR f=>absurd (List.mem_range.2 (by rw[<-ok.n];exact (List.getElem?_eq_some_iff.1 R).1)) f
    exact ⟨λx B=>by rw[ok.n];exact List.mem_range.1 B,λ_=>undef,λ_=>0,λ_=>0,λ_=>0,ah.refl _,⟨rfl,λ_ _=>rfl⟩,λi c R f=>no R f,λi j _ _ _ _ _ _ _ _ _ _ R _ f=>no R f,λi j _ _ _ _ _ _ _ R _ f=>no R f,λi j _ _ _ _ R _ f=>no R f,λs j u R f=>no R f⟩
def lu (v:Value):Value->Nat->Nat->Hp->Prop:=λx _ _ _=>x=v
def e1 (v:Value):Operand->Option Value | .tmp _=>some v | x=>ev [] x
def xF (op:Op) (t:Nat):Bool:=op.operands.all λ| .tmp x=>x == t | _=>true
theorem aag {ops:Array Oper} {o:Oper} {K:Fr->Hp->Prop} {Kp:List PanicEntry->Hp->Prop} {fr:Fr} {h:Hp} {t d:Nat} {v:Value} (g:o.guard=none) (k:o.dst=some d) (a:xF o.op t=true) (f:fr.getD t none=some v)
  (H:fc P o.op o.type (e1 v) (λb l=>K (fr.set d b) l) Kp h):gQ P ops o K Kp fr h:=by
 refine aak (e1 v) g (λx c => ?_) ?_
 ·unfold xF at a;rw[Array.all_eq_true_iff_forall_mem] at a;have:=a x c;cases x with
  | tmp y=>simp only[beq_iff_eq] at this;subst this;exact f
  | _=>rfl
 ·rw[k];exact H
def W0 (C:List Cl) (cF:Fr) (o:Oper) (t:Nat) (v:Value):Prop:=((∀c∈C,c.dst≠some t)/\cF.getD t none=some v)\/∃e,e∈gk o/\C[e]? = some (.vl t (lu v))
theorem Qg {ops:Array Oper} {Kp:List PanicEntry->Hp->Prop} {C:List Cl} {cF:Fr} {h0:Hp} {o:Oper} {i t d:Nat} {v0:Value} {V:Value->Nat->Nat->Hp->Prop} (r:o.guard=none) (w:o.dst=some d) (p:xF o.op t=true) (m:W0 C cF o t v0)
  (gZ:∀(S:Nat->Prop) v b f h a,V v b f h->h0.size<=b->f<=h.size->Tn S h a->(∀c,S c->h0.size<=c/\¬(b<=c/\c < f))->V v b f a)
  (H:∀(K:Option Value->Hp->Prop) h,ah h0 h->(∀v a,ah h a->V v h.size a.size a->K (some v) a)->fc P o.op o.type (e1 v0) K Kp h):kK P ops Kp C cF h0 i o (.vl d V):=by
 refine ⟨gZ,λK fr h g of B q=>aag r w p ?_ (H _ h g λv a A x=>q v a A x)⟩;rcases m with ⟨k,l⟩ | ⟨e,s,y⟩
 ·rw[of.2 t k];exact l
 ·obtain ⟨v,_,_,k,rfl⟩:=B e s _ _ y;exact k
theorem Qh {ops:Array Oper} {Kp:List PanicEntry->Hp->Prop} {C:List Cl} {cF:Fr} {h0:Hp} {o:Oper} {i t d:Nat} {v0 v1:Value} (f:o.guard=none) (k:o.dst=some d) (b:xF o.op t=true) (a:W0 C cF o t v0)
  (H:∀(K:Option Value->Hp->Prop) h,ah h0 h->K (some v1) h->fc P o.op o.type (e1 v0) K Kp h):kK P ops Kp C cF h0 i o (.vl d (lu v1)) :=
 Qg f k b a (λ_ _ _ _ _ _ q _ _ _ _=>q) λK h g c=>H K h g (c v1 h (ah.refl _) rfl)
def xE (c:Code) (i:Nat):Oper:=(kY c).getD i default
def B2 (P:Program) (c:Code) (Kp:List PanicEntry->Hp->Prop) (C:List Cl) (cF:Fr) (h0:Hp):Nat->List Cl->Prop
 | _,[]=>True
 | i,x::xs=>kK P (kY c) Kp C cF h0 i (xE c i) x/\B2 P c Kp C cF h0 (i+1) xs
theorem B2.get {c:Code} {Kp:List PanicEntry->Hp->Prop} {C:List Cl} {cF:Fr} {h0:Hp}:∀{f:List Cl} {i:Nat},B2 P c Kp C cF h0 i f->∀(j:Nat) x,f[j]? = some x->kK P (kY c) Kp C cF h0 (i+j) (xE c (i+j)) x
  | [],_,_,j,x,a=>by simp at a
  | y::f,i,s,0,x,a=>by simp at a;subst a;exact s.1
  | y::f,i,s,j+1,x,a=>by
    have:=B2.get s.2 j x (by simpa using a)
    rwa [show i+1+j=i+(j+1) by omega] at this
def UR (C:List Cl) (n:Nat):Bool:=decide (C.filterMap Cl.dst).Nodup && (C.filterMap Cl.dst).all λd=>decide (d < n)
def Q1 (C:List Cl):Bool:=C.zipIdx.all λx=>match x.1 with | .al _ _ _ s u=>(match C[s]? with | some (.st j v)=>j == x.2 && v == u | _=>false) | _=>true
theorem sP {c:Code} {K:Fr->Hp->Prop} {Kp:List PanicEntry->Hp->Prop} {C:List Cl} {cF:Fr} {h0:Hp} (m:C.length=(kY c).size) (a:UR C cF.length=true) (f:Q1 C=true) (ok:B2 P c Kp C cF h0 0 C)
  (r:∀fr h F A g b,PB C cF h0 [] fr h F A g b->K fr h):sF P (kY c) K Kp (kY c).size (List.range (kY c).size) cF h0:=by
 unfold UR at a;simp only[Bool.and_eq_true,decide_eq_true_eq,List.all_eq_true] at a;refine mix ⟨m,a.1,λd p=>a.2 d p,λi d z ty s u b => ?_,λi o x l k => ?_⟩ r
 ·unfold Q1 at f;have:=List.all_eq_true.1 f (.al d z ty s u,i) (List.mem_iff_getElem?.2 ⟨i,by rw[List.getElem?_zipIdx,b];simp⟩)
  simp only at this;split at this
  ·rename_i j v q
   simp only[Bool.and_eq_true,beq_iff_eq] at this;rw[q,this.1,this.2]
  ·cases this
 ·have:=ok.get i x k;rw[Nat.zero_add] at this;have e:xE c i=o:=by unfold xE;rw[Array.getD_eq_getD_getElem?,l];rfl
  rwa [e] at this
def rz (o:Oper) (d t:Nat):Bool:=o.guard.isNone && o.dst == some d && xF o.op t
def Oy (o:Oper) (d:Nat) (ty:TypeId):Bool:=o.guard.isNone && o.dst == some d && (match o.op with | .alloc t=>t == ty | _=>false)
def Gf (P:Program) (o:Oper) (j u dj du n:Nat) (raw:Bool):Bool:=o.guard.isNone && o.dst.isNone && (gk o).contains j && (gk o).contains u &&
 (match o.op with | .store t (.tmp x) (.tmp y)=>x == dj && y == du && fB P t == some n && nH P t == raw | _=>false)
section
variable {ops:Array Oper} {Kp:List PanicEntry->Hp->Prop} {C:List Cl} {cF:Fr} {h0:Hp} {o:Oper} {i j u t d e dj du n:Nat} {z:Array Value} {ty:TypeId} {v0 v1:Value} {V:Value->Nat->Nat->Hp->Prop} {raw:Bool}
theorem Ox (h:rz o d t=true):o.guard=none/\o.dst=some d/\xF o.op t=true:=by
 simp only[rz,Bool.and_eq_true,Option.isNone_iff_eq_none,beq_iff_eq] at h;exact ⟨h.1.1,h.1.2,h.2⟩
theorem Sp (a:(rz o d t && (gk o).contains e)=true) (g:C[e]? = some (.vl t (lu v0))) (H:∀(K:Option Value->Hp->Prop) h,ah h0 h->K (some v1) h->fc P o.op o.type (e1 v0) K Kp h):kK P ops Kp C cF h0 i o (.vl d (lu v1)):=by
 simp only[Bool.and_eq_true,List.contains_eq_mem,decide_eq_true_eq] at a;obtain ⟨f,c,b⟩:=Ox a.1;exact Qh f c b (.inr ⟨e,a.2,g⟩) H
theorem ok0 (a:(rz o d t && C.all λc=>c.dst != some t)=true) (k:cF.getD t none=some v0) (H:∀(K:Option Value->Hp->Prop) h,ah h0 h->K (some v1) h->fc P o.op o.type (e1 v0) K Kp h):kK P ops Kp C cF h0 i o (.vl d (lu v1)):=by
 simp only[Bool.and_eq_true,List.all_eq_true,bne_iff_ne] at a;obtain ⟨g,f,b⟩:=Ox a.1;exact Qh g f b (.inl ⟨a.2,k⟩) H
def iu (h0:Hp) (V:Value->Nat->Nat->Hp->Prop):Prop:=∀(S:Nat->Prop) v lo hi h h',V v lo hi h->h0.size<=lo->hi<=h.size->Tn S h h'->(∀c,S c->h0.size<=c/\¬(lo<=c/\c < hi))->V v lo hi h'
theorem iu.mo {h0 g:Hp} (s:iu h0 V) (x:h0.size<=g.size):iu g V:=λS v l m h p k r f b a=>s S v l m h p k ag f b λc q=>⟨by have:=(a c q).1;omega,(a c q).2⟩
theorem okF (b:(rz o d t && (gk o).contains e)=true) (k:C[e]? = some (.vl t (lu v0))) (st:iu h0 V) (H:∀(K:Option Value->Hp->Prop) h,ah h0 h->(∀v a,ah h a->V v h.size a.size a->K (some v) a)->fc P o.op o.type (e1 v0) K Kp h) :
  kK P ops Kp C cF h0 i o (.vl d V):=by
 simp only[Bool.and_eq_true,List.contains_eq_mem,decide_eq_true_eq] at b;obtain ⟨g,f,c⟩:=Ox b.1;exact Qg g f c (.inr ⟨e,b.2,k⟩) st H
theorem oe {s:Nat} (a:Oy o d ty=true) (b:(zeroOf P ty).map Value.cells=some z):kK P ops Kp C cF h0 i o (.al d z ty s u):=by
 simp only[Oy,Bool.and_eq_true,Option.isNone_iff_eq_none,beq_iff_eq] at a;refine ⟨a.1.1,a.1.2,?_,b⟩;have:=a.2;split at this
 ·rename_i t e;rw[e];simp only[beq_iff_eq] at this;rw[this]
 ·cases this
theorem So (f:Gf P o j u dj du z.size raw=true) (k:C[j]? = some (.al dj z ty i u)) (g:C[u]? = some (.vl du V)) (l:∀v b c h,V v b c h->v.cells.size=z.size/\(∀x∈v.cells.toList,one x=true)/\(raw=true->v.cells=#[v])):kK P ops Kp C cF h0 i o (.st j u):=by
 simp only[Gf,Bool.and_eq_true,Option.isNone_iff_eq_none,List.contains_eq_mem,decide_eq_true_eq] at f;obtain ⟨⟨⟨⟨A,w⟩,s⟩,r⟩,a⟩:=f;split at a
 ·rename_i t x y e
  simp only[Bool.and_eq_true,beq_iff_eq] at a;obtain ⟨⟨⟨rfl,rfl⟩,p⟩,m⟩:=a;exact ⟨A,w,s,r,t,_,z,ty,_,V,k,g,e,p,λv b c h q=>m ▸ l v b c h q⟩
 ·cases a
def One (V:Value->Nat->Nat->Hp->Prop):Prop:=∀v lo hi h,V v lo hi h->one v=true/\v.cells=#[v]
theorem One.cst {v:Value} (h:one v=true) (a:v.cells=#[v]):One (lu v):=λx _ _ _ e=>by rw[show x=v from e];exact ⟨h,a⟩
theorem ada (p:Gf P o j u dj du 1 raw=true) (l:C[j]? = some (.al dj z ty i u)) (k:C[u]? = some (.vl du V)) (a:z.size=1) (r:One V):kK P ops Kp C cF h0 i o (.st j u) :=
 So (a ▸ p) l k λv g m h q=>by
  obtain ⟨f,c⟩:=r v g m h q;rw[c];exact ⟨by rw[a];rfl,λx b=>by simp at b;rw[b];exact f,λ_=>rfl⟩
theorem oE (e:Nat) (c:C[e]? = some (.vl t (lu v0)):=by rfl) (b:(rz o d t && (gk o).contains e)=true:=by kernel_rfl) (H:∀(K:Option Value->Hp->Prop) h,ah h0 h->K (some v1) h->fc P o.op o.type (e1 v0) K Kp h:=by intro K h g a;exact cast (by kernel_rfl) a):kK P ops Kp C cF h0 i o (.vl d (lu v1)):=Sp b c H
theorem oX (e:Nat) {Q:(Option Value->Hp->Prop)->Hp->Prop} (H:∀(K:Option Value->Hp->Prop) h,ah h0 h->K (some v1) h->Q K h) (f:C[e]? = some (.vl t (lu v0)):=by rfl) (b:(rz o d t && (gk o).contains e)=true:=by kernel_rfl) (c:∀K h,Q K h=fc P o.op o.type (e1 v0) K Kp h:=by intros;kernel_rfl):kK P ops Kp C cF h0 i o (.vl d (lu v1)):=Sp b f λK h g a=>c K h ▸ H K h g a
theorem o0 (t:Nat) (v0:Value) {Q:(Option Value->Hp->Prop)->Hp->Prop} (H:∀(K:Option Value->Hp->Prop) h,ah h0 h->K (some v1) h->Q K h) (hv:cF.getD t none=some v0:=by rfl) (b:(rz o d t && C.all λc=>c.dst != some t)=true:=by kernel_rfl) (f:∀K h,Q K h=fc P o.op o.type (e1 v0) K Kp h:=by intros;kernel_rfl):kK P ops Kp C cF h0 i o (.vl d (lu v1)):=ok0 b hv λK h g a=>f K h ▸ H K h g a
theorem oF (e:Nat) (st:iu h0 V) {Q:(Option Value->Hp->Prop)->Hp->Prop} (H:∀(K:Option Value->Hp->Prop) h,ah h0 h->(∀v a,ah h a->V v h.size a.size a->K (some v) a)->Q K h) (k:C[e]? = some (.vl t (lu v0)):=by rfl) (c:(rz o d t && (gk o).contains e)=true:=by kernel_rfl) (f:∀K h,Q K h=fc P o.op o.type (e1 v0) K Kp h:=by intros;kernel_rfl):kK P ops Kp C cF h0 i o (.vl d V):=okF c k st λK h g b=>f K h ▸ H K h g b
theorem oA {s:Nat} (b:Oy o d ty=true:=by kernel_rfl) (a:(zeroOf P ty).map Value.cells=some z:=by kernel_rfl):kK P ops Kp C cF h0 i o (.al d z ty s u):=oe b a
theorem oS (raw:Bool) (g:One V) (c:C[j]? = some (.al dj z ty i u):=by rfl) (b:C[u]? = some (.vl du V):=by rfl) (f:Gf P o j u dj du 1 raw=true:=by kernel_rfl) (a:z.size=1:=by rfl):kK P ops Kp C cF h0 i o (.st j u):=ada f c b a g
end
theorem uE {D:Nat->Array Oper->(Fr->Hp->Prop)->(List PanicEntry->Hp->Prop)->Fr->Hp->Prop} {rd:Option Nat} {id d1 m:Nat} {fn:Fn} {caps:Array Operand} {vs:List Value} {b a:Oper} {z:Value} {c:Value->Hp->Prop} {Kp:List PanicEntry->Hp->Prop} {fr:Fr} {h:Hp}
  (x:b.op=.makeFunc fn #[] caps) (A:b.guard=none) (g:b.dst=some d1) (w:a.op=.assign (.tmp d1)) (y:a.guard=none) (f:a.dst=some m) (q:d1 < fr.length) (p:m < fr.length) (s:eV (ev fr) caps.toList=some vs)
  (r:z=.nilFunc) (v:c (.func fn #[] vs.toArray) h):c8 P [] D rd (.seq (.region id #[b,a] false) .ret) (iT P [.tmp m] [z] c) Kp fr h:=by
 subst r;have e:(List.range (#[b,a]:Array Oper).size)=[0,1]:=rfl;simp only[c8,dJ,e,AG,cZ.next,cZ.AR,cZ.at,pn];have l:(#[b,a]:Array Oper)[0]? = some b:=rfl;have k:(#[b,a]:Array Oper)[1]? = some a:=rfl;simp only[l,k,A,y,x,w,g,f,fc,eV,s,dP,ev,sC,cZ.at,c8,iT,gS,FH q];rw[FH (by rw[List.length_set];exact p)]
 exact v
theorem agB {fr L:Fr} (hl:fr.length=L.length) (h:∀i,i < L.length->fr.getD i none=L.getD i none):fr=L:=by
 apply List.ext_getElem hl;intro i b a;have:=h i a;rw[List.getD_eq_getElem?_getD,List.getD_eq_getElem?_getD,List.getElem?_eq_getElem b,List.getElem?_eq_getElem a] at this;exact this
theorem agJ {aZ:cZ} {o:List (Nat × OT × List Nat)} {f:FuncId} {b:Func} {zs:List Value} {a:List Value} {h:Hp} {Kv:Value->Hp->Prop} {Kp:List PanicEntry->Hp->Prop} {S:Prop} {l:Value->Hp->Prop} (p:P.funcs[f]? = some b) (q:b.body.isSome=true)
  (H:S) (k:S=c8 P aZ (Aj P o) none (b.body.getD .skip) (iT P b.results.toList zs Kv) Kp (a.map some++List.replicate (b.ntmps - a.length) none) h)
  (r:(λv s=>dK zs v λm=>Kv m s)=l):cr P f a h l Kp:=by
 obtain ⟨c,g⟩:=Option.isSome_iff_exists.1 q;rw[g] at k;exact r ▸ Oa (US o) p g (k ▸ H)
theorem vg {aZ:cZ} {f:FuncId} {fn:Func} {zs:List Value} {a:List Value} {h:Hp} {Kv:Value->Hp->Prop} {Kp:List PanicEntry->Hp->Prop} {S:Prop} {k:Value->Hp->Prop} (m:P.funcs[f]? = some fn) (p:fn.body.isSome=true)
  (H:S) (g:S=c8 P aZ (Aj P []) none (fn.body.getD .skip) (iT P fn.results.toList zs Kv) Kp (a.map some++List.replicate (fn.ntmps - a.length) none) h)
  (q:(λv r=>dK zs v λl=>Kv l r)=k):cr P f a h k Kp:=by
 obtain ⟨c,b⟩:=Option.isSome_iff_exists.1 p;rw[b] at g;exact q ▸ Oa (US []) m b (g ▸ H)
end Go.Sh
