import Derived.Test.YtikpikmkhdapiaaGreatDoorBeginsShCode
import Derived.OrdersIn
set_option linter.unusedSimpArgs false
set_option linter.unusedVariables false
set_option maxRecDepth 100000
set_option maxHeartbeats 1000000
namespace Go.Sh
variable {P:Program}
theorem Oh {e e':Operand->Option Value}:∀{xs:List Operand},(∀x∈xs,e x=e' x)->eV e xs=eV e' xs:=by
 intro xs
 induction xs with
 | nil=>intro _;rfl
 | cons x xs a=>intro h;simp only[eV,h x aS,a (λy b=>h y (by simp[b]))]
theorem UM {e e':Operand->Option Value}:∀{xs:List (Nat × Operand)},(∀x∈xs.map (·.2),e x=e' x)->rq e xs=rq e' xs:=by
 intro xs
 induction xs with
 | nil=>intro _;rfl
 | cons x xs b=>intro h;obtain ⟨i,x⟩:=x;simp only[rq,h x aS,b (λy a=>h y (by simp at a ⊢;exact .inr a))]
theorem LP {e e':Operand->Option Value} {o:Option Operand} (h:∀x∈o.toArray,e x=e' x):lM e o=lM e' o:=by
 cases o with
 | none=>rfl
 | some x=>simp only[lM,h x aS]
theorem K1 {op:Op} {ty:TypeId} {e e':Operand->Option Value} (h:∀x∈op.operands,e x=e' x):fc P op ty e=fc P op ty e':=by
  funext K Kp hp
  cases op <;> simp only[Op.operands,Array.mem_append,List.mem_toArray,List.mem_map,List.mem_cons,List.not_mem_nil,or_false,forall_eq_or_imp,forall_eq] at h <;> simp only[fc]
  case makeFunc fn first captured =>
    rw[Oh (e:=e) (e':=e') (xs:=first.toList) (λx hx=>h x (.inl (by simpa using hx))),Oh (e:=e) (e':=e') (xs:=captured.toList) (λx hx=>h x (.inr (by simpa using hx)))]
  case slice t x lo hi mx =>
    have hx:=h x aS;rw[hx,LP (e:=e) (e':=e') (o:=lo) (λy hy=>h y (by simp[hy])),LP (e:=e) (e':=e') (o:=hi) (λy hy=>h y (by simp[hy])),LP (e:=e) (e':=e') (o:=mx) (λy hy=>h y (by simp[hy]))]
  case build t parts =>
    rw[UM (e:=e) (e':=e') (xs:=parts.toList) (λx hx=>by obtain ⟨y,hy,rfl⟩:=List.mem_map.1 hx;exact h _ ⟨y,hy,rfl⟩)]
  case buildSlice t n parts =>
    rw[UM (e:=e) (e':=e') (xs:=parts.toList) (λx hx=>by obtain ⟨y,hy,rfl⟩:=List.mem_map.1 hx;exact h _ ⟨y,hy,rfl⟩)]
  case call c =>
    have ha:eV e c.args.toList=eV e' c.args.toList:=Oh λx hx=>h x (by simp[Call.operands];exact .inr (by simpa using hx))
    cases hc:c.callee with
    | builtin b=>simp only[ha]
    | invoke r m =>
      have hf:e r=e' r:=h r (by simp[Call.operands,hc])
      simp only[hf,ha]
    | value f =>
      have hf:e f=e' f:=h f (by simp[Call.operands,hc])
      simp only[hf,ha]
  all_goals (first | rfl | (simp only[h]) | (obtain ⟨h1,h2⟩:=h;simp only[h1,h2]) | (obtain ⟨h1,h2,h3⟩:=h;simp only[h1,h2,h3]))
theorem Sj {c:BinOp} {k:IntKind} {a b:Int} {K e:Value->Prop} (h:pF c k a b K) (d:∀v,K v->e v):pF c k a b e:=by
 cases c <;> simp only[pF,Wr,Dv,Nn] at h ⊢ <;> first | exact d _ h | exact ⟨h.1,d _ h.2⟩
theorem ac1 {c:BinOp} {a b:ByteArray} {K e:Value->Prop} (h:qN c a b K) (d:∀v,K v->e v):qN c a b e:=by
 cases c <;> simp only[qN] at h ⊢ <;> first | exact d _ h | exact ⟨h.1,d _ h.2⟩ | exact h
theorem ac5 {op:BinOp} {t:TypeId} {a b:Value} {K K':Value->Prop} (h:qO P op t a b K) (hk:∀v,K v->K' v):qO P op t a b K':=by
 unfold qO at h ⊢
 repeat' split at h
 all_goals first | exact h.elim | exact Sj h hk | exact ac1 h hk | exact hk _ h | (rename_i hc;rw[if_pos hc];exact Sj h hk) | skip
 all_goals (simp_all;done)
theorem ama {V:Value} {K a:Bool->Prop} (h:kR V K) (b:∀v,K v->a v):kR V a:=by
 unfold kR at h ⊢;split at h <;> first | exact b _ h | exact h.elim
theorem ac3 {c:BinOp} {e:TypeId} {a b:Value} {K f:Value->Prop} (h:qP P c e a b K) (d:∀v,K v->f v):qP P c e a b f:=by
 unfold qP at h ⊢;split at h
 ·split at h
  ·split at h <;> first | exact ama h λv g=>d _ g | exact h.elim
  ·exact h.elim
 ·exact ac5 h d
theorem acZ {b:UnOp} {a:Value} {K c:Value->Prop} (h:qM b a K) (d:∀v,K v->c v):qM b a c:=by
 unfold qM at h ⊢;split at h
 all_goals first | exact h.elim | (split at h <;> first | exact h.elim | exact d _ h)
theorem aek {h:Hp} {a:Addr}:∀{zs:List Value} {i:Nat} {K b:List Value->Prop},qT h a i zs K->(∀v,K v->b v)->qT h a i zs b:=by
 intro zs
 induction zs with
 | nil=>intro i K b d c;exact c _ d
 | cons z zs g=>intro i K b d c;exact oY d λv f=>⟨f.1,g f.2 λvs e=>c _ e⟩
theorem aei {e:TypeId} {h:Hp} {a:Addr} {K i:Value->Prop} (b:nC P e h a K) (f:∀v,K v->i v):nC P e h a i:=by
  unfold nC at b ⊢;split at b
  · rename_i d z l k
    cases g:oz d with
    | true =>
      rw[g] at b;simp only[dJ] at b ⊢;split at b
      · split at b
        · rename_i j;simp only[j,if_true];exact aek b λv c=>f _ c
        · exact b.elim
      · exact b.elim
    | false =>
      rw[g] at b;simp only[dJ] at b ⊢;exact oY b λv c=>⟨c.1,f _ c.2⟩
  · exact b.elim
theorem Po {a:Addr}:∀{vs:List Value} {h:Hp} {i:Nat} {K c:Hp->Prop},fI h a i vs K->(∀v,K v->c v)->fI h a i vs c:=by
 intro vs
 induction vs with
 | nil=>intro h i K c b d;exact d _ b
 | cons v vs e=>intro h i K c b d;exact ⟨b.1,b.2.1,b.2.2.1,e b.2.2.2 d⟩
theorem aan {e:TypeId} {h:Hp} {a:Addr} {v:Value} {K c:Hp->Prop} (b:pe P e h a v K) (f:∀v,K v->c v):pe P e h a v c:=by
 refine aam b ?_;replace b:=QZ b;split at b
 ·rename_i d;simp only[d,if_true];exact Po b f
 ·exact b.elim
theorem XF {h:Hp} {el:TypeId} {z:Array Value} {m bytes n:Nat} {s:Sl} {a:List Value->Prop} {K j:Sl->Hp->Prop} (e:Ap h el z m bytes s n a K) (d:∀s h,K s h->j s h) :
  Ap h el z m bytes s n a j:=by
 obtain ⟨vs,l,e⟩:=e;refine ⟨vs,l,?_⟩;rcases e with ⟨f,b⟩ | ⟨f,b,t,g,q,p⟩
 ·refine .inl ⟨f,?_⟩;split at b
  ·exact Po b λ_ k=>d _ _ k
  ·exact d _ _ b
 ·exact .inr ⟨f,b,t,g,q,λc o i=>d _ _ (p c o i)⟩
theorem abj {c:List TypeId} {s v:Value} {h:Hp} {K e:Value->Hp->Prop} (a:AJ P c s v h K) (d:∀s h,K s h->e s h):AJ P c s v h e:=by
 unfold AJ at a ⊢;split at a
 ·split at a
  ·split at a
   ·split at a
    ·exact a.elim
    ·exact XF a λ_ _ b=>d _ _ b
    ·exact XF a λ_ _ b=>d _ _ b
    ·exact a.elim
   ·exact a.elim
  ·exact a.elim
 ·exact a.elim
theorem aa7 {V:Value} {K a:Value->Prop} (h:xo V K) (b:∀v,K v->a v):xo V a:=by
 unfold xo at h ⊢;split at h <;> first | exact h.elim | exact b _ h
theorem Xr {h:Hp} {a:Option Addr} {b:List Value->Prop} {K e:Hp->Prop} (f:Ak h a b K) (c:∀h,K h->e h):Ak h a b e:=by
 obtain ⟨vs,g,d⟩:=f;refine ⟨vs,g,?_⟩;cases a with
 | none=>exact c _ d
 | some a=>exact Po d c
theorem amg {h:Hp} {m:Option Nat} {d:TypeDesc} {k:Value} {K f:Hp->Prop} (a:r7 h m d k K) (e:∀h,K h->f h):r7 h m d k f:=by
 unfold r7 at a ⊢;split at a
 ·exact e _ a
 ·obtain ⟨l,c,b,j,i,g⟩:=a;exact ⟨l,c,b,j,i,e _ g⟩
theorem abh {b:Builtin} {f:List TypeId} {C:List Value} {h:Hp} {K i:Value->Hp->Prop} (a:uG P b f C h K) (c:∀s h,K s h->i s h):uG P b f C h i:=by
 unfold uG at a ⊢;split at a
 ·split at a
  ·split at a
   ·rename_i l;simp only[l,if_true];exact aa7 a λv k=>c _ _ k
   ·exact a.elim
  ·exact a.elim
 ·split at a
  ·split at a
   ·exact c _ _ a
   ·exact a.elim
  ·exact a.elim
 ·split at a
  ·split at a
   ·exact c _ _ a
   ·exact a.elim
  ·exact a.elim
 ·split at a
  ·split at a
   ·exact c _ _ a
   ·exact a.elim
  ·exact a.elim
 ·split at a
  ·exact abj a c
  ·exact a.elim
 ·split at a
  ·unfold K4 at a ⊢;split at a
   ·split at a
    ·split at a
     ·split at a
      ·exact Xr a λg d=>c _ _ d
      ·exact Xr a λg d=>c _ _ d
      ·exact a.elim
     ·exact a.elim
    ·exact a.elim
   ·exact a.elim
  ·exact a.elim
 ·split at a
  ·unfold K3 at a ⊢;split at a
   ·split at a
    ·split at a
     ·rename_i j m
      cases e:mU j with
      | true=>rw[e,gU] at a;rw[gU];exact amg a λg d=>c _ _ d
      | false=>rw[e] at a;exact a.elim
     ·exact a.elim
    ·exact a.elim
   ·exact a.elim
  ·exact a.elim
 ·exact a.elim
theorem RB {zs:List Value} {v:Value} {K c:Value->Prop} (h:dK zs v K) (b:∀v,K v->c v):dK zs v c:=by
 unfold dK at h ⊢;split at h
 ·exact KL h λx a=>⟨a.1,b _ a.2⟩
 ·exact KK h λx a=>⟨a.1,b _ a.2⟩
theorem cr.mono {f:FuncId} {C:List Value} {h:Hp} {K g:Value->Hp->Prop} {Kp b:List PanicEntry->Hp->Prop} (o:cr P f C h K Kp) (k:∀s h,K s h->g s h) (j:∀c h,Kp c h->b c h) :
  cr P f C h g b:=by
 intro w d;refine (o w d).mono ?_;rintro e l ⟨i,a⟩;refine ⟨i,?_⟩;cases e with
 | returned v=>exact k _ _ a
 | panicked c=>exact j _ _ a
 | outgrown=>exact a
theorem Xt {v:Value} {name:String} {C:List Value} {h:Hp} {K j:Value->Hp->Prop} {i d:List PanicEntry->Hp->Prop} (a:cL P v name C h K i) (f:∀s h,K s h->j s h) (e:∀c h,i c h->d c h) :
    cL P v name C h j d:=by
  unfold cL at a ⊢;split at a
  · split at a
    · rename_i g k l
      cases b:(uK P _ k && fC P g) with
      | false=>rw[b] at a;exact a.elim
      | true=>rw[b] at a;exact cr.mono a f e
    · split at a
      · rename_i g off l
        cases b:fC P g with
        | false=>rw[b] at a;exact a.elim
        | true =>
          rw[b,gU] at a;unfold EX at a ⊢;rw[gU];split at a
          · exact cr.mono a f e
          · exact a.elim
      · exact a.elim
  · exact a.elim
theorem Xs {fv:Value} {C:List Value} {h:Hp} {K p:Value->Hp->Prop} {o i:List PanicEntry->Hp->Prop} (a:bJ P fv C h K o) (m:∀s h,K s h->p s h) (l:∀c h,o c h->i c h) :
  bJ P fv C h p i:=by
 unfold bJ at a ⊢;split at a
 ·rename_i g first d
  cases f:fC P g with
  | false=>rw[f] at a;exact a.elim
  | true=>rw[f] at a;exact cr.mono a m l
 ·intro w q;obtain ⟨y,j,b,k,x,u⟩:=a w q;refine ⟨y,j,b,k,x,u.mono ?_⟩;rintro e z ⟨t,n⟩;refine ⟨t,?_⟩;cases e with
  | returned v=>exact m _ _ n
  | panicked c=>exact l _ _ n
  | outgrown=>exact n
 ·unfold P0 at a ⊢;split at a
  ·split at a
   ·exact Xt a m l
   ·exact a.elim
  ·exact a.elim
 ·exact a.elim
theorem abf {ty:TypeId} {V:Value} {C:List Value} {h:Hp} {K f:Value->Hp->Prop} {e a:List PanicEntry->Hp->Prop} (b:AI P ty V C h K e) (j:∀s h,K s h->f s h) (i:∀c h,e c h->a c h) :
  AI P ty V C h f a:=by
 unfold AI at b ⊢;split at b
 ·exact Xs b (λv l g=>RB g λk d=>j _ _ d) i
 ·exact b.elim
theorem abg {ty:TypeId} {V:Value} {name:String} {C:List Value} {h:Hp} {K f:Value->Hp->Prop} {e a:List PanicEntry->Hp->Prop} (b:AH P ty V name C h K e) (j:∀s h,K s h->f s h) (i:∀c h,e c h->a c h) :
  AH P ty V name C h f a:=by
 unfold AH at b ⊢;split at b
 ·exact Xt b (λv l g=>RB g λk d=>j _ _ d) i
 ·exact b.elim
theorem alb {v:Value} {K c:Value->Prop} (a:rN v K) (b:∀v,K v->c v):rN v c:=by
 unfold rN at a ⊢;split at a
 ·unfold NN at a ⊢;split at a <;> first | exact b _ a | exact a.elim
 all_goals first | exact b _ a | exact a.elim
theorem ala {v:Value} {K:Value->Prop} (a:rN v K):∃u,K u/\∀b:Value->Prop,b u->rN v b:=by
 unfold rN at a;split at a
 ·unfold NN at a;split at a
  ·exact ⟨_,a,λ_ h=>h⟩
  ·exact a.elim
 all_goals first | exact ⟨_,a,λ_ h=>h⟩ | exact a.elim
theorem ald {v:Value} {K c:Value->Prop} (a:m9 P v K) (b:∀v,K v->c v):m9 P v c:=by
 unfold m9 at a ⊢;split at a
 ·split at a
  ·unfold vW at a ⊢;split at a
   ·exact ⟨a.1,b _ a.2⟩
   ·exact a.elim
  ·exact a.elim
 ·exact alb a b
theorem alc {v:Value} {K:Value->Prop} (a:m9 P v K):∃u,K u/\∀b:Value->Prop,b u->m9 P v b:=by
 unfold m9 at a;split at a
 ·split at a
  ·rename_i d
   unfold vW at a;split at a
   ·exact ⟨_,a.2,λ_ h=>by unfold m9;simp only[d];exact ⟨a.1,h⟩⟩
   ·exact a.elim
  ·exact a.elim
 ·rename_i c
  obtain ⟨u,f,e⟩:=ala a;exact ⟨u,f,λb h=>by
   unfold m9;split
   ·exact (c _ _ _ rfl).elim
   ·exact e _ h⟩
theorem aiY {s e:TypeId} {V:Value} {h:Hp} {K c:Value->Prop} (a:vA P s e V h K) (b:∀v,K v->c v):vA P s e V h c:=by
 unfold vA at a ⊢;split at a
 ·split at a
  ·exact b _ a
  ·exact a.elim
 ·split at a
  ·exact b _ a
  ·exact a.elim
 ·split at a
  ·obtain ⟨bs,g,f⟩:=a;exact ⟨bs,g,b _ f⟩
  ·exact a.elim
 ·exact a.elim
theorem KJ {z:Value} {K:Value->Prop} (h:jE z K):∃v,K v/\∀a:Value->Prop,a v->jE z a:=by
 unfold jE at h ⊢;split at h <;> (obtain ⟨x,b⟩:=h;exact ⟨_,b,λ_ h=>⟨x,h⟩⟩)
theorem ae5 {e:TypeId} {cs:Array Value} {n:Nat} {i:Int} {K f:Value->Prop} (a:qW P e cs n i K) (h:∀v,K v->f v):qW P e cs n i f:=by
  unfold qW at a ⊢;split at a
  · rename_i d z _ _
    cases c:oz d with
    | true=>rw[c] at a;exact a.elim
    | false =>
      rw[c,BR] at a;rw[BR];split at a
      · rename_i g
        rw[if_pos g];exact ⟨a.1,a.2.1,oY a.2.2 λv b=>⟨b.1,h _ b.2⟩⟩
      · exact a.elim
  · exact a.elim
theorem ae4 {e:TypeId} {cs:Array Value} {n:Nat} {i:Int} {K:Value->Prop} (a:qW P e cs n i K):∃v,K v/\∀c:Value->Prop,c v->qW P e cs n i c:=by
  unfold qW at a;split at a
  · rename_i d z g f
    cases b:oz d with
    | true=>rw[b] at a;exact a.elim
    | false =>
      rw[b,BR] at a;split at a
      · rename_i j
        obtain ⟨p,o,m⟩:=a;obtain ⟨v,h,l⟩:=KJ m;refine ⟨v,h.2,λc k => ?_⟩;unfold qW;rw[g,f];simp only[b,dJ,j,if_true];exact ⟨p,o,l _ ⟨h.1,k⟩⟩
      · exact a.elim
  · exact a.elim
theorem aed {h:Hp} {m:Option Nat} {g:TypeDesc} {k z:Value} {K i:Value->Bool->Prop} (e:xK h m g k z K) (f:∀v b,K v b->i v b):xK h m g k z i:=by
 unfold xK at e ⊢;split at e
 ·exact oY e λv a=>⟨a.1,f _ _ a.2⟩
 ·obtain ⟨o,c,d,n,l,j⟩:=e;refine ⟨o,c,d,n,l,oY j λv a => ?_⟩;cases d with
  | none=>exact ⟨a.1,f _ _ a.2⟩
  | some p=>exact ⟨a.1,f _ _ a.2⟩
theorem akM {h:Hp} {m:Option Nat} {d:TypeDesc} {k v:Value} {K e:Hp->Prop} (a:Up h m d k v K) (f:∀h,K h->e h):Up h m d k v e:=by
 unfold Up at a ⊢;split at a
 ·exact a.elim
 ·obtain ⟨l,c,b,j,i,g⟩:=a;exact ⟨l,c,b,j,i,f _ g⟩
theorem Rl {op:Op} {ty:TypeId} {e:Operand->Option Value} {K K':Option Value->Hp->Prop} {Kp Xh:List PanicEntry->Hp->Prop} {h:Hp} (hh:fc P op ty e K Kp h) (hk:∀s h,K s h->K' s h) (hp:∀c h,Kp c h->Xh c h) :
  fc P op ty e K' Xh h:=by
 cases op <;> simp only[fc] at hh ⊢ <;> first | exact hh | exact hk _ _ hh | skip
 case pick =>
  split at hh
  ·split at hh <;> exact hk _ _ hh
  ·exact hh.elim
 case alloc=>split at hh <;> first | exact hk _ _ hh | exact hh.elim
 case box=>split at hh <;> first | exact hk _ _ hh | exact hh.elim
 case load=>split at hh <;> first | exact aei hh λv hv=>hk _ _ hv | exact hh.elim
 case store=>split at hh <;> first | exact aan hh λv hv=>hk _ _ hv | exact hh.elim
 case nilCheck =>
  split at hh
  ·exact ald hh λv hv=>hk _ _ hv
  ·exact hh.elim
 case binOp=>split at hh <;> first | exact ac3 hh λv hv=>hk _ _ hv | exact hh.elim
 case unOp=>split at hh <;> first | exact acZ hh λv hv=>hk _ _ hv | exact hh.elim
 case convert=>split at hh <;> first | exact aiY hh λv hv=>hk _ _ hv | exact hh.elim
 case makeInterface=>split at hh <;> first | exact hk _ _ hh | exact hh.elim
 case makeFunc=>split at hh <;> first | exact hk _ _ hh | exact hh.elim
 case makeSlice =>
  split at hh
  ·split at hh
   ·exact ⟨hh.1,hh.2.1,hh.2.2.1,hh.2.2.2.1,hk _ _ hh.2.2.2.2⟩
   ·exact hh.elim
  ·exact hh.elim
 case slice =>
  split at hh
  ·split at hh
   ·split at hh
    ·split at hh
     ·exact hh.elim
     ·rename_i hc;simp only[hc];exact ⟨hh.1,hh.2.1,hh.2.2.1,hh.2.2.2.1,hk _ _ hh.2.2.2.2⟩
    ·exact hh.elim
   ·exact hh.elim
  ·split at hh
   ·exact ⟨hh.1,hh.2.1,hh.2.2.1,hk _ _ hh.2.2.2⟩
   ·exact hh.elim
  ·exact hh.elim
 case fieldAddr=>split at hh <;> first | (split at hh <;> first | exact hk _ _ hh | exact hh.elim) | exact hh.elim
 case field=>split at hh <;> first | (split at hh <;> first | exact hk _ _ hh | exact hh.elim) | exact hh.elim
 case indexAddr =>
  split at hh
  ·split at hh
   ·split at hh
    ·unfold Ix at hh ⊢;split at hh <;> first | exact ⟨hh.1,hh.2.1,hk _ _ hh.2.2⟩ | exact hh.elim
    ·exact hh.elim
   ·exact hh.elim
  ·split at hh
   ·split at hh
    ·unfold Ix at hh ⊢;split at hh <;> first | exact ⟨hh.1,hh.2.1,hk _ _ hh.2.2⟩ | exact hh.elim
    ·exact hh.elim
   ·exact hh.elim
  ·exact hh.elim
 case index =>
  split at hh
  ·split at hh
   ·obtain ⟨b,h1,h2,h3⟩:=hh;exact ⟨b,h1,h2,hk _ _ h3⟩
   ·exact hh.elim
  ·split at hh
   ·exact ae5 hh λv hv=>hk _ _ hv
   ·exact hh.elim
  ·exact hh.elim
 case makeMap r=>cases r with | none=>exact hk _ _ hh | some x=>exact hh.elim
 case lookup =>
  split at hh
  ·split at hh
   ·rename_i kd z _ _
    cases Bq:mU kd with
    | false=>rw[Bq] at hh;exact hh.elim
    | true=>rw[Bq,gU] at hh;rw[gU];exact aed hh λv b hv=>hk _ _ hv
   ·exact hh.elim
  ·exact hh.elim
 case mapUpdate =>
  split at hh
  ·split at hh
   ·rename_i kd _
    cases Bq:mU kd with
    | false=>rw[Bq] at hh;exact hh.elim
    | true=>rw[Bq,gU] at hh;rw[gU];exact akM hh λh' hv=>hk _ _ hv
   ·exact hh.elim
  ·exact hh.elim
 case typeAssert=>split at hh <;> first | (split at hh <;> first | exact hk _ _ hh | exact hh.elim) | exact hh.elim
 case extract=>split at hh <;> first | (split at hh <;> first | exact hk _ _ hh | exact hh.elim) | exact hh.elim
 case build=>split at hh <;> first | (obtain ⟨v,_,h1,h2⟩:=ON hh;exact h2 _ (hk _ _ h1)) | exact hh.elim
 case buildSlice =>
  split at hh
  ·obtain ⟨cs,el,_,h,hK⟩:=V4 hh;exact hK _ (hk _ _ h)
  ·exact hh.elim
 case panic=>split at hh <;> first | exact hp _ _ hh | exact hh.elim
 case call =>
  split at hh
  ·split at hh
   ·exact abh hh λv h' hv=>hk _ _ hv
   ·exact hh.elim
  ·split at hh
   ·exact abf hh (λv h' hv=>hk _ _ hv) hp
   ·exact hh.elim
  ·split at hh
   ·exact abg hh (λv h' hv=>hk _ _ hv) hp
   ·exact hh.elim
def oy (P:Program):Op->Bool
 | .move _ | .assign _ | .pick .. | .load .. | .nilCheck _ | .binOp .. | .unOp .. | .makeInterface .. | .makeFunc .. | .slice .. | .fieldAddr .. | .field .. | .indexAddr .. | .index .. | .extract .. | .build ..=>true
 | .convert s _ _=>match P.underlying s with | some (.int _)=>true | _=>false
 | .call c=>match c.callee with | .builtin .len | .builtin .cap | .builtin .min | .builtin .max=>true | _=>false
 | _=>false
def qS (P:Program) (t:TypeId):Nat:=max 1 ((fB P t).getD 0)
def vZ (h h2:Hp) (a:Addr) (n:Nat):Prop:=∀i,i < n->cell h2 (a.add i)=cell h (a.add i)
theorem Si {c:BinOp} {k:IntKind} {a b:Int} {K:Value->Prop} (h:pF c k a b K):∃v,K v/\∀d,d v->pF c k a b d:=by
 cases c <;> simp only[pF,Wr,Dv,Nn] at h ⊢ <;> first | exact ⟨_,h,λ_ h=>h⟩ | exact ⟨_,h.2,λ_ e=>⟨h.1,e⟩⟩
theorem ac0 {c:BinOp} {a b:ByteArray} {K:Value->Prop} (h:qN c a b K):∃v,K v/\∀d,d v->qN c a b d:=by
 cases c <;> simp only[qN] at h ⊢ <;> first | exact h.elim | exact ⟨_,h,λ_ h=>h⟩ | exact ⟨_,h.2,λ_ e=>⟨h.1,e⟩⟩
theorem acY {b:UnOp} {a:Value} {K:Value->Prop} (h:qM b a K):∃v,K v/\∀c,c v->qM b a c:=by
 unfold qM at h ⊢;split at h
 all_goals first | exact h.elim | (split at h <;> first | exact h.elim | exact ⟨_,h,λ_ h=>h⟩)
theorem ac4 {op:BinOp} {t:TypeId} {a b:Value} {K:Value->Prop} (h:qO P op t a b K):∃v,K v/\∀K',K' v->qO P op t a b K':=by
 unfold qO at h ⊢
 repeat' split at h
 all_goals first | exact h.elim | exact Si h | exact ac0 h | exact ⟨_,h,λ_ h=>h⟩ | (rename_i hc;simp only[if_pos hc];exact Si h) | skip
 all_goals (refine ⟨_,h,?_⟩;simp_all;done)
theorem Xl {v:Value} {K:Bool->Prop} (h:kR v K):∃b,K b/\∀a:Bool->Prop,a b->kR v a:=by
 unfold kR at h ⊢;split at h <;> first | exact ⟨_,h,λ_ h=>h⟩ | exact h.elim
theorem ac2 {f:BinOp} {e:TypeId} {a b:Value} {K:Value->Prop} (h:qP P f e a b K):∃v,K v/\∀g,g v->qP P f e a b g:=by
 unfold qP at h ⊢;split at h
 ·split at h
  ·split at h
   ·obtain ⟨b,d,c⟩:=Xl h;exact ⟨_,d,λ_ h=>c _ h⟩
   ·obtain ⟨b,d,c⟩:=Xl h;exact ⟨_,d,λ_ h=>c _ h⟩
   ·exact h.elim
  ·exact h.elim
 ·exact ac4 h
theorem aej {h g:Hp} {a:Addr}:∀{zs:List Value} {i:Nat} {K:List Value->Prop},qT h a i zs K->(∀j,j < zs.length->cell g (a.add (i+j))=cell h (a.add (i+j)))->qT g a i zs K:=by
  intro zs
  induction zs with
  | nil=>intro i K b _;exact b
  | cons z zs e =>
    intro i K b d;exact oY b λv c=>⟨(d 0 aS).trans c.1,e c.2 λj f=>by have:=d (j+1) cC;rw[show i+(j+1)=i+1+j by omega] at this;exact this⟩
theorem ael {h:Hp} {a:Addr}:∀{zs:List Value} {i:Nat} {K:List Value->Prop},qT h a i zs K->∃vs,K vs/\∀c:List Value->Prop,c vs->qT h a i zs c:=by
  intro zs
  induction zs with
  | nil=>intro i K b;exact ⟨[],b,λ_ h=>h⟩
  | cons z zs d =>
    intro i K b;obtain ⟨v,⟨j,e⟩,k⟩:=KJ b;obtain ⟨vs,g,f⟩:=d e;exact ⟨v::vs,g,λc l=>k _ ⟨j,f _ l⟩⟩
theorem Te {e:TypeId} {h h2:Hp} {a:Addr} {K:Value->Prop} (b:nC P e h a K) (k:vZ h h2 a (qS P e)):∃v,K v/\∀c:Value->Prop,c v->nC P e h2 a c:=by
  unfold nC at b ⊢;split at b
  · rename_i d z p o
    cases l:oz d with
    | true =>
      rw[l] at b;simp only[dJ] at b ⊢;split at b
      · split at b
        · rename_i zs i
          simp only[i,if_true];obtain ⟨vs,f,h2⟩:=ael b;refine ⟨_,f,λc g=>aej (h2 _ g) λj m => ?_⟩;rw[Nat.zero_add];exact k j (by simp[qS,i];simp at m;omega)
        · exact b.elim
      · exact b.elim
    | false =>
      rw[l] at b;simp only[dJ] at b ⊢;obtain ⟨v,⟨f,h2⟩,n⟩:=KJ b;exact ⟨v,h2,λc g=>n _ ⟨(k 0 (by simp[qS];omega)).trans f,g⟩⟩
  · exact b.elim
theorem aa5 {op:Op} {ty:TypeId} {e:Operand->Option Value} {K:Option Value->Hp->Prop} {Kp:List PanicEntry->Hp->Prop} {h:Hp} (hr:oy P op=true) (hh:fc P op ty e K Kp h) :
    ∃v,K v h/\∀(h2:Hp) (K2:Option Value->Hp->Prop) (Xg:List PanicEntry->Hp->Prop),(∀t x a,op=.load t x->e x=some (.pointer (some a))->vZ h h2 a (qS P t))->K2 v h2->fc P op ty e K2 Xg h2:=by
  cases op <;> simp only[oy] at hr <;> first | (cases hr;done) | skip
  all_goals simp only[fc] at hh ⊢
  case move=>exact ⟨_,hh,λ_ _ _ _ h=>h⟩
  case assign=>exact ⟨_,hh,λ_ _ _ _ h=>h⟩
  case pick =>
    split at hh
    · split at hh <;> exact ⟨_,hh,λ_ _ _ _ h=>h⟩
    · exact hh.elim
  case load t x =>
    split at hh
    · rename_i a ha
      obtain ⟨v,hk⟩:∃v,K (some v) h/\∀h2,vZ h h2 a (qS P t)->∀K':Value->Prop,K' v->nC P t h2 a K':=by
        have key:∃v,K (some v) h/\∀K':Value->Prop,K' v->nC P t h a K':=Te (h2:=h) hh (λ_ _=>rfl);obtain ⟨v,h1,h2⟩:=key;refine ⟨v,h1,λh3 NI K' hK' => ?_⟩;obtain ⟨u,hu,hb⟩:=Te (h2:=h3) (h2 (λx=>x=v) rfl) NI;subst hu;exact hb _ hK'
      exact ⟨some v,hk.1,λh2 K2 Xg NI hK2=>hk.2 h2 (NI t x a rfl ha) _ hK2⟩
    · exact hh.elim
  case nilCheck =>
    split at hh
    · obtain ⟨u,h1,h2⟩:=alc hh;exact ⟨_,h1,λ_ _ _ _ h=>h2 _ h⟩
    · exact hh.elim
  case binOp =>
    split at hh
    · obtain ⟨v,h1,h2⟩:=ac2 hh;exact ⟨some v,h1,λ_ _ _ _ h=>h2 _ h⟩
    · exact hh.elim
  case unOp =>
    split at hh
    · obtain ⟨v,h1,h2⟩:=acY hh;exact ⟨some v,h1,λ_ _ _ _ h=>h2 _ h⟩
    · exact hh.elim
  case convert s d x =>
    split at hr
    · rename_i k hs
      split at hh
      · unfold vA at hh ⊢;rw[hs] at hh ⊢;split at hh
        · split at hh
          · exact ⟨_,hh,λ_ _ _ _ h=>h⟩
          · exact hh.elim
        · rename_i heq _;cases heq
        · rename_i heq _;cases heq
        · exact hh.elim
      · exact hh.elim
    · cases hr
  case makeInterface=>split at hh <;> first | exact ⟨_,hh,λ_ _ _ _ h=>h⟩ | exact hh.elim
  case makeFunc=>split at hh <;> first | exact ⟨_,hh,λ_ _ _ _ h=>h⟩ | exact hh.elim
  case slice =>
    split at hh
    · split at hh
      · split at hh
        · split at hh
          · exact hh.elim
          · rename_i hc;simp only[hc];exact ⟨_,hh.2.2.2.2,λ_ _ _ _ h=>⟨hh.1,hh.2.1,hh.2.2.1,hh.2.2.2.1,h⟩⟩
        · exact hh.elim
      · exact hh.elim
    · split at hh
      · exact ⟨_,hh.2.2.2,λ_ _ _ _ h=>⟨hh.1,hh.2.1,hh.2.2.1,h⟩⟩
      · exact hh.elim
    · exact hh.elim
  case fieldAddr=>split at hh <;> first | (split at hh <;> first | exact ⟨_,hh,λ_ _ _ _ h=>h⟩ | exact hh.elim) | exact hh.elim
  case field=>split at hh <;> first | (split at hh <;> first | exact ⟨_,hh,λ_ _ _ _ h=>h⟩ | exact hh.elim) | exact hh.elim
  case indexAddr =>
    split at hh
    · split at hh
      · split at hh
        · unfold Ix at hh ⊢;split at hh <;> first | exact ⟨_,hh.2.2,λ_ _ _ _ h=>⟨hh.1,hh.2.1,h⟩⟩ | exact hh.elim
        · exact hh.elim
      · exact hh.elim
    · split at hh
      · split at hh
        · unfold Ix at hh ⊢;split at hh <;> first | exact ⟨_,hh.2.2,λ_ _ _ _ h=>⟨hh.1,hh.2.1,h⟩⟩ | exact hh.elim
        · exact hh.elim
      · exact hh.elim
    · exact hh.elim
  case index =>
    split at hh
    · split at hh
      · obtain ⟨b,h1,h2,h3⟩:=hh;exact ⟨_,h3,λ_ _ _ _ h=>⟨b,h1,h2,h⟩⟩
      · exact hh.elim
    · split at hh
      · obtain ⟨v,h1,h2⟩:=ae4 hh;exact ⟨_,h1,λ_ _ _ _ h=>h2 _ h⟩
      · exact hh.elim
    · exact hh.elim
  case extract=>split at hh <;> first | (split at hh <;> first | exact ⟨_,hh,λ_ _ _ _ h=>h⟩ | exact hh.elim) | exact hh.elim
  case build=>split at hh <;> first | (obtain ⟨v,_,h1,h2⟩:=ON hh;exact ⟨_,h1,λ_ _ _ _ h=>h2 _ h⟩) | exact hh.elim
  case call c =>
    cases hc:c.callee with
    | value f=>rw[hc] at hr;cases hr
    | invoke x m=>rw[hc] at hr;cases hr
    | builtin b =>
      rw[hc] at hr;simp only[hc] at hh ⊢;split at hh
      · unfold uG at hh ⊢;cases b <;> first | (cases hr;done) | skip
        all_goals simp only at hh ⊢
        · split at hh
          · split at hh
            · exact ⟨_,hh,λ_ _ _ _ h=>h⟩
            · exact hh.elim
          · exact hh.elim
        · split at hh
          · split at hh
            · rename_i hf
              simp only[hf,if_true];unfold xo at hh ⊢;split at hh <;> first | exact ⟨_,hh,λ_ _ _ _ h=>h⟩ | exact hh.elim
            · exact hh.elim
          · exact hh.elim
        · split at hh
          · split at hh
            · exact ⟨_,hh,λ_ _ _ _ h=>h⟩
            · exact hh.elim
          · exact hh.elim
        · split at hh
          · split at hh
            · exact ⟨_,hh,λ_ _ _ _ h=>h⟩
            · exact hh.elim
          · exact hh.elim
      · exact hh.elim
def gd (ops:Array Oper) (o:Oper) (fr:Fr):Option Bool :=
  match o.guard with
  | none=>some true
  | some (j,b)=>match (ops[j]?).bind (·.dst) with
    | some d=>(match fr.getD d none with | some (.bool c)=>some (c == b) | some (.tuple _)=>some false | _=>none)
    | none=>none
def gQ (P:Program) (ops:Array Oper) (o:Oper) (K:Fr->Hp->Prop) (Kp:List PanicEntry->Hp->Prop) (fr:Fr) (h:Hp):Prop :=
 match gd ops o fr with
 | some true=>fc P o.op o.type (ev fr) (λv h'=>K (dP fr o.dst v) h') Kp h
 | some false=>K (dP fr o.dst (some undef)) h
 | none=>False
theorem Rg {fr:Fr} {d:Nat} {v:Value} (h:fr.getD d none=some v):fr.set d (some v)=fr:=by
  apply List.ext_getElem?;intro i
  by_cases c:i=d
  · subst c;rw[List.getD_eq_getElem?_getD] at h;cases a:fr[i]? with
    | none=>simp[a] at h
    | some x =>
      rw[a] at h;simp only[Option.getD_some] at h;subst h;have b:=(List.getElem?_eq_some_iff.1 a).1;rw[List.getElem?_set_self b]
  · rw[List.getElem?_set_ne ag]
theorem EK {a:Array Oper} {i:Nat} {o:Oper} (k:a[i]? = some o) (K:Fr->Hp->Prop) (e:List PanicEntry->Hp->Prop) (fr:Fr) (h:Hp):pn P a i K e fr h=gQ P a o K e fr h:=by
  unfold pn gQ gd;simp only[k];cases l:o.guard with
  | none=>rfl
  | some f =>
    obtain ⟨j,b⟩:=f;simp only;cases m:(a[j]?).bind (·.dst) with
    | none=>rfl
    | some d =>
      simp only;cases g:fr.getD d none with
      | none=>rfl
      | some v =>
        cases v <;> try rfl
        rename_i c
        cases c <;> cases b <;> simp only[If,dJ,(Rg g)] <;> rfl
theorem EE {b:Array Oper} {o:Oper} {K g:Fr->Hp->Prop} {f:List PanicEntry->Hp->Prop} {fr:Fr} {h:Hp} (a:gQ P b o K f fr h) (e:∀v c,K (dP fr o.dst v) c->g (dP fr o.dst v) c):gQ P b o g f fr h:=by
 unfold gQ at a ⊢;split at a
 ·exact Rl a (λv c d=>e v c d) (λ_ _ d=>d)
 ·exact e (some undef) h a
 ·exact a.elim
def looks (ops:Array Oper) (o:Oper):List Nat :=
 o.op.operands.toList.filterMap (λ| .tmp t=>some t | _=>none)++(match o.guard with | some (j,_)=>((ops[j]?).bind (·.dst)).toList | none=>[])
def OV (ops:Array Oper) (x y:Oper):Bool :=
 (match x.dst with | some d=>!(looks ops y).contains d && !(y.dst == some d) | none=>true) && (match y.dst with | some d=>!(looks ops x).contains d | none=>true)
theorem ahq {fr:Fr} {d:Option Nat} {v:Option Value} {x:Operand} (h:∀t,d=some t->x≠.tmp t):ev (dP fr d v) x=ev fr x:=by
  cases d with
  | none=>rfl
  | some t =>
    cases x with
    | tmp u =>
      have:u≠t:=λa=>h t rfl (by rw[a])
      simp only[ev,dP,List.getD_eq_getElem?_getD];rw[List.getElem?_set_ne (λe=>this e.symm)]
    | _=>rfl
theorem MX {ops:Array Oper} {o:Oper} {fr:Fr} {d:Option Nat} {v:Option Value} (h:∀t,d=some t->(looks ops o).contains t=false):∀x∈o.op.operands,ev (dP fr d v) x=ev fr x:=by
 intro x b;refine ahq λt c a => ?_;have:=h t c;subst a;simp only[looks,List.contains_eq_mem,List.mem_append,decide_eq_false_iff_not,not_or,List.mem_filterMap] at this;exact this.1 ⟨.tmp t,by simpa using b,rfl⟩
theorem MW {a:Array Oper} {o:Oper} {fr:Fr} {d:Option Nat} {v:Option Value} (h:∀t,d=some t->(looks a o).contains t=false):gd a o (dP fr d v)=gd a o fr:=by
  unfold gd;cases k:o.guard with
  | none=>rfl
  | some g =>
    obtain ⟨j,b⟩:=g;simp only;cases l:(a[j]?).bind (·.dst) with
    | none=>rfl
    | some u =>
      have f:∀t,d=some t->u≠t:=by
        intro t i c;have:=h t i;subst c;simp[looks,k,l] at this
      simp only;cases d with
      | none=>rfl
      | some t =>
        have:=f t rfl;simp only[dP,List.getD_eq_getElem?_getD];rw[List.getElem?_set_ne (λe=>this e.symm)]
theorem Rj {fr:Fr} {d a:Option Nat} {v b:Option Value} (h:∀t,d=some t->a≠some t):dP (dP fr d v) a b=dP (dP fr a b) d v:=by
  cases d with
  | none=>rfl
  | some t =>
    cases a with
    | none=>rfl
    | some u =>
      have:t≠u:=λe=>h t rfl (by rw[e])
      exact List.set_comm _ _ this
structure oU (ops:Array Oper) (x y:Oper):Prop where
 l:∀t,x.dst=some t->(looks ops y).contains t=false
 r:∀t,y.dst=some t->(looks ops x).contains t=false
 d:∀t,x.dst=some t->y.dst≠some t
theorem aks {b:Array Oper} {x y:Oper} (h:OV b x y=true):oU b x y:=by
 unfold OV at h;refine ⟨?_,?_,?_⟩
 ·intro t a;rw[a] at h;simp at h;simp[h.1.1]
 ·intro t a;rw[a] at h;simp at h;simp[h.2]
 ·intro t a c;rw[a,c] at h;simp at h
theorem QW {ops:Array Oper} {o:Oper} {K:Fr->Hp->Prop} {q:List PanicEntry->Hp->Prop} {fr:Fr} {h:Hp} (n:oy P o.op=true) (f:gQ P ops o K q fr h) :
  ∃v,K (dP fr o.dst v) h/\∀(b:Fr) (g:Hp) (j:Fr->Hp->Prop) (d:List PanicEntry->Hp->Prop),(∀x∈o.op.operands,ev b x=ev fr x)->gd ops o b=gd ops o fr ->
   (∀t x a,o.op=.load t x->ev fr x=some (.pointer (some a))->vZ h g a (qS P t))->j (dP b o.dst v) g->gQ P ops o j d b g:=by
 unfold gQ at f;split at f
 ·rename_i k
  obtain ⟨v,p,g⟩:=aa5 n f;refine ⟨v,p,λb i j d m e c l => ?_⟩;unfold gQ;rw[e,k];simp only;rw[K1 (P:=P) m];exact g i _ d c l
 ·rename_i k
  refine ⟨some undef,f,λb i j d m e c l => ?_⟩;unfold gQ;rw[e,k];exact l
 ·exact f.elim
def nF (P:Program) (x:Nat) (o:Oper) (fr:Fr) (ld:List (Nat × Addr × Nat)):List (Nat × Addr × Nat) :=
 match o.op with
 | .load t y=>(match ev fr y with | some (.pointer (some a))=>(x,a,qS P t)::ld | _=>ld)
 | _=>ld
def keeps (ms:List Nat) (x:Nat) (h h':Hp):List (Nat × Addr × Nat)->Prop->Prop
 | [],X=>X
 | (j,a,n)::ld,X=>dJ ((ms.getD x 0).testBit j) (keeps ms x h h' ld X)<|vZ h h' a n/\keeps ms x h h' ld X
inductive OT where
 | fin
 | op (x:Nat) (t:OT)
 | alt (a b:OT)
def OT.l:List Nat->OT->OT
 | [],t=>t
 | x::l,t=>.op x (OT.l l t)
def OT.all:OT->List Nat
 | .fin=>[]
 | .op x t=>x::t.all
 | .alt a _=>a.all
def OT.mA:OT->List Nat
 | .fin=>[]
 | .op x _=>[x]
 | .alt a b=>a.mA++b.mA
def gv (P:Program) (ops:Array Oper) (ms:List Nat):List (Nat × Addr × Nat)->OT->(Fr->Hp->Prop)->(List PanicEntry->Hp->Prop)->Fr->Hp->Prop
  | _, .fin,K,_,fr,h=>K fr h
  | ld, .op x l,K,Kp,fr,h=>match ops[x]? with
    | none=>False
    | some o=>dJ (oy P o.op) (pn P ops x (λbH h'=>gv P ops ms (nF P x o fr ld) l K Kp bH h') Kp fr h)<|pn P ops x (λbH h'=>keeps ms x h h' ld (gv P ops ms ld l K Kp bH h')) Kp fr h
  | ld, .alt a b,K,Kp,fr,h=>gv P ops ms ld a K Kp fr h/\gv P ops ms ld b K Kp fr h
def lR (ms:List Nat) (j x:Nat):Bool:=(ms.getD j 0).testBit x
def gk (o:Oper):List Nat:=(o.after.toList.filter (Region.binds .any)).map (·.on)
def A3 (ops:Array Oper) (ms:List Nat):Bool :=
 (List.range ops.size).all λj=>match ops[j]? with
  | some o=>(gk o).all (λe=>decide (e < j)) && ms.getD j 0 == (gk o).foldl (λs e=>s ||| (2 ^ e) ||| ms.getD e 0) 0
  | none=>false
def gA (P:Program) (ops:Array Oper) (ms:List Nat):Bool->OT->Bool
  | br, .fin=>!br
  | br, .op x t=>(br || (match ops[x]? with
    | some ox=>t.all.all λj=>match ops[j]? with | some oj=>!(lR ms x j) && (lR ms j x || (oy P ox.op && OV ops ox oj)) | none=>false
    | none=>false)) && !(t.all.contains x) && gA P ops ms false t
  | _, .alt a b=>gA P ops ms true a && gA P ops ms true b && a.all.all (b.all.contains ·) && b.all.all (a.all.contains ·) && a.all.all λj=>(a.mA++b.mA).contains j || ((a.mA++b.mA).any λw=>lR ms j w && a.all.contains w)
def LK (P:Program) (ops:Array Oper) (l:OT) (ms:List Nat):Bool :=
 P.follows .mixedOrders && (ops.all λo=>!(o.op matches .defer _)) && A3 ops ms && gA P ops ms false l && (List.range ops.size).all (λi=>l.all.contains i) && l.all.all λi=>decide (i < ops.size)
theorem Bf {N:List Nat} {m:Nat} {h g:Hp} {X:Prop}:∀{ld:List (Nat × Addr × Nat)},keeps N m h g ld X↔(∀p∈ld,(N.getD m 0).testBit p.1=false->vZ h g p.2.1 p.2.2)/\X:=by
  intro ld
  induction ld with
  | nil=>simp[keeps]
  | cons p ld b =>
    obtain ⟨j,a,n⟩:=p;unfold keeps;cases c:(N.getD m 0).testBit j with
    | true =>
      simp only[dJ,b,List.mem_cons,forall_eq_or_imp,c];simp
    | false =>
      simp only[dJ,b,List.mem_cons,forall_eq_or_imp,c];simp[and_assoc]
theorem nE {n:Nat} {o:Oper} {fr:Fr} {ld:List (Nat × Addr × Nat)} {p:Nat × Addr × Nat}:p∈nF P n o fr ld↔p∈ld\/∃t y a,o.op=.load t y/\ev fr y=some (.pointer (some a))/\p=(n,a,qS P t):=by
 unfold nF;constructor
 ·intro h;split at h
  ·rename_i t y b
   split at h
   ·rename_i a c
    simp only[List.mem_cons] at h;rcases h with h | h
    ·exact .inr ⟨t,y,a,b,c,h⟩
    ·exact .inl h
   ·exact .inl h
  ·exact .inl h
 ·rintro (h | ⟨t,y,a,b,c,rfl⟩)
  ·split
   ·split
    ·exact List.mem_cons_of_mem _ h
    ·exact h
   ·exact h
  ·simp[b,c]
theorem abb {g:Array Oper} {N:List Nat} {K:Fr->Hp->Prop} {t:List PanicEntry->Hp->Prop}:∀{l:OT} {ld d:List (Nat × Addr × Nat)} {fr:Fr} {h:Hp},(∀p∈d,p∈ld)->gv P g N ld l K t fr h->gv P g N d l K t fr h:=by
  intro l
  induction l with
  | fin=>intro ld d fr h _ c;exact c
  | alt a b m k=>intro ld d fr h e c;exact ⟨m e c.1,k e c.2⟩
  | op x l n =>
    intro ld d fr h e c;unfold gv at c ⊢;split at c
    · exact c.elim
    · rename_i o s
      cases q:oy P o.op with
      | true =>
        rw[q] at c;simp only[dJ] at c ⊢;rw[EK s] at c ⊢;refine EE c λv w i=>n (λp j => ?_) i;rcases nE.1 j with f | f
        · exact nE.2 (.inl (e p f))
        · exact nE.2 (.inr f)
      | false =>
        rw[q] at c;simp only[dJ] at c ⊢;rw[EK s] at c ⊢;refine EE c λv w i => ?_;obtain ⟨f,u⟩:=Bf.1 i;exact Bf.2 ⟨λp j=>f p (e p j),n e u⟩
theorem xp {ops:Array Oper} {N:List Nat} {K:Fr->Hp->Prop} {a:List PanicEntry->Hp->Prop} {n:Nat} {o:Oper} (c:ops[n]? = some o) {l:OT} {ld:List (Nat × Addr × Nat)} {fr:Fr} {h:Hp} :
  gv P ops N ld (.op n l) K a fr h=(dJ (oy P o.op) (gQ P ops o (λbH b=>gv P ops N (nF P n o fr ld) l K a bH b) a fr h)<|gQ P ops o (λbH b=>keeps N n h b ld (gv P ops N ld l K a bH b)) a fr h):=by
 rw[gv];simp only[c,EK c]
theorem aba {ops:Array Oper} {N:List Nat} {K:Fr->Hp->Prop} {o:List PanicEntry->Hp->Prop} {n i:Nat} {c f:Oper} (F:ops[n]? = some c) (Q:ops[i]? = some f) (k:oy P c.op=true) (b:oU ops c f)
    (I:lR N i n=false) {l:OT} {ld:List (Nat × Addr × Nat)} {fr:Fr} {h:Hp} (H:gv P ops N ld (.op n (.op i l)) K o fr h):gv P ops N ld (.op i (.op n l)) K o fr h:=by
  rw[xp F,k,gU] at H;obtain ⟨v,g,tx⟩:=QW k H;have E:∀u:Option Value,∀z∈c.op.operands,ev (dP fr f.dst u) z=ev fr z:=λu=>MX (ops:=ops) b.r;have J:∀u:Option Value,gd ops c (dP fr f.dst u)=gd ops c fr:=λu=>MW b.r;have m:∀u e,nF P n c (dP fr f.dst u) e=nF P n c fr e:=by
    intro u e;unfold nF;split
    · rename_i t y B
      rw[E u y (by rw[B];simp[Op.operands])]
    · rfl
  rw[xp Q] at g ⊢;cases q:oy P f.op with
  | true =>
    rw[q] at g;simp only[dJ] at g ⊢;obtain ⟨u,S,L⟩:=QW q g;have j:∀z∈f.op.operands,ev fr z=ev (dP fr c.dst v) z:=λz M=>(MX (ops:=ops) (v:=v) b.l z M).symm;refine L fr h _ o j (MW (v:=v) b.l).symm (λ_ _ _ _ _ _ _=>rfl) ?_;rw[xp F,k,gU];refine tx _ h _ o (E u) (J u) (λ_ _ _ _ _ _ _=>rfl) ?_;rw[<-Rj b.d];refine abb (λp s => ?_) S;rw[m] at s;have D:∀e,nF P i f (dP fr c.dst v) e=nF P i f fr e:=by
      intro e;unfold nF;split
      · rename_i t y B
        rw[<-j y (by rw[B];simp[Op.operands])]
      · rfl
    rw[D];rcases nE.1 s with w | w
    · rcases nE.1 w with C | C
      · exact nE.2 (.inl (nE.2 (.inl C)))
      · exact nE.2 (.inr C)
    · exact nE.2 (.inl (nE.2 (.inr w)))
  | false =>
    rw[q] at g;simp only[dJ] at g ⊢;have j:∀z∈f.op.operands,ev (dP fr c.dst v) z=ev fr z:=MX (ops:=ops) b.l;have G:gd ops f (dP fr c.dst v)=gd ops f fr:=MW b.l;have fin:∀u A,keeps N i h A (nF P n c fr ld) (gv P ops N (nF P n c fr ld) l K o (dP (dP fr c.dst v) f.dst u) A) ->
        keeps N i h A ld (gv P ops N ld (.op n l) K o (dP fr f.dst u) A):=by
      intro u A O;obtain ⟨w,C⟩:=Bf.1 O;refine Bf.2 ⟨λp s=>w p (nE.2 (.inl s)),?_⟩;rw[xp F,k,gU];refine tx _ A _ o (E u) (J u) (λt y a B R=>w (n,a,qS P t) (nE.2 (.inr ⟨t,y,a,B,R,rfl⟩)) I) ?_;rw[<-Rj b.d,m];exact C
    unfold gQ at g ⊢;rw[G] at g;split at g
    · rw[K1 (P:=P) j] at g;exact Rl g fin (λ_ _ s=>s)
    · exact fin (some undef) h g
    · exact g.elim
theorem Sm {a:Array Oper} {N:List Nat} {B:Bool} {n:Nat} {t:OT} (h:gA P a N B (.op n t)=true):gA P a N false t=true/\n∉t.all:=by
 simp only[gA,Bool.and_eq_true,Bool.not_eq_true',List.contains_eq_mem,decide_eq_false_iff_not] at h;exact ⟨h.2,h.1.2⟩
theorem ac9 {a:Array Oper} {N:List Nat} {n:Nat} {t:OT} (h:gA P a N false (.op n t)=true):∃b,a[n]? = some b/\∀j∈t.all,lR N j n=false->oy P b.op=true/\∃d,a[j]? = some d/\oU a b d:=by
  simp only[gA,Bool.and_eq_true,Bool.false_or] at h;have e:=h.1.1;cases f:a[n]? with
  | none=>simp[f] at e
  | some b =>
    rw[f] at e;simp only[List.all_eq_true] at e;refine ⟨b,rfl,λj i g => ?_⟩;have:=e j i;cases c:a[j]? with
    | none=>simp[c] at this
    | some d =>
      rw[c] at this;simp only[Bool.and_eq_true,Bool.or_eq_true] at this;rw[g] at this;simp only[Bool.false_eq_true,false_or] at this;exact ⟨this.2.1,d,rfl,aks this.2.2⟩
theorem ac8 {a:Array Oper} {N:List Nat} {n:Nat} {t e:OT} (h:gA P a N false (.op n t)=true) (g:gA P a N false e=true) (b:∀j∈e.all,j∈t.all):gA P a N false (.op n e)=true:=by
  simp only[gA,Bool.and_eq_true,Bool.false_or,Bool.not_eq_true',List.contains_eq_mem,decide_eq_false_iff_not] at h ⊢;refine ⟨⟨?_,λc=>h.1.2 (b n c)⟩,g⟩;have d:=h.1.1;cases c:a[n]? with
  | none=>simp[c] at d
  | some i =>
    rw[c] at d;simp only[List.all_eq_true] at d ⊢;intro j f;exact d j (b j f)
theorem Sn {c:Array Oper} {N:List Nat} {B:Bool} {a b:OT} (h:gA P c N B (.alt a b)=true):gA P c N true a=true/\gA P c N true b=true/\(∀j,j∈a.all↔j∈b.all) /\
  ∀j∈a.all,j∈a.mA\/j∈b.mA\/∃w∈a.all,lR N j w=true:=by
 simp only[gA,Bool.and_eq_true,List.all_eq_true,List.contains_eq_mem,decide_eq_true_eq,Bool.or_eq_true,List.any_eq_true,List.mem_append] at h;obtain ⟨⟨⟨⟨m,l⟩,k⟩,i⟩,g⟩:=h;refine ⟨m,l,λj=>⟨k j,i j⟩,λj d => ?_⟩;rcases g j d with (h | h) | ⟨w,_,f,e⟩
 ·exact .inl h
 ·exact .inr (.inl h)
 ·exact .inr (.inr ⟨w,e,f⟩)
theorem abc {d:Array Oper} {N:List Nat} {K:Fr->Hp->Prop} {u:List PanicEntry->Hp->Prop} {i:Nat}:∀(T:OT),gA P d N true T=true->i∈T.mA ->
    ∃f,gA P d N false f=true/\(∀j,j∈f.all↔j∈T.all/\j≠i)/\∀{ld:List (Nat × Addr × Nat)} {fr:Fr} {h:Hp},gv P d N ld T K u fr h->gv P d N ld (.op i f) K u fr h:=by
  intro T
  induction T with
  | fin=>intro _ c;simp[OT.mA] at c
  | op x t y =>
    intro g c;simp only[OT.mA,List.mem_singleton] at c;subst c;obtain ⟨p,o⟩:=Sm g;refine ⟨t,p,λj => ?_,λH=>H⟩;simp only[OT.all,List.mem_cons];constructor
    · intro k;exact ⟨.inr k,λe=>o (e ▸ k)⟩
    · rintro ⟨k | k,v⟩
      · exact absurd k v
      · exact k
  | alt a b s q =>
    intro g c;obtain ⟨p,o,w,_⟩:=Sn g;simp only[OT.mA,List.mem_append] at c;rcases c with c | c
    · obtain ⟨f,n,m,l⟩:=s p c;exact ⟨f,n,m,λH=>l H.1⟩
    · obtain ⟨f,n,m,l⟩:=q o c;exact ⟨f,n,λj=>by rw[m j,<-w j];exact Iff.rfl,λH=>l H.2⟩
theorem abd {c:Array Oper} {N:List Nat} {K:Fr->Hp->Prop} {B:List PanicEntry->Hp->Prop} {i:Nat} {M:Oper} (G:c[i]? = some M) {T:OT} {ld:List (Nat × Addr × Nat)} {fr:Fr} {h:Hp}
    (d:gA P c N false T=true) (m:i∈T.all) (g:∀x∈T.all,lR N i x=false) (H:gv P c N ld T K B fr h) :
    ∃k,gA P c N false k=true/\(∀j,j∈k.all↔j∈T.all/\j≠i)/\gv P c N ld (.op i k) K B fr h:=by
  have key:∀(T:OT),gA P c N false T=true->i∈T.all->(∀x∈T.all,lR N i x=false) ->
      ∃k,gA P c N false k=true/\(∀j,j∈k.all↔j∈T.all/\j≠i)/\∀{ld:List (Nat × Addr × Nat)} {fr:Fr} {h:Hp},gv P c N ld T K B fr h->gv P c N ld (.op i k) K B fr h:=by
    intro T
    induction T with
    | fin=>intro _ m _;simp[OT.all] at m
    | op x t O =>
      intro d m g;obtain ⟨o,D⟩:=Sm d
      by_cases e:x=i
      · subst e;refine ⟨t,o,λj => ?_,λH=>H⟩;simp only[OT.all,List.mem_cons];constructor
        · intro l;exact ⟨.inr l,λe=>D (e ▸ l)⟩
        · rintro ⟨f | f,n⟩
          · exact absurd f n
          · exact f
      · obtain ⟨ox,C,U⟩:=ac9 d;have z:i∈t.all:=by
          simp only[OT.all,List.mem_cons] at m;exact m.resolve_left (λh=>e h.symm)
        obtain ⟨L,E,q,V⟩:=O o z λy Q=>g y (by simp[OT.all,Q])
        have u:lR N i x=false:=g x (by simp[OT.all])
        obtain ⟨s,X,p,F⟩:=U i z u;rw[G] at p;cases p;refine ⟨.op x L,ac8 d E λj l=>((q j).1 l).1,λj => ?_,λH => ?_⟩
        · simp only[OT.all,List.mem_cons,q];constructor
          · rintro (f | ⟨f,n⟩)
            · subst f;exact ⟨.inl rfl,e⟩
            · exact ⟨.inr f,n⟩
          · rintro ⟨f | f,n⟩
            · exact .inl f
            · exact .inr ⟨f,n⟩
        · refine aba C G s F u ?_;rw[xp C,s,gU] at H;rw[xp C,s,gU];exact EE H λv h' S=>V S
    | alt a b Z Y =>
      intro d m g;obtain ⟨f,n,J,W⟩:=Sn d;have A:gA P c N true (.alt a b)=true:=d;refine abc (.alt a b) A ?_;rcases W i m with h | h | ⟨w,R,I⟩
      · simp[OT.mA,h]
      · simp[OT.mA,h]
      · rw[g w R] at I;cases I
  obtain ⟨k,f,n,J⟩:=key T d m g;exact ⟨k,f,n,J H⟩
theorem Rn {d:Array Oper} {N:List Nat} {K:Fr->Hp->Prop} {f:List PanicEntry->Hp->Prop}:∀{T:OT} {ld:List (Nat × Addr × Nat)} {fr:Fr} {h:Hp},(∀j,j∉T.all)->gv P d N ld T K f fr h->K fr h:=by
 intro T
 induction T with
 | fin=>intro ld fr h _ H;exact H
 | op x t i=>intro ld fr h c H;exact absurd (by simp[OT.all]) (c x)
 | alt a b e g=>intro ld fr h c H;exact e c H.1
variable {r:Option Nat}
theorem agI (c:List Nat) (x:Nat):∀(l:List Nat) (s:Nat),(l.foldl (λs e=>s ||| (2 ^ e) ||| c.getD e 0) s).testBit x=true->s.testBit x=true\/x∈l\/∃e∈l,(c.getD e 0).testBit x=true:=by
  intro l
  induction l with
  | nil=>intro s h;exact .inl h
  | cons e l d =>
    intro s h;rcases d _ h with a | a | ⟨f,b,a⟩
    · simp only[Nat.testBit_or,Bool.or_eq_true,Nat.testBit_two_pow] at a;rcases a with (a | a) | a
      · exact .inl a
      · simp at a;exact .inr (.inl (by simp[a]))
      · exact .inr (.inr ⟨e,by simp,a⟩)
    · exact .inr (.inl (by simp[a]))
    · exact .inr (.inr ⟨f,by simp[b],a⟩)
theorem LW {a:Array Oper} {N:List Nat} (h:A3 a N=true) {j:Nat} {o:Oper} (d:a[j]? = some o) :
  (∀e∈gk o,e < j)/\∀x,lR N j x=true->x∈gk o\/∃e∈gk o,lR N e x=true:=by
 unfold A3 at h;have f:j < a.size:=(Array.getElem?_eq_some_iff.1 d).1;have:=List.all_eq_true.1 h j (List.mem_range.2 f);rw[d] at this;simp only[Bool.and_eq_true,List.all_eq_true,decide_eq_true_eq,beq_iff_eq] at this;refine ⟨this.1,λx c => ?_⟩;unfold lR at c;rw[this.2] at c;rcases agI N x _ 0 c with b | b | b
 ·simp at b
 ·exact .inl b
 ·exact .inr b
theorem aku {b:Array Oper} {N:List Nat} (i:A3 b N=true) {a:Array Bool} (k:∀j o,b[j]? = some o->a.getD j false=true->∀e∈gk o,a.getD e false=true) (h:a.size=b.size) :
    ∀(e x:Nat),a.getD e false=true->lR N e x=true->a.getD x false=true:=by
  intro e
  induction e using Nat.strongRecOn with
  | _ e l =>
    intro x hl p;have n:e < b.size:=by
      rw[<-h];apply Classical.byContradiction;intro m;simp[Array.getD,m] at hl
    obtain ⟨o,d⟩:∃o,b[e]? = some o:=⟨b[e],Array.getElem?_eq_getElem n⟩;obtain ⟨s,q⟩:=LW i d;rcases q x p with f | ⟨g,c,f⟩
    · exact k e o d hl x f
    · exact l g (s g c) x (k e o d hl g c) f
theorem F6 {o:Oper} {a:Array Bool}:(o.after.all λe=>!Region.binds .any e || a.getD e.on false)=true↔∀e∈gk o,a.getD e false=true:=by
 simp only[Array.all_eq_true_iff_forall_mem,Bool.or_eq_true,Bool.not_eq_true',gk,List.mem_map,List.mem_filter,Array.mem_toList_iff];constructor
 ·rintro h e ⟨x,⟨c,d⟩,rfl⟩;rcases h x c with b | b
  ·rw[d] at b;cases b
  ·exact b
 ·intro h x c;cases d:Region.binds .any x with
  | false=>exact .inl rfl
  | true=>exact .inr (h _ ⟨x,⟨c,d⟩,rfl⟩)
theorem FG {a:Array Bool} {i:Nat} (b:i < a.size):a.getD i true=a.getD i false:=by simp[Array.getD,b]
theorem abe {N:List Nat} {c:Array Oper} (b':yD N c) {R:List Nat} (L:A3 c R=true) {K:Fr->Hp->Prop} {Kp:List PanicEntry->Hp->Prop} {Q:Exit->Act->World->Prop}:∀(f:Nat) (b:Array Bool) (U:List Nat) (l:OT) (ld:List (Nat × Addr × Nat)) (fr:Fr) (a:Act) (w:World),
    cw fr a->gA P c R false l=true->(∀i,i∈l.all↔i < c.size/\b.getD i false=false)->(∀i,i∈l.all->i∈U)->b.size=c.size->(∀j o,c[j]? = some o->b.getD j false=true->∀e∈gk o,b.getD e false=true) ->
    U.length<=f->gv P c R ld l K Kp fr (aE w)->(∀bH q n,cw bH q->Kd N a q->aY w n->K bH (aE n)->Q .normal q n) ->
    (∀ch q n,Kd N a q->aY w n->Kp ch (aE n)->Q (.panic ch) q n)->wpAnyIn (Fc r) 0 P .any c Q f b a w:=by
  intro f;have d:∀(b:Array Bool) (i:Nat),b.size=c.size->(i∈Region.ready .any c b↔i < c.size/\b.getD i false=false/\∃o,c[i]? = some o/\∀e∈gk o,b.getD e false=true):=by
    intro b i g;unfold Region.ready;simp only[List.mem_filter,List.mem_range,Bool.and_eq_true,Bool.not_eq_true'];constructor
    · rintro ⟨D,hl,s⟩;have t:c[i]? = some c[i]:=Array.getElem?_eq_getElem D;rw[t] at s;simp only[Option.map_some,Option.getD_some] at s;exact ⟨D,by rw[<-FG ag];exact hl,_,t,F6.1 s⟩
    · rintro ⟨D,hl,o,t,s⟩;refine ⟨D,by rw[FG ag];exact hl,?_⟩
      rw[t];simp only[Option.map_some,Option.getD_some];exact F6.2 s
  have p:∀(b:Array Bool) (l:List Nat),b.size=c.size->(∀i,i∈l↔i < c.size/\b.getD i false=false)->Region.ready .any c b=[]->∀j,j∉l:=by
    intro b l g hl T;intro x hx
    · obtain ⟨m,hm,d'⟩:=least (λi=>i∈l) ⟨x,hx⟩;obtain ⟨Y,hf⟩:=(hl m).1 hm;have t:c[m]? = some c[m]:=Array.getElem?_eq_getElem Y;have:m∈Region.ready .any c b:=by
        refine (d b m g).2 ⟨Y,hf,_,t,λe V => ?_⟩;have n':=(LW L t).1 e V;have:=d' e n';rw[hl e] at this;cases i':b.getD e false with
        | true=>rfl
        | false=>exact absurd ⟨by omega,i'⟩ this
      rw[T] at this;simp at this
  induction f with
  | zero =>
    intro b U l ld fr a w W hp hl hU g hc E H hN hP;have hn:∀j,j∉l.all:=λj B=>by
      have:U=[]:=by cases U with | nil=>rfl | cons=>simp at E
      have:=hU j B;simp_all
    refine ⟨?_,hN fr a w W (Kd.refl _ _) (aY.refl w) (Rn hn H)⟩;apply List.eq_nil_iff_forall_not_mem.2;intro i D;obtain ⟨C,X,_⟩:=(d b i g).1 D;exact hn i ((hl i).2 ⟨C,X⟩)
  | succ f ih =>
    intro b U l ld fr a w W hp hl hU g hc E H hN hP;refine ⟨λT => ?_,λi D => ?_⟩
    · exact hN fr a w W (Kd.refl _ _) (aY.refl w) (Rn (p b l.all g hl T) H)
    · obtain ⟨y,m',oi,u,z⟩:=(d b i g).1 D;have Z:=(hl i).2 ⟨y,m'⟩;have e':∀x∈l.all,lR R i x=false:=by
        intro x hx;cases p':lR R i x with
        | false=>rfl
        | true =>
          exfalso
          have h':b.getD x false=true:=by
            rcases (LW L u).2 x p' with C | ⟨e,V,C⟩
            · exact z x C
            · exact aku L hc g e x (z e V) C
          have:=((hl x).1 hx).2;rw[h'] at this;cases this
      obtain ⟨T',c',A,G⟩:=abd u hp Z e' H;have j':∀j,j∈T'.all↔j < c.size/\(b.setIfInBounds i true).getD j false=false:=by
        intro j;rw[A j]
        by_cases B:j=i
        · subst B;constructor
          · intro h;exact absurd rfl h.2
          · rintro ⟨_,X⟩;simp[Array.getD,g,y] at X
        · have C:=hl j;rw[Array.getD_eq_getD_getElem?,Array.getElem?_setIfInBounds_ne ag,<-Array.getD_eq_getD_getElem?];rw[<-C];simp[B]
      have r':∀j,j∈T'.all->j∈U.erase i:=λj B=>by
        obtain ⟨C,X⟩:=(A j).1 B;exact (List.mem_erase_of_ne X).2 (hU j C)
      have q':(U.erase i).length<=f:=by
        rw[List.length_erase_of_mem (hU i Z)];omega
      have o':∀j o,c[j]? = some o->(b.setIfInBounds i true).getD j false=true->∀e∈gk o,(b.setIfInBounds i true).getD e false=true:=by
        intro j o t B e V;have mono:∀k,b.getD k false=true->(b.setIfInBounds i true).getD k false=true:=by
          intro k F
          by_cases k':k=i
          · subst k';simp[Array.getD,g,y]
          · rw[Array.getD_eq_getD_getElem?,Array.getElem?_setIfInBounds_ne ag,<-Array.getD_eq_getD_getElem?];exact F
        by_cases l':j=i
        · subst l';rw[u] at t;cases t;exact mono e (z e V)
        · rw[Array.getD_eq_getD_getElem?,Array.getElem?_setIfInBounds_ne ag,<-Array.getD_eq_getD_getElem?] at B;exact mono e (hc j o t B e V)
      have next:∀I bH q n,cw bH q->Kd N a q->aY w n->gv P c R I T' K Kp bH (aE n)->wpAnyIn (Fc r) 0 P .any c Q f (b.setIfInBounds i true) q n:=by
        intro I bH q n v s S F;refine ih _ (U.erase i) T' I bH q n v c' j' r' (by simpa using g) o' q' F ?_ ?_
        · intro t' s' g' f' O J M;exact hN _ _ _ f' (O.trans s) (S.trans J) M
        · intro ch s' g' O J M;exact hP _ _ _ (O.trans s) (S.trans J) M
      have step:pY r P c i (wpAnyIn (Fc r) 0 P .any c Q f (b.setIfInBounds i true)) Q a w:=by
        unfold gv at G;rw[u] at G;simp only at G;cases T:oy P oi.op with
        | true =>
          rw[T,gU] at G;exact AE b' W G (λbH q n v s S F=>next _ bH q n v s S F) hP
        | false =>
          rw[T,BR] at G;exact AE b' W G (λbH q n v s S F=>next _ bH q n v s S (Bf.1 F).2) hP
      unfold pY at step;unfold wpOpIn;rw[u] at step ⊢;exact step
def gD (P:Program) (E6:List (Nat × OT × List Nat)) (id:Nat) (ops:Array Oper) (K:Fr->Hp->Prop) (Kp:List PanicEntry->Hp->Prop) (fr:Fr) (h:Hp):Prop :=
 match E6.find? (λx=>x.1 == id) with
 | some (_,l,ms)=>dJ (LK P ops l ms) (gv P ops ms [] l K Kp fr h)<|False
 | none=>False
theorem tA (k:List (Nat × OT × List Nat)):oT P r (gD P k):=by
  intro E id b K F fr a w Q v B d hN C;unfold gD at d;split at d
  · rename_i l x _
    cases g:LK P b l x with
    | false=>rw[g] at d;exact d.elim
    | true =>
      rw[g,gU] at d;simp only[LK,Bool.and_eq_true,List.all_eq_true,List.mem_range,decide_eq_true_eq,List.contains_eq_mem] at g;obtain ⟨⟨⟨⟨⟨z,_⟩,t⟩,y⟩,f⟩,c⟩:=g;refine wpIn_region_any z (abe (r:=r) v t b.size (Array.replicate b.size false) (List.range b.size) l [] fr a { w with drawn:=w.drawn+1 } B y ?_ (λi e=>List.mem_range.2 (c i e)) aS ?_ aS d ?_ ?_)
      · intro i;constructor
        · intro e;exact ⟨c i e,by simp[Array.getD,c i e]⟩
        · rintro ⟨e,_⟩;exact f i e
      · intro j o s A;have:j < b.size:=(Array.getElem?_eq_some_iff.1 s).1;simp[Array.getD,this] at A
      · intro bH q h u p m n;exact hN bH q h u p m n
      · intro D q h p m n;exact C D q h p m n
  · exact d.elim
end Go.Sh
