/- The computable reading of code is sound for the model: regions, branches, loops, functions. -/
import Derived.Test.YtlbbdbdjiekkaaaGreatDoorNamesShSound
import Derived.RangeFuncLeaves
set_option linter.unusedVariables false
set_option linter.unusedSimpArgs false
namespace Go.Sh
variable {P:Program}
structure Agr (fr:Fr) (a:Act):Prop where
  len:fr.length≤a.tmps.size
  val:∀i v,fr.getD i none=some v→a.tmps.getD i undef=v
theorem Agr.ev {fr:Fr} {a:Act} (h:Agr fr a):∀x v,ev fr x=some v→a.eval x=v:=by
  intro x v hx
  cases x with
  | tmp t=>exact h.val t v hx
  | const c=>simp only [Sh.ev,Option.some.injEq] at hx;exact hx
  | global g=>simp only [Sh.ev,Option.some.injEq] at hx;exact hx
  | func f=>simp only [Sh.ev,Option.some.injEq] at hx;exact hx
theorem Agr.set {fr:Fr} {a:Act} (h:Agr fr a) (t:Nat) {v':Option Value} {v:Value} (hv:∀x,v'=some x→v=x) :
    Agr (fr.set t v') { a with tmps:=a.tmps.setIfInBounds t v }:=by
  refine ⟨by simp [h.len],fun i x hx => ?_⟩
  have hl:=h.len
  by_cases hi:i=t
  · subst hi
    have hlt:i < fr.length:=by
      apply Classical.byContradiction
      intro hn
      rw [List.getD_eq_getElem?_getD,List.getElem?_set_self' ,List.getElem?_eq_none (by omega)] at hx
      simp at hx
    rw [List.getD_eq_getElem?_getD,List.getElem?_set_self hlt] at hx
    have:=hv x (by simpa using hx)
    simp [Array.getD,show i < a.tmps.size by omega,this]
  · rw [List.getD_eq_getElem?_getD,List.getElem?_set_ne (by omega)] at hx
    have:=h.val i x (by rw [List.getD_eq_getElem?_getD];exact hx)
    rw [Array.getD_eq_getD_getElem?] at this ⊢
    rw [Array.getElem?_setIfInBounds_ne (by omega)]
    exact this
theorem Agr.setSelf {fr:Fr} {a:Act} (h:Agr fr a) (t:Nat) {v':Option Value} (hv:∀x,v'=some x→a.tmps.getD t undef=x):Agr (fr.set t v') a:=by
  refine ⟨by simp [h.len],fun i x hx => ?_⟩
  by_cases hi:i=t
  · subst hi
    by_cases hlt:i < fr.length
    · rw [List.getD_eq_getElem?_getD,List.getElem?_set_self hlt] at hx
      exact hv x (by simpa using hx)
    · rw [List.getD_eq_getElem?_getD,List.getElem?_eq_none (by simp;omega)] at hx
      simp at hx
  · rw [List.getD_eq_getElem?_getD,List.getElem?_set_ne (by omega)] at hx
    exact h.val i x (by rw [List.getD_eq_getElem?_getD];exact hx)
theorem Agr.put {fr:Fr} {a:Act} (h:Agr fr a) (d:Option Nat) {v':Option Value} {v:Value} (hv:∀x,v'=some x→v=x):Agr (setF fr d v') (a.put d v):=by
  cases d with
  | none=>exact h
  | some t=>exact h.set t hv
theorem Agr.forget {fr:Fr} {a:Act} (h:Agr fr a) (lv:List Nat):Agr (forget lv fr) a:=by
  refine ⟨by simp [Sh.forget,h.len],fun i x hx=>h.val i x ?_⟩
  simp only [Sh.forget,List.getD_eq_getElem?_getD,List.getElem?_map,List.getElem?_zipIdx] at hx ⊢
  cases hfi:fr[i]? with
  | none=>simp [hfi] at hx
  | some v =>
    simp only [hfi,Option.map_some,Nat.zero_add,Option.getD_some] at hx ⊢
    cases hc:lv.contains i with
    | false=>rw [hc] at hx;cases hx
    | true=>rw [hc] at hx;exact hx
theorem Agr.find {fr:Fr} {a:Act} (h:Agr fr a) (k:Nat):∀ann:Ann,Agr (ann.find k fr) a:=by
  intro ann
  induction ann with
  | nil=>exact h
  | cons x r ih =>
    obtain ⟨j,lv⟩:=x
    unfold Ann.find
    cases (j == k)
    · exact ih
    · exact h.forget lv
theorem Agr.start (args:List Value) (n:Nat) (ds:List Deferred):Agr (args.map some++List.replicate (n - args.length) none) { tmps:=args.toArray++Array.replicate (n - args.toArray.size) undef,defers:=ds }:=by
  refine ⟨by simp,fun i v hv => ?_⟩
  rw [List.getD_eq_getElem?_getD] at hv
  by_cases hi:i < args.length
  · rw [List.getElem?_append_left (by simpa using hi)] at hv
    rw [Array.getD_eq_getD_getElem?,Array.getElem?_append_left (by simpa using hi)]
    simp only [List.getElem?_map,List.getElem?_eq_getElem hi,Option.map_some,Option.getD_some,Option.some.injEq] at hv
    simp [List.getElem?_eq_getElem hi,hv]
  · rw [List.getElem?_append_right (by simpa using hi)] at hv
    rw [List.getElem?_replicate] at hv
    split at hv <;> simp at hv
theorem callsIn_Fc {r:Option Nat} {n:Nat} {f:FuncId} {args:Array Value} {w:World} {R:Ending→World→Prop} (h:Calls P f args w R):CallsIn (Fc r) n P f args w R :=
  (callsIn_wide (n:=n)).2 h
variable {r:Option Nat}
theorem up_upon {o:Oper} {a:Act} {K:Option Value→Hp→Prop} {Kp:List PanicEntry→Hp→Prop} {w:World} {res:Result Next} {next:Act→World→Prop} {Q:Exit→Act→World→Prop}
    (hu:upR P K Kp w res) (hN:∀v v' w',(∀x,v'=some x→v=x)→Same w w'→K v' (hpz w')→next (a.put o.dst v) w')
    (hP:∀ch w',Same w w'→Kp ch (hpz w')→Q (.panic ch) a w'):o.uponIn (Fc r) 0 P a next Q res:=by
  unfold upR at hu
  split at hu
  · obtain ⟨hs,v',hv,hk⟩:=hu;exact hN _ _ _ hv hs hk
  · obtain ⟨hs,hk⟩:=hu;exact hN undef none _ (fun _ h=>by cases h) hs hk
  · rename_i f args w'
    obtain ⟨hs,hc⟩:=hu
    refine ⟨fun h=>by simp at h,?_⟩
    have hc':=hc w' rfl
    refine (callsIn_Fc (r:=r) (n:=0 - 1) (by simpa using hc')).mono ?_
    rintro e w'' ⟨hs',he⟩
    cases e with
    | returned v=>obtain ⟨v',hv,hk⟩:=he;exact hN _ _ _ hv (hs.trans hs') hk
    | panicked ch=>exact hP _ _ (hs.trans hs') he
    | outgrown=>exact he.elim
  · obtain ⟨hs,hr⟩:=hu
    refine ⟨fun h=>by simp at h,?_⟩
    have hr':RoundIn (Fc r) (0 - 1) P _ _ _ _ _ _ _:=hr
    refine hr'.mono ?_
    rintro e w'' ⟨hs',he⟩
    cases e with
    | returned v=>obtain ⟨v',hv,hk⟩:=he;exact hN _ _ _ hv (hs.trans hs') hk
    | panicked ch=>exact hP _ _ (hs.trans hs') he
    | outgrown=>exact he.elim
  · obtain ⟨hs,hk⟩:=hu;exact hP _ _ hs hk
  · exact hu.elim
/-- one operation, its guard with it -/
def StepIn (r:Option Nat) (P:Program) (ops:Array Oper) (i:Nat) (next:Act→World→Prop) (Q:Exit→Act→World→Prop) (a:Act) (w:World):Prop :=
  match ops[i]? with
  | none=>next a w
  | some o=>if Region.wanted o (yielded ops a.tmps) then o.wpIn (Fc r) 0 P a w next Q
      else (∀f,o.about P w a.eval=some f→True)∧next (a.put o.dst undef) w
theorem wpOpsIn_cons (ops:Array Oper) (Q:Exit→Act→World→Prop) (i:Nat) (l:List Nat) (a:Act) (w:World) :
    wpOpsIn (Fc r) 0 P ops Q (i::l) a w=StepIn r P ops i (wpOpsIn (Fc r) 0 P ops Q l) Q a w:=by
  unfold StepIn
  simp only [wpOpsIn]
  cases ops[i]? <;> rfl
theorem op_wpIn {o:Oper} {fr:Fr} {a:Act} {K:Option Value→Hp→Prop} {Kp:List PanicEntry→Hp→Prop} {w:World} {next:Act→World→Prop} {Q:Exit→Act→World→Prop}
    (ha:Agr fr a) (h:semOp P o.op o.type (ev fr) K Kp (hpz w)) (hN:∀v v' w',(∀x,v'=some x→v=x)→Same w w'→K v' (hpz w')→next (a.put o.dst v) w')
    (hP:∀ch w',Same w w'→Kp ch (hpz w')→Q (.panic ch) a w'):o.wpIn (Fc r) 0 P a w next Q:=by
  refine ⟨fun _ _=>trivial,?_⟩
  have hd:∀c,o.op≠.defer c:=by
    intro c hc
    rw [hc] at h
    exact h
  rw [show (Fc r).round=r from rfl,Oper.semAt_eq r a.eval o hd]
  exact up_upon (semOp_sound ha.ev h) hN hP
theorem yielded_of {ops:Array Oper} {fr:Fr} {a:Act} {j d:Nat} {c:Bool} (ha:Agr fr a) (hd:(ops[j]?).bind (·.dst)=some d) (hv:fr.getD d none=some (.bool c)):yielded ops a.tmps j=some c:=by
  have h1:=ha.val d _ hv
  have hlt:d < a.tmps.size:=by
    apply Classical.byContradiction
    intro hn
    have:fr.getD d none=none:=by
      rw [List.getD_eq_getElem?_getD,List.getElem?_eq_none (by have:=ha.len;omega)];rfl
    rw [this] at hv;cases hv
  have h2:a.tmps[d]? = some (.bool c):=by
    rw [Array.getD_eq_getD_getElem?] at h1
    rw [Array.getElem?_eq_getElem hlt] at h1 ⊢
    simpa using h1
  simp [yielded,hd,h2]
/-- an activation goes on: its deferred calls, and these of its places, stay -/
def Kd (T:List Nat) (a a':Act):Prop:=a'.defers=a.defers∧∀t∈T,a'.tmps.getD t undef=a.tmps.getD t undef
theorem Kd.refl (T:List Nat) (a:Act):Kd T a a:=⟨rfl,fun _ _=>rfl⟩
theorem Kd.trans {T:List Nat} {a b c:Act} (y:Kd T b c) (x:Kd T a b):Kd T a c:=⟨y.1.trans x.1,fun t ht=>(y.2 t ht).trans (x.2 t ht)⟩
def OpsT (T:List Nat) (ops:Array Oper):Prop:=∀(i:Nat) (o:Oper) (t:Nat),ops[i]? = some o→o.dst=some t→t∉T
theorem Kd.put {T:List Nat} {a:Act} {d:Option Nat} {v:Value} (h:∀t,d=some t→t∉T):Kd T a (a.put d v):=by
  cases d with
  | none=>exact Kd.refl T a
  | some t =>
    refine ⟨rfl,fun u hu => ?_⟩
    have:t≠u:=fun e=>h t rfl (e ▸ hu)
    simp only [Act.put]
    rw [Array.getD_eq_getD_getElem?,Array.getD_eq_getD_getElem?,Array.getElem?_setIfInBounds_ne this]
def opsT (T:List Nat) (ops:Array Oper):Bool:=ops.toList.all fun o=>match o.dst with | some t=>!T.contains t | none=>true
theorem opsT_ok {T:List Nat} {ops:Array Oper} (h:opsT T ops=true):OpsT T ops:=by
  intro i o t ho hd
  unfold opsT at h
  rw [List.all_eq_true] at h
  have:=h o (Array.mem_def.1 (Array.mem_of_getElem? ho))
  simp only [hd,Bool.not_eq_true',List.contains_eq_mem,decide_eq_false_iff_not] at this
  exact this
/-- no operation of this code (rounds of ranges over functions apart) lays something into these places; 'nr': it has no range over a function -/
def codeT (T:List Nat) (nr:Bool):Code→Bool
  | .region _ ops _=>opsT T ops
  | .seq x y=>codeT T nr x && codeT T nr y
  | .cond _ x y=>codeT T nr x && codeT T nr y
  | .block _ x=>codeT T nr x
  | .loop x=>codeT T nr x
  | .rangeFunc ..=>!nr
  | _=>true
theorem opsT_nil (ops:Array Oper):opsT [] ops=true:=by
  unfold opsT
  rw [List.all_eq_true]
  intro o _
  split <;> simp
theorem codeT_nil:∀c:Code,codeT [] false c=true:=by
  intro c
  induction c with
  | region id ops draw=>exact opsT_nil ops
  | seq x y h1 h2=>simp [codeT,h1,h2]
  | cond c x y h1 h2=>simp [codeT,h1,h2]
  | block id x h=>exact h
  | loop x h=>exact h
  | _=>rfl
theorem semStep_sound {T:List Nat} {ops:Array Oper} {i:Nat} {fr:Fr} {a:Act} {K:Fr→Hp→Prop} {Kp:List PanicEntry→Hp→Prop} {w:World} {next:Act→World→Prop} {Q:Exit→Act→World→Prop}
    (hT:OpsT T ops) (ha:Agr fr a) (h:semStep P ops i K Kp fr (hpz w)) (hN:∀fr' a' w',Agr fr' a'→Kd T a a'→Same w w'→K fr' (hpz w')→next a' w')
    (hP:∀ch a' w',Kd T a a'→Same w w'→Kp ch (hpz w')→Q (.panic ch) a' w'):StepIn r P ops i next Q a w:=by
  unfold semStep at h
  unfold StepIn
  have defs:∀(d:Option Nat) (v:Value),(∀t,d=some t→t∉T)→Kd T a (a.put d v):=fun d v h=>Kd.put h
  split at h
  · rename_i ho;simp only [ho];exact hN fr a w ha (Kd.refl T a) (Same.refl w) h
  · rename_i o ho
    simp only [ho]
    split at h
    · rename_i hg
      have hw:Region.wanted o (yielded ops a.tmps)=true:=by simp [Region.wanted,hg]
      rw [if_pos hw]
      exact op_wpIn ha h (fun v v' w' hv hs hk=>hN _ _ w' (ha.put o.dst hv) (defs _ _ fun t=>hT i o t ho) hs hk) (fun ch w' hs hk=>hP ch a w' (Kd.refl T a) hs hk)
    · rename_i j b hg
      split at h
      · rename_i d hd
        split at h
        · rename_i c hc
          have hy:=yielded_of ha hd hc
          have hw:Region.wanted o (yielded ops a.tmps)=(c == b):=by simp [Region.wanted,hg,hy]
          have hset:∀c',c=c'→Agr (fr.set d (some (.bool c'))) a:=by
            intro c' hcc
            subst hcc
            exact ha.setSelf d (fun x hx=>by cases hx;exact ha.val d _ hc)
          rw [hw]
          have run:∀c',c=c'→semOp P o.op o.type (ev (fr.set d (some (.bool c')))) (fun v h'=>K (setF (fr.set d (some (.bool c'))) o.dst v) h') Kp (hpz w)→o.wpIn (Fc r) 0 P a w next Q:=by
            intro c' hcc hh
            exact op_wpIn (hset c' hcc) hh (fun v v' w' hv hs hk=>hN _ _ w' ((hset c' hcc).put o.dst hv) (defs _ _ fun t=>hT i o t ho) hs hk) (fun ch w' hs hk=>hP ch a w' (Kd.refl T a) hs hk)
          have skip:∀c',c=c'→K (setF (fr.set d (some (.bool c'))) o.dst (some undef)) (hpz w)→(∀f,o.about P w a.eval=some f→True)∧next (a.put o.dst undef) w:=by
            intro c' hcc hh
            exact ⟨fun _ _=>trivial,hN _ _ w ((hset c' hcc).put o.dst (fun _ hx=>by cases hx;rfl)) (defs _ _ fun t=>hT i o t ho) (Same.refl w) hh⟩
          cases c <;> cases b <;> simp only [If,bsel] at h
          · rw [if_pos (by rfl)];exact run false rfl h
          · rw [if_neg (by simp)];exact skip false rfl h
          · rw [if_neg (by simp)];exact skip true rfl h
          · rw [if_pos (by rfl)];exact run true rfl h
        · rename_i us hc
          have h1:=ha.val d _ hc
          have hy:yielded ops a.tmps j=none:=by
            have h2:a.tmps[d]? = none∨a.tmps[d]? = some (.tuple us):=by
              rw [Array.getD_eq_getD_getElem?] at h1
              cases hx:a.tmps[d]? with
              | none=>exact .inl rfl
              | some x=>rw [hx] at h1;exact .inr (by simpa using h1)
            rcases h2 with h2 | h2 <;> simp [yielded,hd,h2]
          rw [if_neg (by simp [Region.wanted,hg,hy])]
          exact ⟨fun _ _=>trivial,hN _ _ w (ha.put o.dst (fun _ hx=>by cases hx;rfl)) (defs _ _ fun t=>hT i o t ho) (Same.refl w) h⟩
        · exact h.elim
      · exact h.elim
theorem Agr.at {fr:Fr} {a:Act} (h:Agr fr a) (k:Nat) {K:Fr→Prop}:∀{ann:Ann},ann.at k fr K→∃fr',Agr fr' a∧K fr':=by
  intro ann
  induction ann with
  | nil=>exact fun hk=>⟨fr,h,hk⟩
  | cons x r ih =>
    obtain ⟨j,lv⟩:=x
    unfold Ann.at
    cases (j == k)
    · exact ih
    · exact fun hk=>⟨_,h.forget lv,hk.h⟩
theorem Agr.next {fr:Fr} {a:Act} (h:Agr fr a) {K:Fr→Prop} {ra:Ann} {l:List Nat} (hk:ra.next l fr K):∃fr',Agr fr' a∧K fr':=by
  unfold Ann.next at hk
  split at hk
  · exact ⟨fr,h,hk⟩
  · exact h.at _ hk
theorem semOps_sound {T:List Nat} {ra:Ann} {ops:Array Oper} (hT:OpsT T ops):∀{l:List Nat} {fr:Fr} {a:Act} {K:Fr→Hp→Prop} {Kp:List PanicEntry→Hp→Prop} {w:World} {Q:Exit→Act→World→Prop},
    Agr fr a→semOps P ra ops l K Kp fr (hpz w)→(∀fr' a' w',Agr fr' a'→Kd T a a'→Same w w'→K fr' (hpz w')→Q .normal a' w') →
    (∀ch a' w',Kd T a a'→Same w w'→Kp ch (hpz w')→Q (.panic ch) a' w')→wpOpsIn (Fc r) 0 P ops Q l a w:=by
  intro l
  induction l with
  | nil=>intro fr a K Kp w Q ha h hN hP;exact hN fr a w ha (Kd.refl T a) (Same.refl w) h
  | cons i l ih =>
    intro fr a K Kp w Q ha h hN hP
    rw [wpOpsIn_cons]
    refine semStep_sound hT ha h (fun fr' a' w' ha' hd hs hk => ?_) hP
    obtain ⟨fr1,ha1,hk1⟩:=ha'.next hk
    exact ih ha1 hk1 (fun fr'' a'' w'' ha'' hd' hs' hk'=>hN _ _ _ ha'' (hd'.trans hd) (hs.trans hs') hk') (fun ch a'' w'' hd' hs' hk'=>hP ch a'' w'' (hd'.trans hd) (hs.trans hs') hk')
/-- what is asked of a way of reading regions that draw -/
def DrawOk (P:Program) (r:Option Nat) (D:Nat→Array Oper→(Fr→Hp→Prop)→(List PanicEntry→Hp→Prop)→Fr→Hp→Prop):Prop :=
  ∀ T id ops K Kp fr a w Q,OpsT T ops→Agr fr a→D id ops K Kp fr (hpz w)→(∀fr' a' w',Agr fr' a'→Kd T a a'→Same w w'→K fr' (hpz w')→Q .normal a' w') →
    (∀ch a' w',Kd T a a'→Same w w'→Kp ch (hpz w')→Q (.panic ch) a' w')→(Code.region id ops true).wpIn (Fc r) 0 P Q a w
/-- the marks that ranges over functions have left among an activation's deferred calls -/
def Marks (n0:Nat) (ds:List Deferred) (tv:List (Nat × Value)) (nr:Bool) (a:Act) (w:World):Prop :=
  (∃rs:List Nat,a.defers=(rs.map fun x=>{ target:=.collected x,args:=#[] })++ds∧rs.Nodup∧∀x∈rs,n0≤x∧w.heap[x]? = some (.deferred (some [])))∧(∀x∈tv,a.tmps.getD x.1 undef=x.2)∧(nr=true→a.defers=ds)
theorem Marks.keep {n0:Nat} {ds:List Deferred} {tv:List (Nat × Value)} {nr:Bool} {a a':Act} {w w':World} (h:Marks n0 ds tv nr a w) (hd:Kd (tv.map (·.1)) a a') (hs:Same w w'):Marks n0 ds tv nr a' w':=by
  obtain ⟨⟨rs,h1,h2,h3⟩,h4,h5⟩:=h
  exact ⟨⟨rs,hd.1.trans h1,h2,fun x hx=>⟨(h3 x hx).1,hs.2.2.2.2 x _ (h3 x hx).2⟩⟩,fun x hx=>(hd.2 _ (List.mem_map_of_mem hx)).trans (h4 x hx),fun e=>hd.1.trans (h5 e)⟩
/-- a post of code, read over worlds -/
def QL (Q:Qt) (Kp:List PanicEntry→Hp→Prop) (n0:Nat) (ds:List Deferred) (tv:List (Nat × Value)) (nr:Bool) (w0:World):Exit→Act→World→Prop:=fun e a w =>
  Marks n0 ds tv nr a w∧Same w0 w∧match e with
    | .panic ch=>Kp ch (hpz w)
    | .outgrown=>False
    | e=>∃fr,Agr fr a∧Q e fr (hpz w)
theorem least (p:Nat→Prop) (h:∃n,p n):∃n,p n∧∀m,m < n→¬p m:=by
  obtain ⟨n,hn⟩:=h
  induction n using Nat.strongRecOn with
  | _ n ih =>
    by_cases hm:∃m,m < n∧p m
    · obtain ⟨m,hlt,hp⟩:=hm;exact ih m hlt hp
    · exact ⟨n,hn,fun m hlt hp=>hm ⟨m,hlt,hp⟩⟩
theorem push_at {h:Array Obj} {o:Obj} {n:Nat} (hn:n=h.size):(h.push o)[n]? = some o:=by subst hn;simp
theorem loop_at {w:World} {l:Nat} {x:Loop} (h:(hpz w)[l]? = some (.loop x)):w.heap[l]? = some (.loop x):=by
  rw [nrm_at] at h
  cases ho:w.heap[l]? with
  | none=>simp [ho] at h
  | some o=>cases o <;> simp [ho,nrm] at h ⊢;exact h
theorem hpz_set {w:World} {l:Nat} {o:Obj}:hpz { w with heap:=w.heap.setIfInBounds l o }=(hpz w).setIfInBounds l (nrm o):=by
  apply Array.ext_getElem?
  intro i
  simp only [hpz,Array.getElem?_map,Array.getElem?_setIfInBounds,Array.size_map]
  split
  · split <;> simp
  · rfl
theorem same_loop {w:World} {l:Nat} {x y:Loop} (h:w.heap[l]? = some (.loop x)):Same w { w with heap:=w.heap.setIfInBounds l (.loop y) }:=by
  refine ⟨rfl,rfl,rfl,by simp,fun b ds hb => ?_⟩
  have:l≠b:=fun e=>by subst e;rw [h] at hb;cases hb
  simp only [Array.getElem?_setIfInBounds]
  rw [if_neg this]
  exact hb
theorem run_getLoop {w:World} {l:Nat} {x:Loop} (h:w.heap[l]? = some (.loop x)):(Instr.getLoop l).run P w=.ok x w:=by
  simp [Instr.getLoop,getObj,Sem.run,h]
theorem run_setLoop {w:World} {l:Nat} {x y:Loop} (h:w.heap[l]? = some (.loop x)):(setObj l (.loop y)).run P w=.ok () { w with heap:=w.heap.setIfInBounds l (.loop y) }:=by
  simp [setObj,Sem.run,h]
theorem run_endLoop {w:World} {l:Nat} {x:Loop} (h:w.heap[l]? = some (.loop x)) (hs:x.state≠.busy) :
    (Instr.endLoop l).run P w=.ok x.pending { w with heap:=w.heap.setIfInBounds l (.loop { x with state:=.exhausted }) }:=by
  have hb:(x.state == .busy)=false:=by simpa using hs
  simp only [Instr.endLoop,Sem.run_bind,run_getLoop h,Result.andThen_ok,hb,Bool.false_eq_true,if_false,Sem.run_pure,run_setLoop h]
/-- **WHAT 'sem' PROMISES OF CODE, ITS RUN KEEPS.** -/
theorem sem_sound {ann:Ann} {D:Nat→Array Oper→(Fr→Hp→Prop)→(List PanicEntry→Hp→Prop)→Fr→Hp→Prop} (hD:DrawOk P r D) (n0:Nat) (ds:List Deferred) (tv:List (Nat × Value)) (nr:Bool) (c:Code) :
    codeT (tv.map (·.1)) nr c=true→∀(Q:Qt) (Kp:List PanicEntry→Hp→Prop) (fr:Fr) (a:Act) (w:World),Agr fr a→Marks n0 ds tv nr a w→n0≤w.heap.size→sem P ann D r c Q Kp fr (hpz w)→c.wpIn (Fc r) 0 P (QL Q Kp n0 ds tv nr w) a w:=by
  have trans:∀{Q:Qt} {Kp:List PanicEntry→Hp→Prop} {w w':World},Same w w'→∀e x y,QL Q Kp n0 ds tv nr w' e x y→QL Q Kp n0 ds tv nr w e x y:=by
    rintro Q Kp w w' hs e x y ⟨h1,h2,h3⟩
    exact ⟨h1,hs.trans h2,h3⟩
  induction c with
  | skip=>intro hT Q Kp fr a w ha hm hn h;exact wpIn_skip ⟨hm,Same.refl w,fr,ha,h⟩
  | label l=>intro hT Q Kp fr a w ha hm hn h;exact wpIn_label ⟨hm,Same.refl w,fr,ha,h⟩
  | exit id=>intro hT Q Kp fr a w ha hm hn h;exact wpIn_exit ⟨hm,Same.refl w,fr,ha,h⟩
  | ret=>intro hT Q Kp fr a w ha hm hn h;exact wpIn_ret ⟨hm,Same.refl w,fr,ha,h⟩
  | region id ops draw =>
    intro hT Q Kp fr a w ha hm hn h
    cases draw with
    | false =>
      exact wpIn_region (semOps_sound (opsT_ok hT) ha h (fun fr' a' w' ha' hd hs hk=>⟨hm.keep hd hs,hs,fr',ha',hk⟩) (fun ch a' w' hd hs hk=>⟨hm.keep hd hs,hs,hk⟩))
    | true =>
      exact hD _ id ops _ Kp fr a w _ (opsT_ok hT) ha h (fun fr' a' w' ha' hd hs hk=>⟨hm.keep hd hs,hs,fr',ha',hk⟩) (fun ch a' w' hd hs hk=>⟨hm.keep hd hs,hs,hk⟩)
  | seq x y ihx ihy =>
    intro hT Q Kp fr a w ha hm hn h
    refine wpIn_seq (wpIn_mono (ihx (by simp only [codeT,Bool.and_eq_true] at hT;exact hT.1) _ Kp fr a w ha hm hn h) ?_)
    rintro e a' w' ⟨hd,hs,he⟩
    cases e with
    | normal =>
      obtain ⟨fr',ha',hk⟩:=he
      obtain ⟨fr1,ha1,hk1⟩:=ha'.at _ hk
      exact wpIn_mono (ihy (by simp only [codeT,Bool.and_eq_true] at hT;exact hT.2) Q Kp _ a' w' ha1 hd (Nat.le_trans hn hs.2.2.2.1) hk1) (trans hs)
    | _=>exact ⟨hd,hs,he⟩
  | cond c x y ihx ihy =>
    intro hT Q Kp fr a w ha hm hn h
    simp only [sem] at h
    split at h
    · rename_i b hb
      refine wpIn_cond_split (t:=b) (ha.ev _ _ hb) (fun ht => ?_) (fun hf => ?_)
      · subst ht;exact ihx (by simp only [codeT,Bool.and_eq_true] at hT;exact hT.1) Q Kp _ a w (ha.find _ ann) hm hn h
      · subst hf;exact ihy (by simp only [codeT,Bool.and_eq_true] at hT;exact hT.2) Q Kp _ a w (ha.find _ ann) hm hn h
    · exact h.elim
  | block id x ih =>
    intro hT Q Kp fr a w ha hm hn h
    refine wpIn_block (wpIn_mono (ih hT (blockQ id Q) Kp fr a w ha hm hn h) ?_)
    rintro e a' w' ⟨hd,hs,he⟩
    cases e with
    | exit j =>
      obtain ⟨fr',ha',hk⟩:=he
      simp only [blockQ] at hk
      simp only [Exit.inBlock]
      split at hk
      · rename_i hj;rw [if_pos hj];exact ⟨hd,hs,fr',ha',hk⟩
      · rename_i hj;rw [if_neg hj];exact ⟨hd,hs,fr',ha',hk⟩
    | _=>exact ⟨hd,hs,he⟩
  | loop x ih =>
    intro hT Q Kp fr a w ha hm hn h
    let B:(Fr→Hp→Prop)→Fr→Hp→Prop:=fun N fr h=>sem P ann D r x (thenQ (fun fr' h'=>N (ann.find (firstId x+2000) fr') h') Q) Kp fr h
    let p:Act→World→Nat→Prop:=fun a' w' n=>∃fr',Agr fr' a'∧iterN B n fr' (hpz w')
    let I:Act→World→Prop:=fun a' w'=>Marks n0 ds tv nr a' w'∧Same w w'∧∃n,p a' w' n
    have hmu:∃μ:Act→World→Nat,∀a' w',I a' w'→p a' w' (μ a' w')∧∀m,m < μ a' w'→¬p a' w' m:=by
      classical
      refine ⟨fun a' w'=>if hx:∃n,p a' w' n then Classical.choose (least _ hx) else 0,?_⟩
      rintro a' w' ⟨_,_,hx⟩
      dsimp only
      rw [dif_pos hx]
      exact Classical.choose_spec (least _ hx)
    obtain ⟨μ,hμ⟩:=hmu
    obtain ⟨m0,h0⟩:∃n,iterN B n (ann.find (firstId x+2000) fr) (hpz w):=h
    refine wpIn_loop I μ ⟨hm,Same.refl w,m0,_,ha.find _ ann,h0⟩ ?_
    rintro a' w' hI
    obtain ⟨⟨fr',ha',hit⟩,hmin⟩:=hμ a' w' hI
    obtain ⟨hd,hs,_⟩:=hI
    cases hnn:μ a' w' with
    | zero=>rw [hnn] at hit;exact hit.elim
    | succ m =>
      rw [hnn] at hit
      refine wpIn_mono (ih hT _ Kp fr' a' w' ha' hd (Nat.le_trans hn hs.2.2.2.1) hit) ?_
      rintro e a'' w'' ⟨hd',hs',he⟩
      cases e with
      | normal =>
        obtain ⟨fr'',ha'',hk⟩:=he
        have hI':I a'' w'':=⟨hd',hs.trans hs',m,_,ha''.find _ ann,hk⟩
        refine ⟨hI',?_⟩
        have:=(hμ a'' w'' hI').2
        apply Classical.byContradiction
        intro hge
        exact this m (by omega) ⟨_,ha''.find _ ann,hk⟩
      | _=>exact ⟨hd',hs.trans hs',he⟩
  | rangeFunc g ps assign body ih1 ih2 =>
    intro hT Q Kp fr a w ha hm hn h
    simp only [sem] at h
    split at h
    · rename_i fv hfv
      refine wpIn_rangeFunc fun fn hfn => ?_
      have ha':=ha.find (firstId assign+4000) ann
      obtain ⟨fr',hfr'⟩:∃fr',ann.find (firstId assign+4000) fr=fr':=⟨_,rfl⟩
      rw [hfr'] at ha' h
      have h:=h fn a.tmps ⟨ha'.len,ha'.val⟩
      have hge:a.eval g=fv:=ha.ev _ _ hfv
      -- the record is laid
      obtain ⟨w1,l,mark,dblk,hent,hs1,hl,hw1,hmk,hcall⟩:∃(w1:World) (l:Nat) (mark:List Deferred) (dblk:Nat),(Instr.enterLoop fn a.tmps ps assign body r).run P w=.ok (l,mark) w1∧Same w w1 ∧
          w1.heap[l]? = some (.loop { state:=.ready,pending:=none,fn,tmps:=a.tmps,params:=ps,assign,body,defers:=dblk })∧True ∧
          (∀w2:World,Same w1 w2→Marks n0 ds tv nr { a with defers:=mark++a.defers } w2) ∧
          CallF P fv [.func (.yield l) #[] #[]] (hpz w1) (fun _ h'=>endH l h' fun jump h''=>match jump with
            | none=>Q .normal fr' h''
            | some .ret=>Q .ret fr' h''
            | some (.exit id)=>Q (.exit id) fr' h''
            | _=>False) Kp:=by
        cases r with
        | none =>
          simp only [enterH] at h
          have e1:((hpz w).push (.deferred none)).size=w.heap.size+1:=by simp [hpz_size]
          rw [e1,hpz_size] at h
          refine ⟨{ w with heap:=(w.heap.push (.deferred (some []))).push (.loop { state:=.ready,pending:=none,fn,tmps:=a.tmps,params:=ps,assign,body,defers:=w.heap.size }) },w.heap.size+1,[{ target:=.collected w.heap.size,args:=#[] }],w.heap.size,?_,?_,?_,trivial,?_,?_⟩
          · simp only [Instr.enterLoop,newObj,Sem.run_bind,Sem.run,Sem.run_pure,Result.andThen_ok,Array.size_push]
          · exact (same_push w (.deferred (some []))).trans (same_push _ _)
          · exact push_at (by simp)
          · intro w2 hs2
            have hnew:w2.heap[w.heap.size]? = some (.deferred (some [])):=hs2.2.2.2.2 _ _ (by simp [Array.getElem?_push])
            obtain ⟨⟨rs,h1,h2,h3⟩,h4,h5⟩:=hm
            have hs02:Same w w2:=((same_push w (.deferred (some []))).trans (same_push _ _)).trans hs2
            refine ⟨⟨w.heap.size::rs,by simp [h1],?_,?_⟩,h4,fun e=>by simp only [codeT,e] at hT;cases hT⟩
            · rw [List.nodup_cons]
              refine ⟨fun hx => ?_,h2⟩
              have:=(Array.getElem?_eq_some_iff.1 (h3 _ hx).2).1
              omega
            · intro x hx
              rcases List.mem_cons.1 hx with rfl | hx
              · exact ⟨hn,hnew⟩
              · exact ⟨(h3 x hx).1,hs02.2.2.2.2 x _ (h3 x hx).2⟩
          · have e2:hpz { w with heap:=(w.heap.push (.deferred (some []))).push (.loop { state:=.ready,pending:=none,fn,tmps:=a.tmps,params:=ps,assign,body,defers:=w.heap.size }) } =
                ((hpz w).push (.deferred none)).push (.loop { state:=.ready,pending:=none,fn,tmps:=a.tmps,params:=ps,assign,body,defers:=w.heap.size }):=by simp [hpz,nrm]
            rw [e2]
            exact h
        | some l0 =>
          simp only [enterH] at h
          split at h
          · rename_i r0 hr0
            have hr0':=loop_at hr0
            rw [hpz_size] at h
            refine ⟨{ w with heap:=w.heap.push (.loop { state:=.ready,pending:=none,fn,tmps:=a.tmps,params:=ps,assign,body,defers:=r0.defers }) },w.heap.size,[],r0.defers,?_,?_,?_,trivial,?_,?_⟩
            · simp only [Instr.enterLoop,run_getLoop hr0',newObj,Sem.run_bind,Sem.run,Sem.run_pure,Result.andThen_ok]
            · exact same_push w _
            · exact push_at rfl
            · intro w2 hs2
              exact hm.keep ⟨rfl,fun _ _=>rfl⟩ ((same_push w _).trans hs2)
            · rw [hpz_push]
              exact h
          · exact h.elim
      unfold CallF at hcall
      split at hcall
      · rename_i gi first captured _
        cases hok:okFn P gi with
        | false=>rw [hok] at hcall;exact hcall.elim
        | true =>
          rw [hok,bsel_true] at hcall
          have hc:=hcall w1 rfl
          have e2:(first.toList++[Value.func (.yield l) #[] #[]]++captured.toList).toArray=first++#[Value.func (.yield l) #[] #[]]++captured:=by simp
          rw [e2] at hc
          have hrun:(callFunc gi (first++#[.func (.yield l) #[] #[]]++captured)).run P w1=.ok (.enter gi (first++#[.func (.yield l) #[] #[]]++captured)) w1:=by
            unfold okFn at hok
            split at hok
            · rename_i fn' hf
              simp only [Bool.and_eq_true,Bool.not_eq_true'] at hok
              obtain ⟨hb1,hb2⟩:=hok
              have h1:¬fn'.name = "runtime.NumGoroutine" := by simpa using hb2
              have h2:¬fn'.body=none:=by intro hbb;simp [hbb] at hb1
              simp only [callFunc,program,Sem.run_bind,Sem.run,Result.andThen_ok,hf]
              simp [h1,h2]
            · cases hok
          refine ⟨l,mark,w1,{ target:=.fn (.func gi) captured,args:=first++#[.func (.yield l) #[] #[]] },w1,gi,_,w1,hent,?_,fun _ _=>trivial,hrun,fun hx=>by simp at hx,?_⟩
          · have e3:(#[Operand.const (.func (.yield l) #[] #[])]:Array Operand).map a.eval=#[Value.func (.yield l) #[] #[]]:=by apply Array.ext';simp;rfl
            simp only [resolve,hge,e3,Deferred.ofValue,Sem.run_pure]
          · refine (callsIn_Fc (r:=r) hc).mono ?_
            rintro e w3 ⟨hs3,he⟩
            cases e with
            | outgrown=>exact he.elim
            | panicked ch=>exact ⟨hmk w3 hs3,hs1.trans hs3,he⟩
            | returned v =>
              simp only [endH] at he
              split at he
              · rename_i r3 hr3
                obtain ⟨hst,hk⟩:=he
                have hr3':=loop_at hr3
                have hs4:=same_loop (y:={ r3 with state:=.exhausted }) hr3'
                have hrun:=run_endLoop (P:=P) hr3' hst
                have hmk4:=hmk _ (hs3.trans hs4)
                have hs04:=(hs1.trans hs3).trans hs4
                have hpz4:=hpz_set (w:=w3) (l:=l) (o:=.loop { r3 with state:=.exhausted })
                obtain ⟨W4,hW4⟩:∃W4:World,W4={ w3 with heap:=w3.heap.setIfInBounds l (.loop { r3 with state:=.exhausted }) }:=⟨_,rfl⟩
                rw [←hW4] at hrun hmk4 hs04 hpz4
                rw [show nrm (.loop { r3 with state:=.exhausted })=.loop { r3 with state:=.exhausted } from rfl] at hpz4
                rw [←hpz4] at hk
                refine ⟨r3.pending,W4,hrun,?_⟩
                have hag:Agr fr' { a with defers:=mark++a.defers }:=⟨ha'.len,ha'.val⟩
                have hk':=hk
                cases hp:r3.pending with
                | none=>rw [hp] at hk';exact ⟨hmk4,hs04,fr',hag,hk'⟩
                | some c =>
                  rw [hp] at hk'
                  cases c with
                  | ret=>exact wpIn_ret ⟨hmk4,hs04,fr',hag,hk'⟩
                  | exit id=>exact wpIn_exit ⟨hmk4,hs04,fr',hag,hk'⟩
                  | _=>exact hk'.elim
              · exact he.elim
      · exact hcall.elim
    · exact h.elim
  | _=>intro hT Q Kp fr a w ha hm hn h;exact h.elim
/-! ### functions -/
def retV (P:Program):List ResultVar→Fr→Hp→(List Value→Prop)→Prop
  | [],_,_,K=>K []
  | .tmp t::rs,fr,h,K=>match fr.getD t none with | some v=>retV P rs fr h fun vs=>K (v::vs) | none=>False
  | .cell t ty::rs,fr,h,K=>match fr.getD t none with
    | some (.pointer (some a))=>ldV P ty h a fun v=>retV P rs fr h fun vs=>K (v::vs)
    | _=>False
def oneOr (vs:List Value):Value:=match vs with | [v]=>v | vs=>.tuple vs.toArray
def retQ (P:Program) (rs:List ResultVar) (zs:List Value) (Kv:Value→Hp→Prop):Qt:=fun e fr h =>
  match e with
  | .normal=>retV P rs fr h fun vs=>resUn zs (oneOr vs) fun v=>Kv v h
  | .ret=>retV P rs fr h fun vs=>resUn zs (oneOr vs) fun v=>Kv v h
  | _=>False
def resRun (tmps:Array Value):ResultVar→Sem Value
  | .tmp t=>pure (tmps.getD t undef)
  | .cell ad t=>do loadVar t (←asAddr (tmps.getD ad undef))
theorem run_retV {a:Act} {w:World} {fr:Fr} (ha:∀i v,fr.getD i none=some v→a.tmps.getD i undef=v):∀{rs:List ResultVar} {K:List Value→Prop},retV P rs fr (hpz w) K →
    ∃vs,vs.length=rs.length∧(rs.mapM (resRun a.tmps)).run P w=.ok vs w∧K vs:=by
  intro rs
  induction rs with
  | nil=>intro K h;exact ⟨[],rfl,by simp,h⟩
  | cons x rs ih =>
    intro K h
    cases x with
    | tmp t =>
      simp only [retV] at h
      split at h
      · rename_i v hv
        obtain ⟨vs,hl,hr,hk⟩:=ih h
        refine ⟨v::vs,by simp [hl],?_,hk⟩
        simp only [List.mapM_cons,resRun,Sem.run_bind,Sem.run_pure,Result.andThen_ok,hr,ha _ _ hv]
      · exact h.elim
    | cell t ty =>
      simp only [retV] at h
      split at h
      · rename_i ad hv
        obtain ⟨v,hr1,h⟩:=run_ldV (P:=P) h
        obtain ⟨vs,hl,hr,hk⟩:=ih h
        refine ⟨v::vs,by simp [hl],?_,hk⟩
        simp only [List.mapM_cons,resRun,Sem.run_bind,Sem.run_pure,Result.andThen_ok,hr,ha _ _ hv,asAddr,hr1]
      · exact h.elim
theorem run_results {fn:Func} {a:Act} {w:World} {fr:Fr} {K:List Value→Prop} (ha:∀i v,fr.getD i none=some v→a.tmps.getD i undef=v) (h:retV P fn.results.toList fr (hpz w) K):∃vs,(results fn a.tmps).run P w=.ok (oneOr vs) w∧K vs:=by
  obtain ⟨vs,hl,hr,hk⟩:=run_retV ha h
  refine ⟨vs,?_,hk⟩
  have e:results fn a.tmps=(do let vs ←fn.results.mapM (resRun a.tmps);pure (if h:vs.size=1 then vs[0] else .tuple vs)):=by
    unfold results
    congr 1
  rw [e,←Array.toArray_toList (xs:=fn.results),List.mapM_toArray]
  simp only [map_eq_pure_bind,Sem.run_bind,hr,Result.andThen_ok,Sem.run_pure]
  congr 1
  match vs with
  | []=>simp [oneOr]
  | [v]=>simp [oneOr]
  | v::u::vs=>simp [oneOr]
theorem run_take {w:World} {x:Nat} (h:w.heap[x]? = some (.deferred (some []))):(Instr.takeDeferred x).run P w=.ok [] { w with heap:=w.heap.setIfInBounds x (.deferred none) }:=by
  simp [Instr.takeDeferred,getObj,setObj,Sem.run,h]
theorem hpz_take {w:World} {x:Nat} (h:w.heap[x]? = some (.deferred (some []))):hpz { w with heap:=w.heap.setIfInBounds x (.deferred none) }=hpz w:=by
  rw [hpz_set]
  apply Array.ext_getElem?
  intro i
  rw [Array.getElem?_setIfInBounds]
  split
  · rename_i e
    subst e
    split
    · rw [nrm_at,h];rfl
    · rw [Array.getElem?_eq_none (by omega)]
  · rfl
theorem leaves_marks {fn:Func} {tmps:Array Value} {n0:Nat} {w0:World} {R:Ending→World→Prop} {u:FrameMode} (hu:u≠.run) (h0:w0.heap.size=n0) (X:World→Prop)
    (hX:∀w,X w→LeavesInM (Fc none) 0 P fn tmps R [] u w) (hx:∀w x,Same w0 w→n0≤x→w.heap[x]? = some (.deferred (some []))→X w→X { w with heap:=w.heap.setIfInBounds x (.deferred none) }) :
    ∀ (rs:List Nat) (w:World),Same w0 w→rs.Nodup→(∀x∈rs,n0≤x∧w.heap[x]? = some (.deferred (some [])))→X w →
      LeavesInM (Fc none) 0 P fn tmps R (rs.map fun x=>{ target:=.collected x,args:=#[] }) u w:=by
  intro rs
  induction rs with
  | nil=>intro w hs hnd hrs hw;exact hX w hw
  | cons x rs ih =>
    intro w hs hnd hrs hw
    obtain ⟨hxn,hxh⟩:=hrs x (by simp)
    refine ⟨hu, .inl ⟨x,_,rfl,run_take hxh,?_⟩⟩
    refine ih _ ?_ (List.nodup_cons.1 hnd).2 ?_ (hx w x hs hxn hxh hw)
    · refine ⟨hs.1,hs.2.1,hs.2.2.1,by simpa using hs.2.2.2.1,fun b d hb => ?_⟩
      have hlt:=(Array.getElem?_eq_some_iff.1 hb).1
      simp only [Array.getElem?_setIfInBounds]
      rw [if_neg (by omega)]
      exact hs.2.2.2.2 b d hb
    · intro y hy
      obtain ⟨h1,h2⟩:=hrs y (by simp [hy])
      refine ⟨h1,?_⟩
      have:x≠y:=fun e=>(List.nodup_cons.1 hnd).1 (e ▸ hy)
      simp only [Array.getElem?_setIfInBounds]
      rw [if_neg this]
      exact h2
theorem fn_of {ann:Ann} {D:Nat→Array Oper→(Fr→Hp→Prop)→(List PanicEntry→Hp→Prop)→Fr→Hp→Prop} (hD:DrawOk P none D) {f:FuncId} {fn:Func} {c:Code} {zs:List Value} {args:List Value} {h:Hp}
    {Kv:Value→Hp→Prop} {Kp:List PanicEntry→Hp→Prop} (hf:P.funcs[f]? = some fn) (hb:fn.body=some c)
    (H:sem P ann D none c (retQ P fn.results.toList zs Kv) Kp (args.map some++List.replicate (fn.ntmps - args.length) none) h):CallH P f args h (fun v h'=>resEx zs v fun v'=>Kv v' h') Kp:=by
  intro w hw
  subst hw
  have:=callsIn_of_wp_marks (F:=Fc none) (n:=0) (args:=args.toArray) (w:=w) (R:=fun e w'=>Same w w'∧match e with
    | .returned v=>resEx zs v fun v'=>Kv v' (hpz w')
    | .panicked ch=>Kp ch (hpz w')
    | .outgrown=>False) hf hb trivial ?_ rfl
  · exact (callsIn_wide (n:=0)).1 this
  · refine wpIn_mono (sem_sound hD w.heap.size [] [] false c (codeT_nil c) _ Kp _ _ w (Agr.start args fn.ntmps []) ⟨⟨[],rfl,by simp,by simp⟩,by simp,by simp⟩ (Nat.le_refl _) H) ?_
    rintro e a' w' ⟨hm,hs,he⟩
    obtain ⟨⟨rs,hdef,hnd,hrs⟩,_⟩:=hm
    rw [List.append_nil] at hdef
    have same_take:∀w1 x,Same w w1→w.heap.size≤x→Same w { w1 with heap:=w1.heap.setIfInBounds x (.deferred none) }:=by
      intro w1 x hs1 hx
      refine ⟨hs1.1,hs1.2.1,hs1.2.2.1,by simpa using hs1.2.2.2.1,fun b d hbd => ?_⟩
      have hlt:=(Array.getElem?_eq_some_iff.1 hbd).1
      simp only [Array.getElem?_setIfInBounds]
      rw [if_neg (by omega)]
      exact hs1.2.2.2.2 b d hbd
    have fin:∀fr,Agr fr a'→(retV P fn.results.toList fr (hpz w') fun vs=>resUn zs (oneOr vs) fun v=>Kv v (hpz w')) →
        LeavesInM (Fc none) 0 P fn a'.tmps (fun e w'=>Same w w'∧match e with
          | .returned v=>resEx zs v fun v'=>Kv v' (hpz w')
          | .panicked ch=>Kp ch (hpz w')
          | .outgrown=>False) a'.defers .returning w':=by
      intro fr ha hr
      rw [hdef]
      refine leaves_marks (by simp) rfl (fun w1=>Same w w1∧hpz w1=hpz w') ?_ ?_ rs w' hs hnd hrs ⟨hs,rfl⟩
      · rintro w1 ⟨hs1,he1⟩
        rw [←he1] at hr
        obtain ⟨vs,hrun,hk⟩:=run_results (P:=P) ha.val hr
        exact ⟨_,hrun,hs1,resUn_ex hk⟩
      · rintro w1 x hs1 hx hxx ⟨_,he1⟩
        exact ⟨same_take w1 x hs1 hx,(hpz_take hxx).trans he1⟩
    cases e with
    | normal=>obtain ⟨fr,ha,hr⟩:=he;exact fin fr ha hr
    | ret=>obtain ⟨fr,ha,hr⟩:=he;exact fin fr ha hr
    | panic ch =>
      show LeavesInM _ _ _ _ _ _ a'.defers _ _
      rw [hdef]
      refine leaves_marks (by simp) rfl (fun w1=>Same w w1∧hpz w1=hpz w') ?_ ?_ rs w' hs hnd hrs ⟨hs,rfl⟩
      · rintro w1 ⟨hs1,he1⟩
        exact ⟨hs1,by rw [he1];exact he⟩
      · rintro w1 x hs1 hx hxx ⟨_,he1⟩
        exact ⟨same_take w1 x hs1 hx,(hpz_take hxx).trans he1⟩
    | exit id=>obtain ⟨fr,ha,hr⟩:=he;exact hr.elim
    | goto l=>obtain ⟨fr,ha,hr⟩:=he;exact hr.elim
    | outgrown=>exact he.elim
end Go.Sh
