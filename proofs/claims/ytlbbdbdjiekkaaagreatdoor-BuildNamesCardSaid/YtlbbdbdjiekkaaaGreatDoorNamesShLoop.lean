/- Words for the printed texts of functions: places in code, contexts, the rule of a loop. -/
import Derived.Test.YtlbbdbdjiekkaaaGreatDoorNamesShDraw
set_option linter.unusedVariables false
set_option linter.unusedSimpArgs false
namespace Go.Sh
variable {P:Program}
def sub:List Nat→Code→Code
  | [],c=>c
  | 0::p, .seq x _=>sub p x
  | _::p, .seq _ y=>sub p y
  | 0::p, .cond _ x _=>sub p x
  | _::p, .cond _ _ y=>sub p y
  | _::p, .block _ x=>sub p x
  | _::p, .loop x=>sub p x
  | 0::p, .rangeFunc _ _ x _=>sub p x
  | _::p, .rangeFunc _ _ _ y=>sub p y
  | _,c=>c
def ctxQ (P:Program) (ann:Ann) (D:Nat→Array Oper→(Fr→Hp→Prop)→(List PanicEntry→Hp→Prop)→Fr→Hp→Prop) (rd:Option Nat) (Kp:List PanicEntry→Hp→Prop) :
    List Nat→Code→List (Fr→Hp→Prop)→Qt→Qt
  | 0::p, .seq x y,Ns,Q=>ctxQ P ann D rd Kp p x Ns (thenQ (fun fr' h'=>ann.at (joinId y) fr' fun fr''=>sem P ann D rd y Q Kp fr'' h') Q)
  | _::p, .seq _ y,Ns,Q=>ctxQ P ann D rd Kp p y Ns Q
  | 0::p, .cond _ x _,Ns,Q=>ctxQ P ann D rd Kp p x Ns Q
  | _::p, .cond _ _ y,Ns,Q=>ctxQ P ann D rd Kp p y Ns Q
  | _::p, .block id x,Ns,Q=>ctxQ P ann D rd Kp p x Ns (blockQ id Q)
  | _::p, .loop x,N::Ns,Q=>ctxQ P ann D rd Kp p x Ns (thenQ (fun fr' h'=>N (ann.find (firstId x+2000) fr') h') Q)
  | _,_,_,Q=>Q
theorem loop_rule {σ:Type} {B:(Fr→Hp→Prop)→Fr→Hp→Prop} (mk:σ→Fr) (T:(Fr→Hp→Prop)→σ→Hp→Prop) (hT:∀N s h,T N s h=B N (mk s) h) (I:σ→Hp→Prop) (μ:σ→Hp→Nat) {s0:σ} {h:Hp}
    (h0:I s0 h) (step:∀s h,I s h→∀N:Fr→Hp→Prop,(∀s' h',I s' h'→μ s' h' < μ s h→N (mk s') h')→T N s h):LoopH B (mk s0) h:=by
  have key:∀n s h,I s h→μ s h < n→iterN B n (mk s) h:=by
    intro n
    induction n with
    | zero=>intro s h _ hlt;omega
    | succ n ih =>
      intro s h hI hlt
      show B (iterN B n) (mk s) h
      rw [←hT]
      exact step s h hI _ fun s' h' hI' hlt'=>ih s' h' hI' (by omega)
  exact ⟨_,key _ s0 h h0 (Nat.lt_succ_self _)⟩
def bs (l:List UInt8):ByteArray:=⟨l.toArray⟩
def Lt {α:Type} (x:α) (K:α→Prop):Prop:=K x
def Keep (h h':Hp) (a:Addr) (n:Nat) (X:Prop):Prop:=KeepAt h h' a n∧X
abbrev HP:=Hp→Prop
abbrev PK:=List PanicEntry→HP
abbrev nO:Option Value:=none
abbrev vP (a:Addr):Option Value:=some (.pointer (some a))
abbrev vI (x:Int):Option Value:=some (.int .i64 x)
abbrev vS (s:Sl):Option Value:=some s.v
abbrev mI (x:Int):Value:=.int .i64 x
def nn (n:Nat):Fr:=List.replicate n none
def rI (v:Value) (K:Int→Prop):Prop:=match v with | .int _ x=>K x | _=>False
def rB (v:Value) (K:Bool→Prop):Prop:=match v with | .bool x=>K x | _=>False
def rT (v:Value) (K:ByteArray→Prop):Prop:=match v with | .string x=>K x | _=>False
def rS (v:Value) (K:Sl→Prop):Prop:=match v with | .slice a n c=>K ⟨a,n,c⟩ | _=>False
def rP (v:Value) (K:Option Addr→Prop):Prop:=match v with | .pointer x=>K x | _=>False
def rA (v:Value) (K:Value→Prop):Prop:=K v
def rG (v:Value) (K:List Value→Prop):Prop:=match v with | .agg x=>K x.toList | _=>False
def rU (v:Value) (K:List Value→Prop):Prop:=match v with | .tuple x=>K x.toList | _=>False
abbrev OrdT:=List (Nat × OT × List Nat)
/-- where a stretch of a function's code stands -/
structure Cx where
  P:Program
  ann:Ann
  ord:OrdT
  rd:Option Nat
  c:Code
  q:Qt
  Kp:PK
def semJ0 (C:Cx) (p:List Nat) (Ns:List (Fr→HP)) (fr:Fr) (h:Hp):Prop:=sem C.P C.ann (DrawSem C.P C.ord) C.rd (sub p C.c) (ctxQ C.P C.ann (DrawSem C.P C.ord) C.rd C.Kp p C.c Ns C.q) C.Kp fr h
/-- a join's word -/
def semJ (C:Cx) (p:List Nat) (Ns:List (Fr→HP)) (fr:Fr) (h:Hp):Prop:=Joint (sem C.P C.ann (DrawSem C.P C.ord) C.rd (sub p C.c) (ctxQ C.P C.ann (DrawSem C.P C.ord) C.rd C.Kp p C.c Ns C.q) C.Kp fr h)
/-- a join's within a region -/
def semR (C:Cx) (p:List Nat) (Ns:List (Fr→HP)) (id:Nat) (l:List Nat) (fr:Fr) (h:Hp):Prop:=Joint (semOps C.P (Ann.reg id C.ann) (regOps (sub p C.c)) l (ctxQ C.P C.ann (DrawSem C.P C.ord) C.rd C.Kp p C.c Ns C.q .normal) C.Kp fr h)
/-- a loop's -/
def semB (C:Cx) (k:Nat) (p:List Nat) (Ns:List (Fr→HP)) (N:Fr→HP) (fr:Fr) (h:Hp):Prop:=sem C.P C.ann (DrawSem C.P C.ord) C.rd (sub (p++[0]) C.c) (thenQ (fun fr' h'=>N (C.ann.find k fr') h') (ctxQ C.P C.ann (DrawSem C.P C.ord) C.rd C.Kp p C.c Ns C.q)) C.Kp fr h
def semL (C:Cx) (k:Nat) (p:List Nat) (Ns:List (Fr→HP)) (fr:Fr) (h:Hp):Prop:=LoopH (semB C k p Ns) fr h
theorem jof {A B:Prop} (H:A) (e:A=B):Joint B:=⟨e ▸ H⟩
theorem fnof {ann:Ann} {o:OrdT} {f:FuncId} {fn:Func} {zs:List Value} {args:List Value} {h:Hp} {Kv:Value→Hp→Prop} {Kp:PK} {S:Prop} {K':Value→Hp→Prop} (hf:P.funcs[f]? = some fn) (hb:fn.body.isSome=true)
    (H:S) (hS:S=sem P ann (DrawSem P o) none (fn.body.getD .skip) (retQ P fn.results.toList zs Kv) Kp (args.map some++List.replicate (fn.ntmps - args.length) none) h)
    (hK:(fun v h'=>resEx zs v fun v'=>Kv v' h')=K'):CallH P f args h K' Kp:=by
  obtain ⟨c,hc⟩:=Option.isSome_iff_exists.1 hb
  rw [hc] at hS
  exact hK ▸ fn_of (drawOk _) hf hc (hS ▸ H)
def LR0 (L:HP) (mk:Fr) (T:(Fr→HP)→HP):Prop:=∀(I:HP) (μ:Hp→Nat) {h:Hp},I h→(∀h,I h→∀N:Fr→HP,(∀h',I h'→μ h' < μ h→N mk h')→T N h)→L h
theorem loop0 {B:(Fr→HP)→Fr→HP} {L:HP} {mk:Fr} {T:(Fr→HP)→HP} (hL:∀h,L h=LoopH B mk h) (hT:∀N h,T N h=B N mk h):LR0 L mk T:=by
  intro I μ  h h0 step
  rw [hL]
  exact loop_rule (σ:=Unit) (fun s=>mk) (fun N s h=>T N h) (fun N s h=>hT N h) (fun s h=>I h) (fun s h=>μ h) (s0:=()) h0 fun s h hI N hN=>step h hI N fun h' hI' hl=>hN () h' hI' hl
def LR1 {A0:Type} (L:A0→HP) (mk:A0→Fr) (T:(Fr→HP)→A0→HP):Prop:=∀(I:A0→HP) (μ:A0→Hp→Nat) {x0:A0} {h:Hp},I x0 h→(∀x0 h,I x0 h→∀N:Fr→HP,(∀y0 h',I y0 h'→μ y0 h' < μ x0 h→N (mk y0) h')→T N x0 h)→L x0 h
theorem loop1 {A0:Type} {B:(Fr→HP)→Fr→HP} {L:A0→HP} {mk:A0→Fr} {T:(Fr→HP)→A0→HP} (hL:∀x0 h,L x0 h=LoopH B (mk x0) h) (hT:∀N x0 h,T N x0 h=B N (mk x0) h):LR1 L mk T:=by
  intro I μ x0 h h0 step
  rw [hL]
  exact loop_rule (σ:=A0) (fun s=>mk s ) (fun N s h=>T N s h) (fun N s h=>hT N s h) (fun s h=>I s h) (fun s h=>μ s h) (s0:=x0) h0 fun s h hI N hN=>step s h hI N fun y0 h' hI' hl=>hN y0 h' hI' hl
def LR2 {A0 A1:Type} (L:A0→A1→HP) (mk:A0→A1→Fr) (T:(Fr→HP)→A0→A1→HP):Prop:=∀(I:A0→A1→HP) (μ:A0→A1→Hp→Nat) {x0:A0} {x1:A1} {h:Hp},I x0 x1 h→(∀x0 x1 h,I x0 x1 h→∀N:Fr→HP,(∀y0 y1 h',I y0 y1 h'→μ y0 y1 h' < μ x0 x1 h→N (mk y0 y1) h')→T N x0 x1 h)→L x0 x1 h
theorem loop2 {A0 A1:Type} {B:(Fr→HP)→Fr→HP} {L:A0→A1→HP} {mk:A0→A1→Fr} {T:(Fr→HP)→A0→A1→HP} (hL:∀x0 x1 h,L x0 x1 h=LoopH B (mk x0 x1) h) (hT:∀N x0 x1 h,T N x0 x1 h=B N (mk x0 x1) h):LR2 L mk T:=by
  intro I μ x0 x1 h h0 step
  rw [hL]
  exact loop_rule (σ:=A0 × A1) (fun s=>mk (s.1) (s.2) ) (fun N s h=>T N (s.1) (s.2) h) (fun N s h=>hT N (s.1) (s.2) h) (fun s h=>I (s.1) (s.2) h) (fun s h=>μ (s.1) (s.2) h) (s0:=⟨x0,x1⟩) h0 fun s h hI N hN=>step (s.1) (s.2) h hI N fun y0 y1 h' hI' hl=>hN ⟨y0,y1⟩ h' hI' hl
end Go.Sh
