/- A computable weakest-precondition reading of the model's code over heaps alone: words and definitions. (Part of a library of the prover's own; no statement is proved here.) -/
import Derived.CallsIn
import Derived.KernelRfl
import Derived.WalkKit
import Derived.TacticsInMore
set_option linter.unusedVariables false
set_option linter.unusedSimpArgs false
namespace Go.Sh
abbrev Hp:=Array Obj
abbrev Fr:=List (Option Value)
/-! ### heaps -/
def cell (h:Hp) (a:Addr):Option Value :=
  match h[a.block]? with
  | some (.cells c _ _)=>if a.spot.isSome then none else c[a.off]?
  | _=>none
def frz (h:Hp) (a:Addr):Bool :=
  match h[a.block]? with
  | some (.cells _ _ (lo,hi))=>lo≤a.off && a.off < hi
  | _=>false
def put (h:Hp) (a:Addr) (v:Value):Hp :=
  h.modify a.block fun
    | .cells c elem frozen=>.cells (if a.spot.isSome then c else c.setIfInBounds a.off v) elem frozen
    | o=>o
/-- blocks for the deferred calls of ranges over functions are not told apart -/
def nrm:Obj→Obj
  | .deferred _=>.deferred none
  | o=>o
/-- the heap of a world, as it is read here -/
def hpz (w:World):Hp:=w.heap.map nrm
def Same (w w':World):Prop:=w'.tape=w.tape∧w'.os=w.os∧w'.output=w.output∧w.heap.size≤w'.heap.size∧∀(b:Nat) ds,w.heap[b]? = some (.deferred ds)→w'.heap[b]? = some (.deferred ds)
theorem Same.refl (w:World):Same w w:=⟨rfl,rfl,rfl,Nat.le_refl _,fun _ _ h=>h⟩
theorem Same.trans {a b c:World} (h:Same a b) (h':Same b c):Same a c:=⟨h'.1.trans h.1,h'.2.1.trans h.2.1,h'.2.2.1.trans h.2.2.1,Nat.le_trans h.2.2.2.1 h'.2.2.2.1,fun x ds hx=>h'.2.2.2.2 x ds (h.2.2.2.2 x ds hx)⟩
/-! ### typed values -/
structure Sl where
  a:Option Addr
  n:Nat
  c:Nat
def Sl.v (s:Sl):Value:=.slice s.a s.n s.c
def Sl.nil:Sl:=⟨none,0,0⟩
/-- some value of the kind of this zero value -/
def tyEx (z:Value) (K:Value→Prop):Prop :=
  match z with
  | .int k _=>∃n:Int,K (.int k n)
  | .bool _=>∃b:Bool,K (.bool b)
  | .string _=>∃s:ByteArray,K (.string s)
  | .slice _ _ _=>∃s:Sl,K s.v
  | .pointer _=>∃p:Option Addr,K (.pointer p)
  | .map _=>∃r:Option Nat,K (.map r)
  | _=>∃v:Value,K v
def tyMany:List Value→(List Value→Prop)→Prop
  | [],K=>K []
  | z::zs,K=>tyEx z fun v=>tyMany zs fun vs=>K (v::vs)
/-- some value of the kind of this zero value, aggregates too -/
def tyComp (z:Value) (K:Value→Prop):Prop :=
  match z with
  | .agg zs=>tyMany zs.toList fun vs=>K (.agg vs.toArray)
  | z=>tyEx z K
def tyComps:List Value→(List Value→Prop)→Prop
  | [],K=>K []
  | z::zs,K=>tyComp z fun v=>tyComps zs fun vs=>K (v::vs)
/-- the value, if it is of the kind of this zero value -/
def unEx (z v:Value) (p:Value→Prop):Prop :=
  match z with
  | .int k _=>match v with | .int k' n=>if k'=k then p (.int k n) else False | _=>False
  | .bool _=>match v with | .bool b=>p (.bool b) | _=>False
  | .string _=>match v with | .string s=>p (.string s) | _=>False
  | .slice _ _ _=>match v with | .slice a n c=>p (Sl.v ⟨a,n,c⟩) | _=>False
  | .pointer _=>match v with | .pointer a=>p (.pointer a) | _=>False
  | .map _=>match v with | .map r=>p (.map r) | _=>False
  | _=>p v
def unMany:List Value→List Value→(List Value→Prop)→Prop
  | [],[],p=>p []
  | z::zs,v::vs,p=>unEx z v fun x=>unMany zs vs fun xs=>p (x::xs)
  | _,_,_=>False
def unComp (z v:Value) (p:Value→Prop):Prop :=
  match z with
  | .agg zs=>match v with | .agg vs=>unMany zs.toList vs.toList fun xs=>p (.agg xs.toArray) | _=>False
  | z=>unEx z v p
def unComps:List Value→List Value→(List Value→Prop)→Prop
  | [],[],p=>p []
  | z::zs,v::vs,p=>unComp z v fun x=>unComps zs vs fun xs=>p (x::xs)
  | _,_,_=>False
theorem unEx_ty {z v:Value} {p:Value→Prop} (h:unEx z v p):tyEx z fun x=>v=x∧p x:=by
  cases z <;> cases v <;> simp only [unEx,tyEx] at h ⊢ <;> first
    | exact h.elim
    | exact ⟨_,rfl,h⟩
    | exact ⟨⟨_,_,_⟩,rfl,h⟩
    | (split at h <;> first | exact h.elim | (rename_i e;subst e;exact ⟨_,rfl,h⟩))
theorem tyEx_mono {z:Value} {K K':Value→Prop} (h:tyEx z K) (hk:∀v,K v→K' v):tyEx z K':=by
  unfold tyEx at h ⊢
  split at h <;> (obtain ⟨x,hx⟩:=h;exact ⟨x,hk _ hx⟩)
theorem tyMany_mono {zs:List Value}:∀{K K':List Value→Prop},tyMany zs K→(∀v,K v→K' v)→tyMany zs K':=by
  induction zs with
  | nil=>intro K K' h hk;exact hk _ h
  | cons z zs ih=>intro K K' h hk;exact tyEx_mono h fun v hv=>ih hv fun vs hvs=>hk _ hvs
theorem tyComp_mono {z:Value} {K K':Value→Prop} (h:tyComp z K) (hk:∀v,K v→K' v):tyComp z K':=by
  unfold tyComp at h ⊢
  split at h
  · exact tyMany_mono h fun vs hvs=>hk _ hvs
  · exact tyEx_mono h hk
theorem tyComps_mono {zs:List Value}:∀{K K':List Value→Prop},tyComps zs K→(∀v,K v→K' v)→tyComps zs K':=by
  induction zs with
  | nil=>intro K K' h hk;exact hk _ h
  | cons z zs ih=>intro K K' h hk;exact tyComp_mono h fun v hv=>ih hv fun vs hvs=>hk _ hvs
theorem tyEx_get {z:Value} {K:Value→Prop} (h:tyEx z K):∃v,K v:=by
  unfold tyEx at h;split at h <;> (obtain ⟨x,hx⟩:=h;exact ⟨_,hx⟩)
theorem tyMany_get {zs:List Value}:∀{K:List Value→Prop},tyMany zs K→∃vs,vs.length=zs.length∧K vs:=by
  induction zs with
  | nil=>intro K h;exact ⟨[],rfl,h⟩
  | cons z zs ih =>
    intro K h
    obtain ⟨v,hv⟩:=tyEx_get h
    obtain ⟨vs,hl,hvs⟩:=ih hv
    exact ⟨v::vs,by simp [hl],hvs⟩
theorem tyComp_get {z:Value} {K:Value→Prop} (h:tyComp z K):∃v,K v:=by
  unfold tyComp at h
  split at h
  · obtain ⟨vs,_,h⟩:=tyMany_get h;exact ⟨_,h⟩
  · exact tyEx_get h
theorem tyComps_get {zs:List Value}:∀{K:List Value→Prop},tyComps zs K→∃vs,vs.length=zs.length∧K vs:=by
  induction zs with
  | nil=>intro K h;exact ⟨[],rfl,h⟩
  | cons z zs ih =>
    intro K h
    obtain ⟨v,hv⟩:=tyComp_get h
    obtain ⟨vs,hl,hvs⟩:=ih hv
    exact ⟨v::vs,by simp [hl],hvs⟩
theorem unMany_ty:∀{zs vs:List Value} {p:List Value→Prop},unMany zs vs p→tyMany zs fun xs=>vs=xs∧p xs:=by
  intro zs
  induction zs with
  | nil=>intro vs p h;cases vs with
    | nil=>exact ⟨rfl,h⟩
    | cons=>exact h.elim
  | cons z zs ih =>
    intro vs p h
    cases vs with
    | nil=>exact h.elim
    | cons v vs =>
      refine tyEx_mono (unEx_ty h) ?_
      rintro x ⟨rfl,hx⟩
      refine tyMany_mono (ih hx) ?_
      rintro xs ⟨rfl,hxs⟩
      exact ⟨rfl,hxs⟩
theorem unComp_ty {z v:Value} {p:Value→Prop} (h:unComp z v p):tyComp z fun x=>v=x∧p x:=by
  unfold unComp at h
  unfold tyComp
  split at h
  · split at h
    · refine tyMany_mono (unMany_ty h) ?_
      rintro xs ⟨hx,hp⟩
      exact ⟨by rw [←hx],hp⟩
    · exact h.elim
  · exact unEx_ty h
theorem unComps_ty:∀{zs vs:List Value} {p:List Value→Prop},unComps zs vs p→tyComps zs fun xs=>vs=xs∧p xs:=by
  intro zs
  induction zs with
  | nil=>intro vs p h;cases vs with
    | nil=>exact ⟨rfl,h⟩
    | cons=>exact h.elim
  | cons z zs ih =>
    intro vs p h
    cases vs with
    | nil=>exact h.elim
    | cons v vs =>
      refine tyComp_mono (unComp_ty h) ?_
      rintro x ⟨rfl,hx⟩
      refine tyComps_mono (ih hx) ?_
      rintro xs ⟨rfl,hxs⟩
      exact ⟨rfl,hxs⟩
/-! ### words of the printed text -/
def Wr (k:IntKind) (x:Int) (K:Int→Prop):Prop:=K (k.wrap x)
def Dv (b:Int) (X:Prop):Prop:=b≠0∧X
def Nn (b:Int) (X:Prop):Prop:=0≤b∧X
def If (c:Bool) (A B:Prop):Prop:=match c with | true=>A | false=>B
def NN (p:Option Addr) (K:Addr→Prop):Prop:=match p with | some a=>K a | none=>False
def Ld {α:Type} (h:Hp) (a:Addr) (mk:α→Value) (K:α→Prop):Prop:=∃x,cell h a=some (mk x)∧K x
def one:Value→Bool | .agg _ | .tuple _=>false | _=>true
def St (h:Hp) (a:Addr) (v:Value) (K:Hp→Prop):Prop:=one v=true∧(cell h a).isSome=true∧frz h a=false∧K (put h a v)
def StL (h:Hp) (a:Addr) (i:Nat):List Value→(Hp→Prop)→Prop
  | [],K=>K h
  | v::vs,K=>St h (a.add i) v fun h'=>StL h' a (i+1) vs K
def New (h:Hp) (cells:Array Value) (t:TypeId) (K:Addr→Hp→Prop):Prop:=K ⟨h.size,0,none⟩ (h.push (.cells cells t (0,0)))
/-- the index i into n things from a on, each of 'size' cells -/
def Ix (p:Option Addr) (n:Nat) (size:Nat) (i:Int) (K:Addr→Prop):Prop :=
  match p with | some a=>0≤i∧i < n∧K (a.add (i.toNat*size)) | none=>False
def slAt (p:Option Addr) (l m size:Nat):Option Addr:=if m=l then p else p.map (·.add (l*size))
def Slc (s:Sl) (size:Nat) (lo hi mx:Option Int) (K:Sl→Prop):Prop :=
  0 ≤ lo.getD 0∧lo.getD 0≤hi.getD s.n∧hi.getD s.n≤mx.getD s.c∧mx.getD s.c≤s.c ∧
    K ⟨slAt s.a (lo.getD 0).toNat (mx.getD s.c).toNat size,(hi.getD s.n).toNat - (lo.getD 0).toNat,(mx.getD s.c).toNat - (lo.getD 0).toNat⟩
def SlcS (s:ByteArray) (lo hi:Option Int) (K:ByteArray→Prop):Prop :=
  0≤lo.getD 0∧lo.getD 0≤hi.getD s.size∧hi.getD s.size≤s.size∧K (s.extract (lo.getD 0).toNat (hi.getD s.size).toNat)
def IxS (s:ByteArray) (i:Int) (K:Int→Prop):Prop:=∃b,0≤i∧s[i.toNat]? = some b∧K (b.toNat:Int)
def zs (zero:Array Value) (n:Nat):Array Value:=(Array.range n).map fun i=>zero[i % zero.size]!
def MkS (h:Hp) (elem:TypeId) (zero:Array Value) (size bytes:Nat) (l c:Int) (K:Sl→Hp→Prop):Prop :=
  0≤l∧l≤c∧(bytes:Int)*c≤2 ^ 48∧c < 2 ^ 63∧K ⟨some ⟨h.size,0,none⟩,l.toNat,c.toNat⟩ (h.push (.cells (zs zero (c.toNat*size)) elem (0,0)))
/-- what stands in n cells from an address on -/
def rd (h:Hp) (p:Option Addr) (n:Nat) (vs:List Value):Prop :=
  match p with | none=>vs=[] | some a=>vs.length=n∧∀(i:Nat) v,vs[i]? = some v→cell h (a.add i)=some v
def Ap (h:Hp) (elem:TypeId) (zero:Array Value) (size bytes:Nat) (s:Sl) (n:Nat) (vals:List Value→Prop) (K:Sl→Hp→Prop):Prop :=
  ∃ vs,vals vs ∧
    ((s.n+n≤s.c∧(match s.a with | some a=>StL h (a.add (s.n*size)) 0 vs fun h'=>K ⟨s.a,s.n+n,s.c⟩ h' | none=>K ⟨s.a,s.n+n,s.c⟩ h)) ∨
     (s.c < s.n+n∧Builtin.nextslicecap (s.n+n) s.c*bytes≤2 ^ 48∧s.n+n < 2 ^ 63∧∃old,rd h s.a (s.n*size) old ∧
      ∀newCap,s.n+n≤newCap→newCap < 2 ^ 63→K ⟨some ⟨h.size,0,none⟩,s.n+n,newCap⟩ (h.push (.cells ((old++vs).toArray++Builtin.zeroCells zero (newCap - (s.n+n))) elem (0,0)))))
def Bts (h:Hp) (s:Sl) (K:ByteArray→Prop):Prop :=
  ∃bs:List UInt8,rd h s.a s.n (bs.map fun b=>.int .u8 b.toNat)∧K ⟨bs.toArray⟩
/-! ### the mark of a join -/
structure Joint (p:Prop):Prop where
  h:p
abbrev bsel (c:Bool) (a b:Prop):Prop:=match c with | true=>a | false=>b
theorem bsel_true (a b:Prop):bsel true a b=a:=rfl
theorem bsel_false (a b:Prop):bsel false a b=b:=rfl
def zeroOf (P:Program) (t:TypeId):Option Value:=(P.info? t).bind (·.zero)
def sizeP (P:Program) (t:TypeId):Option Nat:=(P.info? t).map (·.size)
def isAggD:TypeDesc→Bool | .struct _ | .array _ _=>true | _=>false
def partV (P:Program) (t:TypeId) (cs:Array Value) (off:Nat):Option Value :=
  match P.underlying t,sizeP P t with
  | some d,some n=>bif isAggD d then some (.agg (cs.extract off (off+n))) else cs[off]?
  | _,_=>none
/-! ### maps -/
def keyD:TypeDesc→Bool | .int _=>true | .string=>true | .bool=>true | _=>false
/-- a key is looked up -/
def Lk {α:Type} (h:Hp) (m:Option Nat) (kd:TypeDesc) (key z:Value) (mk:α→Value) (K:α→Bool→Prop):Prop :=
  match m with
  | none=>∃x,z=mk x∧K x false
  | some r=>∃es c res,h[r]? = some (.map es c)∧Instr.findNow kd key es.toList 0=some res∧∃x,match res with | some (_,u)=>u=mk x∧K x true | none=>z=mk x∧K x false
def lkV (h:Hp) (m:Option Nat) (kd:TypeDesc) (key z:Value) (K:Value→Bool→Prop):Prop :=
  match m with
  | none=>tyEx z fun v=>z=v∧K v false
  | some r=>∃es c res,h[r]? = some (.map es c)∧Instr.findNow kd key es.toList 0=some res∧tyEx z fun v=>match res with | some (_,u)=>u=v∧K v true | none=>z=v∧K v false
/-- a key's value is set -/
def Up (h:Hp) (m:Option Nat) (kd:TypeDesc) (key val:Value) (K:Hp→Prop):Prop :=
  match m with
  | none=>False
  | some r=>∃es c res,h[r]? = some (.map es c)∧Instr.findNow kd key es.toList 0=some res ∧
      K (h.setIfInBounds r (match res with | some (i,_)=>.map (es.modify i fun e=>{ e with key:=key,val:=val }) c | none=>.map (es.push { key:=key,val:=val,born:=c }) (c+1)))
def NewM (h:Hp) (K:Nat→Hp→Prop):Prop:=K h.size (h.push (.map #[] 0))
def ixA (P:Program) (elem:TypeId) (cs:Array Value) (n:Nat) (i:Int) (K:Value→Prop):Prop :=
  match P.underlying elem,zeroOf P elem with
  | some d,some z=>bsel (isAggD d) (False)<|if sizeP P elem=some 1 then 0≤i∧i < n∧tyEx z fun v=>cs[i.toNat]? = some v∧K v else False
  | _,_=>False
def CallH (P:Program) (f:FuncId) (args:List Value) (h:Hp) (K:Value→Hp→Prop) (Kp:List PanicEntry→Hp→Prop):Prop :=
  ∀ w:World,hpz w=h→Calls P f args.toArray w fun e w'=>Same w w'∧match e with
    | .returned v=>K v (hpz w')
    | .panicked ch=>Kp ch (hpz w')
    | .outgrown=>False
abbrev Fc (r:Option Nat):Fence:={ fn:=fun _=>True,depth:=none,alive:=false,round:=r }
/-- yield is called: a round of the loop l -/
def YieldH (P:Program) (l:Nat) (args:List Value) (h:Hp) (K:Value→Hp→Prop) (Kp:List PanicEntry→Hp→Prop):Prop :=
  ∀ w : World,hpz w=h→∃fn tmps assign body,(Instr.yield l args.toArray).run P w=.ok (.round l fn tmps assign body) w ∧
    RoundIn (Fc none) 0 P l fn tmps assign body w fun e w'=>Same w w'∧match e with
      | .returned v=>K v (hpz w')
      | .panicked ch=>Kp ch (hpz w')
      | .outgrown=>False
def okFn (P:Program) (g:Nat):Bool:=match P.funcs[g]? with | some fn=>fn.body.isSome && !(fn.name == "runtime.NumGoroutine") | none=>false
/-- a method of a type's own, without a way through fields -/
def methP (P:Program) (t:TypeId) (name:String):Option (FuncId × Bool) :=
  (P.info? t).bind fun i=>(i.methods.find? (·.name == name)).bind fun m=>bif m.path.isEmpty then m.func else none
def recvOk (P:Program) (t:TypeId) (pr:Bool):Bool:=match P.underlying t with | some (.pointer _)=>pr | some _=>!pr | none=>false
/-- a pointer method that a pointer to a struct has by a struct within -/
def methQ (P:Program) (t:TypeId) (name:String):Option (FuncId × Nat) :=
  (P.info? t).bind fun i=>(i.methods.find? (·.name == name)).bind fun m=>match m.path.toList,m.func with
    | [s],some (g,true)=>bif s.deref then (match (match P.underlying s.struct with | some (.struct fs)=>fs[s.index]? | _=>none) with
      | some f=>(match sizeP P f.type,P.underlying f.type with
        | some (_+1),some (.struct _)=>some (g,f.offset)
        | _,_=>none)
      | none=>none) else none
    | _,_=>none
def ptrAt (v:Value) (off:Nat) (K:Value→Prop):Prop:=match v with | .pointer (some a)=>K (.pointer (some (a.add off))) | _=>False
/-- a method of an interface's value is called -/
def CallI (P:Program) (fv:Value) (name:String) (args:List Value) (h:Hp) (K:Value→Hp→Prop) (Kp:List PanicEntry→Hp→Prop):Prop :=
  match fv with
  | .iface t v=>(match methP P t name with
    | some (g,pr)=>bsel (recvOk P t pr && okFn P g) (CallH P g (v::args) h K Kp)<|False
    | none=>(match methQ P t name with
      | some (g,off)=>bsel (okFn P g) (ptrAt v off fun v'=>CallH P g (v'::args) h K Kp)<|False
      | none=>False))
  | _=>False
/-- a method's value of an interface's value is asked not to be nil -/
def MOk (P:Program) (v:Value) (name:String) (X:Prop):Prop :=
  match v with
  | .iface t _=>(match methP P t name with | some (_,true)=>True | _=>False)∧X
  | _=>False
/-- a method of an interface, as a function, is called -/
def CallM (P:Program) (t:TypeId) (name:String) (args:List Value) (h:Hp) (K:Value→Hp→Prop) (Kp:List PanicEntry→Hp→Prop):Prop :=
  match args with
  | r::rest=>(match P.underlying t with
    | some (.interface _)=>CallI P r name rest h K Kp
    | _=>False)
  | []=>False
/-- a function value is called -/
def CallV (P:Program) (fv:Value) (args:List Value) (h:Hp) (K:Value→Hp→Prop) (Kp:List PanicEntry→Hp→Prop):Prop :=
  match fv with
  | .func (.func g) first captured=>bsel (okFn P g) (CallH P g (first.toList++args++captured.toList) h K Kp)<|False
  | .func (.yield l) first _=>YieldH P l (first.toList++args) h K Kp
  | .func (.methodOf t name) first _=>CallM P t name (first.toList++args) h K Kp
  | _=>False
/-- a value is asked not to be nil -/
def NNV (v:Value) (K:Value→Prop):Prop :=
  match v with
  | .pointer p=>NN p fun a=>K (.pointer (some a))
  | .func (.func f) x y=>K (.func (.func f) x y)
  | .slice a n c=>K (.slice a n c)
  | .iface t v=>K (.iface t v)
  | _=>False
/-- the same of any value: a method's value of an interface's value too -/
def NNQ (P:Program) (v:Value) (K:Value→Prop):Prop :=
  match v with
  | .func (.method name) first captured=>(match first.toList with | [u]=>MOk P u name (K (.func (.method name) first captured)) | _=>False)
  | v=>NNV v K
/-! ### operands and operations -/
def ev (fr:Fr):Operand→Option Value
  | .tmp t=>fr.getD t none
  | .const v=>some v
  | .global g=>some (.pointer (some ⟨g,0,none⟩))
  | .func f=>some (.func (.func f) #[] #[])
def evs (e:Operand→Option Value):List Operand→Option (List Value)
  | []=>some []
  | x::xs=>match e x,evs e xs with | some v,some vs=>some (v::vs) | _,_=>none
def evParts (e:Operand→Option Value):List (Nat × Operand)→Option (List (Nat × Value))
  | []=>some []
  | (i,x)::xs=>match e x,evParts e xs with | some v,some vs=>some ((i,v)::vs) | _,_=>none
def bitsV (op:BinOp) (k:IntKind) (a b:Int):Int :=
  match op with
  | .and=>k.wrap (BitVec.ofInt k.bits a &&& BitVec.ofInt k.bits b).toNat
  | .or=>k.wrap (BitVec.ofInt k.bits a ||| BitVec.ofInt k.bits b).toNat
  | .xor=>k.wrap (BitVec.ofInt k.bits a ^^^ BitVec.ofInt k.bits b).toNat
  | _=>k.wrap (BitVec.ofInt k.bits a &&& ~~~(BitVec.ofInt k.bits b)).toNat
def opInt (op:BinOp) (k:IntKind) (a b:Int) (K:Value→Prop):Prop :=
  match op with
  | .add=>Wr k (a+b) fun c=>K (.int k c)
  | .sub=>Wr k (a - b) fun c=>K (.int k c)
  | .mul=>Wr k (a*b) fun c=>K (.int k c)
  | .quo=>Dv b (Wr k (a.tdiv b) fun c=>K (.int k c))
  | .rem=>Dv b (K (.int k (a.tmod b)))
  | .and=>K (.int k (bitsV .and k a b))
  | .or=>K (.int k (bitsV .or k a b))
  | .xor=>K (.int k (bitsV .xor k a b))
  | .andNot=>K (.int k (bitsV .andNot k a b))
  | .shl=>Nn b (Wr k (a*2 ^ (min b.toNat k.bits)) fun c=>K (.int k c))
  | .shr=>Nn b (K (.int k (a.fdiv (2 ^ (min b.toNat k.bits)))))
  | .eql=>K (.bool (a == b))
  | .neq=>K (.bool (a != b))
  | .lss=>K (.bool (decide (a < b)))
  | .leq=>K (.bool (decide (a≤b)))
  | .gtr=>K (.bool (decide (a > b)))
  | .geq=>K (.bool (decide (a≥b)))
def opStr (op:BinOp) (x y:ByteArray) (K:Value→Prop):Prop :=
  match op with
  | .add=>((x.size+y.size:Nat):Int)≤IntKind.i64.max∧K (.string (x++y))
  | .eql=>K (.bool (x.toList == y.toList))
  | .neq=>K (.bool (!(x.toList == y.toList)))
  | .lss=>K (.bool (Op.bytesLess x.toList y.toList))
  | .leq=>K (.bool (Op.bytesLess x.toList y.toList || x.toList == y.toList))
  | .gtr=>K (.bool (!(Op.bytesLess x.toList y.toList || x.toList == y.toList)))
  | .geq=>K (.bool (!(Op.bytesLess x.toList y.toList)))
  | _=>False
/-- equality with nil -/
def nilEq {α:Type} (a b:Option α):Option Bool:=match b with | none=>some a.isNone | some _=>match a with | none=>some false | some _=>none
/-- the equality of two values of a type, where it is plain -/
def eqT (P:Program) (t:TypeId) (x y:Value):Option Bool :=
    match P.underlying t with
    | some .bool=>match x,y with | .bool a, .bool b=>some (a == b) | _,_=>none
    | some (.int _)=>match x,y with | .int k a, .int k' b=>if k=k' then some (a == b) else none | _,_=>none
    | some .string=>match x,y with | .string a, .string b=>some (a == b) | _,_=>none
    | some (.pointer _)=>match x,y with | .pointer a, .pointer b=>nilEq a b | _,_=>none
    | some (.slice _)=>match x,y with | .slice a _ _, .slice b _ _=>nilEq a b | _,_=>none
    | some (.map _ _)=>match x,y with | .map a, .map b=>nilEq a b | _,_=>none
    | some (.interface ms)=>match x,y with | .iface _ _, .nilIface=>some false | .nilIface, .iface _ _=>some false | .nilIface, .nilIface=>bif ms.isEmpty then some true else none | _,_=>none
    | some (.func _ _ _)=>match x,y with | .func _ _ _, .nilFunc=>some false | .nilFunc, .nilFunc=>some true | .nilFunc, .func _ _ _=>some false | _,_=>none
    | _=>none
/-- the equality of two flat structs: field by field -/
def eqFs (P:Program):List Field→Array Value→Array Value→Option Bool
  | [],_,_=>some true
  | f::fs,xs,ys=>if f.name = "_" then none else
    match partV P f.type xs f.offset,partV P f.type ys f.offset with
    | some a,some b=>(match eqT P f.type a b,eqFs P fs xs ys with | some r,some r'=>some (r && r') | _,_=>none)
    | _,_=>none
def eqAgg (P:Program) (t:TypeId) (xs ys:Array Value):Option Bool :=
  match P.underlying t with
  | some (.struct fs)=>bif P.stoodInHeld t || P.eqGuardType P.depth t then none else eqFs P fs.toList xs ys
  | _=>none
def plainEq:Value→Value→Bool
  | .agg _,_=>false
  | .float _ _,_=>false
  | .complex _ _ _,_=>false
  | _,_=>true
def FnNil (x:Value) (K:Bool→Prop):Prop:=match x with | .func _ _ _=>K false | .nilFunc=>K true | _=>False
def opBin0 (P:Program) (op:BinOp) (t:TypeId) (x y:Value) (K:Value→Prop):Prop :=
  match x with
  | .int k a=>match y with
    | .int k' b=>(match op with
      | .shl=>opInt .shl k a b K
      | .shr=>opInt .shr k a b K
      | op=>if k=k' then opInt op k a b K else False)
    | _=>False
  | .string a=>match y with | .string b=>opStr op a b K | _=>False
  | .agg xs=>match y with
    | .agg ys=>(match op with
      | .eql=>(match eqAgg P t xs ys with | some r=>K (.bool r) | none=>False)
      | .neq=>(match eqAgg P t xs ys with | some r=>K (.bool (!r)) | none=>False)
      | _=>False)
    | _=>False
  | x=>match op with
    | .eql=>if plainEq x y then match eqT P t x y with | some r=>K (.bool r) | none=>False else False
    | .neq=>if plainEq x y then match eqT P t x y with | some r=>K (.bool (!r)) | none=>False else False
    | _=>False
def opBin (P:Program) (op:BinOp) (t:TypeId) (x y:Value) (K:Value→Prop):Prop :=
  match y with
  | .nilFunc=>(match P.underlying t with
    | some (.func _ _ _)=>(match op with
      | .eql=>FnNil x fun b=>K (.bool b)
      | .neq=>FnNil x fun b=>K (.bool (!b))
      | _=>False)
    | _=>False)
  | y=>opBin0 P op t x y K
def opUn (op:UnOp) (x:Value) (K:Value→Prop):Prop :=
  match op with
  | .not=>match x with | .bool b=>K (.bool (!b)) | _=>False
  | .neg=>match x with | .int k n=>Wr k (0 - n) fun c=>K (.int k c) | _=>False
  | .xor=>match x with | .int k n=>K (.int k (bitsV .xor k (if k.signed then -1 else k.max) n)) | _=>False
  | .plus=>False
def ldMany (h:Hp) (a:Addr) (i:Nat):List Value→(List Value→Prop)→Prop
  | [],K=>K []
  | z::zs,K=>tyEx z fun v=>cell h (a.add i)=some v∧ldMany h a (i+1) zs fun vs=>K (v::vs)
def ldV (P:Program) (t:TypeId) (h:Hp) (a:Addr) (K:Value→Prop):Prop :=
  match P.underlying t,zeroOf P t with
  | some d,some z=>bsel (isAggD d) ((match z with
      | .agg zs=>if sizeP P t=some zs.size then ldMany h a 0 zs.toList fun vs=>K (.agg vs.toArray) else False
      | _=>False))<|tyEx z fun v=>cell h a=some v∧K v
  | _,_=>False
/-- the value is no aggregate -/
def NA (v:Value) (X:Prop):Prop:=v.cells=#[v]∧X
def isRawD:TypeDesc→Bool | .func _ _ _=>true | .interface _=>true | _=>false
def isRawT (P:Program) (t:TypeId):Bool:=match P.underlying t with | some d=>isRawD d | none=>false
def stV (P:Program) (t:TypeId) (h:Hp) (a:Addr) (v:Value) (K:Hp→Prop):Prop :=
  bsel (isRawT P t) (NA v (if sizeP P t=some 1 then StL h a 0 [v] K else False))<|if sizeP P t=some v.cells.size then StL h a 0 v.cells.toList K else False
theorem stV_old {P:Program} {t:TypeId} {h:Hp} {a:Addr} {v:Value} {K:Hp→Prop} (hh:stV P t h a v K):if sizeP P t=some v.cells.size then StL h a 0 v.cells.toList K else False:=by
  unfold stV at hh
  cases hr:isRawT P t
  · simpa only [hr,cond] using hh
  · simp only [hr,cond] at hh
    obtain ⟨h1,h2⟩:=hh
    rw [h1];exact h2
theorem stV_new {P:Program} {t:TypeId} {h:Hp} {a:Addr} {v:Value} {K K':Hp→Prop} (hh:stV P t h a v K) (hk:(if sizeP P t=some v.cells.size then StL h a 0 v.cells.toList K' else False)):stV P t h a v K':=by
  unfold stV at hh ⊢
  cases hr:isRawT P t
  · simpa only [hr,cond] using hk
  · simp only [hr,cond] at hh ⊢
    refine ⟨hh.1,?_⟩
    rw [hh.1] at hk;exact hk
def fieldOf (P:Program) (t:TypeId) (i:Nat):Option Field :=
  match P.underlying t with | some (.struct fs)=>fs[i]? | _=>none
def places (P:Program):List Field→Option (List (Nat × Nat))
  | []=>some []
  | f::fs=>match sizeP P f.type,places P fs with | some n,some r=>some ((f.offset,n)::r) | _,_=>none
def buildV (P:Program) (t:TypeId) (parts:List (Nat × Value)):Option Value :=
  match zeroOf P t,P.underlying t with
  | some z,some (.struct fields)=>match places P fields.toList with
    | some ps=>(Instr.fill (ps[·]?) z.cells parts).map .agg
    | none=>none
  | some z,some (.array _ elem)=>match sizeP P elem with
    | some size=>(Instr.fill (fun i=>some (i*size,size)) z.cells parts).map .agg
    | none=>none
  | _,_=>none
/-- the parts of function and interface types are no aggregates -/
def rawNA (raw:Nat→Bool):List (Nat × Value)→Prop→Prop
  | [],X=>X
  | (i,v)::r,X=>bsel (raw i) (NA v (rawNA raw r X))<|rawNA raw r X
def fillW (raw:Nat→Bool) (place:Nat→Option (Nat × Nat)) (cells:Array Value):List (Nat × Value)→Option (Array Value)
  | []=>some cells
  | (i,v)::rest =>
    match place i with
    | none=>none
    | some (off,size) =>
      if (bif raw i then #[v] else v.cells).size≠size || off+(bif raw i then #[v] else v.cells).size > cells.size then none
      else fillW raw place ((bif raw i then #[v] else v.cells).zipIdx.foldl (fun cs (c,j)=>cs.setIfInBounds (off+j) c) cells) rest
theorem rawNA_of {raw:Nat→Bool}:∀{ps:List (Nat × Value)} {X:Prop},rawNA raw ps X→X∧(∀place cells,Instr.fill place cells ps=fillW raw place cells ps)∧∀Y:Prop,Y→rawNA raw ps Y:=by
  intro ps
  induction ps with
  | nil=>intro X h;exact ⟨h,fun _ _=>rfl,fun _ h=>h⟩
  | cons q ps ih =>
    intro X h
    obtain ⟨i,v⟩:=q
    simp only [rawNA] at h ⊢
    cases hr:raw i with
    | false =>
      rw [hr] at h
      obtain ⟨h1,h2,h3⟩:=ih h
      refine ⟨h1,fun place cells => ?_,fun Y hy=>h3 Y hy⟩
      simp only [Instr.fill,fillW,hr,cond]
      cases place i with
      | none=>rfl
      | some x =>
        obtain ⟨off,size⟩:=x
        dsimp only
        split
        · rfl
        · exact h2 _ _
    | true =>
      rw [hr] at h
      obtain ⟨hc,h⟩:=h
      obtain ⟨h1,h2,h3⟩:=ih h
      refine ⟨h1,fun place cells => ?_,fun Y hy=>⟨hc,h3 Y hy⟩⟩
      simp only [Instr.fill,fillW,hr,cond,hc]
      cases place i with
      | none=>rfl
      | some x =>
        obtain ⟨off,size⟩:=x
        dsimp only
        split
        · rfl
        · exact h2 _ _
def rawF (P:Program) (fields:Array Field) (i:Nat):Bool:=match fields[i]? with | some f=>isRawT P f.type | none=>false
def buildK (P:Program) (t:TypeId) (parts:List (Nat × Value)) (K:Value→Prop):Prop :=
  match zeroOf P t,P.underlying t with
  | some z,some (.struct fields)=>match places P fields.toList with
    | some ps=>rawNA (rawF P fields) parts (match fillW (rawF P fields) (ps[·]?) z.cells parts with | some cs=>K (.agg cs) | none=>False)
    | none=>False
  | some z,some (.array _ elem)=>match sizeP P elem with
    | some size=>rawNA (fun _=>isRawT P elem) parts (match fillW (fun _=>isRawT P elem) (fun i=>some (i*size,size)) z.cells parts with | some cs=>K (.agg cs) | none=>False)
    | none=>False
  | _,_=>False
theorem buildK_of {P:Program} {t:TypeId} {ps:List (Nat × Value)} {K:Value→Prop} (h:buildK P t ps K):∃v,buildV P t ps=some v∧K v∧∀K':Value→Prop,K' v→buildK P t ps K':=by
  unfold buildK buildV at *
  split at h
  · rename_i z fields hz hu
    split at h
    · rename_i pl hp
      obtain ⟨h1,h2,h3⟩:=rawNA_of h
      split at h1
      · rename_i cs hcs
        refine ⟨.agg cs,?_,h1,fun K' hk => ?_⟩
        · simp [hp,h2,hcs]
        · exact h3 _ (by simpa [hcs] using hk)
      · exact h1.elim
    · exact h.elim
  · rename_i z n el hz hu
    split at h
    · rename_i size hs
      obtain ⟨h1,h2,h3⟩:=rawNA_of h
      split at h1
      · rename_i cs hcs
        refine ⟨.agg cs,?_,h1,fun K' hk => ?_⟩
        · simp [hs,h2,hcs]
        · exact h3 _ (by simpa [hcs] using hk)
      · exact h1.elim
    · exact h.elim
  · exact h.elim
def buildSl (P:Program) (t:TypeId) (len:Nat) (parts:List (Nat × Value)):Option (Array Value × TypeId) :=
  match P.underlying t with
  | some (.slice elem)=>match sizeP P elem,zeroOf P elem with
    | some size,some z=>if len*size≤2 ^ 24 then (Instr.fill (fun i=>some (i*size,size)) (zs (if len*size=0 then #[] else z.cells) (len*size)) parts).map (·,elem) else none
    | _,_=>none
  | _=>none
def buildSlK (P:Program) (t:TypeId) (len:Nat) (parts:List (Nat × Value)) (K:Array Value→TypeId→Prop):Prop :=
  match P.underlying t with
  | some (.slice elem)=>match sizeP P elem,zeroOf P elem with
    | some size,some z=>if len*size≤2 ^ 24 then rawNA (fun _=>isRawT P elem) parts (match fillW (fun _=>isRawT P elem) (fun i=>some (i*size,size)) (zs (if len*size=0 then #[] else z.cells) (len*size)) parts with | some cs=>K cs elem | none=>False) else False
    | _,_=>False
  | _=>False
theorem buildSlK_of {P:Program} {t:TypeId} {len:Nat} {ps:List (Nat × Value)} {K:Array Value→TypeId→Prop} (h:buildSlK P t len ps K):∃cs el,buildSl P t len ps=some (cs,el)∧K cs el∧∀K':Array Value→TypeId→Prop,K' cs el→buildSlK P t len ps K':=by
  unfold buildSlK buildSl at *
  split at h
  · rename_i el hu
    split at h
    · rename_i size z hs hz
      split at h
      · rename_i hb
        obtain ⟨h1,h2,h3⟩:=rawNA_of h
        split at h1
        · rename_i cs hcs
          refine ⟨cs,el,?_,h1,fun K' hk => ?_⟩
          · simp only [hu,hs,hz,hb,if_true,h2,hcs];rfl
          · rw [if_pos hb];exact h3 _ hk
        · exact h1.elim
      · exact h.elim
    · exact h.elim
  · exact h.elim
def optInt (e:Operand→Option Value):Option Operand→Option (Option Int)
  | none=>some none
  | some x=>match e x with | some (.int _ n)=>some (some n) | _=>none
def zerosOf (P:Program):List TypeId→Option (List Value)
  | []=>some []
  | t::ts=>match zeroOf P t,zerosOf P ts with | some z,some zs=>some (z::zs) | _,_=>none
/-- 'K' at the value that is handed back, read by its results' kinds -/
def resEx (zs:List Value) (v:Value) (K:Value→Prop):Prop :=
  match zs with
  | [z]=>tyComp z fun x=>v=x∧K x
  | zs=>tyComps zs fun xs=>v=.tuple xs.toArray∧K (.tuple xs.toArray)
def resUn (zs:List Value) (v:Value) (K:Value→Prop):Prop :=
  match zs with
  | [z]=>unComp z v K
  | zs=>match v with | .tuple xs=>unComps zs xs.toList fun ys=>K (.tuple ys.toArray) | _=>False
theorem resUn_ex {zs:List Value} {v:Value} {K:Value→Prop} (h:resUn zs v K):resEx zs v K:=by
  unfold resUn at h
  unfold resEx
  split at h
  · exact unComp_ty h
  · split at h
    · refine tyComps_mono (unComps_ty h) ?_
      rintro xs ⟨rfl,hk⟩
      exact ⟨by simp,hk⟩
    · exact h.elim
theorem resEx_of {zs:List Value} {v:Value} {K:Value→Prop} (h:resEx zs v K):K v:=by
  unfold resEx at h
  split at h
  · obtain ⟨x,rfl,hk⟩:=tyComp_get h;exact hk
  · obtain ⟨x,_,rfl,hk⟩:=tyComps_get h;exact hk
def resTys (P:Program) (ty:TypeId):List TypeId:=match P.underlying ty with | some (.tuple es)=>es.toList | _=>[ty]
def semCall (P:Program) (ty:TypeId) (fv:Value) (args:List Value) (h:Hp) (K:Value→Hp→Prop) (Kp:List PanicEntry→Hp→Prop):Prop :=
  match zerosOf P (resTys P ty) with
  | some zs=>CallV P fv args h (fun v h'=>resEx zs v fun v'=>K v' h') Kp
  | none=>False
def semCallI (P:Program) (ty:TypeId) (fv:Value) (name:String) (args:List Value) (h:Hp) (K:Value→Hp→Prop) (Kp:List PanicEntry→Hp→Prop):Prop :=
  match zerosOf P (resTys P ty) with
  | some zs=>CallI P fv name args h (fun v h'=>resEx zs v fun v'=>K v' h') Kp
  | none=>False
def semLen (x:Value) (K:Value→Prop):Prop :=
  match x with
  | .string s=>K (.int .i64 s.size)
  | .slice _ n _=>K (.int .i64 n)
  | .map none=>K (.int .i64 0)
  | _=>False
def lenFits (P:Program) (t:TypeId) (x:Value):Bool :=
  match P.underlying t,x with
  | some .string, .string _=>true
  | some (.slice _), .slice _ _ _=>true
  | some (.map _ _), .map none=>true
  | _,_=>false
def minV (x y:Value):Option Value:=match x,y with | .int k a, .int _ b=>some (.int k (if b < a then b else a)) | _,_=>none
def maxV (x y:Value):Option Value:=match x,y with | .int k a, .int _ b=>some (.int k (if b > a then b else a)) | _,_=>none
def semAppend (P:Program) (ts:List TypeId) (s x:Value) (h:Hp) (K:Value→Hp→Prop):Prop :=
  match ts,s with
  | [t, u], .slice a n c=>match P.underlying t,P.underlying u with
    | some (.slice elem),some du=>match P.info? elem,zeroOf P elem with
      | some i,some z=>(match du,x with
        | .int _,_=>False
        | _, .slice b m _=>Ap h elem z.cells i.size i.bytes ⟨a,n,c⟩ m (rd h b (m*i.size)) fun s' h'=>K s'.v h'
        | _, .string bs=>Ap h elem z.cells i.size i.bytes ⟨a,n,c⟩ bs.size (fun vs=>vs=bs.data.toList.map fun b=>.int .u8 b.toNat) fun s' h'=>K s'.v h'
        | _,_=>False)
      | _,_=>False
    | _,_=>False
  | _,_=>False
/-- things are copied over what stands from an address on -/
def Cpy (h:Hp) (a:Option Addr) (vals:List Value→Prop) (K:Hp→Prop):Prop:=∃vs,vals vs∧match a with | some a=>StL h a 0 vs K | none=>K h
def semCopy (P:Program) (ts:List TypeId) (s x:Value) (h:Hp) (K:Value→Hp→Prop):Prop :=
  match ts,s with
  | t :: _, .slice a n _=>match P.underlying t with
    | some (.slice elem)=>(match sizeP P elem with
      | some size=>(match x with
        | .slice b m _=>Cpy h a (rd h b (Nat.min m n*size)) fun h'=>K (.int .i64 (Nat.min m n:Nat)) h'
        | .string bs=>Cpy h a (fun vs=>vs=(bs.extract 0 (Nat.min bs.size n)).data.toList.map fun b=>.int .u8 b.toNat) fun h'=>K (.int .i64 (Nat.min bs.size n:Nat)) h'
        | _=>False)
      | none=>False)
    | _=>False
  | _,_=>False
/-- a key is taken out -/
def Del (h:Hp) (m:Option Nat) (kd:TypeDesc) (key:Value) (K:Hp→Prop):Prop :=
  match m with
  | none=>K h
  | some r=>∃es c res,h[r]? = some (.map es c)∧Instr.findNow kd key es.toList 0=some res∧K (h.setIfInBounds r (match res with | some (i,_)=>.map (es.eraseIdxIfInBounds i) c | none=>.map es c))
def semDel (P:Program) (ts:List TypeId) (m k:Value) (h:Hp) (K:Value→Hp→Prop):Prop :=
  match ts,m with
  | t :: _, .map m=>match P.underlying t with
    | some (.map kt _)=>(match P.underlying kt with
      | some kd=>bsel (keyD kd) (Del h m kd k fun h'=>K (.tuple #[]) h')<|False
      | none=>False)
    | _=>False
  | _,_=>False
def semBuiltin (P:Program) (b:Builtin) (ts:List TypeId) (args:List Value) (h:Hp) (K:Value→Hp→Prop):Prop :=
  match b with
  | .len=>match ts,args with | t::_,x::_=>if lenFits P t x then semLen x (fun v=>K v h) else False | _,_=>False
  | .cap=>match ts,args with | t::_, .slice _ _ c::_=>(match P.underlying t with | some (.slice _)=>K (.int .i64 c) h | _=>False) | _,_=>False
  | .min=>match args with | [x,y]=>(match minV x y with | some v=>K v h | none=>False) | _=>False
  | .max=>match args with | [x,y]=>(match maxV x y with | some v=>K v h | none=>False) | _=>False
  | .append=>match args with | [s,x]=>semAppend P ts s x h K | _=>False
  | .copy=>match args with | [s,x]=>semCopy P ts s x h K | _=>False
  | .delete=>match args with | [m,k]=>semDel P ts m k h K | _=>False
  | _=>False
def convV (P:Program) (src dst:TypeId) (x:Value) (h:Hp) (K:Value→Prop):Prop :=
  match P.underlying src,P.underlying dst with
  | some (.int _),some (.int k)=>match x with | .int _ n=>Wr k n fun c=>K (.int k c) | _=>False
  | some .string,some .string=>match x with | .string s=>K (.string s) | _=>False
  | some (.slice e),some .string=>(match P.underlying e,x with | some (.int .u8), .slice a n c=>Bts h ⟨a,n,c⟩ fun s=>K (.string s) | _,_=>False)
  | _,_=>False
/-- an interface's value is asked for a type that is no interface -/
def asrtV (P:Program) (asserted t:TypeId) (v:Value) (ok:Bool):Option Value :=
  match P.underlying asserted with
  | some (.interface _)=>none
  | some _=>if t=asserted then some (bif ok then .tuple #[v, .bool true] else v) else (bif ok then (zeroOf P asserted).map (fun z=>.tuple #[z, .bool false]) else none)
  | none=>none
def semOp (P:Program) (op:Op) (ty:TypeId) (e:Operand→Option Value) (K:Option Value→Hp→Prop) (Kp:List PanicEntry→Hp→Prop) (h:Hp):Prop :=
  match op with
  | .move x=>K (e x) h
  | .assign x=>K (e x) h
  | .pick c a b=>match e c with
    | some (.bool t)=>(match t with
      | true=>K (e a) h
      | false=>K (e b) h)
    | _=>False
  | .alloc t=>match zeroOf P t with | some z=>New h z.cells t fun a h'=>K (some (.pointer (some a))) h' | none=>False
  | .box t x=>match e x with | some v=>New h v.cells t fun a h'=>K (some (.pointer (some a))) h' | none=>False
  | .load t x=>match e x with | some (.pointer (some a))=>ldV P t h a fun v=>K (some v) h | _=>False
  | .store t x y=>match e x,e y with | some (.pointer (some a)),some v=>stV P t h a v fun h'=>K none h' | _,_=>False
  | .nilCheck x=>match e x with
    | some v=>NNQ P v fun v'=>K (some v') h
    | none=>False
  | .binOp op t x y _=>match e x,e y with | some a,some b=>opBin P op t a b fun v=>K (some v) h | _,_=>False
  | .unOp op _ x=>match e x with | some a=>opUn op a fun v=>K (some v) h | none=>False
  | .convert s d x=>match e x with | some a=>convV P s d a h fun v=>K (some v) h | none=>False
  | .makeInterface t x=>match e x,P.underlying t with
    | some _,some (.interface _)=>False
    | some v,some _=>K (some (.iface t v)) h
    | _,_=>False
  | .makeFunc fn first captured=>match evs e first.toList,evs e captured.toList with
    | some xs,some ys=>K (some (.func fn xs.toArray ys.toArray)) h
    | _,_=>False
  | .makeSlice t l c=>match e l,e c,P.underlying t with
    | some (.int _ l),some (.int _ c),some (.slice elem)=>(match P.info? elem,zeroOf P elem with
      | some i,some z=>MkS h elem z.cells i.size i.bytes l c fun s h'=>K (some s.v) h'
      | _,_=>False)
    | _,_,_=>False
  | .slice t x lo hi mx=>match e x,optInt e lo,optInt e hi,optInt e mx with
    | some (.slice a n c),some lo,some hi,some mx=>(match P.underlying t with
      | some (.slice elem)=>(match sizeP P elem with | some size=>(if hi.isNone && mx.isSome then False else Slc ⟨a,n,c⟩ size lo hi mx fun s=>K (some s.v) h) | none=>False)
      | _=>False)
    | some (.string s),some lo,some hi,some none=>(match P.underlying t with
      | some .string=>SlcS s lo hi fun s'=>K (some (.string s')) h
      | _=>False)
    | _,_,_,_=>False
  | .fieldAddr t x i=>match e x,fieldOf P t i with
    | some (.pointer (some a)),some f=>(match sizeP P f.type with | some (_+1)=>K (some (.pointer (some (a.add f.offset)))) h | _=>False)
    | _,_=>False
  | .field t x i=>match e x,fieldOf P t i with
    | some (.agg cs),some f=>(match partV P f.type cs f.offset with | some v=>K (some v) h | none=>False)
    | _,_=>False
  | .indexAddr t x ix=>match e x,e ix with
    | some (.slice a n _),some (.int _ i)=>(match P.underlying t with
      | some (.slice elem)=>(match sizeP P elem with | some size=>Ix a n size i fun ad=>K (some (.pointer (some ad))) h | none=>False)
      | _=>False)
    | some (.pointer p),some (.int _ i)=>(match P.underlying t with
      | some (.array n elem)=>(match sizeP P elem with | some size=>Ix p n size i fun ad=>K (some (.pointer (some ad))) h | none=>False)
      | _=>False)
    | _,_=>False
  | .index t x ix=>match e x,e ix with
    | some (.string s),some (.int _ i)=>(match P.underlying t with | some .string=>IxS s i fun b=>K (some (.int .u8 b)) h | _=>False)
    | some (.agg cs),some (.int _ i)=>(match P.underlying t with | some (.array n elem)=>ixA P elem cs n i fun v=>K (some v) h | _=>False)
    | _,_=>False
  | .makeMap _ r=>match r with | none=>NewM h fun m h'=>K (some (.map (some m))) h' | some _=>False
  | .lookup t x ix ok=>match e x,e ix,P.underlying t with
    | some (.map m),some k,some (.map kt et)=>(match P.underlying kt,zeroOf P et with
      | some kd,some z=>bsel (keyD kd) (lkV h m kd k z fun v b=>K (some (bif ok then .tuple #[v, .bool b] else v)) h)<|False
      | _,_=>False)
    | _,_,_=>False
  | .mapUpdate t x k v=>match e x,e k,e v,P.underlying t with
    | some (.map m),some k,some v,some (.map kt _)=>(match P.underlying kt with
      | some kd=>bsel (keyD kd) (Up h m kd k v fun h'=>K none h')<|False
      | none=>False)
    | _,_,_,_=>False
  | .typeAssert x _ asserted ok=>match e x with
    | some (.iface t v)=>(match asrtV P asserted t v ok with | some u=>K (some u) h | none=>False)
    | _=>False
  | .extract x i=>match e x with
    | some (.tuple vs)=>(match vs[i]? with | some v=>K (some v) h | none=>False)
    | _=>False
  | .build t parts=>match evParts e parts.toList with
    | some ps=>buildK P t ps fun v=>K (some v) h
    | none=>False
  | .buildSlice t len parts=>match evParts e parts.toList with
    | some ps=>buildSlK P t len ps fun cs elem=>New h cs elem fun a h'=>K (some (Sl.v ⟨some a,len,len⟩)) h'
    | none=>False
  | .panic x=>match e x with | some (.iface t v)=>Kp [{ v:=.iface t v,recovered:=false }] h | _=>False
  | .call c=>match c.callee with
    | .builtin b=>(match evs e c.args.toList with | some vs=>semBuiltin P b c.argTypes.toList vs h fun v h'=>K (some v) h' | none=>False)
    | .value f=>(match e f,evs e c.args.toList with | some fv,some args=>semCall P ty fv args h (fun v h'=>K (some v) h') Kp | _,_=>False)
    | .invoke f name=>(match e f,evs e c.args.toList with | some fv,some args=>semCallI P ty fv name args h (fun v h'=>K (some v) h') Kp | _,_=>False)
  | _=>False
/-! ### regions and code -/
def setF (fr:Fr) (d:Option Nat) (v:Option Value):Fr:=match d with | some t=>fr.set t v | none=>fr
def semStep (P:Program) (ops:Array Oper) (i:Nat) (K:Fr→Hp→Prop) (Kp:List PanicEntry→Hp→Prop) (fr:Fr) (h:Hp):Prop :=
  match ops[i]? with
  | none=>K fr h
  | some o=>match o.guard with
    | none=>semOp P o.op o.type (ev fr) (fun v h'=>K (setF fr o.dst v) h') Kp h
    | some (j,b)=>match (ops[j]?).bind (·.dst) with
      | some d=>(match fr.getD d none with
        | some (.bool c)=>If c
          (bsel (b) (semOp P o.op o.type (ev (fr.set d (some (.bool true)))) (fun v h'=>K (setF (fr.set d (some (.bool true))) o.dst v) h') Kp h)<|K (setF (fr.set d (some (.bool true))) o.dst (some undef)) h)
          (bsel (b) (K (setF (fr.set d (some (.bool false))) o.dst (some undef)) h)<|semOp P o.op o.type (ev (fr.set d (some (.bool false)))) (fun v h'=>K (setF (fr.set d (some (.bool false))) o.dst v) h') Kp h)
        | some (.tuple _)=>K (setF fr o.dst (some undef)) h
        | _=>False)
      | none=>False
def forget (lv:List Nat) (fr:Fr):Fr:=fr.zipIdx.map fun (v,i)=>bif lv.contains i then v else none
abbrev Ann:=List (Nat × List Nat)
def Ann.find (ann:Ann) (k:Nat) (fr:Fr):Fr:=match ann with | []=>fr | (j,lv)::r=>bif j == k then forget lv fr else Ann.find r k fr
/-- what is kept within a region: by the operation that follows -/
def Ann.reg (id:Nat):Ann→Ann
  | []=>[]
  | (k,lv)::r=>bif Nat.ble (40000+1000*id) k && Nat.ble k (40999+1000*id) then (k - (40000+1000*id),lv)::Ann.reg id r else Ann.reg id r
/-- at a join only what is live is kept, and the join is marked -/
def Ann.at (ann:Ann) (k:Nat) (fr:Fr) (K:Fr→Prop):Prop:=match ann with | []=>K fr | (j,lv)::r=>bsel (j == k) (Joint (K (forget lv fr)))<|Ann.at r k fr K
def Ann.next (ra:Ann) (l:List Nat) (fr:Fr) (K:Fr→Prop):Prop:=match l with | []=>K fr | i::_=>ra.at i fr K
def semOps (P:Program) (ra:Ann) (ops:Array Oper):List Nat→(Fr→Hp→Prop)→(List PanicEntry→Hp→Prop)→Fr→Hp→Prop
  | [],K,_,fr,h=>K fr h
  | i::l,K,Kp,fr,h=>semStep P ops i (fun fr' h'=>ra.next l fr' fun fr''=>semOps P ra ops l K Kp fr'' h') Kp fr h
def regOps:Code→Array Oper | .region _ ops _=>ops | _=>#[]
def firstId:Code→Nat
  | .region id _ _=>id
  | .seq a _=>firstId a
  | .cond (.tmp i) _ _=>i+20000
  | .cond _ a _=>firstId a+500
  | .block id _=>id+1000
  | .loop b=>firstId b+2000
  | .exit id=>id+3000
  | .rangeFunc _ _ a _=>firstId a+4000
  | _=>9999
/-- the key of the join ahead of this code -/
def joinId:Code→Nat
  | .cond _ x y=>3000000+100000*firstId x+firstId y
  | .seq x _=>joinId x
  | c=>firstId c+2000000
abbrev Qt:=Exit→Fr→Hp→Prop
def thenQ (K:Fr→Hp→Prop) (Q:Qt):Qt:=fun e fr h=>match e with | .normal=>K fr h | e=>Q e fr h
def blockQ (id:Nat) (Q:Qt):Qt:=fun e fr h=>match e with | .exit j=>if j=id then Q .normal fr h else Q (.exit j) fr h | e=>Q e fr h
def iterN (B:(Fr→Hp→Prop)→Fr→Hp→Prop):Nat→Fr→Hp→Prop
  | 0=>fun _ _=>False
  | n+1=>B (iterN B n)
def LoopH (B:(Fr→Hp→Prop)→Fr→Hp→Prop) (fr:Fr) (h:Hp):Prop:=∃n,iterN B n fr h
/-- a function value of the program's own is called -/
def CallF (P:Program) (fv:Value) (args:List Value) (h:Hp) (K:Value→Hp→Prop) (Kp:List PanicEntry→Hp→Prop):Prop :=
  match fv with
  | .func (.func g) first captured=>bsel (okFn P g) (CallH P g (first.toList++args++captured.toList) h K Kp)<|False
  | _=>False
def AgrT (fr:Fr) (tm:Array Value):Prop:=fr.length≤tm.size∧∀i v,fr.getD i none=some v→tm.getD i undef=v
def enterH (rd:Option Nat) (h:Hp) (K:Hp→Nat→Prop):Prop :=
  match rd with
  | none=>K (h.push (.deferred none)) h.size
  | some l=>match h[l]? with | some (.loop r)=>K h r.defers | _=>False
def endH (l:Nat) (h:Hp) (K:Option Code→Hp→Prop):Prop :=
  match h[l]? with | some (.loop r)=>r.state≠.busy∧K r.pending (h.setIfInBounds l (.loop { r with state:=.exhausted })) | _=>False
def sem (P:Program) (ann:Ann) (D:Nat→Array Oper→(Fr→Hp→Prop)→(List PanicEntry→Hp→Prop)→Fr→Hp→Prop) (rd:Option Nat):Code→Qt→(List PanicEntry→Hp→Prop)→Fr→Hp→Prop
  | .skip,Q,_,fr,h=>Q .normal fr h
  | .label _,Q,_,fr,h=>Q .normal fr h
  | .region id ops draw,Q,Kp,fr,h=>bsel (draw) (D id ops (Q .normal) Kp fr h)<|semOps P (ann.reg id) ops (List.range ops.size) (Q .normal) Kp fr h
  | .seq x y,Q,Kp,fr,h=>sem P ann D rd x (thenQ (fun fr' h'=>ann.at (joinId y) fr' fun fr''=>sem P ann D rd y Q Kp fr'' h') Q) Kp fr h
  | .cond c x y,Q,Kp,fr,h=>match ev fr c with
    | some (.bool b)=>If b (sem P ann D rd x Q Kp (ann.find (firstId x+5000) fr) h) (sem P ann D rd y Q Kp (ann.find (firstId y+5000) fr) h)
    | _=>False
  | .block id x,Q,Kp,fr,h=>sem P ann D rd x (blockQ id Q) Kp fr h
  | .loop x,Q,Kp,fr,h=>LoopH (fun N fr h=>sem P ann D rd x (thenQ (fun fr' h'=>N (ann.find (firstId x+2000) fr') h') Q) Kp fr h) (ann.find (firstId x+2000) fr) h
  | .rangeFunc g ps assign body,Q,Kp,fr,h=>match ev fr g with
    | some fv=>∀fn tm,AgrT (ann.find (firstId assign+4000) fr) tm→enterH rd h fun h0 d =>
        CallF P fv [.func (.yield h0.size) #[] #[]] (h0.push (.loop { state:=.ready,pending:=none,fn,tmps:=tm,params:=ps,assign,body,defers:=d }))
          (fun _ h'=>endH h0.size h' fun jump h''=>match jump with
            | none=>Q .normal (ann.find (firstId assign+4000) fr) h''
            | some .ret=>Q .ret (ann.find (firstId assign+4000) fr) h''
            | some (.exit id)=>Q (.exit id) (ann.find (firstId assign+4000) fr) h''
            | _=>False) Kp
    | none=>False
  | .exit id,Q,_,fr,h=>Q (.exit id) fr h
  | .ret,Q,_,fr,h=>Q .ret fr h
  | _,_,_,_,_=>False
end Go.Sh
