import Derived.CallsIn
import Derived.KernelRfl
import Derived.WalkKit
import Derived.TacticsInMore
set_option linter.unusedSimpArgs false
set_option linter.unusedVariables false
set_option maxRecDepth 100000
set_option maxHeartbeats 1000000
namespace Go.Sh
theorem sm:(∀(p:Prop) [Decidable p],(decide p=true)=p)/\(∀(p:Prop) [Decidable p],decide p=false↔¬p)/\(∀{α:Type} [BEq α] [LawfulBEq α] {a b:α},(a == b)=true↔a=b) /\
  (∀{α:Type} [BEq α] [LawfulBEq α] {a b:α},(a == b)=false↔a≠b)/\(∀{α:Type} (a b:α),(a≠b)=¬(a=b))/\(∀(p:Prop),(True↔p)=p)/\(∀(p:Prop),(False↔p)=¬p) /\
  (∀(b:Bool),((!b)=true)=(b=false))/\(∀(b:Bool),((!b)=false)=(b=true))/\(∀{α:Type} [BEq α] [LawfulBEq α] {a b:α},(a != b)=true↔a≠b) /\
  (∀{α:Type} [BEq α] [LawfulBEq α] {a b:α},(a != b)=false↔a=b)/\((!true)=false)/\((!false)=true)/\(∀{p:Prop} [Decidable p],¬¬p↔p) :=
 ⟨λp=>decide_eq_true_eq,λp=>decide_eq_false_iff_not,beq_iff_eq,beq_eq_false_iff_ne,λa b=>ne_eq a b,λp=>true_iff p,λp=>false_iff p,λb=>by simp,λb=>by simp,bne_iff_ne,bne_eq_false_iff_eq,rfl,rfl,Decidable.not_not⟩
theorem ag {p:Prop} (h:p:=by omega):p:=h
theorem aL {p:Prop} (h:p:=by decide):p:=h
theorem aS {p:Prop} (h:p:=by simp):p:=h
theorem cC {p:Prop} (h:p:=by simp;omega):p:=h
theorem aF {α:Sort _} {a b:α} (h:a=b:=by kernel_rfl):a=b:=h
theorem ay {p q:Prop} (h:p) (k:p->q:=by intro h;simp only[sm,reduceCtorEq] at h;exact h):q:=k h
abbrev Hp:=Array Obj
abbrev Fr:=List (Option Value)
def cell (h:Hp) (a:Addr):Option Value :=
 match h[a.block]? with
 | some (.cells c _ _)=>if a.spot.isSome then none else c[a.off]?
 | _=>none
def xY (h:Hp) (a:Addr):Bool :=
 match h[a.block]? with
 | some (.cells _ _ (lo,hi))=>lo<=a.off && a.off < hi
 | _=>false
def put (h:Hp) (a:Addr) (v:Value):Hp :=
 h.modify a.block fun
  | .cells c elem frozen=>.cells (if a.spot.isSome then c else c.setIfInBounds a.off v) elem frozen
  | o=>o
def oh:Obj->Obj
 | .deferred _=>.deferred none
 | o=>o
def aE (w:World):Hp:=w.heap.map oh
def aY (w w':World):Prop:=w'.tape=w.tape/\w'.os=w.os/\w'.output=w.output/\w.heap.size<=w'.heap.size/\∀(b:Nat) ds,w.heap[b]? = some (.deferred ds)->w'.heap[b]? = some (.deferred ds)
theorem aY.refl (w:World):aY w w:=⟨rfl,rfl,rfl,Nat.le_refl _,λ_ _ h=>h⟩
theorem aY.trans {a b c:World} (h:aY a b) (e:aY b c):aY a c:=⟨e.1.trans h.1,e.2.1.trans h.2.1,e.2.2.1.trans h.2.2.1,Nat.le_trans h.2.2.2.1 e.2.2.2.1,λx ds d=>e.2.2.2.2 x ds (h.2.2.2.2 x ds d)⟩
structure Sl where
 a:Option Addr
 n:Nat
 c:Nat
def Sl.v (s:Sl):Value:=.slice s.a s.n s.c
def Sl.nil:Sl:=⟨none,0,0⟩
def jE (z:Value) (K:Value->Prop):Prop :=
 match z with
 | .int k _=>∃n:Int,K (.int k n)
 | .bool _=>∃b:Bool,K (.bool b)
 | .string _=>∃s:ByteArray,K (.string s)
 | .slice _ _ _=>∃s:Sl,K s.v
 | .pointer _=>∃p:Option Addr,K (.pointer p)
 | .map _=>∃r:Option Nat,K (.map r)
 | _=>∃v:Value,K v
def w7:List Value->(List Value->Prop)->Prop
 | [],K=>K []
 | z::zs,K=>jE z λv=>w7 zs λvs=>K (v::vs)
def qF (z:Value) (K:Value->Prop):Prop :=
 match z with
 | .agg zs=>w7 zs.toList λvs=>K (.agg vs.toArray)
 | z=>jE z K
def uC:List Value->(List Value->Prop)->Prop
 | [],K=>K []
 | z::zs,K=>qF z λv=>uC zs λvs=>K (v::vs)
def En (z v:Value) (p:Value->Prop):Prop :=
 match z with
 | .int k _=>match v with | .int k' n=>if k'=k then p (.int k n) else False | _=>False
 | .bool _=>match v with | .bool b=>p (.bool b) | _=>False
 | .string _=>match v with | .string s=>p (.string s) | _=>False
 | .slice _ _ _=>match v with | .slice a n c=>p (Sl.v ⟨a,n,c⟩) | _=>False
 | .pointer _=>match v with | .pointer a=>p (.pointer a) | _=>False
 | .map _=>match v with | .map r=>p (.map r) | _=>False
 | _=>p v
def KB:List Value->List Value->(List Value->Prop)->Prop
 | [],[],p=>p []
 | z::zs,v::vs,p=>En z v λx=>KB zs vs λxs=>p (x::xs)
 | _,_,_=>False
def Eo (z v:Value) (p:Value->Prop):Prop :=
 match z with
 | .agg zs=>match v with | .agg vs=>KB zs.toList vs.toList λxs=>p (.agg xs.toArray) | _=>False
 | z=>En z v p
def KC:List Value->List Value->(List Value->Prop)->Prop
 | [],[],p=>p []
 | z::zs,v::vs,p=>Eo z v λx=>KC zs vs λxs=>p (x::xs)
 | _,_,_=>False
theorem Qn {z v:Value} {p:Value->Prop} (h:En z v p):jE z λx=>v=x/\p x:=by
 cases z <;> cases v <;> simp only[En,jE] at h ⊢ <;> first
  | exact h.elim
  | exact ⟨_,rfl,h⟩
  | exact ⟨⟨_,_,_⟩,rfl,h⟩
  | (split at h <;> first | exact h.elim | (rename_i e;subst e;exact ⟨_,rfl,h⟩))
theorem oY {z:Value} {K a:Value->Prop} (h:jE z K) (c:∀v,K v->a v):jE z a:=by
 unfold jE at h ⊢;split at h <;> (obtain ⟨x,b⟩:=h;exact ⟨x,c _ b⟩)
theorem KH {zs:List Value}:∀{K a:List Value->Prop},w7 zs K->(∀v,K v->a v)->w7 zs a:=by
 induction zs with
 | nil=>intro K a h b;exact b _ h
 | cons z zs d=>intro K a h b;exact oY h λv e=>d e λvs c=>b _ c
theorem KL {z:Value} {K c:Value->Prop} (h:qF z K) (b:∀v,K v->c v):qF z c:=by
 unfold qF at h ⊢;split at h
 ·exact KH h λvs a=>b _ a
 ·exact oY h b
theorem KK {zs:List Value}:∀{K a:List Value->Prop},uC zs K->(∀v,K v->a v)->uC zs a:=by
 induction zs with
 | nil=>intro K a h b;exact b _ h
 | cons z zs d=>intro K a h b;exact KL h λv e=>d e λvs c=>b _ c
theorem w8 {z:Value} {K:Value->Prop} (h:jE z K):∃v,K v:=by
 unfold jE at h;split at h <;> (obtain ⟨x,a⟩:=h;exact ⟨_,a⟩)
theorem Zd {zs:List Value}:∀{K:List Value->Prop},w7 zs K->∃vs,vs.length=zs.length/\K vs:=by
  induction zs with
  | nil=>intro K h;exact ⟨[],rfl,h⟩
  | cons z zs b =>
    intro K h;obtain ⟨v,c⟩:=w8 h;obtain ⟨vs,hl,a⟩:=b c;exact ⟨v::vs,by simp[hl],a⟩
theorem Qs {z:Value} {K:Value->Prop} (h:qF z K):∃v,K v:=by
 unfold qF at h;split at h
 ·obtain ⟨vs,_,h⟩:=Zd h;exact ⟨_,h⟩
 ·exact w8 h
theorem Ze {zs:List Value}:∀{K:List Value->Prop},uC zs K->∃vs,vs.length=zs.length/\K vs:=by
  induction zs with
  | nil=>intro K h;exact ⟨[],rfl,h⟩
  | cons z zs b =>
    intro K h;obtain ⟨v,c⟩:=Qs h;obtain ⟨vs,hl,a⟩:=b c;exact ⟨v::vs,by simp[hl],a⟩
theorem Y0:∀{zs vs:List Value} {p:List Value->Prop},KB zs vs p->w7 zs λa=>vs=a/\p a:=by
  intro zs
  induction zs with
  | nil=>intro vs p h;cases vs with
    | nil=>exact ⟨rfl,h⟩
    | cons=>exact h.elim
  | cons z zs c =>
    intro vs p h;cases vs with
    | nil=>exact h.elim
    | cons v vs =>
      refine oY (Qn h) ?_;rintro x ⟨rfl,d⟩;refine KH (c d) ?_;rintro a ⟨rfl,b⟩;exact ⟨rfl,b⟩
theorem Qo {z v:Value} {p:Value->Prop} (h:Eo z v p):qF z λx=>v=x/\p x:=by
 unfold Eo at h;unfold qF;split at h
 ·split at h
  ·refine KH (Y0 h) ?_;rintro c ⟨a,b⟩;exact ⟨by rw[<-a],b⟩
  ·exact h.elim
 ·exact Qn h
theorem Y1:∀{zs vs:List Value} {p:List Value->Prop},KC zs vs p->uC zs λa=>vs=a/\p a:=by
  intro zs
  induction zs with
  | nil=>intro vs p h;cases vs with
    | nil=>exact ⟨rfl,h⟩
    | cons=>exact h.elim
  | cons z zs c =>
    intro vs p h;cases vs with
    | nil=>exact h.elim
    | cons v vs =>
      refine KL (Qo h) ?_;rintro x ⟨rfl,d⟩;refine KK (c d) ?_;rintro a ⟨rfl,b⟩;exact ⟨rfl,b⟩
def Wr (k:IntKind) (x:Int) (K:Int->Prop):Prop:=K (k.wrap x)
def Dv (b:Int) (X:Prop):Prop:=b≠0/\X
def Nn (b:Int) (X:Prop):Prop:=0<=b/\X
def If (c:Bool) (A B:Prop):Prop:=match c with | true=>A | false=>B
def NN (p:Option Addr) (K:Addr->Prop):Prop:=match p with | some a=>K a | none=>False
def Ld {α:Type} (h:Hp) (a:Addr) (mk:α->Value) (K:α->Prop):Prop:=∃x,cell h a=some (mk x)/\K x
def one:Value->Bool | .agg _ | .tuple _=>false | _=>true
def St (h:Hp) (a:Addr) (v:Value) (K:Hp->Prop):Prop:=one v=true/\(cell h a).isSome=true/\xY h a=false/\K (put h a v)
def fI (h:Hp) (a:Addr) (i:Nat):List Value->(Hp->Prop)->Prop
 | [],K=>K h
 | v::vs,K=>St h (a.add i) v λh'=>fI h' a (i+1) vs K
def aD (h:Hp) (cells:Array Value) (t:TypeId) (K:Addr->Hp->Prop):Prop:=K ⟨h.size,0,none⟩ (h.push (.cells cells t (0,0)))
def Ix (p:Option Addr) (n:Nat) (size:Nat) (i:Int) (K:Addr->Prop):Prop :=
 match p with | some a=>0<=i/\i < n/\K (a.add (i.toNat*size)) | none=>False
def jH (p:Option Addr) (l m size:Nat):Option Addr:=if m=l then p else p.map (·.add (l*size))
def gp (s:Sl) (size:Nat) (lo hi mx:Option Int) (K:Sl->Prop):Prop :=
 0<=lo.getD 0/\lo.getD 0<=hi.getD s.n/\hi.getD s.n<=mx.getD s.c/\mx.getD s.c<=s.c /\
  K ⟨jH s.a (lo.getD 0).toNat (mx.getD s.c).toNat size,(hi.getD s.n).toNat - (lo.getD 0).toNat,(mx.getD s.c).toNat - (lo.getD 0).toNat⟩
def lU (s:ByteArray) (lo hi:Option Int) (K:ByteArray->Prop):Prop :=
 0<=lo.getD 0/\lo.getD 0<=hi.getD s.size/\hi.getD s.size<=s.size/\K (s.extract (lo.getD 0).toNat (hi.getD s.size).toNat)
def gq (s:ByteArray) (i:Int) (K:Int->Prop):Prop:=∃b,0<=i/\s[i.toNat]? = some b/\K (b.toNat:Int)
def zs (zero:Array Value) (n:Nat):Array Value:=(Array.range n).map λi=>zero[i % zero.size]!
def bI (h:Hp) (elem:TypeId) (zero:Array Value) (size bytes:Nat) (l c:Int) (K:Sl->Hp->Prop):Prop :=
 0<=l/\l<=c/\(bytes:Int)*c<=2 ^ 48/\c < 2 ^ 63/\K ⟨some ⟨h.size,0,none⟩,l.toNat,c.toNat⟩ (h.push (.cells (zs zero (c.toNat*size)) elem (0,0)))
def rd (h:Hp) (p:Option Addr) (n:Nat) (vs:List Value):Prop :=
 match p with | none=>vs=[] | some a=>vs.length=n/\∀(i:Nat) v,vs[i]? = some v->cell h (a.add i)=some v
def Ap (h:Hp) (elem:TypeId) (zero:Array Value) (size bytes:Nat) (s:Sl) (n:Nat) (vals:List Value->Prop) (K:Sl->Hp->Prop):Prop :=
  ∃vs,vals vs /\
    ((s.n+n<=s.c/\(match s.a with | some a=>fI h (a.add (s.n*size)) 0 vs λh'=>K ⟨s.a,s.n+n,s.c⟩ h' | none=>K ⟨s.a,s.n+n,s.c⟩ h)) \/
     (s.c < s.n+n/\Builtin.nextslicecap (s.n+n) s.c*bytes<=2 ^ 48/\s.n+n < 2 ^ 63/\∃old,rd h s.a (s.n*size) old /\
      ∀E9,s.n+n<=E9->E9 < 2 ^ 63->K ⟨some ⟨h.size,0,none⟩,s.n+n,E9⟩ (h.push (.cells ((old++vs).toArray++Builtin.zeroCells zero (E9 - (s.n+n))) elem (0,0)))))
def nZ (h:Hp) (s:Sl) (K:ByteArray->Prop):Prop :=
 ∃bs:List UInt8,rd h s.a s.n (bs.map λb=>.int .u8 b.toNat)/\K ⟨bs.toArray⟩
structure Ck (p:Prop):Prop where
 h:p
abbrev dJ (c:Bool) (a b:Prop):Prop:=match c with | true=>a | false=>b
theorem gU (a b:Prop):dJ true a b=a:=rfl
theorem BR (a b:Prop):dJ false a b=b:=rfl
def zeroOf (P:Program) (t:TypeId):Option Value:=(P.info? t).bind (·.zero)
def fB (P:Program) (t:TypeId):Option Nat:=(P.info? t).map (·.size)
def oz:TypeDesc->Bool | .struct _ | .array _ _=>true | _=>false
def xC (P:Program) (t:TypeId) (cs:Array Value) (off:Nat):Option Value :=
 match P.underlying t,fB P t with
 | some d,some n=>bif oz d then some (.agg (cs.extract off (off+n))) else cs[off]?
 | _,_=>none
def mU:TypeDesc->Bool | .int _=>true | .string=>true | .bool=>true | _=>false
def Lk {α:Type} (h:Hp) (m:Option Nat) (kd:TypeDesc) (key z:Value) (mk:α->Value) (K:α->Bool->Prop):Prop :=
 match m with
 | none=>∃x,z=mk x/\K x false
 | some r=>∃es c res,h[r]? = some (.map es c)/\Instr.findNow kd key es.toList 0=some res/\∃x,match res with | some (_,u)=>u=mk x/\K x true | none=>z=mk x/\K x false
def xK (h:Hp) (m:Option Nat) (kd:TypeDesc) (key z:Value) (K:Value->Bool->Prop):Prop :=
 match m with
 | none=>jE z λv=>z=v/\K v false
 | some r=>∃es c res,h[r]? = some (.map es c)/\Instr.findNow kd key es.toList 0=some res/\jE z λv=>match res with | some (_,u)=>u=v/\K v true | none=>z=v/\K v false
def Up (h:Hp) (m:Option Nat) (kd:TypeDesc) (key val:Value) (K:Hp->Prop):Prop :=
 match m with
 | none=>False
 | some r=>∃es c res,h[r]? = some (.map es c)/\Instr.findNow kd key es.toList 0=some res /\
   K (h.setIfInBounds r (match res with | some (i,_)=>.map (es.modify i λe=>{ e with key:=key,val:=val }) c | none=>.map (es.push { key:=key,val:=val,born:=c }) (c+1)))
def yG (h:Hp) (K:Nat->Hp->Prop):Prop:=K h.size (h.push (.map #[] 0))
def qW (P:Program) (elem:TypeId) (cs:Array Value) (n:Nat) (i:Int) (K:Value->Prop):Prop :=
 match P.underlying elem,zeroOf P elem with
 | some d,some z=>dJ (oz d) (False)<|if fB P elem=some 1 then 0<=i/\i < n/\jE z λv=>cs[i.toNat]? = some v/\K v else False
 | _,_=>False
def cr (P:Program) (f:FuncId) (args:List Value) (h:Hp) (K:Value->Hp->Prop) (Kp:List PanicEntry->Hp->Prop):Prop :=
 ∀w:World,aE w=h->Calls P f args.toArray w λe w'=>aY w w'/\match e with
  | .returned v=>K v (aE w')
  | .panicked ch=>Kp ch (aE w')
  | .outgrown=>False
abbrev Fc (r:Option Nat):Fence:={ fn:=λ_=>True,depth:=none,alive:=false,round:=r }
def pV (P:Program) (l:Nat) (args:List Value) (h:Hp) (K:Value->Hp->Prop) (Kp:List PanicEntry->Hp->Prop):Prop :=
 ∀w:World,aE w=h->∃fn tmps assign body,(Instr.yield l args.toArray).run P w=.ok (.round l fn tmps assign body) w /\
  RoundIn (Fc none) 0 P l fn tmps assign body w λe w'=>aY w w'/\match e with
   | .returned v=>K v (aE w')
   | .panicked ch=>Kp ch (aE w')
   | .outgrown=>False
def fC (P:Program) (g:Nat):Bool:=match P.funcs[g]? with | some fn=>fn.body.isSome && !(fn.name == "runtime.NumGoroutine") | none=>false
def nB (P:Program) (t:TypeId) (name:String):Option (FuncId × Bool) :=
 (P.info? t).bind λi=>(i.methods.find? (·.name == name)).bind λm=>bif m.path.isEmpty then m.func else none
def uK (P:Program) (t:TypeId) (pr:Bool):Bool:=match P.underlying t with | some (.pointer _)=>pr | some _=>!pr | none=>false
def xJ (P:Program) (t:TypeId) (name:String):Option (FuncId × Nat) :=
  (P.info? t).bind λi=>(i.methods.find? (·.name == name)).bind λm=>match m.path.toList,m.func with
    | [s],some (g,true)=>bif s.deref then (match (match P.underlying s.struct with | some (.struct fs)=>fs[s.index]? | _=>none) with
      | some f=>(match fB P f.type,P.underlying f.type with
        | some (_+1),some (.struct _)=>some (g,f.offset)
        | _,_=>none)
      | none=>none) else none
    | _,_=>none
def EX (v:Value) (off:Nat) (K:Value->Prop):Prop:=match v with | .pointer (some a)=>K (.pointer (some (a.add off))) | _=>False
def cL (P:Program) (fv:Value) (name:String) (args:List Value) (h:Hp) (K:Value->Hp->Prop) (Kp:List PanicEntry->Hp->Prop):Prop :=
  match fv with
  | .iface t v=>(match nB P t name with
    | some (g,pr)=>dJ (uK P t pr && fC P g) (cr P g (v::args) h K Kp)<|False
    | none=>(match xJ P t name with
      | some (g,off)=>dJ (fC P g) (EX v off λv'=>cr P g (v'::args) h K Kp)<|False
      | none=>False))
  | _=>False
def vW (P:Program) (v:Value) (name:String) (X:Prop):Prop :=
 match v with
 | .iface t _=>(match nB P t name with | some (_,true)=>True | _=>False)/\X
 | _=>False
def P0 (P:Program) (t:TypeId) (name:String) (args:List Value) (h:Hp) (K:Value->Hp->Prop) (Kp:List PanicEntry->Hp->Prop):Prop :=
  match args with
  | r::rest=>(match P.underlying t with
    | some (.interface _)=>cL P r name rest h K Kp
    | _=>False)
  | []=>False
def bJ (P:Program) (fv:Value) (args:List Value) (h:Hp) (K:Value->Hp->Prop) (Kp:List PanicEntry->Hp->Prop):Prop :=
 match fv with
 | .func (.func g) first captured=>dJ (fC P g) (cr P g (first.toList++args++captured.toList) h K Kp)<|False
 | .func (.yield l) first _=>pV P l (first.toList++args) h K Kp
 | .func (.methodOf t name) first _=>P0 P t name (first.toList++args) h K Kp
 | _=>False
def rN (v:Value) (K:Value->Prop):Prop :=
 match v with
 | .pointer p=>NN p λa=>K (.pointer (some a))
 | .func (.func f) x y=>K (.func (.func f) x y)
 | .slice a n c=>K (.slice a n c)
 | .iface t v=>K (.iface t v)
 | _=>False
def m9 (P:Program) (v:Value) (K:Value->Prop):Prop :=
 match v with
 | .func (.method name) first captured=>(match first.toList with | [u]=>vW P u name (K (.func (.method name) first captured)) | _=>False)
 | v=>rN v K
def ev (fr:Fr):Operand->Option Value
 | .tmp t=>fr.getD t none
 | .const v=>some v
 | .global g=>some (.pointer (some ⟨g,0,none⟩))
 | .func f=>some (.func (.func f) #[] #[])
def eV (e:Operand->Option Value):List Operand->Option (List Value)
 | []=>some []
 | x::xs=>match e x,eV e xs with | some v,some vs=>some (v::vs) | _,_=>none
def rq (e:Operand->Option Value):List (Nat × Operand)->Option (List (Nat × Value))
 | []=>some []
 | (i,x)::xs=>match e x,rq e xs with | some v,some vs=>some ((i,v)::vs) | _,_=>none
def dF (op:BinOp) (k:IntKind) (a b:Int):Int :=
 match op with
 | .and=>k.wrap (BitVec.ofInt k.bits a &&& BitVec.ofInt k.bits b).toNat
 | .or=>k.wrap (BitVec.ofInt k.bits a ||| BitVec.ofInt k.bits b).toNat
 | .xor=>k.wrap (BitVec.ofInt k.bits a ^^^ BitVec.ofInt k.bits b).toNat
 | _=>k.wrap (BitVec.ofInt k.bits a &&& ~~~(BitVec.ofInt k.bits b)).toNat
def pF (op:BinOp) (k:IntKind) (a b:Int) (K:Value->Prop):Prop :=
 match op with
 | .add=>Wr k (a+b) λc=>K (.int k c)
 | .sub=>Wr k (a - b) λc=>K (.int k c)
 | .mul=>Wr k (a*b) λc=>K (.int k c)
 | .quo=>Dv b (Wr k (a.tdiv b) λc=>K (.int k c))
 | .rem=>Dv b (K (.int k (a.tmod b)))
 | .and=>K (.int k (dF .and k a b))
 | .or=>K (.int k (dF .or k a b))
 | .xor=>K (.int k (dF .xor k a b))
 | .andNot=>K (.int k (dF .andNot k a b))
 | .shl=>Nn b (Wr k (a*2 ^ (min b.toNat k.bits)) λc=>K (.int k c))
 | .shr=>Nn b (K (.int k (a.fdiv (2 ^ (min b.toNat k.bits)))))
 | .eql=>K (.bool (a == b))
 | .neq=>K (.bool (a != b))
 | .lss=>K (.bool (decide (a < b)))
 | .leq=>K (.bool (decide (a<=b)))
 | .gtr=>K (.bool (decide (a > b)))
 | .geq=>K (.bool (decide (a>=b)))
def qN (op:BinOp) (x y:ByteArray) (K:Value->Prop):Prop :=
 match op with
 | .add=>((x.size+y.size:Nat):Int)<=IntKind.i64.max/\K (.string (x++y))
 | .eql=>K (.bool (x.toList == y.toList))
 | .neq=>K (.bool (!(x.toList == y.toList)))
 | .lss=>K (.bool (Op.bytesLess x.toList y.toList))
 | .leq=>K (.bool (Op.bytesLess x.toList y.toList || x.toList == y.toList))
 | .gtr=>K (.bool (!(Op.bytesLess x.toList y.toList || x.toList == y.toList)))
 | .geq=>K (.bool (!(Op.bytesLess x.toList y.toList)))
 | _=>False
def xH {α:Type} (a b:Option α):Option Bool:=match b with | none=>some a.isNone | some _=>match a with | none=>some false | some _=>none
def tj (P:Program) (t:TypeId) (x y:Value):Option Bool :=
  match P.underlying t with
  | some .bool=>match x,y with | .bool a, .bool b=>some (a == b) | _,_=>none
  | some (.int _)=>match x,y with | .int k a, .int k' b=>if k=k' then some (a == b) else none | _,_=>none
  | some .string=>match x,y with | .string a, .string b=>some (a == b) | _,_=>none
  | some (.pointer _)=>match x,y with | .pointer a, .pointer b=>xH a b | _,_=>none
  | some (.slice _)=>match x,y with | .slice a _ _, .slice b _ _=>xH a b | _,_=>none
  | some (.map _ _)=>match x,y with | .map a, .map b=>xH a b | _,_=>none
  | some (.interface ms)=>match x,y with | .iface _ _, .nilIface=>some false | .nilIface, .iface _ _=>some false | .nilIface, .nilIface=>bif ms.isEmpty then some true else none | _,_=>none
  | some (.func _ _ _)=>match x,y with | .func _ _ _, .nilFunc=>some false | .nilFunc, .nilFunc=>some true | .nilFunc, .func _ _ _=>some false | _,_=>none
  | _=>none
def Bz (P:Program):List Field->Array Value->Array Value->Option Bool
  | [],_,_=>some true
  | f::fs,xs,ys=>if f.name = "_" then none else
    match xC P f.type xs f.offset,xC P f.type ys f.offset with
    | some a,some b=>(match tj P f.type a b,Bz P fs xs ys with | some r,some r'=>some (r && r') | _,_=>none)
    | _,_=>none
def FU (P:Program) (t:TypeId) (xs ys:Array Value):Option Bool :=
 match P.underlying t with
 | some (.struct fs)=>bif P.stoodInHeld t || P.eqGuardType P.depth t then none else Bz P fs.toList xs ys
 | _=>none
def oc:Value->Value->Bool
 | .agg _,_=>false
 | .float _ _,_=>false
 | .complex _ _ _,_=>false
 | _,_=>true
def kR (x:Value) (K:Bool->Prop):Prop:=match x with | .func _ _ _=>K false | .nilFunc=>K true | _=>False
def qO (P:Program) (op:BinOp) (t:TypeId) (x y:Value) (K:Value->Prop):Prop :=
  match x with
  | .int k a=>match y with
    | .int k' b=>(match op with
      | .shl=>pF .shl k a b K
      | .shr=>pF .shr k a b K
      | op=>if k=k' then pF op k a b K else False)
    | _=>False
  | .string a=>match y with | .string b=>qN op a b K | _=>False
  | .agg xs=>match y with
    | .agg ys=>(match op with
      | .eql=>(match FU P t xs ys with | some r=>K (.bool r) | none=>False)
      | .neq=>(match FU P t xs ys with | some r=>K (.bool (!r)) | none=>False)
      | _=>False)
    | _=>False
  | x=>match op with
    | .eql=>if oc x y then match tj P t x y with | some r=>K (.bool r) | none=>False else False
    | .neq=>if oc x y then match tj P t x y with | some r=>K (.bool (!r)) | none=>False else False
    | _=>False
def qP (P:Program) (op:BinOp) (t:TypeId) (x y:Value) (K:Value->Prop):Prop :=
  match y with
  | .nilFunc=>(match P.underlying t with
    | some (.func _ _ _)=>(match op with
      | .eql=>kR x λb=>K (.bool b)
      | .neq=>kR x λb=>K (.bool (!b))
      | _=>False)
    | _=>False)
  | y=>qO P op t x y K
def qM (op:UnOp) (x:Value) (K:Value->Prop):Prop :=
 match op with
 | .not=>match x with | .bool b=>K (.bool (!b)) | _=>False
 | .neg=>match x with | .int k n=>Wr k (0 - n) λc=>K (.int k c) | _=>False
 | .xor=>match x with | .int k n=>K (.int k (dF .xor k (if k.signed then -1 else k.max) n)) | _=>False
 | .plus=>False
def qT (h:Hp) (a:Addr) (i:Nat):List Value->(List Value->Prop)->Prop
 | [],K=>K []
 | z::zs,K=>jE z λv=>cell h (a.add i)=some v/\qT h a (i+1) zs λvs=>K (v::vs)
def nC (P:Program) (t:TypeId) (h:Hp) (a:Addr) (K:Value->Prop):Prop :=
 match P.underlying t,zeroOf P t with
 | some d,some z=>dJ (oz d) ((match z with
   | .agg zs=>if fB P t=some zs.size then qT h a 0 zs.toList λvs=>K (.agg vs.toArray) else False
   | _=>False))<|jE z λv=>cell h a=some v/\K v
 | _,_=>False
def NA (v:Value) (X:Prop):Prop:=v.cells=#[v]/\X
def ae8:TypeDesc->Bool | .func _ _ _=>true | .interface _=>true | _=>false
def nH (P:Program) (t:TypeId):Bool:=match P.underlying t with | some d=>ae8 d | none=>false
def pe (P:Program) (t:TypeId) (h:Hp) (a:Addr) (v:Value) (K:Hp->Prop):Prop :=
 dJ (nH P t) (NA v (if fB P t=some 1 then fI h a 0 [v] K else False))<|if fB P t=some v.cells.size then fI h a 0 v.cells.toList K else False
theorem QZ {P:Program} {e:TypeId} {h:Hp} {a:Addr} {v:Value} {K:Hp->Prop} (b:pe P e h a v K):if fB P e=some v.cells.size then fI h a 0 v.cells.toList K else False:=by
 unfold pe at b;cases c:nH P e
 ·simpa only [c,cond] using b
 ·simp only[c,cond] at b;obtain ⟨f,d⟩:=b;rw[f];exact d
theorem aam {P:Program} {e:TypeId} {h:Hp} {a:Addr} {v:Value} {K f:Hp->Prop} (b:pe P e h a v K) (c:(if fB P e=some v.cells.size then fI h a 0 v.cells.toList f else False)):pe P e h a v f:=by
 unfold pe at b ⊢;cases d:nH P e
 ·simpa only [d,cond] using c
 ·simp only[d,cond] at b ⊢;refine ⟨b.1,?_⟩;rw[b.1] at c;exact c
def FO (P:Program) (t:TypeId) (i:Nat):Option Field :=
 match P.underlying t with | some (.struct fs)=>fs[i]? | _=>none
def places (P:Program):List Field->Option (List (Nat × Nat))
 | []=>some []
 | f::fs=>match fB P f.type,places P fs with | some n,some r=>some ((f.offset,n)::r) | _,_=>none
def Gw (P:Program) (t:TypeId) (parts:List (Nat × Value)):Option Value :=
  match zeroOf P t,P.underlying t with
  | some z,some (.struct fields)=>match places P fields.toList with
    | some ps=>(Instr.fill (ps[·]?) z.cells parts).map .agg
    | none=>none
  | some z,some (.array _ elem)=>match fB P elem with
    | some size=>(Instr.fill (λi=>some (i*size,size)) z.cells parts).map .agg
    | none=>none
  | _,_=>none
def sG (raw:Nat->Bool):List (Nat × Value)->Prop->Prop
 | [],X=>X
 | (i,v)::r,X=>dJ (raw i) (NA v (sG raw r X))<|sG raw r X
def vh (raw:Nat->Bool) (place:Nat->Option (Nat × Nat)) (cells:Array Value):List (Nat × Value)->Option (Array Value)
  | []=>some cells
  | (i,v)::rest =>
    match place i with
    | none=>none
    | some (off,size) =>
      if (bif raw i then #[v] else v.cells).size≠size || off+(bif raw i then #[v] else v.cells).size > cells.size then none
      else vh raw place ((bif raw i then #[v] else v.cells).zipIdx.foldl (λcs (c,j)=>cs.setIfInBounds (off+j) c) cells) rest
theorem Lq {b:Nat->Bool}:∀{c:List (Nat × Value)} {X:Prop},sG b c X->X/\(∀a cells,Instr.fill a cells c=vh b a cells c)/\∀Y:Prop,Y->sG b c Y:=by
  intro c
  induction c with
  | nil=>intro X h;exact ⟨h,λ_ _=>rfl,λ_ h=>h⟩
  | cons q c l =>
    intro X h;obtain ⟨i,v⟩:=q;simp only[sG] at h ⊢;cases e:b i with
    | false =>
      rw[e] at h;obtain ⟨k,j,g⟩:=l h;refine ⟨k,λa cells => ?_,λY f=>g Y f⟩;simp only[Instr.fill,vh,e,cond];cases a i with
      | none=>rfl
      | some x =>
        obtain ⟨off,d⟩:=x;dsimp only;split
        · rfl
        · exact j _ _
    | true =>
      rw[e] at h;obtain ⟨m,h⟩:=h;obtain ⟨k,j,g⟩:=l h;refine ⟨k,λa cells => ?_,λY f=>⟨m,g Y f⟩⟩;simp only[Instr.fill,vh,e,cond,m];cases a i with
      | none=>rfl
      | some x =>
        obtain ⟨off,d⟩:=x;dsimp only;split
        · rfl
        · exact j _ _
def RL (P:Program) (fields:Array Field) (i:Nat):Bool:=match fields[i]? with | some f=>nH P f.type | none=>false
def GA (P:Program) (t:TypeId) (parts:List (Nat × Value)) (K:Value->Prop):Prop :=
  match zeroOf P t,P.underlying t with
  | some z,some (.struct fields)=>match places P fields.toList with
    | some ps=>sG (RL P fields) parts (match vh (RL P fields) (ps[·]?) z.cells parts with | some cs=>K (.agg cs) | none=>False)
    | none=>False
  | some z,some (.array _ elem)=>match fB P elem with
    | some size=>sG (λ_=>nH P elem) parts (match vh (λ_=>nH P elem) (λi=>some (i*size,size)) z.cells parts with | some cs=>K (.agg cs) | none=>False)
    | none=>False
  | _,_=>False
theorem ON {P:Program} {e:TypeId} {f:List (Nat × Value)} {K:Value->Prop} (h:GA P e f K):∃v,Gw P e f=some v/\K v/\∀c:Value->Prop,c v->GA P e f c:=by
 unfold GA Gw at *;split at h
 ·rename_i z d l m
  split at h
  ·rename_i q p
   obtain ⟨b,j,i⟩:=Lq h;split at b
   ·rename_i cs a
    refine ⟨.agg cs,?_,b,λc g => ?_⟩
    ·simp[p,j,a]
    ·exact i _ (by simpa[a] using g)
   ·exact b.elim
  ·exact h.elim
 ·rename_i z n el l m
  split at h
  ·rename_i k o
   obtain ⟨b,j,i⟩:=Lq h;split at b
   ·rename_i cs a
    refine ⟨.agg cs,?_,b,λc g => ?_⟩
    ·simp[o,j,a]
    ·exact i _ (by simpa[a] using g)
   ·exact b.elim
  ·exact h.elim
 ·exact h.elim
def Gz (P:Program) (t:TypeId) (len:Nat) (parts:List (Nat × Value)):Option (Array Value × TypeId) :=
  match P.underlying t with
  | some (.slice elem)=>match fB P elem,zeroOf P elem with
    | some size,some z=>if len*size<=2 ^ 24 then (Instr.fill (λi=>some (i*size,size)) (zs (if len*size=0 then #[] else z.cells) (len*size)) parts).map (·,elem) else none
    | _,_=>none
  | _=>none
def Gy (P:Program) (t:TypeId) (len:Nat) (parts:List (Nat × Value)) (K:Array Value->TypeId->Prop):Prop :=
  match P.underlying t with
  | some (.slice elem)=>match fB P elem,zeroOf P elem with
    | some size,some z=>if len*size<=2 ^ 24 then sG (λ_=>nH P elem) parts (match vh (λ_=>nH P elem) (λi=>some (i*size,size)) (zs (if len*size=0 then #[] else z.cells) (len*size)) parts with | some cs=>K cs elem | none=>False) else False
    | _,_=>False
  | _=>False
theorem V4 {P:Program} {e:TypeId} {len:Nat} {a:List (Nat × Value)} {K:Array Value->TypeId->Prop} (h:Gy P e len a K):∃cs el,Gz P e len a=some (cs,el)/\K cs el/\∀c:Array Value->TypeId->Prop,c cs el->Gy P e len a c:=by
 unfold Gy Gz at *;split at h
 ·rename_i el j
  split at h
  ·rename_i g z k i
   split at h
   ·rename_i f
    obtain ⟨b,n,m⟩:=Lq h;split at b
    ·rename_i cs d
     refine ⟨cs,el,?_,b,λc l => ?_⟩
     ·simp only[j,k,i,f,if_true,n,d];rfl
     ·rw[if_pos f];exact m _ l
    ·exact b.elim
   ·exact h.elim
  ·exact h.elim
 ·exact h.elim
def lM (e:Operand->Option Value):Option Operand->Option (Option Int)
 | none=>some none
 | some x=>match e x with | some (.int _ n)=>some (some n) | _=>none
def JV (P:Program):List TypeId->Option (List Value)
 | []=>some []
 | t::ts=>match zeroOf P t,JV P ts with | some z,some zs=>some (z::zs) | _,_=>none
def dK (zs:List Value) (v:Value) (K:Value->Prop):Prop :=
 match zs with
 | [z]=>qF z λx=>v=x/\K x
 | zs=>uC zs λxs=>v=.tuple xs.toArray/\K (.tuple xs.toArray)
def jI (zs:List Value) (v:Value) (K:Value->Prop):Prop :=
 match zs with
 | [z]=>Eo z v K
 | zs=>match v with | .tuple xs=>KC zs xs.toList λys=>K (.tuple ys.toArray) | _=>False
theorem AP {zs:List Value} {v:Value} {K:Value->Prop} (h:jI zs v K):dK zs v K:=by
 unfold jI at h;unfold dK;split at h
 ·exact Qo h
 ·split at h
  ·refine KK (Y1 h) ?_;rintro b ⟨rfl,a⟩;exact ⟨by simp,a⟩
  ·exact h.elim
theorem RA {zs:List Value} {v:Value} {K:Value->Prop} (h:dK zs v K):K v:=by
 unfold dK at h;split at h
 ·obtain ⟨x,rfl,a⟩:=Qs h;exact a
 ·obtain ⟨x,_,rfl,a⟩:=Ze h;exact a
def Rz (P:Program) (ty:TypeId):List TypeId:=match P.underlying ty with | some (.tuple es)=>es.toList | _=>[ty]
def AI (P:Program) (ty:TypeId) (fv:Value) (args:List Value) (h:Hp) (K:Value->Hp->Prop) (Kp:List PanicEntry->Hp->Prop):Prop :=
 match JV P (Rz P ty) with
 | some zs=>bJ P fv args h (λv h'=>dK zs v λv'=>K v' h') Kp
 | none=>False
def AH (P:Program) (ty:TypeId) (fv:Value) (name:String) (args:List Value) (h:Hp) (K:Value->Hp->Prop) (Kp:List PanicEntry->Hp->Prop):Prop :=
 match JV P (Rz P ty) with
 | some zs=>cL P fv name args h (λv h'=>dK zs v λv'=>K v' h') Kp
 | none=>False
def xo (x:Value) (K:Value->Prop):Prop :=
 match x with
 | .string s=>K (.int .i64 s.size)
 | .slice _ n _=>K (.int .i64 n)
 | .map none=>K (.int .i64 0)
 | _=>False
def M0 (P:Program) (t:TypeId) (x:Value):Bool :=
 match P.underlying t,x with
 | some .string, .string _=>true
 | some (.slice _), .slice _ _ _=>true
 | some (.map _ _), .map none=>true
 | _,_=>false
def SK (x y:Value):Option Value:=match x,y with | .int k a, .int _ b=>some (.int k (if b < a then b else a)) | _,_=>none
def SN (x y:Value):Option Value:=match x,y with | .int k a, .int _ b=>some (.int k (if b > a then b else a)) | _,_=>none
def AJ (P:Program) (ts:List TypeId) (s x:Value) (h:Hp) (K:Value->Hp->Prop):Prop :=
  match ts,s with
  | [t,u], .slice a n c=>match P.underlying t,P.underlying u with
    | some (.slice elem),some du=>match P.info? elem,zeroOf P elem with
      | some i,some z=>(match du,x with
        | .int _,_=>False
        | _, .slice b m _=>Ap h elem z.cells i.size i.bytes ⟨a,n,c⟩ m (rd h b (m*i.size)) λs' h'=>K s'.v h'
        | _, .string bs=>Ap h elem z.cells i.size i.bytes ⟨a,n,c⟩ bs.size (λvs=>vs=bs.data.toList.map λb=>.int .u8 b.toNat) λs' h'=>K s'.v h'
        | _,_=>False)
      | _,_=>False
    | _,_=>False
  | _,_=>False
def Ak (h:Hp) (a:Option Addr) (vals:List Value->Prop) (K:Hp->Prop):Prop:=∃vs,vals vs/\match a with | some a=>fI h a 0 vs K | none=>K h
def K4 (P:Program) (ts:List TypeId) (s x:Value) (h:Hp) (K:Value->Hp->Prop):Prop :=
  match ts,s with
  | t::_, .slice a n _=>match P.underlying t with
    | some (.slice elem)=>(match fB P elem with
      | some size=>(match x with
        | .slice b m _=>Ak h a (rd h b (Nat.min m n*size)) λh'=>K (.int .i64 (Nat.min m n:Nat)) h'
        | .string bs=>Ak h a (λvs=>vs=(bs.extract 0 (Nat.min bs.size n)).data.toList.map λb=>.int .u8 b.toNat) λh'=>K (.int .i64 (Nat.min bs.size n:Nat)) h'
        | _=>False)
      | none=>False)
    | _=>False
  | _,_=>False
def r7 (h:Hp) (m:Option Nat) (kd:TypeDesc) (key:Value) (K:Hp->Prop):Prop :=
 match m with
 | none=>K h
 | some r=>∃es c res,h[r]? = some (.map es c)/\Instr.findNow kd key es.toList 0=some res/\K (h.setIfInBounds r (match res with | some (i,_)=>.map (es.eraseIdxIfInBounds i) c | none=>.map es c))
def K3 (P:Program) (ts:List TypeId) (m k:Value) (h:Hp) (K:Value->Hp->Prop):Prop :=
  match ts,m with
  | t::_, .map m=>match P.underlying t with
    | some (.map kt _)=>(match P.underlying kt with
      | some kd=>dJ (mU kd) (r7 h m kd k λh'=>K (.tuple #[]) h')<|False
      | none=>False)
    | _=>False
  | _,_=>False
def uG (P:Program) (b:Builtin) (ts:List TypeId) (args:List Value) (h:Hp) (K:Value->Hp->Prop):Prop :=
 match b with
 | .len=>match ts,args with | t::_,x::_=>if M0 P t x then xo x (λv=>K v h) else False | _,_=>False
 | .cap=>match ts,args with | t::_, .slice _ _ c::_=>(match P.underlying t with | some (.slice _)=>K (.int .i64 c) h | _=>False) | _,_=>False
 | .min=>match args with | [x,y]=>(match SK x y with | some v=>K v h | none=>False) | _=>False
 | .max=>match args with | [x,y]=>(match SN x y with | some v=>K v h | none=>False) | _=>False
 | .append=>match args with | [s,x]=>AJ P ts s x h K | _=>False
 | .copy=>match args with | [s,x]=>K4 P ts s x h K | _=>False
 | .delete=>match args with | [m,k]=>K3 P ts m k h K | _=>False
 | _=>False
def vA (P:Program) (src dst:TypeId) (x:Value) (h:Hp) (K:Value->Prop):Prop :=
 match P.underlying src,P.underlying dst with
 | some (.int _),some (.int k)=>match x with | .int _ n=>Wr k n λc=>K (.int k c) | _=>False
 | some .string,some .string=>match x with | .string s=>K (.string s) | _=>False
 | some (.slice e),some .string=>(match P.underlying e,x with | some (.int .u8), .slice a n c=>nZ h ⟨a,n,c⟩ λs=>K (.string s) | _,_=>False)
 | _,_=>False
def OR (P:Program) (asserted t:TypeId) (v:Value) (ok:Bool):Option Value :=
 match P.underlying asserted with
 | some (.interface _)=>none
 | some _=>if t=asserted then some (bif ok then .tuple #[v, .bool true] else v) else (bif ok then (zeroOf P asserted).map (λz=>.tuple #[z, .bool false]) else none)
 | none=>none
def fc (P:Program) (op:Op) (ty:TypeId) (e:Operand->Option Value) (K:Option Value->Hp->Prop) (Kp:List PanicEntry->Hp->Prop) (h:Hp):Prop :=
  match op with
  | .move x=>K (e x) h
  | .assign x=>K (e x) h
  | .pick c a b=>match e c with
    | some (.bool t)=>(match t with
      | true=>K (e a) h
      | false=>K (e b) h)
    | _=>False
  | .alloc t=>match zeroOf P t with | some z=>aD h z.cells t λa h'=>K (some (.pointer (some a))) h' | none=>False
  | .box t x=>match e x with | some v=>aD h v.cells t λa h'=>K (some (.pointer (some a))) h' | none=>False
  | .load t x=>match e x with | some (.pointer (some a))=>nC P t h a λv=>K (some v) h | _=>False
  | .store t x y=>match e x,e y with | some (.pointer (some a)),some v=>pe P t h a v λh'=>K none h' | _,_=>False
  | .nilCheck x=>match e x with
    | some v=>m9 P v λv'=>K (some v') h
    | none=>False
  | .binOp op t x y _=>match e x,e y with | some a,some b=>qP P op t a b λv=>K (some v) h | _,_=>False
  | .unOp op _ x=>match e x with | some a=>qM op a λv=>K (some v) h | none=>False
  | .convert s d x=>match e x with | some a=>vA P s d a h λv=>K (some v) h | none=>False
  | .makeInterface t x=>match e x,P.underlying t with
    | some _,some (.interface _)=>False
    | some v,some _=>K (some (.iface t v)) h
    | _,_=>False
  | .makeFunc fn first captured=>match eV e first.toList,eV e captured.toList with
    | some xs,some ys=>K (some (.func fn xs.toArray ys.toArray)) h
    | _,_=>False
  | .makeSlice t l c=>match e l,e c,P.underlying t with
    | some (.int _ l),some (.int _ c),some (.slice elem)=>(match P.info? elem,zeroOf P elem with
      | some i,some z=>bI h elem z.cells i.size i.bytes l c λs h'=>K (some s.v) h'
      | _,_=>False)
    | _,_,_=>False
  | .slice t x lo hi mx=>match e x,lM e lo,lM e hi,lM e mx with
    | some (.slice a n c),some lo,some hi,some mx=>(match P.underlying t with
      | some (.slice elem)=>(match fB P elem with | some size=>(if hi.isNone && mx.isSome then False else gp ⟨a,n,c⟩ size lo hi mx λs=>K (some s.v) h) | none=>False)
      | _=>False)
    | some (.string s),some lo,some hi,some none=>(match P.underlying t with
      | some .string=>lU s lo hi λs'=>K (some (.string s')) h
      | _=>False)
    | _,_,_,_=>False
  | .fieldAddr t x i=>match e x,FO P t i with
    | some (.pointer (some a)),some f=>(match fB P f.type with | some (_+1)=>K (some (.pointer (some (a.add f.offset)))) h | _=>False)
    | _,_=>False
  | .field t x i=>match e x,FO P t i with
    | some (.agg cs),some f=>(match xC P f.type cs f.offset with | some v=>K (some v) h | none=>False)
    | _,_=>False
  | .indexAddr t x ix=>match e x,e ix with
    | some (.slice a n _),some (.int _ i)=>(match P.underlying t with
      | some (.slice elem)=>(match fB P elem with | some size=>Ix a n size i λad=>K (some (.pointer (some ad))) h | none=>False)
      | _=>False)
    | some (.pointer p),some (.int _ i)=>(match P.underlying t with
      | some (.array n elem)=>(match fB P elem with | some size=>Ix p n size i λad=>K (some (.pointer (some ad))) h | none=>False)
      | _=>False)
    | _,_=>False
  | .index t x ix=>match e x,e ix with
    | some (.string s),some (.int _ i)=>(match P.underlying t with | some .string=>gq s i λb=>K (some (.int .u8 b)) h | _=>False)
    | some (.agg cs),some (.int _ i)=>(match P.underlying t with | some (.array n elem)=>qW P elem cs n i λv=>K (some v) h | _=>False)
    | _,_=>False
  | .makeMap _ r=>match r with | none=>yG h λm h'=>K (some (.map (some m))) h' | some _=>False
  | .lookup t x ix ok=>match e x,e ix,P.underlying t with
    | some (.map m),some k,some (.map kt et)=>(match P.underlying kt,zeroOf P et with
      | some kd,some z=>dJ (mU kd) (xK h m kd k z λv b=>K (some (bif ok then .tuple #[v, .bool b] else v)) h)<|False
      | _,_=>False)
    | _,_,_=>False
  | .mapUpdate t x k v=>match e x,e k,e v,P.underlying t with
    | some (.map m),some k,some v,some (.map kt _)=>(match P.underlying kt with
      | some kd=>dJ (mU kd) (Up h m kd k v λh'=>K none h')<|False
      | none=>False)
    | _,_,_,_=>False
  | .typeAssert x _ asserted ok=>match e x with
    | some (.iface t v)=>(match OR P asserted t v ok with | some u=>K (some u) h | none=>False)
    | _=>False
  | .extract x i=>match e x with
    | some (.tuple vs)=>(match vs[i]? with | some v=>K (some v) h | none=>False)
    | _=>False
  | .build t parts=>match rq e parts.toList with
    | some ps=>GA P t ps λv=>K (some v) h
    | none=>False
  | .buildSlice t len parts=>match rq e parts.toList with
    | some ps=>Gy P t len ps λcs elem=>aD h cs elem λa h'=>K (some (Sl.v ⟨some a,len,len⟩)) h'
    | none=>False
  | .panic x=>match e x with | some (.iface t v)=>Kp [{ v:=.iface t v,recovered:=false }] h | _=>False
  | .call c=>match c.callee with
    | .builtin b=>(match eV e c.args.toList with | some vs=>uG P b c.argTypes.toList vs h λv h'=>K (some v) h' | none=>False)
    | .value f=>(match e f,eV e c.args.toList with | some fv,some args=>AI P ty fv args h (λv h'=>K (some v) h') Kp | _,_=>False)
    | .invoke f name=>(match e f,eV e c.args.toList with | some fv,some args=>AH P ty fv name args h (λv h'=>K (some v) h') Kp | _,_=>False)
  | _=>False
def dP (fr:Fr) (d:Option Nat) (v:Option Value):Fr:=match d with | some t=>fr.set t v | none=>fr
def pn (P:Program) (ops:Array Oper) (i:Nat) (K:Fr->Hp->Prop) (Kp:List PanicEntry->Hp->Prop) (fr:Fr) (h:Hp):Prop :=
  match ops[i]? with
  | none=>K fr h
  | some o=>match o.guard with
    | none=>fc P o.op o.type (ev fr) (λv h'=>K (dP fr o.dst v) h') Kp h
    | some (j,b)=>match (ops[j]?).bind (·.dst) with
      | some d=>(match fr.getD d none with
        | some (.bool c)=>If c
          (dJ (b) (fc P o.op o.type (ev (fr.set d (some (.bool true)))) (λv h'=>K (dP (fr.set d (some (.bool true))) o.dst v) h') Kp h)<|K (dP (fr.set d (some (.bool true))) o.dst (some undef)) h)
          (dJ (b) (K (dP (fr.set d (some (.bool false))) o.dst (some undef)) h)<|fc P o.op o.type (ev (fr.set d (some (.bool false)))) (λv h'=>K (dP (fr.set d (some (.bool false))) o.dst v) h') Kp h)
        | some (.tuple _)=>K (dP fr o.dst (some undef)) h
        | _=>False)
      | none=>False
def forget (lv:List Nat) (fr:Fr):Fr:=fr.zipIdx.map λ(v,i)=>bif lv.contains i then v else none
abbrev cZ:=List (Nat × List Nat)
def cZ.find (aZ:cZ) (k:Nat) (fr:Fr):Fr:=match aZ with | []=>fr | (j,lv)::r=>bif j == k then forget lv fr else cZ.find r k fr
def cZ.AR (id:Nat):cZ->cZ
 | []=>[]
 | (k,lv)::r=>bif Nat.ble (40000+1000*id) k && Nat.ble k (40999+1000*id) then (k - (40000+1000*id),lv)::cZ.AR id r else cZ.AR id r
def cZ.at (aZ:cZ) (k:Nat) (fr:Fr) (K:Fr->Prop):Prop:=match aZ with | []=>K fr | (j,lv)::r=>dJ (j == k) (Ck (K (forget lv fr)))<|cZ.at r k fr K
def cZ.next (ra:cZ) (l:List Nat) (fr:Fr) (K:Fr->Prop):Prop:=match l with | []=>K fr | i::_=>ra.at i fr K
def AG (P:Program) (ra:cZ) (ops:Array Oper):List Nat->(Fr->Hp->Prop)->(List PanicEntry->Hp->Prop)->Fr->Hp->Prop
 | [],K,_,fr,h=>K fr h
 | i::l,K,Kp,fr,h=>pn P ops i (λbH h'=>ra.next l bH λxZ=>AG P ra ops l K Kp xZ h') Kp fr h
def kY:Code->Array Oper | .region _ ops _=>ops | _=>#[]
def eI:Code->Nat
 | .region id _ _=>id
 | .seq a _=>eI a
 | .cond (.tmp i) _ _=>i+20000
 | .cond _ a _=>eI a+500
 | .block id _=>id+1000
 | .loop b=>eI b+2000
 | .exit id=>id+3000
 | .rangeFunc _ _ a _=>eI a+4000
 | _=>9999
def Nh:Code->Nat
 | .cond _ x y=>3000000+100000*eI x+eI y
 | .seq x _=>Nh x
 | c=>eI c+2000000
abbrev Qt:=Exit->Fr->Hp->Prop
def sC (K:Fr->Hp->Prop) (Q:Qt):Qt:=λe fr h=>match e with | .normal=>K fr h | e=>Q e fr h
def GC (id:Nat) (Q:Qt):Qt:=λe fr h=>match e with | .exit j=>if j=id then Q .normal fr h else Q (.exit j) fr h | e=>Q e fr h
def xR (B:(Fr->Hp->Prop)->Fr->Hp->Prop):Nat->Fr->Hp->Prop
 | 0=>λ_ _=>False
 | n+1=>B (xR B n)
def yI (B:(Fr->Hp->Prop)->Fr->Hp->Prop) (fr:Fr) (h:Hp):Prop:=∃n,xR B n fr h
def nY (P:Program) (fv:Value) (args:List Value) (h:Hp) (K:Value->Hp->Prop) (Kp:List PanicEntry->Hp->Prop):Prop :=
 match fv with
 | .func (.func g) first captured=>dJ (fC P g) (cr P g (first.toList++args++captured.toList) h K Kp)<|False
 | _=>False
def XG (fr:Fr) (tm:Array Value):Prop:=fr.length<=tm.size/\∀i v,fr.getD i none=some v->tm.getD i undef=v
def yh (rd:Option Nat) (h:Hp) (K:Hp->Nat->Prop):Prop :=
 match rd with
 | none=>K (h.push (.deferred none)) h.size
 | some l=>match h[l]? with | some (.loop r)=>K h r.defers | _=>False
def tq (l:Nat) (h:Hp) (K:Option Code->Hp->Prop):Prop :=
 match h[l]? with | some (.loop r)=>r.state≠.busy/\K r.pending (h.setIfInBounds l (.loop { r with state:=.exhausted })) | _=>False
def c8 (P:Program) (aZ:cZ) (D:Nat->Array Oper->(Fr->Hp->Prop)->(List PanicEntry->Hp->Prop)->Fr->Hp->Prop) (rd:Option Nat):Code->Qt->(List PanicEntry->Hp->Prop)->Fr->Hp->Prop
  | .skip,Q,_,fr,h=>Q .normal fr h
  | .label _,Q,_,fr,h=>Q .normal fr h
  | .region id ops draw,Q,Kp,fr,h=>dJ (draw) (D id ops (Q .normal) Kp fr h)<|AG P (aZ.AR id) ops (List.range ops.size) (Q .normal) Kp fr h
  | .seq x y,Q,Kp,fr,h=>c8 P aZ D rd x (sC (λbH h'=>aZ.at (Nh y) bH λxZ=>c8 P aZ D rd y Q Kp xZ h') Q) Kp fr h
  | .cond c x y,Q,Kp,fr,h=>match ev fr c with
    | some (.bool b)=>If b (c8 P aZ D rd x Q Kp (aZ.find (eI x+5000) fr) h) (c8 P aZ D rd y Q Kp (aZ.find (eI y+5000) fr) h)
    | _=>False
  | .block id x,Q,Kp,fr,h=>c8 P aZ D rd x (GC id Q) Kp fr h
  | .loop x,Q,Kp,fr,h=>yI (λN fr h=>c8 P aZ D rd x (sC (λbH h'=>N (aZ.find (eI x+2000) bH) h') Q) Kp fr h) (aZ.find (eI x+2000) fr) h
  | .rangeFunc g ps assign body,Q,Kp,fr,h=>match ev fr g with
    | some fv=>∀fn tm,XG (aZ.find (eI assign+4000) fr) tm->yh rd h λh0 d =>
        nY P fv [.func (.yield h0.size) #[] #[]] (h0.push (.loop { state:=.ready,pending:=none,fn,tmps:=tm,params:=ps,assign,body,defers:=d }))
          (λ_ h'=>tq h0.size h' λjump lN=>match jump with
            | none=>Q .normal (aZ.find (eI assign+4000) fr) lN
            | some .ret=>Q .ret (aZ.find (eI assign+4000) fr) lN
            | some (.exit id)=>Q (.exit id) (aZ.find (eI assign+4000) fr) lN
            | _=>False) Kp
    | none=>False
  | .exit id,Q,_,fr,h=>Q (.exit id) fr h
  | .ret,Q,_,fr,h=>Q .ret fr h
  | _,_,_,_,_=>False
end Go.Sh
