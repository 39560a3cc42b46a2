import Derived.Test.YtikpikmkhdapiaaGreatDoorBeginsShDraw
set_option linter.unusedSimpArgs false
set_option linter.unusedVariables false
set_option maxRecDepth 100000
set_option maxHeartbeats 1000000
namespace Go.Sh
variable {P:Program}
def sub:List Nat->Code->Code
 | [],c=>c
 | 0::p, .seq x _=>sub p x
 | _::p, .seq _ y=>sub p y
 | 0::p, .cond _ x _=>sub p x
 | _::p, .cond _ _ y=>sub p y
 | _::p, .block _ x=>sub p x
 | _::p, .loop x=>sub p x
 | 0::p, .rangeFunc _ _ x _=>sub p x
 | _::p, .rangeFunc _ _ _ y=>sub p y
 | _,c=>c
def nI (P:Program) (aZ:cZ) (D:Nat->Array Oper->(Fr->Hp->Prop)->(List PanicEntry->Hp->Prop)->Fr->Hp->Prop) (rd:Option Nat) (Kp:List PanicEntry->Hp->Prop) :
  List Nat->Code->List (Fr->Hp->Prop)->Qt->Qt
 | 0::p, .seq x y,Ns,Q=>nI P aZ D rd Kp p x Ns (sC (λbH h'=>aZ.at (Nh y) bH λxZ=>c8 P aZ D rd y Q Kp xZ h') Q)
 | _::p, .seq _ y,Ns,Q=>nI P aZ D rd Kp p y Ns Q
 | 0::p, .cond _ x _,Ns,Q=>nI P aZ D rd Kp p x Ns Q
 | _::p, .cond _ _ y,Ns,Q=>nI P aZ D rd Kp p y Ns Q
 | _::p, .block id x,Ns,Q=>nI P aZ D rd Kp p x Ns (GC id Q)
 | _::p, .loop x,N::Ns,Q=>nI P aZ D rd Kp p x Ns (sC (λbH h'=>N (aZ.find (eI x+2000) bH) h') Q)
 | _,_,_,Q=>Q
theorem MT {σ:Type} {B:(Fr->Hp->Prop)->Fr->Hp->Prop} (mk:σ->Fr) (T:(Fr->Hp->Prop)->σ->Hp->Prop) (hT:∀N s h,T N s h=B N (mk s) h) (I:σ->Hp->Prop) (μ:σ->Hp->Nat) {s0:σ} {h:Hp}
    (i:I s0 h) (step:∀s h,I s h->∀N:Fr->Hp->Prop,(∀a b,I a b->μ a b < μ s h->N (mk a) b)->T N s h):yI B (mk s0) h:=by
  have key:∀n s h,I s h->μ s h < n->xR B n (mk s) h:=by
    intro n
    induction n with
    | zero=>intro s h _ c;omega
    | succ n f =>
      intro s h g c
      show B (xR B n) (mk s) h
      rw[<-hT];exact step s h g _ λa b d e=>f a b d ag
  exact ⟨_,key _ s0 h i (Nat.lt_succ_self _)⟩
def bs (l:List UInt8):ByteArray:=⟨l.toArray⟩
def Lt {α:Type} (x:α) (K:α->Prop):Prop:=K x
def aO (h h':Hp) (a:Addr) (n:Nat) (X:Prop):Prop:=vZ h h' a n/\X
abbrev HP:=Hp->Prop
abbrev PK:=List PanicEntry->HP
abbrev nO:Option Value:=none
abbrev vP (a:Addr):Option Value:=some (.pointer (some a))
abbrev vI (x:Int):Option Value:=some (.int .i64 x)
abbrev vS (s:Sl):Option Value:=some s.v
abbrev mI (x:Int):Value:=.int .i64 x
def nn (n:Nat):Fr:=List.replicate n none
def rI (v:Value) (K:Int->Prop):Prop:=match v with | .int _ x=>K x | _=>False
def rB (v:Value) (K:Bool->Prop):Prop:=match v with | .bool x=>K x | _=>False
def rT (v:Value) (K:ByteArray->Prop):Prop:=match v with | .string x=>K x | _=>False
def rS (v:Value) (K:Sl->Prop):Prop:=match v with | .slice a n c=>K ⟨a,n,c⟩ | _=>False
def rP (v:Value) (K:Option Addr->Prop):Prop:=match v with | .pointer x=>K x | _=>False
def rM (v:Value) (K:Option Nat->Prop):Prop:=match v with | .map x=>K x | _=>False
def rA (v:Value) (K:Value->Prop):Prop:=K v
def rG (v:Value) (K:List Value->Prop):Prop:=match v with | .agg x=>K x.toList | _=>False
def rU (v:Value) (K:List Value->Prop):Prop:=match v with | .tuple x=>K x.toList | _=>False
abbrev pZ:=List (Nat × OT × List Nat)
structure Cx where
 P:Program
 aZ:cZ
 ord:pZ
 rd:Option Nat
 c:Code
 q:Qt
 Kp:PK
 n:Nat
def Rm (C:Cx) (p:List Nat) (Ns:List (Fr->HP)) (fr:Fr) (h:Hp):Prop:=c8 C.P C.aZ (gD C.P C.ord) C.rd (sub p C.c) (nI C.P C.aZ (gD C.P C.ord) C.rd C.Kp p C.c Ns C.q) C.Kp fr h
def aa9 (C:Cx) (p:List Nat) (Ns:List (Fr->HP)) (fr:Fr) (h:Hp):Prop:=Ck (c8 C.P C.aZ (gD C.P C.ord) C.rd (sub p C.c) (nI C.P C.aZ (gD C.P C.ord) C.rd C.Kp p C.c Ns C.q) C.Kp fr h)
def aa3 (C:Cx) (p:List Nat) (Ns:List (Fr->HP)) (id:Nat) (l:List Nat) (fr:Fr) (h:Hp):Prop:=Ck (AG C.P (cZ.AR id C.aZ) (kY (sub p C.c)) l (nI C.P C.aZ (gD C.P C.ord) C.rd C.Kp p C.c Ns C.q .normal) C.Kp fr h)
def abi (C:Cx) (k:Nat) (p:List Nat) (Ns:List (Fr->HP)) (N:Fr->HP) (fr:Fr) (h:Hp):Prop:=c8 C.P C.aZ (gD C.P C.ord) C.rd (sub (p++[0]) C.c) (sC (λbH h'=>N (C.aZ.find k bH) h') (nI C.P C.aZ (gD C.P C.ord) C.rd C.Kp p C.c Ns C.q)) C.Kp fr h
def aa8 (C:Cx) (k:Nat) (p:List Nat) (Ns:List (Fr->HP)) (fr:Fr) (h:Hp):Prop:=yI (abi C k p Ns) fr h
theorem jof {A B:Prop} (H:A) (e:A=B):Ck B:=⟨e ▸ H⟩
theorem agK {b:cZ} {o:pZ} {f:FuncId} {a:Func} {zs:List Value} {C:List Value} {h:Hp} {g:Value->Hp->Prop} {i:PK} {S:Prop} {j:Value->Hp->Prop} (m:P.funcs[f]? = some a) (n:a.body.isSome=true)
  (H:S) (e:S=c8 P b (gD P o) none (a.body.getD .skip) (iT P a.results.toList zs g) i (C.map some++List.replicate (a.ntmps - C.length) none) h)
  (p:(λv q=>dK zs v λl=>g l q)=j):cr P f C h j i:=by
 obtain ⟨c,d⟩:=Option.isSome_iff_exists.1 n;rw[d] at e;exact p ▸ Oa (tA _) m d (e ▸ H)
def PI (L:HP) (mk:Fr) (T:(Fr->HP)->HP):Prop:=∀(I:HP) (μ:Hp->Nat) {h:Hp},I h->(∀h,I h->∀N:Fr->HP,(∀h',I h'->μ h' < μ h->N mk h')->T N h)->L h
theorem aeb {B:(Fr->HP)->Fr->HP} {L:HP} {mk:Fr} {T:(Fr->HP)->HP} (b:∀h,L h=yI B mk h:=by intros;exact rfl) (hT:∀N h,T N h=B N mk h:=by intros;kernel_rfl):PI L mk T:=by
 intro I μ  h d step;rw[b];exact MT (σ:=Unit) (λs=>mk) (λN s h=>T N h) (λN s h=>hT N h) (λs h=>I h) (λs h=>μ h) (s0:=()) d λs h c N hN=>step h c N λe a hl=>hN () e a hl
def eG {A0:Type} (L:A0->HP) (mk:A0->Fr) (T:(Fr->HP)->A0->HP):Prop:=∀(I:A0->HP) (μ:A0->Hp->Nat) {x0:A0} {h:Hp},I x0 h->(∀x0 h,I x0 h->∀N:Fr->HP,(∀y0 h',I y0 h'->μ y0 h' < μ x0 h->N (mk y0) h')->T N x0 h)->L x0 h
theorem eH {b:Type} {B:(Fr->HP)->Fr->HP} {L:b->HP} {mk:b->Fr} {T:(Fr->HP)->b->HP} (e:∀a h,L a h=yI B (mk a) h:=by intros;exact rfl) (hT:∀N a h,T N a h=B N (mk a) h:=by intros;kernel_rfl):eG L mk T:=by
 intro I μ a h g step;rw[e];exact MT (σ:=b) (λs=>mk s ) (λN s h=>T N s h) (λN s h=>hT N s h) (λs h=>I s h) (λs h=>μ s h) (s0:=a) g λs h f N hN=>step s h f N λd i c hl=>hN d i c hl
def iK {A0 A1:Type} (L:A0->A1->HP) (mk:A0->A1->Fr) (T:(Fr->HP)->A0->A1->HP):Prop:=∀(I:A0->A1->HP) (μ:A0->A1->Hp->Nat) {x0:A0} {x1:A1} {h:Hp},I x0 x1 h->(∀x0 x1 h,I x0 x1 h->∀N:Fr->HP,(∀y0 y1 h',I y0 y1 h'->μ y0 y1 h' < μ x0 x1 h->N (mk y0 y1) h')->T N x0 x1 h)->L x0 x1 h
theorem iV {d c:Type} {B:(Fr->HP)->Fr->HP} {L:d->c->HP} {mk:d->c->Fr} {T:(Fr->HP)->d->c->HP} (i:∀b a h,L b a h=yI B (mk b a) h:=by intros;exact rfl) (hT:∀N b a h,T N b a h=B N (mk b a) h:=by intros;kernel_rfl):iK L mk T:=by
 intro I μ b a h l step;rw[i];exact MT (σ:=d × c) (λs=>mk (s.1) (s.2) ) (λN s h=>T N (s.1) (s.2) h) (λN s h=>hT N (s.1) (s.2) h) (λs h=>I (s.1) (s.2) h) (λs h=>μ (s.1) (s.2) h) (s0:=⟨b,a⟩) l λs h j N hN=>step (s.1) (s.2) h j N λg f m e hl=>hN ⟨g,f⟩ m e hl
abbrev PA:=Option Addr
abbrev BA:=ByteArray
abbrev vB (b:Bool):Option Value:=some (.bool b)
abbrev vp (a:PA):Option Value:=some (.pointer a)
def fg:List (Nat × Option Value)->Nat->Fr
 | [],n=>nn n
 | (k,v)::r,n=>nn k++v::fg r n
def R5:Nat->Nat->List Nat->List Nat
 | 0,_,l=>l
 | f+1,n,l=>bif Nat.ble n 1 then l else R5 f (n / 2) (n % 2::l)
def pb (n:Nat):List Nat:=R5 200 n []
def fq:Nat->List Nat->List (Option Value)->Nat->Fr
 | p,s::ss,v::vs,n=>nn (s - p)++v::fq (s+1) ss vs n
 | p,_,_,n=>nn (n - p)
def jQ (C:Cx) (i p:Nat) (Ns:List (Fr->HP)) (vs:List (Option Value)) (h:Hp):Prop:=aa9 C (pb p) Ns (fq 0 (C.aZ.getD i (0,[])).2 vs C.n) h
def RF:Code->Nat | .region i _ _=>i | _=>0
def rQ (C:Cx) (i p:Nat) (Ns:List (Fr->HP)) (vs:List (Option Value)) (h:Hp):Prop :=
 aa3 C (pb p) Ns (RF (sub (pb p) C.c)) ((List.range (kY (sub (pb p) C.c)).size).drop ((C.aZ.getD i (0,[])).1 - 40000 - 1000*RF (sub (pb p) C.c))) (fq 0 (C.aZ.getD i (0,[])).2 vs C.n) h
def lQ (C:Cx) (k p:Nat) (Ns:List (Fr->HP)) (fr:Fr) (h:Hp):Prop:=aa8 C k (pb p) Ns fr h
inductive Tg | i (k:IntKind) | b | t | s | p | m | a (z:Value) | d
abbrev tI:Tg:=.i .i64
abbrev Tg.ty:Tg->Type | .i _=>Int | .b=>Bool | .t=>ByteArray | .s=>Sl | .p=>Option Addr | .m=>Option Nat | .a _=>Value | .d=>Addr
def Tg.mk:(y:Tg)->y.ty->Value | .i k,x=>.int k x | .b,x=>.bool x | .t,x=>.string x | .s,x=>Sl.v x | .p,x=>.pointer x | .m,x=>.map x | .a _,x=>x | .d,x=>.pointer (some x)
def Tg.z:Tg->Value | .i k=>.int k 0 | .b=>.bool false | .t=>.string (bs []) | .s=>.slice none 0 0 | .p=>.pointer none | .m=>.map none | .a z=>z | .d=>undef
def Tg.rd:(y:Tg)->Value->(y.ty->Prop)->Prop | .i _,v,K=>rI v K | .b,v,K=>rB v K | .t,v,K=>rT v K | .s,v,K=>rS v K | .p,v,K=>rP v K | .m,v,K=>rM v K | .a _,v,K=>rA v K | .d,v,K=>match v with | .pointer (some x)=>K x | _=>False
def Cu:List Tg->Type->Type | [],R=>R | y::l,R=>y.ty->Cu l R
abbrev Rs:=List (Bool × List Tg)
def r8:Rs->Type | []=>HP | c::r=>Cu c.2 (r8 r)
def zQ (q:Rs):List Value:=q.map λc=>bif c.1 then .agg (c.2.map Tg.z).toArray else (c.2.map Tg.z).headD undef
def kL:(l:List Tg)->{R:Type}->Cu l R->List Value->Nat->(R->Prop)->Prop
 | [],_,k,_,_,c=>c k
 | y::l,_,k,cs,i,c=>y.rd (cs.getD i undef) λx=>kL l (k x) cs (i+1) c
def kC (b:Bool) (l:List Tg) {R:Type} (k:Cu l R) (v:Value) (c:R->Prop):Prop:=match b with | true=>rG v λcs=>kL l k cs 0 c | false=>kL l k [v] 0 c
def kM:(q:Rs)->r8 q->List Value->Nat->Hp->Prop
 | [],k,_,_,h=>k h
 | c::r,k,vs,i,h=>kC c.1 c.2 k (vs.getD i undef) λk'=>kM r k' vs (i+1) h
def kQ:(q:Rs)->r8 q->Value->Hp->Prop
 | [],K,_,h=>K h
 | [c],K,v,h=>kC c.1 c.2 K v λk=>k h
 | c::d::r,K,v,h=>rU v λvs=>kM (c::d::r) K vs 0 h
def xL:(l:List Tg)->{R:Type}->Cu l R->List Value->(List Value->R->Prop)->Prop
 | [],_,k,acc,c=>c acc k
 | y::l,_,k,acc,c=>∃x:y.ty,xL l (k x) (acc++[y.mk x]) c
def xM:(q:Rs)->r8 q->List Value->(List Value->HP->Prop)->Prop
 | [],k,acc,c=>c acc k
 | (b,l)::r,k,acc,c=>xL l k [] λvs k'=>xM r k' (acc++[bif b then .agg vs.toArray else vs.headD undef]) c
def xQ (q:Rs) (K:r8 q) (v:Value) (h:Hp):Prop:=xM q K [] λvs k=>v=iC vs/\k h
abbrev uA:Tg:=.a undef
def jL:(l:List Tg)->List (Option Value)->(List (Option Value)->HP)->Cu l HP
 | [],acc,f=>f acc
 | y::l,acc,f=>λx=>jL l (acc++[some (y.mk x)]) f
def jK {κ:Type} (c:κ->PK->Cx) (i p:Nat) (l:List Tg) (K:κ) (Kp:PK):Cu l HP:=jL l [] λvs=>jQ (c K Kp) i p [] vs
def ov {κ:Type} (c:κ->PK->Cx) (i p:Nat) (l:List Tg) (K:κ) (Kp:PK) (N1:Fr->HP):Cu l HP:=jL l [] λvs=>jQ (c K Kp) i p [N1] vs
def rK {κ:Type} (c:κ->PK->Cx) (i p:Nat) (l:List Tg) (K:κ) (Kp:PK):Cu l HP:=jL l [] λvs=>rQ (c K Kp) i p [] vs
def RM {κ:Type} (c:κ->PK->Cx) (i p:Nat) (l:List Tg) (K:κ) (Kp:PK) (N1:Fr->HP):Cu l HP:=jL l [] λvs=>rQ (c K Kp) i p [N1] vs
section
variable {R:Type} (k:Value->R)
abbrev cI (x:Int):R:=k (.int .i64 x)
abbrev cB (x:Bool):R:=k (.bool x)
abbrev cT (x:BA):R:=k (.string x)
abbrev cS (x:Sl):R:=k (Sl.v x)
abbrev cP (x:PA):R:=k (.pointer x)
abbrev cD (x:Addr):R:=k (.pointer (some x))
abbrev cM (x:Option Nat):R:=k (.map x)
abbrev cA (x:Value):R:=k x
end
def mc (P:Program) (fn:Func) (aZ:cZ) (ord:pZ) (q:Rs) (K:r8 q) (Kp:PK):Cx:=⟨P,aZ,ord,none,fn.body.getD .skip,iT P fn.results.toList (zQ q) (kQ q K),Kp,fn.ntmps⟩
theorem jf {A B:Prop} (H:A) (e:A=B:=by kernel_rfl):Ck B:=jof H e
theorem jt (c:cZ) (o:pZ) (q:Rs) (K:r8 q) {f:FuncId} {b:Func} {a:List Value} {h:Hp} {d:PK} {S:Prop} {e:Value->HP} (i:P.funcs[f]? = some b) (H:S)
  (j:b.body.isSome=true:=by kernel_rfl) (l:S=c8 P c (gD P o) none (b.body.getD .skip) (iT P b.results.toList (zQ q) (kQ q K)) d (a.map some++List.replicate (b.ntmps - a.length) none) h:=by kernel_rfl)
  (m:(λv n=>dK (zQ q) v λg=>kQ q K g n)=e:=by kernel_rfl):cr P f a h e d:=agK i j H l m
theorem ck (q:Rs) (K:r8 q) {f:FuncId} {b:Func} {a:List Value} {h:Hp} {c:PK} {S:Prop} {d:Value->HP} (g:P.funcs[f]? = some b) (H:S)
  (i:b.body.isSome=true:=by kernel_rfl) (j:S=c8 P [] (gD P []) none (b.body.getD .skip) (iT P b.results.toList (zQ q) (kQ q K)) c (a.map some++List.replicate (b.ntmps - a.length) none) h:=by kernel_rfl)
  (l:(λv m=>dK (zQ q) v λe=>kQ q K e m)=d:=by kernel_rfl):cr P f a h d c:=jt [] [] q K g H i j l
theorem bU (C:Cx) (q:Rs) (K:r8 q) {f:FuncId} {b:Func} {a:List Value} {h:Hp} {S:Prop} {c:Value->HP} (e:C.P.funcs[f]? = some b) (H:S) (g:b.body.isSome=true:=by kernel_rfl)
  (i:S=c8 C.P C.aZ (gD C.P C.ord) none (b.body.getD .skip) (iT C.P b.results.toList (zQ q) (kQ q K)) C.Kp (a.map some++List.replicate (b.ntmps - a.length) none) h:=by kernel_rfl)
  (j:(λv l=>dK (zQ q) v λd=>kQ q K d l)=c:=by kernel_rfl):cr C.P f a h c C.Kp:=jt C.aZ C.ord q K e H g i j
theorem Yt {y:Tg} {i:FuncId} {C:List Value} {h:Hp} {a:PK} {K:y.ty->HP} (H:cr P i C h (xQ [(false,[y])] K) a):cr P i C h (λv b=>∃x:y.ty,v=y.mk x/\K x b) a:=H
end Go.Sh
