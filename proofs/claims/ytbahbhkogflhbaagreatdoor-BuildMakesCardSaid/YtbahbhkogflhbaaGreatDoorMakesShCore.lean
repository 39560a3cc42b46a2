import Derived.CallsIn
import Derived.KernelRfl
import Derived.WalkKit
import Derived.TacticsInMore
set_option linter.all false
namespace Go.Sh
abbrev fh:=ByteArray
abbrev cU:=List Nat
abbrev iz:=List (List UInt8)
abbrev dy:=List UInt8
abbrev bq:=List Value
abbrev aQ:=Nat->Prop
abbrev aC:=@if_neg
abbrev aK:=@if_pos
abbrev bJ:=@List.getElem?_eq_getElem
abbrev bT:=@List.mem_of_getElem?
abbrev bX:=@Nat.le_refl
abbrev cr:=@List.length_map
abbrev cF:=@Nat.zero_add
abbrev de:=@List.getElem?_eq_some_iff
abbrev dw:=@Bool.and_eq_true
abbrev dR:=@decide_eq_true_eq
abbrev eu:=@Nat.zero_le
abbrev eY:=@List.getElem?_map
abbrev fU:=@List.getElem?_append_right
abbrev gf:=@Int.toNat_natCast
abbrev gB:=@if_true
abbrev gN:=@List.getElem?_append_left
abbrev gV:=@List.getD_eq_getElem?_getD
abbrev iA:=@List.length_append
abbrev iN:=@List.length_cons
abbrev jE:=@Nat.le_trans
abbrev jD:=@Array.getElem?_eq_some_iff
abbrev jC:=@List.length_singleton
abbrev jB:=@List.length_eq_zero_iff
abbrev jI:=@List.prefix_refl
abbrev kq:=@List.map_append
abbrev kj:=@List.set_cons_zero
abbrev ki:=@Bool.eq_iff_iff
abbrev kH:=@List.getElem_mem
abbrev kS:=@List.take_succ_eq_append_getElem
abbrev kZ:=@List.mem_map
abbrev lN:=@if_false
abbrev mG:=@Bool.false_eq_true
abbrev mF:=@Option.some.injEq
abbrev mE:=@List.mem_cons
abbrev mD:=@List.mem_iff_getElem?
abbrev nh:=@List.mem_append
abbrev ng:=@List.mem_singleton
abbrev m9:=@Nat.lt_of_lt_of_le
abbrev m8:=@List.length_take
abbrev m7:=@List.length_zipWith
abbrev m5:=@List.take_length
abbrev oh:=@beq_iff_eq
abbrev oQ:=@Nat.mul_le_mul_right
abbrev oP:=@List.setIfInBounds_toArray
abbrev pQ:=@Option.getD_some
abbrev pP:=@Option.map_some
abbrev pO:=@List.getElem?_toArray
abbrev pN:=@List.not_mem_nil
abbrev qA:=@List.append_nil
abbrev qz:=@List.ext_getElem?
abbrev qy:=@List.take_of_length_le
abbrev rD:=@List.map_cons
abbrev rC:=@Nat.succ_mul
abbrev rz:=@List.append_assoc
abbrev ry:=@List.length_nil
abbrev sF:=@Array.getElem?_setIfInBounds
abbrev tV:=@Option.map_eq_some_iff
abbrev tU:=@Bool.not_eq_true'
abbrev tS:=@Array.ext'
abbrev tR:=@Array.getD_eq_getD_getElem?
abbrev tQ:=@congrArg
abbrev tP:=@List.set_cons_succ
abbrev tO:=@Nat.mul_le_mul
abbrev tN:=@UInt8.toNat_ofNat'
abbrev tM:=@List.prefix_append
abbrev vi:=@Nat.mul_one
abbrev vh:=@List.getElem?_set
abbrev vg:=@List.pairwise_iff_getElem
abbrev uZ:=@List.eq_nil_of_length_eq_zero
abbrev uY:=@Nat.mod_eq_of_lt
abbrev uX:=@List.range_succ
abbrev uW:=@Option.some.inj
abbrev wI:=@decide_eq_false_iff_not
abbrev wH:=@Array.ext_getElem?
abbrev wG:=@Option.getD_none
abbrev wF:=@List.mem_range
abbrev wE:=@BitVec.toNat_ofNat
abbrev yF:=@bne_iff_ne
abbrev yE:=@Nat.mod_lt
abbrev yD:=@Classical.byContradiction
abbrev yC:=@List.getElem?_set_self
abbrev yB:=@List.getElem?_set_ne
abbrev yA:=@List.cons_append
abbrev yz:=@Nat.sub_self
abbrev yy:=@Int.toNat_of_nonneg
abbrev yx:=@List.set_append_right
abbrev yw:=@List.pairwise_cons
abbrev AD:=@Array.getElem?_eq_getElem
abbrev AB:=@List.all_eq_true
abbrev AA:=@Int.le_refl
abbrev Az:=@List.nil_append
abbrev Ay:=@List.length_set
abbrev Ax:=@Nat.min_self
abbrev Aw:=@Bool.true_and
abbrev Au:=@UInt8.toNat_lt
abbrev At:=@List.dropLast_concat_getLast
abbrev Ar:=@List.pairwise_singleton
abbrev Aq:=@Ne.symm
abbrev Ao:=@or_false
abbrev Cq:=@Array.getElem?_map
abbrev CF:=@Option.bind_eq_some_iff
abbrev CE:=@Array.getElem?_toList
abbrev CD:=@List.map_nil
abbrev CC:=@List.drop_eq_getElem_cons
abbrev CB:=@List.zipWith_append
abbrev CA:=@List.getElem?_cons_zero
abbrev Cz:=@List.drop_drop
abbrev Cy:=@List.map_congr_left
abbrev Cw:=@List.length_flatMap
abbrev Cv:=@List.getElem?_cons_succ
abbrev Ct:=@List.map_set
abbrev Cr:=@Nat.min_eq_left
abbrev ES:=@Nat.add_zero
abbrev ER:=@cond_true
abbrev EP:=@and_true
abbrev EO:=@List.contains_eq_mem
abbrev EN:=@Nat.le_of_eq
abbrev EM:=@List.getElem?_range
abbrev EL:=@List.take_append_drop
abbrev EK:=@Nat.pow_le_pow_right
abbrev EJ:=@BitVec.ofInt_natCast
abbrev EI:=@Int.fdiv_eq_ediv_of_nonneg
abbrev EH:=@Int.pow_pos
abbrev EG:=@Bool.false_and
abbrev EF:=@List.drop_length
abbrev EE:=@List.replicate_succ'
abbrev ED:=@List.size_toArray
abbrev IF:=@List.getElem?_eq_none
abbrev IE:=@Bool.or_eq_true
abbrev ID:=@Array.getElem?_push_size
abbrev IC:=@Nat.add_mul
abbrev IB:=@List.take_zero
abbrev IA:=@Nat.pow_add
abbrev Iz:=@Nat.mul_comm
abbrev Iy:=@List.getElem?_drop
abbrev Iw:=@Int.le_of_lt
abbrev Iv:=@Nat.or_lt_two_pow
abbrev Iu:=@List.length_drop
abbrev It:=@List.map_take
abbrev Is:=@List.take_append_of_le_length
abbrev Ir:=@List.replicate_succ
abbrev Iq:=@List.getD_cons_zero
abbrev Ip:=@List.length_replicate
abbrev Io:=@List.map_singleton
abbrev Im:=@List.sum_append
abbrev Il:=@List.length_range
abbrev ML:=@Array.getElem?_modify
abbrev MK:=@Option.isSome_iff_exists
abbrev MJ:=@Nat.sub_zero
abbrev MI:=@Array.getElem?_append_left
abbrev MH:=@List.mem_filterMap
abbrev MG:=@Array.getElem?_setIfInBounds_ne
abbrev MF:=@decide_eq_true
abbrev ME:=@Array.toList_push
abbrev MB:=@Int.toNat_zero
abbrev MA:=@List.getElem?_zipWith
abbrev Mz:=@List.take_add_one
abbrev My:=@List.map_map
abbrev Mx:=@Nat.pow_lt_pow_right
abbrev Mw:=@Nat.add_comm
abbrev Mv:=@List.length_pos_iff
abbrev Mu:=@List.dropLast_prefix
abbrev Mt:=@List.pairwise_append
abbrev Ms:=@Nat.min_eq_right
abbrev VD:=@beq_eq_false_iff_ne
abbrev VC:=@Array.size_map
abbrev Vz:=@List.map_eq_nil_iff
abbrev Vy:=@List.mapM_cons
abbrev Vx:=@Bool.false_or
abbrev Vw:=@List.eq_nil_iff_forall_not_mem
abbrev Vv:=@Nat.le_of_ble_eq_true
abbrev Vu:=@List.flatten_cons
abbrev Vt:=@Nat.eq_zero_or_pos
abbrev Vs:=@Option.isNone_iff_eq_none
abbrev Vr:=@List.ext_getElem
abbrev Vq:=@Bool.eq_false_iff
abbrev Vp:=@Bool.not_eq_false'
abbrev Vo:=@List.Pairwise.nil
abbrev Vn:=@List.getElem?_modify
abbrev Vm:=@List.take_succ_cons
abbrev Vl:=@BitVec.toNat_and
abbrev Vk:=@Int.natCast_mul
abbrev Vj:=@Decidable.byContradiction
abbrev Vi:=@List.getElem?_take
abbrev Vh:=@List.cons.injEq
abbrev Vg:=@List.sum_cons
abbrev Vf:=@Nat.mul_le_mul_left
abbrev Ve:=@List.countP_eq_zero
abbrev Vd:=@List.getLast?_eq_getElem?
abbrev Va:=@List.length_filter_le
abbrev U9:=@List.getElem_modify
abbrev U8:=@List.map_replicate
abbrev U7:=@List.prefix_iff_eq_take
abbrev U6:=@List.getLast?_eq_some_getLast
abbrev U5:=@List.mem_cons_self
abbrev U4:=@List.mem_cons_of_mem
abbrev U3:=@List.getElem_set
abbrev U2:=@UInt8.toNat_inj
abbrev U1:=@List.flatMap_def
abbrev afS:=@Array.all_eq_true_iff_forall_mem
abbrev afR:=@List.length_erase_of_mem
abbrev afQ:=@List.getElem?_take_of_lt
abbrev afP:=@Nat.add_sub_cancel_left
abbrev afO:=@List.getLastD_eq_getLast?
abbrev afN:=@List.prefix_of_prefix_length_le
variable {p:Prop} {z:Value} {K:Value->Prop} {P:Program} {e:TypeId}
theorem sm:(∀(p:Prop) [Decidable p],(decide p=true)=p)/\(∀(p:Prop) [Decidable p],decide p=false↔¬p)/\(∀{α:Type} [BEq α] [LawfulBEq α] {a b:α},(a == b)=true↔a=b) /\
  (∀{α:Type} [BEq α] [LawfulBEq α] {a b:α},(a == b)=false↔a≠b)/\(∀{α:Type} (a b:α),(a≠b)=¬(a=b))/\(∀(p:Prop),(True↔p)=p)/\(∀(p:Prop),(False↔p)=¬p) /\
  (∀(b:Bool),((!b)=true)=(b=false))/\(∀(b:Bool),((!b)=false)=(b=true))/\(∀{α:Type} [BEq α] [LawfulBEq α] {a b:α},(a != b)=true↔a≠b) /\
  (∀{α:Type} [BEq α] [LawfulBEq α] {a b:α},(a != b)=false↔a=b)/\((!true)=false)/\((!false)=true)/\(∀{p:Prop} [Decidable p],¬¬p↔p) :=
 ⟨λp=>dR,λp=>wI,oh,VD,λa b=>ne_eq a b,λp=>true_iff p,λp=>false_iff p,λb=>by simp,λb=>by simp,yF,bne_eq_false_iff_eq,rfl,rfl,Decidable.not_not⟩
theorem ag (h:p:=by omega):p:=h
theorem bw (h:p:=by decide):p:=h
theorem aA (h:p:=by simp):p:=h
theorem cy (h:p:=by simp;omega):p:=h
theorem bZ (h:p:=by grind):p:=h
theorem dG (h:p:=by simp[*]):p:=h
theorem aW{α:Sort _}{a b:α} (h:a=b:=by kernel_rfl):a=b:=h
theorem aS{q:Prop} (h:p) (k:p->q:=by intro h;simp only[sm,reduceCtorEq] at h;exact h):q:=k h
abbrev Hp:=Array Obj
abbrev HP:=Hp->Prop
abbrev di:=Value->HP
abbrev fB:=Bool->HP
abbrev cK:=Int->HP
abbrev PK:=List PanicEntry->HP
abbrev Fr:=List (Option Value)
def cell (h:Hp) (a:Addr):Option Value :=
 match h[a.block]? with
 | some (.cells c _ _)=>if a.spot.isSome then none else c[a.off]?
 | _=>none
def Ed (h:Hp) (a:Addr):Bool :=
 match h[a.block]? with
 | some (.cells _ _ (lo,hi))=>lo<=a.off && a.off < hi
 | _=>false
def put (h:Hp) (a:Addr) (v:Value):Hp :=
 h.modify a.block fun
  | .cells c elem frozen=>.cells (if a.spot.isSome then c else c.setIfInBounds a.off v) elem frozen
  | o=>o
def uD:Obj->Obj
 | .deferred _=>.deferred none
 | o=>o
def aU (w:World):Hp:=w.heap.map uD
def cG (w w':World):Prop:=w'.tape=w.tape/\w'.os=w.os/\w'.output=w.output/\w.heap.size<=w'.heap.size/\∀(b:Nat) ds,w.heap[b]? = some (.deferred ds)->w'.heap[b]? = some (.deferred ds)
theorem cG.refl (w:World):cG w w:=⟨rfl,rfl,rfl,bX _,λ_ _ h=>h⟩
abbrev kg:=@cG.refl
theorem cG.trans{a b c:World} (h:cG a b) (h':cG b c):cG a c:=⟨h'.1.trans h.1,h'.2.1.trans h.2.1,h'.2.2.1.trans h.2.2.1,jE h.2.2.2.1 h'.2.2.2.1,λx ds d=>h'.2.2.2.2 x ds (h.2.2.2.2 x ds d)⟩
structure Sl where
 a:Option Addr
 n:Nat
 c:Nat
def Sl.v (s:Sl):Value:=.slice s.a s.n s.c
def Sl.nil:Sl:=⟨none,0,0⟩
def nV (z:Value) (K:Value->Prop):Prop :=
 match z with
 | .int k _=>∃n:Int,K (.int k n)
 | .bool _=>∃b:Bool,K (.bool b)
 | .string _=>∃s:ByteArray,K (.string s)
 | .slice _ _ _=>∃s:Sl,K s.v
 | .pointer _=>∃p:Option Addr,K (.pointer p)
 | .map _=>∃r:Option Nat,K (.map r)
 | _=>∃v:Value,K v
def Di:List Value->(List Value->Prop)->Prop
 | [],K=>K []
 | z::zs,K=>nV z λv=>Di zs λvs=>K (v::vs)
def wZ (z:Value) (K:Value->Prop):Prop :=
 match z with
 | .agg zs=>Di zs.toList λvs=>K (.agg vs.toArray)
 | z=>nV z K
def A8:List Value->(List Value->Prop)->Prop
 | [],K=>K []
 | z::zs,K=>wZ z λv=>A8 zs λvs=>K (v::vs)
def JQ (z v:Value) (p:Value->Prop):Prop :=
 match z with
 | .int k _=>match v with | .int k' n=>if k'=k then p (.int k n) else False | _=>False
 | .bool _=>match v with | .bool b=>p (.bool b) | _=>False
 | .string _=>match v with | .string s=>p (.string s) | _=>False
 | .slice _ _ _=>match v with | .slice a n c=>p (Sl.v ⟨a,n,c⟩) | _=>False
 | .pointer _=>match v with | .pointer a=>p (.pointer a) | _=>False
 | .map _=>match v with | .map r=>p (.map r) | _=>False
 | _=>p v
def PD:List Value->List Value->(List Value->Prop)->Prop
 | [],[],p=>p []
 | z::zs,v::vs,p=>JQ z v λx=>PD zs vs λxs=>p (x::xs)
 | _,_,_=>False
def JR (z v:Value) (p:Value->Prop):Prop :=
 match z with
 | .agg zs=>match v with | .agg vs=>PD zs.toList vs.toList λxs=>p (.agg xs.toArray) | _=>False
 | z=>JQ z v p
def PE:List Value->List Value->(List Value->Prop)->Prop
 | [],[],p=>p []
 | z::zs,v::vs,p=>JR z v λx=>PE zs vs λxs=>p (x::xs)
 | _,_,_=>False
theorem Zy{v:Value}{p:Value->Prop} (h:JQ z v p):nV z λx=>v=x/\p x:=by
 cases z <;> cases v <;> simp only[JQ,nV] at h ⊢ <;> first
  | exact h.elim
  | exact ⟨_,rfl,h⟩
  | exact ⟨⟨_,_,_⟩,rfl,h⟩
  | (split at h <;> first | exact h.elim | (rename_i e;subst e;exact ⟨_,rfl,h⟩))
theorem vC{a:Value->Prop} (h:nV z K) (c:∀v,K v->a v):nV z a:=by
 unfold nV at h ⊢;split at h <;> (obtain ⟨x,b⟩:=h;exact ⟨x,c _ b⟩)
theorem ZD{zs:bq}:∀{K a:List Value->Prop},Di zs K->(∀v,K v->a v)->Di zs a:=by
 induction zs with
 | nil=>intro K a h b;exact b _ h
 | cons z zs d=>intro K a h b;exact vC h λv e=>d e λvs c=>b _ c
theorem PN{c:Value->Prop} (h:wZ z K) (b:∀v,K v->c v):wZ z c:=by
 unfold wZ at h ⊢;grind[ZD,vC]
theorem ZE{zs:bq}:∀{K a:List Value->Prop},A8 zs K->(∀v,K v->a v)->A8 zs a:=by
 induction zs with
 | nil=>intro K a h b;exact b _ h
 | cons z zs d=>intro K a h b;exact PN h λv e=>d e λvs c=>b _ c
theorem Dj (h:nV z K):∃v,K v:=by
 unfold nV at h;split at h <;> (obtain ⟨x,a⟩:=h;exact ⟨_,a⟩)
theorem amb{zs:bq}:∀{K:List Value->Prop},Di zs K->∃vs,vs.length=zs.length/\K vs:=by
  induction zs with
  | nil=>intro K h;exact ⟨[],rfl,h⟩
  | cons z zs b =>
    intro K h;obtain ⟨v,c⟩:=Dj h;obtain ⟨vs,hl,a⟩:=b c;exact ⟨v::vs,by simp[hl],a⟩
theorem ZF (h:wZ z K):∃v,K v:=by
 unfold wZ at h;split at h
 ·grind[amb]
 ·exact Dj h
theorem amc{zs:bq}:∀{K:List Value->Prop},A8 zs K->∃vs,vs.length=zs.length/\K vs:=by
  induction zs with
  | nil=>intro K h;exact ⟨[],rfl,h⟩
  | cons z zs b =>
    intro K h;obtain ⟨v,c⟩:=ZF h;obtain ⟨vs,hl,a⟩:=b c;exact ⟨v::vs,by simp[hl],a⟩
theorem alY:∀{zs vs:bq} {p:List Value->Prop},PD zs vs p->Di zs λa=>vs=a/\p a:=by
  intro zs
  induction zs with
  | nil=>intro vs p h;cases vs with
    | nil=>exact ⟨rfl,h⟩
    | cons=>exact h.elim
  | cons z zs c =>
    intro vs p h;cases vs with
    | nil=>exact h.elim
    | cons v vs =>
      refine vC (Zy h) ?_;simp_all
theorem Zz{v:Value}{p:Value->Prop} (h:JR z v p):wZ z λx=>v=x/\p x:=by
 unfold JR at h;unfold wZ;split at h
 ·split at h
  ·refine ZD (alY h) ?_;simp_all
  ·exact h.elim
 ·exact Zy h
theorem alZ:∀{zs vs:bq} {p:List Value->Prop},PE zs vs p->A8 zs λa=>vs=a/\p a:=by
  intro zs
  induction zs with
  | nil=>intro vs p h;cases vs with
    | nil=>exact ⟨rfl,h⟩
    | cons=>exact h.elim
  | cons z zs c =>
    intro vs p h;cases vs with
    | nil=>exact h.elim
    | cons v vs =>
      refine PN (Zz h) ?_;simp_all
def Wr (k:IntKind) (x:Int) (K:Int->Prop):Prop:=K (k.wrap x)
def Dv (b:Int) (X:Prop):Prop:=b≠0/\X
def Nn (b:Int) (X:Prop):Prop:=0<=b/\X
def If (c:Bool) (A B:Prop):Prop:=match c with | true=>A | false=>B
def NN (p:Option Addr) (K:Addr->Prop):Prop:=match p with | some a=>K a | none=>False
def Ld {α:Type} (h:Hp) (a:Addr) (mk:α->Value) (K:α->Prop):Prop:=∃x,cell h a=some (mk x)/\K x
def one:Value->Bool | .agg _ | .tuple _=>false | _=>true
def St (h:Hp) (a:Addr) (v:Value) (K:Hp->Prop):Prop:=one v=true/\(cell h a).isSome=true/\Ed h a=false/\K (put h a v)
def iZ (h:Hp) (a:Addr) (i:Nat):List Value->(Hp->Prop)->Prop
 | [],K=>K h
 | v::vs,K=>St h (a.add i) v λh'=>iZ h' a (i+1) vs K
def aI (h:Hp) (cells:Array Value) (t:TypeId) (K:Addr->HP):Prop:=K ⟨h.size,0,none⟩ (h.push (.cells cells t (0,0)))
def Ix (p:Option Addr) (n:Nat) (size:Nat) (i:Int) (K:Addr->Prop):Prop :=
 match p with | some a=>0<=i/\i < n/\K (a.add (i.toNat*size)) | none=>False
def kV (p:Option Addr) (l m size:Nat):Option Addr:=if m=l then p else p.map (·.add (l*size))
def jo (s:Sl) (size:Nat) (lo hi mx:Option Int) (K:Sl->Prop):Prop :=
 0<=lo.getD 0/\lo.getD 0<=hi.getD s.n/\hi.getD s.n<=mx.getD s.c/\mx.getD s.c<=s.c /\
  K ⟨kV s.a (lo.getD 0).toNat (mx.getD s.c).toNat size,(hi.getD s.n).toNat - (lo.getD 0).toNat,(mx.getD s.c).toNat - (lo.getD 0).toNat⟩
def qG (s:fh) (lo hi:Option Int) (K:ByteArray->Prop):Prop :=
 0<=lo.getD 0/\lo.getD 0<=hi.getD s.size/\hi.getD s.size<=s.size/\K (s.extract (lo.getD 0).toNat (hi.getD s.size).toNat)
def iu (s:fh) (i:Int) (K:Int->Prop):Prop:=∃b,0<=i/\s[i.toNat]? = some b/\K (b.toNat:Int)
def zs (zero:Array Value) (n:Nat):Array Value:=(Array.range n).map λi=>zero[i % zero.size]!
def dP (h:Hp) (elem:TypeId) (zero:Array Value) (size bytes:Nat) (l c:Int) (K:Sl->HP):Prop :=
 0<=l/\l<=c/\(bytes:Int)*c<=2 ^ 48/\c < 2 ^ 63/\K ⟨some ⟨h.size,0,none⟩,l.toNat,c.toNat⟩ (h.push (.cells (zs zero (c.toNat*size)) elem (0,0)))
def rd (h:Hp) (p:Option Addr) (n:Nat) (vs:bq):Prop :=
 match p with | none=>vs=[] | some a=>vs.length=n/\∀(i:Nat) v,vs[i]? = some v->cell h (a.add i)=some v
def Ap (h:Hp) (elem:TypeId) (zero:Array Value) (size bytes:Nat) (s:Sl) (n:Nat) (aH:List Value->Prop) (K:Sl->HP):Prop :=
  ∃vs,aH vs /\
    ((s.n+n<=s.c/\(match s.a with | some a=>iZ h (a.add (s.n*size)) 0 vs λh'=>K ⟨s.a,s.n+n,s.c⟩ h' | none=>K ⟨s.a,s.n+n,s.c⟩ h)) \/
     (s.c < s.n+n/\Builtin.nextslicecap (s.n+n) s.c*bytes<=2 ^ 48/\s.n+n < 2 ^ 63/\∃old,rd h s.a (s.n*size) old /\
      ∀Kw,s.n+n<=Kw->Kw < 2 ^ 63->K ⟨some ⟨h.size,0,none⟩,s.n+n,Kw⟩ (h.push (.cells ((old++vs).toArray++Builtin.zeroCells zero (Kw - (s.n+n))) elem (0,0)))))
def sL (h:Hp) (s:Sl) (K:ByteArray->Prop):Prop :=
 ∃bs:List UInt8,rd h s.a s.n (bs.map λb=>.int .u8 b.toNat)/\K ⟨bs.toArray⟩
structure IY (p:Prop):Prop where
 h:p
abbrev iD (c:Bool) (a b:Prop):Prop:=match c with | true=>a | false=>b
theorem lI (a b:Prop):iD true a b=a:=rfl
theorem Ie (a b:Prop):iD false a b=b:=rfl
def zeroOf (P:Program) (t:TypeId):Option Value:=(P.info? t).bind (·.zero)
def jt (P:Program) (t:TypeId):Option Nat:=(P.info? t).map (·.size)
def uL:TypeDesc->Bool | .struct _ | .array _ _=>true | _=>false
def DJ (P:Program) (t:TypeId) (cs:Array Value) (off:Nat):Option Value :=
 match P.underlying t,jt P t with
 | some d,some n=>bif uL d then some (.agg (cs.extract off (off+n))) else cs[off]?
 | _,_=>none
def si:TypeDesc->Bool | .int _=>true | .string=>true | .bool=>true | _=>false
def Lk {α:Type} (h:Hp) (m:Option Nat) (kd:TypeDesc) (key z:Value) (mk:α->Value) (K:α->Bool->Prop):Prop :=
 match m with
 | none=>∃x,z=mk x/\K x false
 | some r=>∃es c res,h[r]? = some (.map es c)/\Instr.findNow kd key es.toList 0=some res/\∃x,match res with | some (_,u)=>u=mk x/\K x true | none=>z=mk x/\K x false
def DU (h:Hp) (m:Option Nat) (kd:TypeDesc) (key z:Value) (K:Value->Bool->Prop):Prop :=
 match m with
 | none=>nV z λv=>z=v/\K v false
 | some r=>∃es c res,h[r]? = some (.map es c)/\Instr.findNow kd key es.toList 0=some res/\nV z λv=>match res with | some (_,u)=>u=v/\K v true | none=>z=v/\K v false
def Up (h:Hp) (m:Option Nat) (kd:TypeDesc) (key val:Value) (K:Hp->Prop):Prop :=
 match m with
 | none=>False
 | some r=>∃es c res,h[r]? = some (.map es c)/\Instr.findNow kd key es.toList 0=some res /\
   K (h.setIfInBounds r (match res with | some (i,_)=>.map (es.modify i λe=>{ e with key:=key,val:=val }) c | none=>.map (es.push { key:=key,val:=val,born:=c }) (c+1)))
def E8 (h:Hp) (K:Nat->HP):Prop:=K h.size (h.push (.map #[] 0))
def xB (P:Program) (elem:TypeId) (cs:Array Value) (n:Nat) (i:Int) (K:Value->Prop):Prop :=
 match P.underlying elem,zeroOf P elem with
 | some d,some z=>iD (uL d) (False)<|if jt P elem=some 1 then 0<=i/\i < n/\nV z λv=>cs[i.toNat]? = some v/\K v else False
 | _,_=>False
def dX (P:Program) (f:FuncId) (args:bq) (h:Hp) (K:di) (Kp:PK):Prop :=
 ∀w:World,aU w=h->Calls P f args.toArray w λe w'=>cG w w'/\match e with
  | .returned v=>K v (aU w')
  | .panicked ch=>Kp ch (aU w')
  | .outgrown=>False
abbrev Fc (r:Option Nat):Fence:={ fn:=λ_=>True,depth:=none,alive:=false,round:=r }
def wL (P:Program) (l:Nat) (args:bq) (h:Hp) (K:di) (Kp:PK):Prop :=
 ∀w:World,aU w=h->∃fn tmps assign body,(Instr.yield l args.toArray).run P w=.ok (.round l fn tmps assign body) w /\
  RoundIn (Fc none) 0 P l fn tmps assign body w λe w'=>cG w w'/\match e with
   | .returned v=>K v (aU w')
   | .panicked ch=>Kp ch (aU w')
   | .outgrown=>False
def jV (P:Program) (g:Nat):Bool:=match P.funcs[g]? with | some fn=>fn.body.isSome && !(fn.name == "runtime.NumGoroutine") | none=>false
def sY (P:Program) (t:TypeId) (name:String):Option (FuncId × Bool) :=
 (P.info? t).bind λi=>(i.methods.find? (·.name == name)).bind λm=>bif m.path.isEmpty then m.func else none
def Dz (P:Program) (t:TypeId) (pr:Bool):Bool:=match P.underlying t with | some (.pointer _)=>pr | some _=>!pr | none=>false
def DT (P:Program) (t:TypeId) (name:String):Option (FuncId × Nat) :=
  (P.info? t).bind λi=>(i.methods.find? (·.name == name)).bind λm=>match m.path.toList,m.func with
    | [s],some (g,true)=>bif s.deref then (match (match P.underlying s.struct with | some (.struct fs)=>fs[s.index]? | _=>none) with
      | some f=>(match jt P f.type,P.underlying f.type with
        | some (_+1),some (.struct _)=>some (g,f.offset)
        | _,_=>none)
      | none=>none) else none
    | _,_=>none
def Qz (v:Value) (off:Nat) (K:Value->Prop):Prop:=match v with | .pointer (some a)=>K (.pointer (some (a.add off))) | _=>False
def fD (P:Program) (fv:Value) (name:String) (args:bq) (h:Hp) (K:di) (Kp:PK):Prop :=
  match fv with
  | .iface t v=>(match sY P t name with
    | some (g,pr)=>iD (Dz P t pr && jV P g) (dX P g (v::args) h K Kp)<|False
    | none=>(match DT P t name with
      | some (g,off)=>iD (jV P g) (Qz v off λv'=>dX P g (v'::args) h K Kp)<|False
      | none=>False))
  | _=>False
def CV (P:Program) (v:Value) (name:String) (X:Prop):Prop :=
 match v with
 | .iface t _=>(match sY P t name with | some (_,true)=>True | _=>False)/\X
 | _=>False
def YY (P:Program) (t:TypeId) (name:String) (args:bq) (h:Hp) (K:di) (Kp:PK):Prop :=
  match args with
  | r::rest=>(match P.underlying t with
    | some (.interface _)=>fD P r name rest h K Kp
    | _=>False)
  | []=>False
def cZ (P:Program) (fv:Value) (args:bq) (h:Hp) (K:di) (Kp:PK):Prop :=
 match fv with
 | .func (.func g) first captured=>iD (jV P g) (dX P g (first.toList++args++captured.toList) h K Kp)<|False
 | .func (.yield l) first _=>wL P l (first.toList++args) h K Kp
 | .func (.methodOf t name) first _=>YY P t name (first.toList++args) h K Kp
 | _=>False
def yK (v:Value) (K:Value->Prop):Prop :=
 match v with
 | .pointer p=>NN p λa=>K (.pointer (some a))
 | .func (.func f) x y=>K (.func (.func f) x y)
 | .slice a n c=>K (.slice a n c)
 | .iface t v=>K (.iface t v)
 | _=>False
def sI (P:Program) (v:Value) (K:Value->Prop):Prop :=
 match v with
 | .func (.method name) first captured=>(match first.toList with | [u]=>CV P u name (K (.func (.method name) first captured)) | _=>False)
 | v=>yK v K
def ev (fr:Fr):Operand->Option Value
 | .tmp t=>fr.getD t none
 | .const v=>some v
 | .global g=>some (.pointer (some ⟨g,0,none⟩))
 | .func f=>some (.func (.func f) #[] #[])
def iL (e:Operand->Option Value):List Operand->Option (List Value)
 | []=>some []
 | x::xs=>match e x,iL e xs with | some v,some vs=>some (v::vs) | _,_=>none
def xN (e:Operand->Option Value):List (Nat × Operand)->Option (List (Nat × Value))
 | []=>some []
 | (i,x)::xs=>match e x,xN e xs with | some v,some vs=>some ((i,v)::vs) | _,_=>none
def gJ (op:BinOp) (k:IntKind) (a b:Int):Int :=
 match op with
 | .and=>k.wrap (BitVec.ofInt k.bits a &&& BitVec.ofInt k.bits b).toNat
 | .or=>k.wrap (BitVec.ofInt k.bits a ||| BitVec.ofInt k.bits b).toNat
 | .xor=>k.wrap (BitVec.ofInt k.bits a ^^^ BitVec.ofInt k.bits b).toNat
 | _=>k.wrap (BitVec.ofInt k.bits a &&& ~~~(BitVec.ofInt k.bits b)).toNat
def vR (op:BinOp) (k:IntKind) (a b:Int) (K:Value->Prop):Prop :=
 match op with
 | .add=>Wr k (a+b) λc=>K (.int k c)
 | .sub=>Wr k (a - b) λc=>K (.int k c)
 | .mul=>Wr k (a*b) λc=>K (.int k c)
 | .quo=>Dv b (Wr k (a.tdiv b) λc=>K (.int k c))
 | .rem=>Dv b (K (.int k (a.tmod b)))
 | .and=>K (.int k (gJ .and k a b))
 | .or=>K (.int k (gJ .or k a b))
 | .xor=>K (.int k (gJ .xor k a b))
 | .andNot=>K (.int k (gJ .andNot k a b))
 | .shl=>Nn b (Wr k (a*2 ^ (min b.toNat k.bits)) λc=>K (.int k c))
 | .shr=>Nn b (K (.int k (a.fdiv (2 ^ (min b.toNat k.bits)))))
 | .eql=>K (.bool (a == b))
 | .neq=>K (.bool (a != b))
 | .lss=>K (.bool (decide (a < b)))
 | .leq=>K (.bool (decide (a<=b)))
 | .gtr=>K (.bool (decide (a > b)))
 | .geq=>K (.bool (decide (a>=b)))
def xp (op:BinOp) (x y:fh) (K:Value->Prop):Prop :=
 match op with
 | .add=>((x.size+y.size:Nat):Int)<=IntKind.i64.max/\K (.string (x++y))
 | .eql=>K (.bool (x.toList == y.toList))
 | .neq=>K (.bool (!(x.toList == y.toList)))
 | .lss=>K (.bool (Op.bytesLess x.toList y.toList))
 | .leq=>K (.bool (Op.bytesLess x.toList y.toList || x.toList == y.toList))
 | .gtr=>K (.bool (!(Op.bytesLess x.toList y.toList || x.toList == y.toList)))
 | .geq=>K (.bool (!(Op.bytesLess x.toList y.toList)))
 | _=>False
def DQ {α:Type} (a b:Option α):Option Bool:=match b with | none=>some a.isNone | some _=>match a with | none=>some false | some _=>none
def zX (P:Program) (t:TypeId) (x y:Value):Option Bool :=
  match P.underlying t with
  | some .bool=>match x,y with | .bool a,.bool b=>some (a == b) | _,_=>none
  | some (.int _)=>match x,y with | .int k a,.int k' b=>if k=k' then some (a == b) else none | _,_=>none
  | some .string=>match x,y with | .string a,.string b=>some (a == b) | _,_=>none
  | some (.pointer _)=>match x,y with | .pointer a,.pointer b=>DQ a b | _,_=>none
  | some (.slice _)=>match x,y with | .slice a _ _,.slice b _ _=>DQ a b | _,_=>none
  | some (.map _ _)=>match x,y with | .map a,.map b=>DQ a b | _,_=>none
  | some (.interface ms)=>match x,y with | .iface _ _,.nilIface=>some false | .nilIface,.iface _ _=>some false | .nilIface,.nilIface=>bif ms.isEmpty then some true else none | _,_=>none
  | some (.func _ _ _)=>match x,y with | .func _ _ _,.nilFunc=>some false | .nilFunc,.nilFunc=>some true | .nilFunc,.func _ _ _=>some false | _,_=>none
  | _=>none
def HG (P:Program):List Field->Array Value->Array Value->Option Bool
  | [],_,_=>some true
  | f::fs,xs,ys=>if f.name = "_" then none else
    match DJ P f.type xs f.offset,DJ P f.type ys f.offset with
    | some a,some b=>(match zX P f.type a b,HG P fs xs ys with | some r,some r'=>some (r && r') | _,_=>none)
    | _,_=>none
def Lx (P:Program) (t:TypeId) (xs ys:Array Value):Option Bool :=
 match P.underlying t with
 | some (.struct fs)=>bif P.stoodInHeld t || P.eqGuardType P.depth t then none else HG P fs.toList xs ys
 | _=>none
def uy:Value->Value->Bool
 | .agg _,_=>false
 | .float _ _,_=>false
 | .complex _ _ _,_=>false
 | _,_=>true
def oY (x:Value) (K:Bool->Prop):Prop:=match x with | .func _ _ _=>K false | .nilFunc=>K true | _=>False
def xq (P:Program) (op:BinOp) (t:TypeId) (x y:Value) (K:Value->Prop):Prop :=
  match x with
  | .int k a=>match y with
    | .int k' b=>(match op with
      | .shl=>vR .shl k a b K
      | .shr=>vR .shr k a b K
      | op=>if k=k' then vR op k a b K else False)
    | _=>False
  | .string a=>match y with | .string b=>xp op a b K | _=>False
  | .agg xs=>match y with
    | .agg ys=>(match op with
      | .eql=>(match Lx P t xs ys with | some r=>K (.bool r) | none=>False)
      | .neq=>(match Lx P t xs ys with | some r=>K (.bool (!r)) | none=>False)
      | _=>False)
    | _=>False
  | x=>match op with
    | .eql=>if uy x y then match zX P t x y with | some r=>K (.bool r) | none=>False else False
    | .neq=>if uy x y then match zX P t x y with | some r=>K (.bool (!r)) | none=>False else False
    | _=>False
def xu (P:Program) (op:BinOp) (t:TypeId) (x y:Value) (K:Value->Prop):Prop :=
  match y with
  | .nilFunc=>(match P.underlying t with
    | some (.func _ _ _)=>(match op with
      | .eql=>oY x λb=>K (.bool b)
      | .neq=>oY x λb=>K (.bool (!b))
      | _=>False)
    | _=>False)
  | y=>xq P op t x y K
def xo (op:UnOp) (x:Value) (K:Value->Prop):Prop :=
 match op with
 | .not=>match x with | .bool b=>K (.bool (!b)) | _=>False
 | .neg=>match x with | .int k n=>Wr k (0 - n) λc=>K (.int k c) | _=>False
 | .xor=>match x with | .int k n=>K (.int k (gJ .xor k (if k.signed then -1 else k.max) n)) | _=>False
 | .plus=>False
def xy (h:Hp) (a:Addr) (i:Nat):List Value->(List Value->Prop)->Prop
 | [],K=>K []
 | z::zs,K=>nV z λv=>cell h (a.add i)=some v/\xy h a (i+1) zs λvs=>K (v::vs)
def mR (P:Program) (t:TypeId) (h:Hp) (a:Addr) (K:Value->Prop):Prop :=
 match P.underlying t,zeroOf P t with
 | some d,some z=>iD (uL d) ((match z with
   | .agg zs=>if jt P t=some zs.size then xy h a 0 zs.toList λvs=>K (.agg vs.toArray) else False
   | _=>False))<|nV z λv=>cell h a=some v/\K v
 | _,_=>False
def NA (v:Value) (X:Prop):Prop:=v.cells=#[v]/\X
def atk:TypeDesc->Bool | .func _ _ _=>true | .interface _=>true | _=>false
def tB (P:Program) (t:TypeId):Bool:=match P.underlying t with | some d=>atk d | none=>false
def vG (P:Program) (t:TypeId) (h:Hp) (a:Addr) (v:Value) (K:Hp->Prop):Prop :=
 iD (tB P t) (NA v (if jt P t=some 1 then iZ h a 0 [v] K else False))<|if jt P t=some v.cells.size then iZ h a 0 v.cells.toList K else False
theorem aaa{h:Hp}{a:Addr}{v:Value}{K:Hp->Prop} (b:vG P e h a v K):if jt P e=some v.cells.size then iZ h a 0 v.cells.toList K else False:=by
 unfold vG at b;cases c:tB P e
 ·simpa only [c,cond] using b
 ·simp only[c,cond] at b;obtain ⟨f,d⟩:=b;rw[f];exact d
theorem anF{h:Hp}{a:Addr}{v:Value}{K f:Hp->Prop} (b:vG P e h a v K) (c:(if jt P e=some v.cells.size then iZ h a 0 v.cells.toList f else False)):vG P e h a v f:=by
 unfold vG at b ⊢;cases d:tB P e
 ·simpa only [d,cond] using c
 ·simp only[d,cond] at b ⊢;refine ⟨b.1,?_⟩;rw[b.1] at c;exact c
def Lq (P:Program) (t:TypeId) (i:Nat):Option Field :=
 match P.underlying t with | some (.struct fs)=>fs[i]? | _=>none
def places (P:Program):List Field->Option (List (Nat × Nat))
 | []=>some []
 | f::fs=>match jt P f.type,places P fs with | some n,some r=>some ((f.offset,n)::r) | _,_=>none
def Mc (P:Program) (t:TypeId) (parts:List (Nat × Value)):Option Value :=
  match zeroOf P t,P.underlying t with
  | some z,some (.struct fields)=>match places P fields.toList with
    | some ps=>(Instr.fill (ps[·]?) z.cells parts).map .agg
    | none=>none
  | some z,some (.array _ elem)=>match jt P elem with
    | some size=>(Instr.fill (λi=>some (i*size,size)) z.cells parts).map .agg
    | none=>none
  | _,_=>none
def zu (raw:Nat->Bool):List (Nat × Value)->Prop->Prop
 | [],X=>X
 | (i,v)::r,X=>iD (raw i) (NA v (zu raw r X))<|zu raw r X
def BS (raw:Nat->Bool) (place:Nat->Option (Nat × Nat)) (cells:Array Value):List (Nat × Value)->Option (Array Value)
  | []=>some cells
  | (i,v)::rest =>
    match place i with
    | none=>none
    | some (off,size) =>
      if (bif raw i then #[v] else v.cells).size≠size || off+(bif raw i then #[v] else v.cells).size > cells.size then none
      else BS raw place ((bif raw i then #[v] else v.cells).zipIdx.foldl (λcs (c,j)=>cs.setIfInBounds (off+j) c) cells) rest
theorem aaV{b:Nat->Bool}:∀{c:List (Nat × Value)} {X:Prop},zu b c X->X/\(∀a cells,Instr.fill a cells c=BS b a cells c)/\∀Y:Prop,Y->zu b c Y:=by
  intro c
  induction c with
  | nil=>intro X h;exact ⟨h,λ_ _=>rfl,λ_ h=>h⟩
  | cons q c l =>
    intro X h;obtain ⟨i,v⟩:=q;simp only[zu] at h ⊢;cases e:b i with
    | false =>
      rw[e] at h;obtain ⟨k,j,g⟩:=l h;refine ⟨k,λa cells => ?_,λY f=>g Y f⟩;simp only[Instr.fill,BS,e,cond];cases a i with
      | none=>rfl
      | some x =>
        simp_all
    | true =>
      rw[e] at h;obtain ⟨m,h⟩:=h;obtain ⟨k,j,g⟩:=l h;refine ⟨k,λa cells => ?_,λY f=>⟨m,g Y f⟩⟩;simp only[Instr.fill,BS,e,cond,m];cases a i with
      | none=>rfl
      | some x =>
        simp_all
def aaW (P:Program) (fields:Array Field) (i:Nat):Bool:=match fields[i]? with | some f=>tB P f.type | none=>false
def Mg (P:Program) (t:TypeId) (parts:List (Nat × Value)) (K:Value->Prop):Prop :=
  match zeroOf P t,P.underlying t with
  | some z,some (.struct fields)=>match places P fields.toList with
    | some ps=>zu (aaW P fields) parts (match BS (aaW P fields) (ps[·]?) z.cells parts with | some cs=>K (.agg cs) | none=>False)
    | none=>False
  | some z,some (.array _ elem)=>match jt P elem with
    | some size=>zu (λ_=>tB P elem) parts (match BS (λ_=>tB P elem) (λi=>some (i*size,size)) z.cells parts with | some cs=>K (.agg cs) | none=>False)
    | none=>False
  | _,_=>False
theorem UJ{f:List (Nat × Value)} (h:Mg P e f K):∃v,Mc P e f=some v/\K v/\∀d:Value->Prop,d v->Mg P e f d:=by
 unfold Mg Mc at *;split at h
 all_goals grind[aaV]
def Mf (P:Program) (t:TypeId) (len:Nat) (parts:List (Nat × Value)):Option (Array Value × TypeId) :=
  match P.underlying t with
  | some (.slice elem)=>match jt P elem,zeroOf P elem with
    | some size,some z=>if len*size<=2 ^ 24 then (Instr.fill (λi=>some (i*size,size)) (zs (if len*size=0 then #[] else z.cells) (len*size)) parts).map (·,elem) else none
    | _,_=>none
  | _=>none
def Me (P:Program) (t:TypeId) (len:Nat) (parts:List (Nat × Value)) (K:Array Value->TypeId->Prop):Prop :=
  match P.underlying t with
  | some (.slice elem)=>match jt P elem,zeroOf P elem with
    | some size,some z=>if len*size<=2 ^ 24 then zu (λ_=>tB P elem) parts (match BS (λ_=>tB P elem) (λi=>some (i*size,size)) (zs (if len*size=0 then #[] else z.cells) (len*size)) parts with | some cs=>K cs elem | none=>False) else False
    | _,_=>False
  | _=>False
theorem afo{len:Nat}{a:List (Nat × Value)}{K:Array Value->TypeId->Prop} (h:Me P e len a K):∃cs el,Mf P e len a=some (cs,el)/\K cs el/\∀d:Array Value->TypeId->Prop,d cs el->Me P e len a d:=by
 unfold Me Mf at *;split at h
 ·rename_i el j
  split at h
  ·rename_i g z k i
   split at h
   ·rename_i f
    obtain ⟨b,n,m⟩:=aaV h;split at b
    ·rename_i cs c
     refine ⟨cs,el,?_,b,λd l => ?_⟩
     ·simp only[j,k,i,f,gB,n,c];rfl
     ·rw[aK f];exact m _ l
    ·exact b.elim
   ·exact h.elim
  ·exact h.elim
 ·exact h.elim
def qs (e:Operand->Option Value):Option Operand->Option (Option Int)
 | none=>some none
 | some x=>match e x with | some (.int _ n)=>some (some n) | _=>none
def Pd (P:Program):List TypeId->Option (List Value)
 | []=>some []
 | t::ts=>match zeroOf P t,Pd P ts with | some z,some zs=>some (z::zs) | _,_=>none
def gQ (zs:bq) (v:Value) (K:Value->Prop):Prop :=
 match zs with
 | [z]=>wZ z λx=>v=x/\K x
 | zs=>A8 zs λxs=>v=.tuple xs.toArray/\K (.tuple xs.toArray)
def nZ (zs:bq) (v:Value) (K:Value->Prop):Prop :=
 match zs with
 | [z]=>JR z v K
 | zs=>match v with | .tuple xs=>PE zs xs.toList λys=>K (.tuple ys.toArray) | _=>False
theorem Gd{zs:bq}{v:Value} (h:nZ zs v K):gQ zs v K:=by
 unfold nZ at h;unfold gQ;split at h
 ·exact Zz h
 ·split at h
  ·refine ZE (alZ h) ?_;simp_all
  ·exact h.elim
theorem aaM{zs:bq}{v:Value} (h:gQ zs v K):K v:=by
 unfold gQ at h;split at h
 ·obtain ⟨x,rfl,a⟩:=ZF h;exact a
 ·obtain ⟨x,_,rfl,a⟩:=amc h;exact a
def aaL (P:Program) (ty:TypeId):List TypeId:=match P.underlying ty with | some (.tuple es)=>es.toList | _=>[ty]
def F4 (P:Program) (ty:TypeId) (fv:Value) (args:bq) (h:Hp) (K:di) (Kp:PK):Prop :=
 match Pd P (aaL P ty) with
 | some zs=>cZ P fv args h (λv h'=>gQ zs v λv'=>K v' h') Kp
 | none=>False
def F2 (P:Program) (ty:TypeId) (fv:Value) (name:String) (args:bq) (h:Hp) (K:di) (Kp:PK):Prop :=
 match Pd P (aaL P ty) with
 | some zs=>fD P fv name args h (λv h'=>gQ zs v λv'=>K v' h') Kp
 | none=>False
def Dt (x:Value) (K:Value->Prop):Prop :=
 match x with
 | .string s=>K (.int .i64 s.size)
 | .slice _ n _=>K (.int .i64 n)
 | .map none=>K (.int .i64 0)
 | _=>False
def SC (P:Program) (t:TypeId) (x:Value):Bool :=
 match P.underlying t,x with
 | some .string,.string _=>true
 | some (.slice _),.slice _ _ _=>true
 | some (.map _ _),.map none=>true
 | _,_=>false
def abZ (x y:Value):Option Value:=match x,y with | .int k a,.int _ b=>some (.int k (if b < a then b else a)) | _,_=>none
def ab2 (x y:Value):Option Value:=match x,y with | .int k a,.int _ b=>some (.int k (if b > a then b else a)) | _,_=>none
def F5 (P:Program) (ts:List TypeId) (s x:Value) (h:Hp) (K:di):Prop :=
  match ts,s with
  | [t,u],.slice a n c=>match P.underlying t,P.underlying u with
    | some (.slice elem),some du=>match P.info? elem,zeroOf P elem with
      | some i,some z=>(match du,x with
        | .int _,_=>False
        | _,.slice b m _=>Ap h elem z.cells i.size i.bytes ⟨a,n,c⟩ m (rd h b (m*i.size)) λs' h'=>K s'.v h'
        | _,.string bs=>Ap h elem z.cells i.size i.bytes ⟨a,n,c⟩ bs.size (λvs=>vs=bs.data.toList.map λb=>.int .u8 b.toNat) λs' h'=>K s'.v h'
        | _,_=>False)
      | _,_=>False
    | _,_=>False
  | _,_=>False
def AW (h:Hp) (a:Option Addr) (aH:List Value->Prop) (K:Hp->Prop):Prop:=∃vs,aH vs/\match a with | some a=>iZ h a 0 vs K | none=>K h
def P4 (P:Program) (ts:List TypeId) (s x:Value) (h:Hp) (K:di):Prop :=
  match ts,s with
  | t::_,.slice a n _=>match P.underlying t with
    | some (.slice elem)=>(match jt P elem with
      | some size=>(match x with
        | .slice b m _=>AW h a (rd h b (Nat.min m n*size)) λh'=>K (.int .i64 (Nat.min m n:Nat)) h'
        | .string bs=>AW h a (λvs=>vs=(bs.extract 0 (Nat.min bs.size n)).data.toList.map λb=>.int .u8 b.toNat) λh'=>K (.int .i64 (Nat.min bs.size n:Nat)) h'
        | _=>False)
      | none=>False)
    | _=>False
  | _,_=>False
def yY (h:Hp) (m:Option Nat) (kd:TypeDesc) (key:Value) (K:Hp->Prop):Prop :=
 match m with
 | none=>K h
 | some r=>∃es c res,h[r]? = some (.map es c)/\Instr.findNow kd key es.toList 0=some res/\K (h.setIfInBounds r (match res with | some (i,_)=>.map (es.eraseIdxIfInBounds i) c | none=>.map es c))
def P3 (P:Program) (ts:List TypeId) (m k:Value) (h:Hp) (K:di):Prop :=
  match ts,m with
  | t::_,.map m=>match P.underlying t with
    | some (.map kt _)=>(match P.underlying kt with
      | some kd=>iD (si kd) (yY h m kd k λh'=>K (.tuple #[]) h')<|False
      | none=>False)
    | _=>False
  | _,_=>False
def Bc (P:Program) (b:Builtin) (ts:List TypeId) (args:bq) (h:Hp) (K:di):Prop :=
 match b with
 | .len=>match ts,args with | t::_,x::_=>if SC P t x then Dt x (λv=>K v h) else False | _,_=>False
 | .cap=>match ts,args with | t::_,.slice _ _ c::_=>(match P.underlying t with | some (.slice _)=>K (.int .i64 c) h | _=>False) | _,_=>False
 | .min=>match args with | [x,y]=>(match abZ x y with | some v=>K v h | none=>False) | _=>False
 | .max=>match args with | [x,y]=>(match ab2 x y with | some v=>K v h | none=>False) | _=>False
 | .append=>match args with | [s,x]=>F5 P ts s x h K | _=>False
 | .copy=>match args with | [s,x]=>P4 P ts s x h K | _=>False
 | .delete=>match args with | [m,k]=>P3 P ts m k h K | _=>False
 | _=>False
def B7 (P:Program) (src dst:TypeId) (x:Value) (h:Hp) (K:Value->Prop):Prop :=
 match P.underlying src,P.underlying dst with
 | some (.int _),some (.int k)=>match x with | .int _ n=>Wr k n λc=>K (.int k c) | _=>False
 | some .string,some .string=>match x with | .string s=>K (.string s) | _=>False
 | some (.slice e),some .string=>(match P.underlying e,x with | some (.int .u8),.slice a n c=>sL h ⟨a,n,c⟩ λs=>K (.string s) | _,_=>False)
 | _,_=>False
def UO (P:Program) (asserted t:TypeId) (v:Value) (ok:Bool):Option Value :=
 match P.underlying asserted with
 | some (.interface _)=>none
 | some _=>if t=asserted then some (bif ok then .tuple #[v,.bool true] else v) else (bif ok then (zeroOf P asserted).map (λz=>.tuple #[z,.bool false]) else none)
 | none=>none
def iQ (P:Program) (op:Op) (ty:TypeId) (e:Operand->Option Value) (K:Option Value->HP) (Kp:PK) (h:Hp):Prop :=
  match op with
  | .move x=>K (e x) h
  | .assign x=>K (e x) h
  | .pick c a b=>match e c with
    | some (.bool t)=>(match t with
      | true=>K (e a) h
      | false=>K (e b) h)
    | _=>False
  | .alloc t=>match zeroOf P t with | some z=>aI h z.cells t λa h'=>K (some (.pointer (some a))) h' | none=>False
  | .box t x=>match e x with | some v=>aI h v.cells t λa h'=>K (some (.pointer (some a))) h' | none=>False
  | .load t x=>match e x with | some (.pointer (some a))=>mR P t h a λv=>K (some v) h | _=>False
  | .store t x y=>match e x,e y with | some (.pointer (some a)),some v=>vG P t h a v λh'=>K none h' | _,_=>False
  | .nilCheck x=>match e x with
    | some v=>sI P v λv'=>K (some v') h
    | none=>False
  | .binOp op t x y _=>match e x,e y with | some a,some b=>xu P op t a b λv=>K (some v) h | _,_=>False
  | .unOp op _ x=>match e x with | some a=>xo op a λv=>K (some v) h | none=>False
  | .convert s d x=>match e x with | some a=>B7 P s d a h λv=>K (some v) h | none=>False
  | .makeInterface t x=>match e x,P.underlying t with
    | some _,some (.interface _)=>False
    | some v,some _=>K (some (.iface t v)) h
    | _,_=>False
  | .makeFunc fn first captured=>match iL e first.toList,iL e captured.toList with
    | some xs,some ys=>K (some (.func fn xs.toArray ys.toArray)) h
    | _,_=>False
  | .makeSlice t l c=>match e l,e c,P.underlying t with
    | some (.int _ l),some (.int _ c),some (.slice elem)=>(match P.info? elem,zeroOf P elem with
      | some i,some z=>dP h elem z.cells i.size i.bytes l c λs h'=>K (some s.v) h'
      | _,_=>False)
    | _,_,_=>False
  | .slice t x lo hi mx=>match e x,qs e lo,qs e hi,qs e mx with
    | some (.slice a n c),some lo,some hi,some mx=>(match P.underlying t with
      | some (.slice elem)=>(match jt P elem with | some size=>(if hi.isNone && mx.isSome then False else jo ⟨a,n,c⟩ size lo hi mx λs=>K (some s.v) h) | none=>False)
      | _=>False)
    | some (.string s),some lo,some hi,some none=>(match P.underlying t with
      | some .string=>qG s lo hi λs'=>K (some (.string s')) h
      | _=>False)
    | _,_,_,_=>False
  | .fieldAddr t x i=>match e x,Lq P t i with
    | some (.pointer (some a)),some f=>(match jt P f.type with | some (_+1)=>K (some (.pointer (some (a.add f.offset)))) h | _=>False)
    | _,_=>False
  | .field t x i=>match e x,Lq P t i with
    | some (.agg cs),some f=>(match DJ P f.type cs f.offset with | some v=>K (some v) h | none=>False)
    | _,_=>False
  | .indexAddr t x ix=>match e x,e ix with
    | some (.slice a n _),some (.int _ i)=>(match P.underlying t with
      | some (.slice elem)=>(match jt P elem with | some size=>Ix a n size i λad=>K (some (.pointer (some ad))) h | none=>False)
      | _=>False)
    | some (.pointer p),some (.int _ i)=>(match P.underlying t with
      | some (.array n elem)=>(match jt P elem with | some size=>Ix p n size i λad=>K (some (.pointer (some ad))) h | none=>False)
      | _=>False)
    | _,_=>False
  | .index t x ix=>match e x,e ix with
    | some (.string s),some (.int _ i)=>(match P.underlying t with | some .string=>iu s i λb=>K (some (.int .u8 b)) h | _=>False)
    | some (.agg cs),some (.int _ i)=>(match P.underlying t with | some (.array n elem)=>xB P elem cs n i λv=>K (some v) h | _=>False)
    | _,_=>False
  | .makeMap _ r=>match r with | none=>E8 h λm h'=>K (some (.map (some m))) h' | some _=>False
  | .lookup t x ix ok=>match e x,e ix,P.underlying t with
    | some (.map m),some k,some (.map kt et)=>(match P.underlying kt,zeroOf P et with
      | some kd,some z=>iD (si kd) (DU h m kd k z λv b=>K (some (bif ok then .tuple #[v,.bool b] else v)) h)<|False
      | _,_=>False)
    | _,_,_=>False
  | .mapUpdate t x k v=>match e x,e k,e v,P.underlying t with
    | some (.map m),some k,some v,some (.map kt _)=>(match P.underlying kt with
      | some kd=>iD (si kd) (Up h m kd k v λh'=>K none h')<|False
      | none=>False)
    | _,_,_,_=>False
  | .typeAssert x _ asserted ok=>match e x with
    | some (.iface t v)=>(match UO P asserted t v ok with | some u=>K (some u) h | none=>False)
    | _=>False
  | .extract x i=>match e x with
    | some (.tuple vs)=>(match vs[i]? with | some v=>K (some v) h | none=>False)
    | _=>False
  | .build t parts=>match xN e parts.toList with
    | some ps=>Mg P t ps λv=>K (some v) h
    | none=>False
  | .buildSlice t len parts=>match xN e parts.toList with
    | some ps=>Me P t len ps λcs elem=>aI h cs elem λa h'=>K (some (Sl.v ⟨some a,len,len⟩)) h'
    | none=>False
  | .panic x=>match e x with | some (.iface t v)=>Kp [{ v:=.iface t v,recovered:=false }] h | _=>False
  | .call c=>match c.callee with
    | .builtin b=>(match iL e c.args.toList with | some vs=>Bc P b c.argTypes.toList vs h λv h'=>K (some v) h' | none=>False)
    | .value f=>(match e f,iL e c.args.toList with | some fv,some args=>F4 P ty fv args h (λv h'=>K (some v) h') Kp | _,_=>False)
    | .invoke f name=>(match e f,iL e c.args.toList with | some fv,some args=>F2 P ty fv name args h (λv h'=>K (some v) h') Kp | _,_=>False)
  | _=>False
def gW (fr:Fr) (d:Option Nat) (v:Option Value):Fr:=match d with | some t=>fr.set t v | none=>fr
def vK (P:Program) (ops:Array Oper) (i:Nat) (K:Fr->HP) (Kp:PK) (fr:Fr) (h:Hp):Prop :=
  match ops[i]? with
  | none=>K fr h
  | some o=>match o.guard with
    | none=>iQ P o.op o.type (ev fr) (λv h'=>K (gW fr o.dst v) h') Kp h
    | some (j,b)=>match (ops[j]?).bind (·.dst) with
      | some d=>(match fr.getD d none with
        | some (.bool c)=>If c
          (iD (b) (iQ P o.op o.type (ev (fr.set d (some (.bool true)))) (λv h'=>K (gW (fr.set d (some (.bool true))) o.dst v) h') Kp h)<|K (gW (fr.set d (some (.bool true))) o.dst (some undef)) h)
          (iD (b) (K (gW (fr.set d (some (.bool false))) o.dst (some undef)) h)<|iQ P o.op o.type (ev (fr.set d (some (.bool false)))) (λv h'=>K (gW (fr.set d (some (.bool false))) o.dst v) h') Kp h)
        | some (.tuple _)=>K (gW fr o.dst (some undef)) h
        | _=>False)
      | none=>False
def forget (lv:cU) (fr:Fr):Fr:=fr.zipIdx.map λ(v,i)=>bif lv.contains i then v else none
abbrev fX:=List (Nat × List Nat)
def fX.find (bY:fX) (k:Nat) (fr:Fr):Fr:=match bY with | []=>fr | (j,lv)::r=>bif j == k then forget lv fr else fX.find r k fr
def fX.Gf (id:Nat):fX->fX
 | []=>[]
 | (k,lv)::r=>bif Nat.ble (40000+1000*id) k && Nat.ble k (40999+1000*id) then (k - (40000+1000*id),lv)::fX.Gf id r else fX.Gf id r
def fX.at (bY:fX) (k:Nat) (fr:Fr) (K:Fr->Prop):Prop:=match bY with | []=>K fr | (j,lv)::r=>iD (j == k) (IY (K (forget lv fr)))<|fX.at r k fr K
def fX.next (ra:fX) (l:cU) (fr:Fr) (K:Fr->Prop):Prop:=match l with | []=>K fr | i::_=>ra.at i fr K
def FZ (P:Program) (ra:fX) (ops:Array Oper):List Nat->(Fr->HP)->PK->Fr->HP
 | [],K,_,fr,h=>K fr h
 | i::l,K,Kp,fr,h=>vK P ops i (λcY h'=>ra.next l cY λEe=>FZ P ra ops l K Kp Ee h') Kp fr h
def pG:Code->Array Oper | .region _ ops _=>ops | _=>#[]
def iS:Code->Nat
 | .region id _ _=>id
 | .seq a _=>iS a
 | .cond (.tmp i) _ _=>i+20000
 | .cond _ a _=>iS a+500
 | .block id _=>id+1000
 | .loop b=>iS b+2000
 | .exit id=>id+3000
 | .rangeFunc _ _ a _=>iS a+4000
 | _=>9999
def SU:Code->Nat
 | .cond _ x y=>3000000+100000*iS x+iS y
 | .seq x _=>SU x
 | c=>iS c+2000000
abbrev Qt:=Exit->Fr->HP
def zi (K:Fr->HP) (Q:Qt):Qt:=λe fr h=>match e with | .normal=>K fr h | e=>Q e fr h
def Ml (id:Nat) (Q:Qt):Qt:=λe fr h=>match e with | .exit j=>if j=id then Q .normal fr h else Q (.exit j) fr h | e=>Q e fr h
def GQ (B:(Fr->HP)->Fr->HP):Nat->Fr->HP
 | 0=>λ_ _=>False
 | n+1=>B (GQ B n)
def CW (B:(Fr->HP)->Fr->HP) (fr:Fr) (h:Hp):Prop:=∃n,GQ B n fr h
def uq (P:Program) (fv:Value) (args:bq) (h:Hp) (K:di) (Kp:PK):Prop :=
 match fv with
 | .func (.func g) first captured=>iD (jV P g) (dX P g (first.toList++args++captured.toList) h K Kp)<|False
 | _=>False
def akm (fr:Fr) (tm:Array Value):Prop:=fr.length<=tm.size/\∀i v,fr.getD i none=some v->tm.getD i undef=v
def En (rd:Option Nat) (h:Hp) (K:Hp->Nat->Prop):Prop :=
 match rd with
 | none=>K (h.push (.deferred none)) h.size
 | some l=>match h[l]? with | some (.loop r)=>K h r.defers | _=>False
def zY (l:Nat) (h:Hp) (K:Option Code->HP):Prop :=
 match h[l]? with | some (.loop r)=>r.state≠.busy/\K r.pending (h.setIfInBounds l (.loop { r with state:=.exhausted })) | _=>False
def fZ (P:Program) (bY:fX) (D:Nat->Array Oper->(Fr->HP)->PK->Fr->HP) (rd:Option Nat):Code->Qt->PK->Fr->HP
  | .skip,Q,_,fr,h=>Q .normal fr h
  | .label _,Q,_,fr,h=>Q .normal fr h
  | .region id ops draw,Q,Kp,fr,h=>iD (draw) (D id ops (Q .normal) Kp fr h)<|FZ P (bY.Gf id) ops (List.range ops.size) (Q .normal) Kp fr h
  | .seq x y,Q,Kp,fr,h=>fZ P bY D rd x (zi (λcY h'=>bY.at (SU y) cY λEe=>fZ P bY D rd y Q Kp Ee h') Q) Kp fr h
  | .cond c x y,Q,Kp,fr,h=>match ev fr c with
    | some (.bool b)=>If b (fZ P bY D rd x Q Kp (bY.find (iS x+5000) fr) h) (fZ P bY D rd y Q Kp (bY.find (iS y+5000) fr) h)
    | _=>False
  | .block id x,Q,Kp,fr,h=>fZ P bY D rd x (Ml id Q) Kp fr h
  | .loop x,Q,Kp,fr,h=>CW (λN fr h=>fZ P bY D rd x (zi (λcY h'=>N (bY.find (iS x+2000) cY) h') Q) Kp fr h) (bY.find (iS x+2000) fr) h
  | .rangeFunc g ps assign body,Q,Kp,fr,h=>match ev fr g with
    | some fv=>∀fn tm,akm (bY.find (iS assign+4000) fr) tm->En rd h λh0 d =>
        uq P fv [.func (.yield h0.size) #[] #[]] (h0.push (.loop { state:=.ready,pending:=none,fn,tmps:=tm,params:=ps,assign,body,defers:=d }))
          (λ_ h'=>zY h0.size h' λjump qu=>match jump with
            | none=>Q .normal (bY.find (iS assign+4000) fr) qu
            | some .ret=>Q .ret (bY.find (iS assign+4000) fr) qu
            | some (.exit id)=>Q (.exit id) (bY.find (iS assign+4000) fr) qu
            | _=>False) Kp
    | none=>False
  | .exit id,Q,_,fr,h=>Q (.exit id) fr h
  | .ret,Q,_,fr,h=>Q .ret fr h
  | _,_,_,_,_=>False
abbrev ah (x:Int):Value:=.int .i64 x
abbrev aJ (b:Nat):Addr:=⟨b,0,none⟩
abbrev bC (b:Nat):Option Addr:=some ⟨b,0,none⟩
abbrev bH (b:Nat):Value:=.pointer (some ⟨b,0,none⟩)
abbrev c9 (a:Addr):Value:=.pointer (some a)
abbrev bN:Sl:=⟨none,0,0⟩
abbrev aV (p:Prop) [Decidable p]:=If (decide p)
abbrev aP:=Wr .i64
theorem ay {c:Prop} [Decidable c] {α:Sort _} {a b:α} (h:¬c:=by omega):(if c then a else b)=b:=aC h
theorem dV {c:Prop} [Decidable c] {α:Sort _} {a b:α} (h:c:=by omega):(if c then a else b)=a:=aK h
end Go.Sh
