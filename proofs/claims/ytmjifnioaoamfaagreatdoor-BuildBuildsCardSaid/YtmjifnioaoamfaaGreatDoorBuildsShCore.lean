import Derived.CallsIn
import Derived.KernelRfl
import Derived.WalkKit
import Derived.TacticsInMore
set_option linter.all false
namespace Go.Sh
abbrev eU:=ByteArray
abbrev cV:=List Nat
abbrev ie:=List (List UInt8)
abbrev dw:=List UInt8
abbrev bg:=List Value
abbrev aR:=Nat->Prop
abbrev aE:=@if_neg
abbrev aI:=@if_pos
abbrev bL:=@List.getElem?_eq_getElem
abbrev bS:=@List.mem_of_getElem?
abbrev bX:=@Nat.zero_add
abbrev cr:=@Nat.le_refl
abbrev cC:=@List.length_map
abbrev dr:=@Bool.and_eq_true
abbrev dy:=@List.getElem?_eq_some_iff
abbrev dP:=@decide_eq_true_eq
abbrev eH:=@Nat.zero_le
abbrev fy:=@List.getElem?_map
abbrev fY:=@if_true
abbrev gj:=@Int.toNat_natCast
abbrev gv:=@List.getElem?_append_right
abbrev gB:=@List.getD_eq_getElem?_getD
abbrev iq:=@List.length_cons
abbrev ij:=@List.length_append
abbrev iX:=@List.getElem?_append_left
abbrev jr:=@List.setIfInBounds_toArray
abbrev jy:=@List.length_singleton
abbrev jw:=@List.length_eq_zero_iff
abbrev jH:=@Nat.le_trans
abbrev jG:=@List.set_cons_succ
abbrev jF:=@List.prefix_refl
abbrev ke:=@List.set_cons_zero
abbrev j0:=@Bool.eq_iff_iff
abbrev kF:=@if_false
abbrev kE:=@List.getElem_mem
abbrev kP:=@List.take_succ_eq_append_getElem
abbrev kZ:=@List.mem_map
abbrev kY:=@List.map_append
abbrev lH:=@Bool.false_eq_true
abbrev lT:=@List.mem_cons
abbrev mq:=@Array.getElem?_eq_some_iff
abbrev mS:=@Option.some.injEq
abbrev mR:=@List.mem_singleton
abbrev mQ:=@Nat.lt_of_lt_of_le
abbrev mP:=@List.length_take
abbrev mO:=@List.take_length
abbrev ni:=@List.mem_append
abbrev nU:=@beq_iff_eq
abbrev nS:=@List.not_mem_nil
abbrev oG:=@Option.getD_some
abbrev oD:=@Option.map_some
abbrev oC:=@List.append_assoc
abbrev pM:=@List.append_nil
abbrev pL:=@Nat.mul_le_mul_right
abbrev pK:=@List.take_of_length_le
abbrev pJ:=@List.length_nil
abbrev qn:=@List.length_zipWith
abbrev qR:=@Bool.not_eq_true'
abbrev qQ:=@List.map_cons
abbrev qP:=@Nat.succ_mul
abbrev sj:=@Array.getD_eq_getD_getElem?
abbrev si:=@List.ext_getElem?
abbrev r7:=@List.getElem?_toArray
abbrev sZ:=@Array.ext'
abbrev sY:=@congrArg
abbrev sX:=@Nat.mul_le_mul
abbrev sW:=@UInt8.toNat_ofNat'
abbrev sV:=@List.prefix_append
abbrev uD:=@Option.map_eq_some_iff
abbrev uC:=@Array.getElem?_setIfInBounds
abbrev uB:=@Option.getD_none
abbrev uz:=@List.mem_range
abbrev uy:=@List.mem_iff_getElem?
abbrev ux:=@List.pairwise_iff_getElem
abbrev uw:=@List.cons_append
abbrev uv:=@Nat.mod_eq_of_lt
abbrev uu:=@List.range_succ
abbrev ur:=@Option.some.inj
abbrev vR:=@List.eq_nil_of_length_eq_zero
abbrev vQ:=@BitVec.toNat_ofNat
abbrev yp:=@decide_eq_false_iff_not
abbrev yo:=@bne_iff_ne
abbrev ym:=@Nat.mod_lt
abbrev yl:=@and_true
abbrev yj:=@Classical.byContradiction
abbrev yh:=@or_false
abbrev yg:=@List.all_eq_true
abbrev x9:=@List.getElem?_set
abbrev x8:=@List.nil_append
abbrev xZ:=@Int.toNat_of_nonneg
abbrev xY:=@List.set_append_right
abbrev xX:=@List.pairwise_cons
abbrev zV:=@List.getElem?_eq_none
abbrev zU:=@Array.getElem?_eq_getElem
abbrev zT:=@List.contains_eq_mem
abbrev zS:=@Nat.mul_one
abbrev zR:=@Nat.sub_self
abbrev zP:=@UInt8.toNat_lt
abbrev zO:=@List.dropLast_concat_getLast
abbrev zN:=@List.pairwise_singleton
abbrev BS:=@Array.ext_getElem?
abbrev BR:=@Array.getElem?_map
abbrev BQ:=@Option.bind_eq_some_iff
abbrev BP:=@Nat.add_zero
abbrev BO:=@Array.getElem?_toList
abbrev BN:=@List.map_nil
abbrev B8:=@List.getElem?_range
abbrev B7:=@List.length_set
abbrev B2:=@List.drop_eq_getElem_cons
abbrev B0:=@List.getElem?_cons_zero
abbrev BZ:=@List.drop_drop
abbrev BY:=@List.map_congr_left
abbrev BX:=@List.length_flatMap
abbrev BW:=@List.getElem?_cons_succ
abbrev BU:=@Nat.min_eq_left
abbrev BT:=@Ne.symm
abbrev EN:=@Nat.sub_zero
abbrev EM:=@cond_true
abbrev EL:=@List.getElem?_set_self
abbrev EK:=@Bool.or_eq_true
abbrev EJ:=@Nat.le_of_eq
abbrev EI:=@List.take_append_drop
abbrev EH:=@Nat.zero_mul
abbrev EG:=@Nat.pow_le_pow_right
abbrev EF:=@BitVec.ofInt_natCast
abbrev EE:=@Int.fdiv_eq_ediv_of_nonneg
abbrev ED:=@Int.pow_pos
abbrev EC:=@Bool.true_and
abbrev EB:=@Bool.false_and
abbrev EA:=@List.getD_cons_zero
abbrev Ez:=@List.drop_length
abbrev Ey:=@List.replicate_succ'
abbrev JI:=@List.getElem?_set_ne
abbrev JH:=@Int.le_refl
abbrev JG:=@Nat.add_mul
abbrev JF:=@List.take_zero
abbrev JE:=@Int.toNat_zero
abbrev JD:=@Nat.min_self
abbrev JC:=@List.zipWith_append
abbrev JB:=@Nat.pow_add
abbrev JA:=@Nat.mul_comm
abbrev Jz:=@Int.le_of_lt
abbrev Jy:=@Nat.or_lt_two_pow
abbrev Jw:=@List.length_drop
abbrev Jv:=@List.map_take
abbrev Ju:=@List.replicate_succ
abbrev Jt:=@List.length_replicate
abbrev Js:=@List.map_singleton
abbrev Jr:=@List.sum_append
abbrev Jq:=@List.length_range
abbrev Jp:=@Nat.min_eq_right
abbrev PB:=@beq_eq_false_iff_ne
abbrev Pz:=@Array.getElem?_modify
abbrev Py:=@Option.isSome_iff_exists
abbrev Px:=@Array.size_map
abbrev Pw:=@List.mem_filterMap
abbrev Pv:=@Bool.false_or
abbrev Pu:=@Array.getElem?_setIfInBounds_ne
abbrev Pt:=@List.map_set
abbrev Pr:=@getElem?_pos
abbrev Pq:=@decide_eq_true
abbrev Pp:=@Array.toList_push
abbrev Po:=@List.take_add_one
abbrev Pn:=@List.map_map
abbrev Pm:=@Nat.pow_lt_pow_right
abbrev Pk:=@List.take_append_of_le_length
abbrev Pj:=@Nat.add_comm
abbrev Ph:=@List.dropLast_prefix
abbrev Pg:=@List.pairwise_append
abbrev Pf:=@List.size_toArray
abbrev Y9:=@List.map_eq_nil_iff
abbrev Y7:=@List.mapM_cons
abbrev Y5:=@Array.getElem?_append_left
abbrev Y3:=@List.mem_filter
abbrev Y2:=@List.eq_nil_iff_forall_not_mem
abbrev Y1:=@Nat.le_of_ble_eq_true
abbrev Y0:=@Array.getElem?_push_size
abbrev YZ:=@List.flatten_cons
abbrev YY:=@Nat.eq_zero_or_pos
abbrev YX:=@Option.isNone_iff_eq_none
abbrev YW:=@List.ext_getElem
abbrev YV:=@Bool.eq_false_iff
abbrev YU:=@Bool.not_eq_false'
abbrev YT:=@List.Pairwise.nil
abbrev YS:=@List.getElem?_modify
abbrev YR:=@List.take_succ_cons
abbrev YQ:=@BitVec.toNat_and
abbrev YP:=@List.getElem?_drop
abbrev YO:=@Int.natCast_mul
abbrev YN:=@Decidable.byContradiction
abbrev YM:=@List.drop_zero
abbrev YL:=@List.getElem?_take
abbrev YK:=@List.foldl_nil
abbrev YJ:=@List.sum_cons
abbrev YI:=@Nat.mul_le_mul_left
abbrev YH:=@List.countP_eq_zero
abbrev YG:=@List.getLast?_eq_getElem?
abbrev YF:=@List.length_filter_le
abbrev YE:=@List.getElem_modify
abbrev YD:=@List.map_replicate
abbrev YC:=@List.prefix_iff_eq_take
abbrev YB:=@List.getLast?_eq_some_getLast
abbrev YA:=@List.mem_cons_self
abbrev Yz:=@List.mem_cons_of_mem
abbrev Yy:=@List.getElem_set
abbrev Yx:=@UInt8.toNat_inj
abbrev agw:=@Array.all_eq_true_iff_forall_mem
abbrev agv:=@List.length_erase_of_mem
abbrev agu:=@Nat.add_sub_cancel_left
abbrev agt:=@List.getLastD_eq_getLast?
abbrev ags:=@List.prefix_of_prefix_length_le
variable {p:Prop} {z:Value} {K:Value->Prop} {P:Program} {e:TypeId}
theorem sm:(∀(p:Prop) [Decidable p],(decide p=true)=p)/\(∀(p:Prop) [Decidable p],decide p=false↔¬p)/\(∀{α:Type} [BEq α] [LawfulBEq α] {a b:α},(a == b)=true↔a=b) /\
  (∀{α:Type} [BEq α] [LawfulBEq α] {a b:α},(a == b)=false↔a≠b)/\(∀{α:Type} (a b:α),(a≠b)=¬(a=b))/\(∀(p:Prop),(True↔p)=p)/\(∀(p:Prop),(False↔p)=¬p) /\
  (∀(b:Bool),((!b)=true)=(b=false))/\(∀(b:Bool),((!b)=false)=(b=true))/\(∀{α:Type} [BEq α] [LawfulBEq α] {a b:α},(a != b)=true↔a≠b) /\
  (∀{α:Type} [BEq α] [LawfulBEq α] {a b:α},(a != b)=false↔a=b)/\((!true)=false)/\((!false)=true)/\(∀{p:Prop} [Decidable p],¬¬p↔p) :=
 ⟨λp=>dP,λp=>yp,nU,PB,λa b=>ne_eq a b,λp=>true_iff p,λp=>false_iff p,λb=>by simp,λb=>by simp,yo,bne_eq_false_iff_eq,rfl,rfl,Decidable.not_not⟩
theorem ag (h:p:=by omega):p:=h
theorem bh (h:p:=by decide):p:=h
theorem aC (h:p:=by simp):p:=h
theorem cy (h:p:=by simp;omega):p:=h
theorem bZ (h:p:=by grind):p:=h
theorem dH (h:p:=by simp[*]):p:=h
theorem aX{α:Sort _}{a b:α} (h:a=b:=by kernel_rfl):a=b:=h
theorem aU{q:Prop} (h:p) (k:p->q:=by intro h;simp only[sm,reduceCtorEq] at h;exact h):q:=k h
abbrev Hp:=Array Obj
abbrev HP:=Hp->Prop
abbrev de:=Value->HP
abbrev fD:=Bool->HP
abbrev cL:=Int->HP
abbrev PK:=List PanicEntry->HP
abbrev Fr:=List (Option Value)
def cell (h:Hp) (a:Addr):Option Value :=
 match h[a.block]? with
 | some (.cells c _ _)=>if a.spot.isSome then none else c[a.off]?
 | _=>none
def D6 (h:Hp) (a:Addr):Bool :=
 match h[a.block]? with
 | some (.cells _ _ (lo,hi))=>lo<=a.off && a.off < hi
 | _=>false
def put (h:Hp) (a:Addr) (v:Value):Hp :=
 h.modify a.block fun
  | .cells c elem frozen=>.cells (if a.spot.isSome then c else c.setIfInBounds a.off v) elem frozen
  | o=>o
def tT:Obj->Obj
 | .deferred _=>.deferred none
 | o=>o
def aV (w:World):Hp:=w.heap.map tT
def cH (w w':World):Prop:=w'.tape=w.tape/\w'.os=w.os/\w'.output=w.output/\w.heap.size<=w'.heap.size/\∀(b:Nat) ds,w.heap[b]? = some (.deferred ds)->w'.heap[b]? = some (.deferred ds)
theorem cH.refl (w:World):cH w w:=⟨rfl,rfl,rfl,cr _,λ_ _ h=>h⟩
abbrev jZ:=@cH.refl
theorem cH.trans{a b c:World} (h:cH a b) (h':cH b c):cH a c:=⟨h'.1.trans h.1,h'.2.1.trans h.2.1,h'.2.2.1.trans h.2.2.1,jH h.2.2.2.1 h'.2.2.2.1,λx ds d=>h'.2.2.2.2 x ds (h.2.2.2.2 x ds d)⟩
structure Sl where
 a:Option Addr
 n:Nat
 c:Nat
def Sl.v (s:Sl):Value:=.slice s.a s.n s.c
def Sl.nil:Sl:=⟨none,0,0⟩
def nF (z:Value) (K:Value->Prop):Prop :=
 match z with
 | .int k _=>∃n:Int,K (.int k n)
 | .bool _=>∃b:Bool,K (.bool b)
 | .string _=>∃s:ByteArray,K (.string s)
 | .slice _ _ _=>∃s:Sl,K s.v
 | .pointer _=>∃p:Option Addr,K (.pointer p)
 | .map _=>∃r:Option Nat,K (.map r)
 | _=>∃v:Value,K v
def De:List Value->(List Value->Prop)->Prop
 | [],K=>K []
 | z::zs,K=>nF z λv=>De zs λvs=>K (v::vs)
def wP (z:Value) (K:Value->Prop):Prop :=
 match z with
 | .agg zs=>De zs.toList λvs=>K (.agg vs.toArray)
 | z=>nF z K
def AJ:List Value->(List Value->Prop)->Prop
 | [],K=>K []
 | z::zs,K=>wP z λv=>AJ zs λvs=>K (v::vs)
def MJ (z v:Value) (p:Value->Prop):Prop :=
 match z with
 | .int k _=>match v with | .int k' n=>if k'=k then p (.int k n) else False | _=>False
 | .bool _=>match v with | .bool b=>p (.bool b) | _=>False
 | .string _=>match v with | .string s=>p (.string s) | _=>False
 | .slice _ _ _=>match v with | .slice a n c=>p (Sl.v ⟨a,n,c⟩) | _=>False
 | .pointer _=>match v with | .pointer a=>p (.pointer a) | _=>False
 | .map _=>match v with | .map r=>p (.map r) | _=>False
 | _=>p v
def TO:List Value->List Value->(List Value->Prop)->Prop
 | [],[],p=>p []
 | z::zs,v::vs,p=>MJ z v λx=>TO zs vs λxs=>p (x::xs)
 | _,_,_=>False
def MK (z v:Value) (p:Value->Prop):Prop :=
 match z with
 | .agg zs=>match v with | .agg vs=>TO zs.toList vs.toList λxs=>p (.agg xs.toArray) | _=>False
 | z=>MJ z v p
def TP:List Value->List Value->(List Value->Prop)->Prop
 | [],[],p=>p []
 | z::zs,v::vs,p=>MK z v λx=>TP zs vs λxs=>p (x::xs)
 | _,_,_=>False
theorem aav{v:Value}{p:Value->Prop} (h:MJ z v p):nF z λx=>v=x/\p x:=by
 cases z <;> cases v <;> simp only[MJ,nF] at h ⊢ <;> first
  | exact h.elim
  | exact ⟨_,rfl,h⟩
  | exact ⟨⟨_,_,_⟩,rfl,h⟩
  | (split at h <;> first | exact h.elim | (rename_i e;subst e;exact ⟨_,rfl,h⟩))
theorem uR{a:Value->Prop} (h:nF z K) (c:∀v,K v->a v):nF z a:=by
 unfold nF at h ⊢;split at h <;> (obtain ⟨x,b⟩:=h;exact ⟨x,c _ b⟩)
theorem aaA{zs:bg}:∀{K a:List Value->Prop},De zs K->(∀v,K v->a v)->De zs a:=by
 induction zs with
 | nil=>intro K a h b;exact b _ h
 | cons z zs d=>intro K a h b;exact uR h λv e=>d e λvs c=>b _ c
theorem TV{c:Value->Prop} (h:wP z K) (b:∀v,K v->c v):wP z c:=by
 unfold wP at h ⊢;grind[aaA,uR]
theorem aaB{zs:bg}:∀{K a:List Value->Prop},AJ zs K->(∀v,K v->a v)->AJ zs a:=by
 induction zs with
 | nil=>intro K a h b;exact b _ h
 | cons z zs d=>intro K a h b;exact TV h λv e=>d e λvs c=>b _ c
theorem Df (h:nF z K):∃v,K v:=by
 unfold nF at h;split at h <;> (obtain ⟨x,a⟩:=h;exact ⟨_,a⟩)
theorem ajf{zs:bg}:∀{K:List Value->Prop},De zs K->∃vs,vs.length=zs.length/\K vs:=by
  induction zs with
  | nil=>intro K h;exact ⟨[],rfl,h⟩
  | cons z zs b =>
    intro K h;obtain ⟨v,c⟩:=Df h;obtain ⟨vs,hl,a⟩:=b c;exact ⟨v::vs,by simp[hl],a⟩
theorem aaC (h:wP z K):∃v,K v:=by
 unfold wP at h;split at h
 ·grind[ajf]
 ·exact Df h
theorem ajg{zs:bg}:∀{K:List Value->Prop},AJ zs K->∃vs,vs.length=zs.length/\K vs:=by
  induction zs with
  | nil=>intro K h;exact ⟨[],rfl,h⟩
  | cons z zs b =>
    intro K h;obtain ⟨v,c⟩:=aaC h;obtain ⟨vs,hl,a⟩:=b c;exact ⟨v::vs,by simp[hl],a⟩
theorem ai4:∀{zs vs:bg} {p:List Value->Prop},TO zs vs p->De zs λa=>vs=a/\p a:=by
  intro zs
  induction zs with
  | nil=>intro vs p h;cases vs with
    | nil=>exact ⟨rfl,h⟩
    | cons=>exact h.elim
  | cons z zs c =>
    intro vs p h;cases vs with
    | nil=>exact h.elim
    | cons v vs =>
      refine uR (aav h) ?_;simp_all
theorem aaw{v:Value}{p:Value->Prop} (h:MK z v p):wP z λx=>v=x/\p x:=by
 unfold MK at h;unfold wP;split at h
 ·split at h
  ·refine aaA (ai4 h) ?_;simp_all
  ·exact h.elim
 ·exact aav h
theorem ai5:∀{zs vs:bg} {p:List Value->Prop},TP zs vs p->AJ zs λa=>vs=a/\p a:=by
  intro zs
  induction zs with
  | nil=>intro vs p h;cases vs with
    | nil=>exact ⟨rfl,h⟩
    | cons=>exact h.elim
  | cons z zs c =>
    intro vs p h;cases vs with
    | nil=>exact h.elim
    | cons v vs =>
      refine TV (aaw h) ?_;simp_all
def Wr (k:IntKind) (x:Int) (K:Int->Prop):Prop:=K (k.wrap x)
def Dv (b:Int) (X:Prop):Prop:=b≠0/\X
def Nn (b:Int) (X:Prop):Prop:=0<=b/\X
def If (c:Bool) (A B:Prop):Prop:=match c with | true=>A | false=>B
def NN (p:Option Addr) (K:Addr->Prop):Prop:=match p with | some a=>K a | none=>False
def Ld {α:Type} (h:Hp) (a:Addr) (mk:α->Value) (K:α->Prop):Prop:=∃x,cell h a=some (mk x)/\K x
def one:Value->Bool | .agg _ | .tuple _=>false | _=>true
def St (h:Hp) (a:Addr) (v:Value) (K:Hp->Prop):Prop:=one v=true/\(cell h a).isSome=true/\D6 h a=false/\K (put h a v)
def iZ (h:Hp) (a:Addr) (i:Nat):List Value->(Hp->Prop)->Prop
 | [],K=>K h
 | v::vs,K=>St h (a.add i) v λh'=>iZ h' a (i+1) vs K
def aL (h:Hp) (cells:Array Value) (t:TypeId) (K:Addr->HP):Prop:=K ⟨h.size,0,none⟩ (h.push (.cells cells t (0,0)))
def Ix (p:Option Addr) (n:Nat) (size:Nat) (i:Int) (K:Addr->Prop):Prop :=
 match p with | some a=>0<=i/\i < n/\K (a.add (i.toNat*size)) | none=>False
def lY (p:Option Addr) (l m size:Nat):Option Addr:=if m=l then p else p.map (·.add (l*size))
def jA (s:Sl) (size:Nat) (lo hi mx:Option Int) (K:Sl->Prop):Prop :=
 0<=lo.getD 0/\lo.getD 0<=hi.getD s.n/\hi.getD s.n<=mx.getD s.c/\mx.getD s.c<=s.c /\
  K ⟨lY s.a (lo.getD 0).toNat (mx.getD s.c).toNat size,(hi.getD s.n).toNat - (lo.getD 0).toNat,(mx.getD s.c).toNat - (lo.getD 0).toNat⟩
def qs (s:eU) (lo hi:Option Int) (K:ByteArray->Prop):Prop :=
 0<=lo.getD 0/\lo.getD 0<=hi.getD s.size/\hi.getD s.size<=s.size/\K (s.extract (lo.getD 0).toNat (hi.getD s.size).toNat)
def gY (s:eU) (i:Int) (K:Int->Prop):Prop:=∃b,0<=i/\s[i.toNat]? = some b/\K (b.toNat:Int)
def zs (zero:Array Value) (n:Nat):Array Value:=(Array.range n).map λi=>zero[i % zero.size]!
def dO (h:Hp) (elem:TypeId) (zero:Array Value) (size bytes:Nat) (l c:Int) (K:Sl->HP):Prop :=
 0<=l/\l<=c/\(bytes:Int)*c<=2 ^ 48/\c < 2 ^ 63/\K ⟨some ⟨h.size,0,none⟩,l.toNat,c.toNat⟩ (h.push (.cells (zs zero (c.toNat*size)) elem (0,0)))
def rd (h:Hp) (p:Option Addr) (n:Nat) (vs:bg):Prop :=
 match p with | none=>vs=[] | some a=>vs.length=n/\∀(i:Nat) v,vs[i]? = some v->cell h (a.add i)=some v
def Ap (h:Hp) (elem:TypeId) (zero:Array Value) (size bytes:Nat) (s:Sl) (n:Nat) (aH:List Value->Prop) (K:Sl->HP):Prop :=
  ∃vs,aH vs /\
    ((s.n+n<=s.c/\(match s.a with | some a=>iZ h (a.add (s.n*size)) 0 vs λh'=>K ⟨s.a,s.n+n,s.c⟩ h' | none=>K ⟨s.a,s.n+n,s.c⟩ h)) \/
     (s.c < s.n+n/\Builtin.nextslicecap (s.n+n) s.c*bytes<=2 ^ 48/\s.n+n < 2 ^ 63/\∃iS,rd h s.a (s.n*size) iS /\
      ∀Nx,s.n+n<=Nx->Nx < 2 ^ 63->K ⟨some ⟨h.size,0,none⟩,s.n+n,Nx⟩ (h.push (.cells ((iS++vs).toArray++Builtin.zeroCells zero (Nx - (s.n+n))) elem (0,0)))))
def sx (h:Hp) (s:Sl) (K:ByteArray->Prop):Prop :=
 ∃bs:List UInt8,rd h s.a s.n (bs.map λb=>.int .u8 b.toNat)/\K ⟨bs.toArray⟩
structure J9 (p:Prop):Prop where
 h:p
abbrev ic (c:Bool) (a b:Prop):Prop:=match c with | true=>a | false=>b
theorem lE (a b:Prop):ic true a b=a:=rfl
theorem Jk (a b:Prop):ic false a b=b:=rfl
def zeroOf (P:Program) (t:TypeId):Option Value:=(P.info? t).bind (·.zero)
def jm (P:Program) (t:TypeId):Option Nat:=(P.info? t).map (·.size)
def ud:TypeDesc->Bool | .struct _ | .array _ _=>true | _=>false
def DE (P:Program) (t:TypeId) (cs:Array Value) (off:Nat):Option Value :=
 match P.underlying t,jm P t with
 | some d,some n=>bif ud d then some (.agg (cs.extract off (off+n))) else cs[off]?
 | _,_=>none
def rD:TypeDesc->Bool | .int _=>true | .string=>true | .bool=>true | _=>false
def Lk {α:Type} (h:Hp) (m:Option Nat) (kd:TypeDesc) (key z:Value) (mk:α->Value) (K:α->Bool->Prop):Prop :=
 match m with
 | none=>∃x,z=mk x/\K x false
 | some r=>∃es c res,h[r]? = some (.map es c)/\Instr.findNow kd key es.toList 0=some res/\∃x,match res with | some (_,u)=>u=mk x/\K x true | none=>z=mk x/\K x false
def DO (h:Hp) (m:Option Nat) (kd:TypeDesc) (key z:Value) (K:Value->Bool->Prop):Prop :=
 match m with
 | none=>nF z λv=>z=v/\K v false
 | some r=>∃es c res,h[r]? = some (.map es c)/\Instr.findNow kd key es.toList 0=some res/\nF z λv=>match res with | some (_,u)=>u=v/\K v true | none=>z=v/\K v false
def Up (h:Hp) (m:Option Nat) (kd:TypeDesc) (key val:Value) (K:Hp->Prop):Prop :=
 match m with
 | none=>False
 | some r=>∃es c res,h[r]? = some (.map es c)/\Instr.findNow kd key es.toList 0=some res /\
   K (h.setIfInBounds r (match res with | some (i,_)=>.map (es.modify i λe=>{ e with key:=key,val:=val }) c | none=>.map (es.push { key:=key,val:=val,born:=c }) (c+1)))
def E0 (h:Hp) (K:Nat->HP):Prop:=K h.size (h.push (.map #[] 0))
def xh (P:Program) (elem:TypeId) (cs:Array Value) (n:Nat) (i:Int) (K:Value->Prop):Prop :=
 match P.underlying elem,zeroOf P elem with
 | some d,some z=>ic (ud d) (False)<|if jm P elem=some 1 then 0<=i/\i < n/\nF z λv=>cs[i.toNat]? = some v/\K v else False
 | _,_=>False
def dW (P:Program) (f:FuncId) (args:bg) (h:Hp) (K:de) (Kp:PK):Prop :=
 ∀w:World,aV w=h->Calls P f args.toArray w λe w'=>cH w w'/\match e with
  | .returned v=>K v (aV w')
  | .panicked ch=>Kp ch (aV w')
  | .outgrown=>False
abbrev Fc (r:Option Nat):Fence:={ fn:=λ_=>True,depth:=none,alive:=false,round:=r }
def vV (P:Program) (l:Nat) (args:bg) (h:Hp) (K:de) (Kp:PK):Prop :=
 ∀w:World,aV w=h->∃fn tmps assign body,(Instr.yield l args.toArray).run P w=.ok (.round l fn tmps assign body) w /\
  RoundIn (Fc none) 0 P l fn tmps assign body w λe w'=>cH w w'/\match e with
   | .returned v=>K v (aV w')
   | .panicked ch=>Kp ch (aV w')
   | .outgrown=>False
def jT (P:Program) (g:Nat):Bool:=match P.funcs[g]? with | some fn=>fn.body.isSome && !(fn.name == "runtime.NumGoroutine") | none=>false
def sI (P:Program) (t:TypeId) (name:String):Option (FuncId × Bool) :=
 (P.info? t).bind λi=>(i.methods.find? (·.name == name)).bind λm=>bif m.path.isEmpty then m.func else none
def Du (P:Program) (t:TypeId) (pr:Bool):Bool:=match P.underlying t with | some (.pointer _)=>pr | some _=>!pr | none=>false
def DN (P:Program) (t:TypeId) (name:String):Option (FuncId × Nat) :=
  (P.info? t).bind λi=>(i.methods.find? (·.name == name)).bind λm=>match m.path.toList,m.func with
    | [s],some (g,true)=>bif s.deref then (match (match P.underlying s.struct with | some (.struct fs)=>fs[s.index]? | _=>none) with
      | some f=>(match jm P f.type,P.underlying f.type with
        | some (_+1),some (.struct _)=>some (g,f.offset)
        | _,_=>none)
      | none=>none) else none
    | _,_=>none
def Nj (v:Value) (off:Nat) (K:Value->Prop):Prop:=match v with | .pointer (some a)=>K (.pointer (some (a.add off))) | _=>False
def fo (P:Program) (fv:Value) (name:String) (args:bg) (h:Hp) (K:de) (Kp:PK):Prop :=
  match fv with
  | .iface t v=>(match sI P t name with
    | some (g,pr)=>ic (Du P t pr && jT P g) (dW P g (v::args) h K Kp)<|False
    | none=>(match DN P t name with
      | some (g,off)=>ic (jT P g) (Nj v off λv'=>dW P g (v'::args) h K Kp)<|False
      | none=>False))
  | _=>False
def Ck (P:Program) (v:Value) (name:String) (X:Prop):Prop :=
 match v with
 | .iface t _=>(match sI P t name with | some (_,true)=>True | _=>False)/\X
 | _=>False
def Z0 (P:Program) (t:TypeId) (name:String) (args:bg) (h:Hp) (K:de) (Kp:PK):Prop :=
  match args with
  | r::rest=>(match P.underlying t with
    | some (.interface _)=>fo P r name rest h K Kp
    | _=>False)
  | []=>False
def c8 (P:Program) (fv:Value) (args:bg) (h:Hp) (K:de) (Kp:PK):Prop :=
 match fv with
 | .func (.func g) first captured=>ic (jT P g) (dW P g (first.toList++args++captured.toList) h K Kp)<|False
 | .func (.yield l) first _=>vV P l (first.toList++args) h K Kp
 | .func (.methodOf t name) first _=>Z0 P t name (first.toList++args) h K Kp
 | _=>False
def yu (v:Value) (K:Value->Prop):Prop :=
 match v with
 | .pointer p=>NN p λa=>K (.pointer (some a))
 | .func (.func f) x y=>K (.func (.func f) x y)
 | .slice a n c=>K (.slice a n c)
 | .iface t v=>K (.iface t v)
 | _=>False
def su (P:Program) (v:Value) (K:Value->Prop):Prop :=
 match v with
 | .func (.method name) first captured=>(match first.toList with | [u]=>Ck P u name (K (.func (.method name) first captured)) | _=>False)
 | v=>yu v K
def ev (fr:Fr):Operand->Option Value
 | .tmp t=>fr.getD t none
 | .const v=>some v
 | .global g=>some (.pointer (some ⟨g,0,none⟩))
 | .func f=>some (.func (.func f) #[] #[])
def iF (e:Operand->Option Value):List Operand->Option (List Value)
 | []=>some []
 | x::xs=>match e x,iF e xs with | some v,some vs=>some (v::vs) | _,_=>none
def xy (e:Operand->Option Value):List (Nat × Operand)->Option (List (Nat × Value))
 | []=>some []
 | (i,x)::xs=>match e x,xy e xs with | some v,some vs=>some ((i,v)::vs) | _,_=>none
def gu (op:BinOp) (k:IntKind) (a b:Int):Int :=
 match op with
 | .and=>k.wrap (BitVec.ofInt k.bits a &&& BitVec.ofInt k.bits b).toNat
 | .or=>k.wrap (BitVec.ofInt k.bits a ||| BitVec.ofInt k.bits b).toNat
 | .xor=>k.wrap (BitVec.ofInt k.bits a ^^^ BitVec.ofInt k.bits b).toNat
 | _=>k.wrap (BitVec.ofInt k.bits a &&& ~~~(BitVec.ofInt k.bits b)).toNat
def vj (op:BinOp) (k:IntKind) (a b:Int) (K:Value->Prop):Prop :=
 match op with
 | .add=>Wr k (a+b) λc=>K (.int k c)
 | .sub=>Wr k (a - b) λc=>K (.int k c)
 | .mul=>Wr k (a*b) λc=>K (.int k c)
 | .quo=>Dv b (Wr k (a.tdiv b) λc=>K (.int k c))
 | .rem=>Dv b (K (.int k (a.tmod b)))
 | .and=>K (.int k (gu .and k a b))
 | .or=>K (.int k (gu .or k a b))
 | .xor=>K (.int k (gu .xor k a b))
 | .andNot=>K (.int k (gu .andNot k a b))
 | .shl=>Nn b (Wr k (a*2 ^ (min b.toNat k.bits)) λc=>K (.int k c))
 | .shr=>Nn b (K (.int k (a.fdiv (2 ^ (min b.toNat k.bits)))))
 | .eql=>K (.bool (a == b))
 | .neq=>K (.bool (a != b))
 | .lss=>K (.bool (decide (a < b)))
 | .leq=>K (.bool (decide (a<=b)))
 | .gtr=>K (.bool (decide (a > b)))
 | .geq=>K (.bool (decide (a>=b)))
def wX (op:BinOp) (x y:eU) (K:Value->Prop):Prop :=
 match op with
 | .add=>((x.size+y.size:Nat):Int)<=IntKind.i64.max/\K (.string (x++y))
 | .eql=>K (.bool (x.toList == y.toList))
 | .neq=>K (.bool (!(x.toList == y.toList)))
 | .lss=>K (.bool (Op.bytesLess x.toList y.toList))
 | .leq=>K (.bool (Op.bytesLess x.toList y.toList || x.toList == y.toList))
 | .gtr=>K (.bool (!(Op.bytesLess x.toList y.toList || x.toList == y.toList)))
 | .geq=>K (.bool (!(Op.bytesLess x.toList y.toList)))
 | _=>False
def DL {α:Type} (a b:Option α):Option Bool:=match b with | none=>some a.isNone | some _=>match a with | none=>some false | some _=>none
def zu (P:Program) (t:TypeId) (x y:Value):Option Bool :=
  match P.underlying t with
  | some .bool=>match x,y with | .bool a,.bool b=>some (a == b) | _,_=>none
  | some (.int _)=>match x,y with | .int k a,.int k' b=>if k=k' then some (a == b) else none | _,_=>none
  | some .string=>match x,y with | .string a,.string b=>some (a == b) | _,_=>none
  | some (.pointer _)=>match x,y with | .pointer a,.pointer b=>DL a b | _,_=>none
  | some (.slice _)=>match x,y with | .slice a _ _,.slice b _ _=>DL a b | _,_=>none
  | some (.map _ _)=>match x,y with | .map a,.map b=>DL a b | _,_=>none
  | some (.interface ms)=>match x,y with | .iface _ _,.nilIface=>some false | .nilIface,.iface _ _=>some false | .nilIface,.nilIface=>bif ms.isEmpty then some true else none | _,_=>none
  | some (.func _ _ _)=>match x,y with | .func _ _ _,.nilFunc=>some false | .nilFunc,.nilFunc=>some true | .nilFunc,.func _ _ _=>some false | _,_=>none
  | _=>none
def IW (P:Program):List Field->Array Value->Array Value->Option Bool
  | [],_,_=>some true
  | f::fs,xs,ys=>if f.name = "_" then none else
    match DE P f.type xs f.offset,DE P f.type ys f.offset with
    | some a,some b=>(match zu P f.type a b,IW P fs xs ys with | some r,some r'=>some (r && r') | _,_=>none)
    | _,_=>none
def Om (P:Program) (t:TypeId) (xs ys:Array Value):Option Bool :=
 match P.underlying t with
 | some (.struct fs)=>bif P.stoodInHeld t || P.eqGuardType P.depth t then none else IW P fs.toList xs ys
 | _=>none
def tP:Value->Value->Bool
 | .agg _,_=>false
 | .float _ _,_=>false
 | .complex _ _ _,_=>false
 | _,_=>true
def oP (x:Value) (K:Bool->Prop):Prop:=match x with | .func _ _ _=>K false | .nilFunc=>K true | _=>False
def wY (P:Program) (op:BinOp) (t:TypeId) (x y:Value) (K:Value->Prop):Prop :=
  match x with
  | .int k a=>match y with
    | .int k' b=>(match op with
      | .shl=>vj .shl k a b K
      | .shr=>vj .shr k a b K
      | op=>if k=k' then vj op k a b K else False)
    | _=>False
  | .string a=>match y with | .string b=>wX op a b K | _=>False
  | .agg xs=>match y with
    | .agg ys=>(match op with
      | .eql=>(match Om P t xs ys with | some r=>K (.bool r) | none=>False)
      | .neq=>(match Om P t xs ys with | some r=>K (.bool (!r)) | none=>False)
      | _=>False)
    | _=>False
  | x=>match op with
    | .eql=>if tP x y then match zu P t x y with | some r=>K (.bool r) | none=>False else False
    | .neq=>if tP x y then match zu P t x y with | some r=>K (.bool (!r)) | none=>False else False
    | _=>False
def wZ (P:Program) (op:BinOp) (t:TypeId) (x y:Value) (K:Value->Prop):Prop :=
  match y with
  | .nilFunc=>(match P.underlying t with
    | some (.func _ _ _)=>(match op with
      | .eql=>oP x λb=>K (.bool b)
      | .neq=>oP x λb=>K (.bool (!b))
      | _=>False)
    | _=>False)
  | y=>wY P op t x y K
def wW (op:UnOp) (x:Value) (K:Value->Prop):Prop :=
 match op with
 | .not=>match x with | .bool b=>K (.bool (!b)) | _=>False
 | .neg=>match x with | .int k n=>Wr k (0 - n) λc=>K (.int k c) | _=>False
 | .xor=>match x with | .int k n=>K (.int k (gu .xor k (if k.signed then -1 else k.max) n)) | _=>False
 | .plus=>False
def xd (h:Hp) (a:Addr) (i:Nat):List Value->(List Value->Prop)->Prop
 | [],K=>K []
 | z::zs,K=>nF z λv=>cell h (a.add i)=some v/\xd h a (i+1) zs λvs=>K (v::vs)
def mH (P:Program) (t:TypeId) (h:Hp) (a:Addr) (K:Value->Prop):Prop :=
 match P.underlying t,zeroOf P t with
 | some d,some z=>ic (ud d) ((match z with
   | .agg zs=>if jm P t=some zs.size then xd h a 0 zs.toList λvs=>K (.agg vs.toArray) else False
   | _=>False))<|nF z λv=>cell h a=some v/\K v
 | _,_=>False
def NA (v:Value) (X:Prop):Prop:=v.cells=#[v]/\X
def apY:TypeDesc->Bool | .func _ _ _=>true | .interface _=>true | _=>false
def sO (P:Program) (t:TypeId):Bool:=match P.underlying t with | some d=>apY d | none=>false
def uV (P:Program) (t:TypeId) (h:Hp) (a:Addr) (v:Value) (K:Hp->Prop):Prop :=
 ic (sO P t) (NA v (if jm P t=some 1 then iZ h a 0 [v] K else False))<|if jm P t=some v.cells.size then iZ h a 0 v.cells.toList K else False
theorem aa2{h:Hp}{a:Addr}{v:Value}{K:Hp->Prop} (b:uV P e h a v K):if jm P e=some v.cells.size then iZ h a 0 v.cells.toList K else False:=by
 unfold uV at b;cases c:sO P e
 ·simpa only [c,cond] using b
 ·simp only[c,cond] at b;obtain ⟨f,d⟩:=b;rw[f];exact d
theorem akA{h:Hp}{a:Addr}{v:Value}{K f:Hp->Prop} (b:uV P e h a v K) (c:(if jm P e=some v.cells.size then iZ h a 0 v.cells.toList f else False)):uV P e h a v f:=by
 unfold uV at b ⊢;cases d:sO P e
 ·simpa only [d,cond] using c
 ·simp only[d,cond] at b ⊢;refine ⟨b.1,?_⟩;rw[b.1] at c;exact c
def Oh (P:Program) (t:TypeId) (i:Nat):Option Field :=
 match P.underlying t with | some (.struct fs)=>fs[i]? | _=>none
def places (P:Program):List Field->Option (List (Nat × Nat))
 | []=>some []
 | f::fs=>match jm P f.type,places P fs with | some n,some r=>some ((f.offset,n)::r) | _,_=>none
def O1 (P:Program) (t:TypeId) (parts:List (Nat × Value)):Option Value :=
  match zeroOf P t,P.underlying t with
  | some z,some (.struct fields)=>match places P fields.toList with
    | some ps=>(Instr.fill (ps[·]?) z.cells parts).map .agg
    | none=>none
  | some z,some (.array _ elem)=>match jm P elem with
    | some size=>(Instr.fill (λi=>some (i*size,size)) z.cells parts).map .agg
    | none=>none
  | _,_=>none
def za (raw:Nat->Bool):List (Nat × Value)->Prop->Prop
 | [],X=>X
 | (i,v)::r,X=>ic (raw i) (NA v (za raw r X))<|za raw r X
def Bp (raw:Nat->Bool) (place:Nat->Option (Nat × Nat)) (cells:Array Value):List (Nat × Value)->Option (Array Value)
  | []=>some cells
  | (i,v)::rest =>
    match place i with
    | none=>none
    | some (off,size) =>
      if (bif raw i then #[v] else v.cells).size≠size || off+(bif raw i then #[v] else v.cells).size > cells.size then none
      else Bp raw place ((bif raw i then #[v] else v.cells).zipIdx.foldl (λcs (c,j)=>cs.setIfInBounds (off+j) c) cells) rest
theorem abR{b:Nat->Bool}:∀{c:List (Nat × Value)} {X:Prop},za b c X->X/\(∀a cells,Instr.fill a cells c=Bp b a cells c)/\∀Y:Prop,Y->za b c Y:=by
  intro c
  induction c with
  | nil=>intro X h;exact ⟨h,λ_ _=>rfl,λ_ h=>h⟩
  | cons q c l =>
    intro X h;obtain ⟨i,v⟩:=q;simp only[za] at h ⊢;cases e:b i with
    | false =>
      rw[e] at h;obtain ⟨k,j,g⟩:=l h;refine ⟨k,λa cells => ?_,λY f=>g Y f⟩;simp only[Instr.fill,Bp,e,cond];cases a i with
      | none=>rfl
      | some x =>
        simp_all
    | true =>
      rw[e] at h;obtain ⟨m,h⟩:=h;obtain ⟨k,j,g⟩:=l h;refine ⟨k,λa cells => ?_,λY f=>⟨m,g Y f⟩⟩;simp only[Instr.fill,Bp,e,cond,m];cases a i with
      | none=>rfl
      | some x =>
        simp_all
def abS (P:Program) (fields:Array Field) (i:Nat):Bool:=match fields[i]? with | some f=>sO P f.type | none=>false
def O4 (P:Program) (t:TypeId) (parts:List (Nat × Value)) (K:Value->Prop):Prop :=
  match zeroOf P t,P.underlying t with
  | some z,some (.struct fields)=>match places P fields.toList with
    | some ps=>za (abS P fields) parts (match Bp (abS P fields) (ps[·]?) z.cells parts with | some cs=>K (.agg cs) | none=>False)
    | none=>False
  | some z,some (.array _ elem)=>match jm P elem with
    | some size=>za (λ_=>sO P elem) parts (match Bp (λ_=>sO P elem) (λi=>some (i*size,size)) z.cells parts with | some cs=>K (.agg cs) | none=>False)
    | none=>False
  | _,_=>False
theorem Yh{f:List (Nat × Value)} (h:O4 P e f K):∃v,O1 P e f=some v/\K v/\∀d:Value->Prop,d v->O4 P e f d:=by
 unfold O4 O1 at *;split at h
 all_goals grind[abR]
def O3 (P:Program) (t:TypeId) (len:Nat) (parts:List (Nat × Value)):Option (Array Value × TypeId) :=
  match P.underlying t with
  | some (.slice elem)=>match jm P elem,zeroOf P elem with
    | some size,some z=>if len*size<=2 ^ 24 then (Instr.fill (λi=>some (i*size,size)) (zs (if len*size=0 then #[] else z.cells) (len*size)) parts).map (·,elem) else none
    | _,_=>none
  | _=>none
def O2 (P:Program) (t:TypeId) (len:Nat) (parts:List (Nat × Value)) (K:Array Value->TypeId->Prop):Prop :=
  match P.underlying t with
  | some (.slice elem)=>match jm P elem,zeroOf P elem with
    | some size,some z=>if len*size<=2 ^ 24 then za (λ_=>sO P elem) parts (match Bp (λ_=>sO P elem) (λi=>some (i*size,size)) (zs (if len*size=0 then #[] else z.cells) (len*size)) parts with | some cs=>K cs elem | none=>False) else False
    | _,_=>False
  | _=>False
theorem af4{len:Nat}{a:List (Nat × Value)}{K:Array Value->TypeId->Prop} (h:O2 P e len a K):∃cs el,O3 P e len a=some (cs,el)/\K cs el/\∀d:Array Value->TypeId->Prop,d cs el->O2 P e len a d:=by
 unfold O2 O3 at *;split at h
 ·rename_i el j
  split at h
  ·rename_i g z k i
   split at h
   ·rename_i f
    obtain ⟨b,n,m⟩:=abR h;split at b
    ·rename_i cs c
     refine ⟨cs,el,?_,b,λd l => ?_⟩
     ·simp only[j,k,i,f,fY,n,c];rfl
     ·rw[aI f];exact m _ l
    ·exact b.elim
   ·exact h.elim
  ·exact h.elim
 ·exact h.elim
def qi (e:Operand->Option Value):Option Operand->Option (Option Int)
 | none=>some none
 | some x=>match e x with | some (.int _ n)=>some (some n) | _=>none
def Tv (P:Program):List TypeId->Option (List Value)
 | []=>some []
 | t::ts=>match zeroOf P t,Tv P ts with | some z,some zs=>some (z::zs) | _,_=>none
def gI (zs:bg) (v:Value) (K:Value->Prop):Prop :=
 match zs with
 | [z]=>wP z λx=>v=x/\K x
 | zs=>AJ zs λxs=>v=.tuple xs.toArray/\K (.tuple xs.toArray)
def nI (zs:bg) (v:Value) (K:Value->Prop):Prop :=
 match zs with
 | [z]=>MK z v K
 | zs=>match v with | .tuple xs=>TP zs xs.toList λys=>K (.tuple ys.toArray) | _=>False
theorem HV{zs:bg}{v:Value} (h:nI zs v K):gI zs v K:=by
 unfold nI at h;unfold gI;split at h
 ·exact aaw h
 ·split at h
  ·refine aaB (ai5 h) ?_;simp_all
  ·exact h.elim
theorem abH{zs:bg}{v:Value} (h:gI zs v K):K v:=by
 unfold gI at h;split at h
 ·obtain ⟨x,rfl,a⟩:=aaC h;exact a
 ·obtain ⟨x,_,rfl,a⟩:=ajg h;exact a
def abG (P:Program) (ty:TypeId):List TypeId:=match P.underlying ty with | some (.tuple es)=>es.toList | _=>[ty]
def HK (P:Program) (ty:TypeId) (fv:Value) (args:bg) (h:Hp) (K:de) (Kp:PK):Prop :=
 match Tv P (abG P ty) with
 | some zs=>c8 P fv args h (λv h'=>gI zs v λv'=>K v' h') Kp
 | none=>False
def HJ (P:Program) (ty:TypeId) (fv:Value) (name:String) (args:bg) (h:Hp) (K:de) (Kp:PK):Prop :=
 match Tv P (abG P ty) with
 | some zs=>fo P fv name args h (λv h'=>gI zs v λv'=>K v' h') Kp
 | none=>False
def Dp (x:Value) (K:Value->Prop):Prop :=
 match x with
 | .string s=>K (.int .i64 s.size)
 | .slice _ n _=>K (.int .i64 n)
 | .map none=>K (.int .i64 0)
 | _=>False
def WG (P:Program) (t:TypeId) (x:Value):Bool :=
 match P.underlying t,x with
 | some .string,.string _=>true
 | some (.slice _),.slice _ _ _=>true
 | some (.map _ _),.map none=>true
 | _,_=>false
def acU (x y:Value):Option Value:=match x,y with | .int k a,.int _ b=>some (.int k (if b < a then b else a)) | _,_=>none
def acX (x y:Value):Option Value:=match x,y with | .int k a,.int _ b=>some (.int k (if b > a then b else a)) | _,_=>none
def HL (P:Program) (ts:List TypeId) (s x:Value) (h:Hp) (K:de):Prop :=
  match ts,s with
  | [t,u],.slice a n c=>match P.underlying t,P.underlying u with
    | some (.slice elem),some du=>match P.info? elem,zeroOf P elem with
      | some i,some z=>(match du,x with
        | .int _,_=>False
        | _,.slice b m _=>Ap h elem z.cells i.size i.bytes ⟨a,n,c⟩ m (rd h b (m*i.size)) λs' h'=>K s'.v h'
        | _,.string bs=>Ap h elem z.cells i.size i.bytes ⟨a,n,c⟩ bs.size (λvs=>vs=bs.data.toList.map λb=>.int .u8 b.toNat) λs' h'=>K s'.v h'
        | _,_=>False)
      | _,_=>False
    | _,_=>False
  | _,_=>False
def AA (h:Hp) (a:Option Addr) (aH:List Value->Prop) (K:Hp->Prop):Prop:=∃vs,aH vs/\match a with | some a=>iZ h a 0 vs K | none=>K h
def Uj (P:Program) (ts:List TypeId) (s x:Value) (h:Hp) (K:de):Prop :=
  match ts,s with
  | t::_,.slice a n _=>match P.underlying t with
    | some (.slice elem)=>(match jm P elem with
      | some size=>(match x with
        | .slice b m _=>AA h a (rd h b (Nat.min m n*size)) λh'=>K (.int .i64 (Nat.min m n:Nat)) h'
        | .string bs=>AA h a (λvs=>vs=(bs.extract 0 (Nat.min bs.size n)).data.toList.map λb=>.int .u8 b.toNat) λh'=>K (.int .i64 (Nat.min bs.size n:Nat)) h'
        | _=>False)
      | none=>False)
    | _=>False
  | _,_=>False
def yK (h:Hp) (m:Option Nat) (kd:TypeDesc) (key:Value) (K:Hp->Prop):Prop :=
 match m with
 | none=>K h
 | some r=>∃es c res,h[r]? = some (.map es c)/\Instr.findNow kd key es.toList 0=some res/\K (h.setIfInBounds r (match res with | some (i,_)=>.map (es.eraseIdxIfInBounds i) c | none=>.map es c))
def Ui (P:Program) (ts:List TypeId) (m k:Value) (h:Hp) (K:de):Prop :=
  match ts,m with
  | t::_,.map m=>match P.underlying t with
    | some (.map kt _)=>(match P.underlying kt with
      | some kd=>ic (rD kd) (yK h m kd k λh'=>K (.tuple #[]) h')<|False
      | none=>False)
    | _=>False
  | _,_=>False
def AO (P:Program) (b:Builtin) (ts:List TypeId) (args:bg) (h:Hp) (K:de):Prop :=
 match b with
 | .len=>match ts,args with | t::_,x::_=>if WG P t x then Dp x (λv=>K v h) else False | _,_=>False
 | .cap=>match ts,args with | t::_,.slice _ _ c::_=>(match P.underlying t with | some (.slice _)=>K (.int .i64 c) h | _=>False) | _,_=>False
 | .min=>match args with | [x,y]=>(match acU x y with | some v=>K v h | none=>False) | _=>False
 | .max=>match args with | [x,y]=>(match acX x y with | some v=>K v h | none=>False) | _=>False
 | .append=>match args with | [s,x]=>HL P ts s x h K | _=>False
 | .copy=>match args with | [s,x]=>Uj P ts s x h K | _=>False
 | .delete=>match args with | [m,k]=>Ui P ts m k h K | _=>False
 | _=>False
def Bw (P:Program) (src dst:TypeId) (x:Value) (h:Hp) (K:Value->Prop):Prop :=
 match P.underlying src,P.underlying dst with
 | some (.int _),some (.int k)=>match x with | .int _ n=>Wr k n λc=>K (.int k c) | _=>False
 | some .string,some .string=>match x with | .string s=>K (.string s) | _=>False
 | some (.slice e),some .string=>(match P.underlying e,x with | some (.int .u8),.slice a n c=>sx h ⟨a,n,c⟩ λs=>K (.string s) | _,_=>False)
 | _,_=>False
def Yl (P:Program) (asserted t:TypeId) (v:Value) (ok:Bool):Option Value :=
 match P.underlying asserted with
 | some (.interface _)=>none
 | some _=>if t=asserted then some (bif ok then .tuple #[v,.bool true] else v) else (bif ok then (zeroOf P asserted).map (λz=>.tuple #[z,.bool false]) else none)
 | none=>none
def iL (P:Program) (op:Op) (ty:TypeId) (e:Operand->Option Value) (K:Option Value->HP) (Kp:PK) (h:Hp):Prop :=
  match op with
  | .move x=>K (e x) h
  | .assign x=>K (e x) h
  | .pick c a b=>match e c with
    | some (.bool t)=>(match t with
      | true=>K (e a) h
      | false=>K (e b) h)
    | _=>False
  | .alloc t=>match zeroOf P t with | some z=>aL h z.cells t λa h'=>K (some (.pointer (some a))) h' | none=>False
  | .box t x=>match e x with | some v=>aL h v.cells t λa h'=>K (some (.pointer (some a))) h' | none=>False
  | .load t x=>match e x with | some (.pointer (some a))=>mH P t h a λv=>K (some v) h | _=>False
  | .store t x y=>match e x,e y with | some (.pointer (some a)),some v=>uV P t h a v λh'=>K none h' | _,_=>False
  | .nilCheck x=>match e x with
    | some v=>su P v λv'=>K (some v') h
    | none=>False
  | .binOp op t x y _=>match e x,e y with | some a,some b=>wZ P op t a b λv=>K (some v) h | _,_=>False
  | .unOp op _ x=>match e x with | some a=>wW op a λv=>K (some v) h | none=>False
  | .convert s d x=>match e x with | some a=>Bw P s d a h λv=>K (some v) h | none=>False
  | .makeInterface t x=>match e x,P.underlying t with
    | some _,some (.interface _)=>False
    | some v,some _=>K (some (.iface t v)) h
    | _,_=>False
  | .makeFunc fn first captured=>match iF e first.toList,iF e captured.toList with
    | some xs,some ys=>K (some (.func fn xs.toArray ys.toArray)) h
    | _,_=>False
  | .makeSlice t l c=>match e l,e c,P.underlying t with
    | some (.int _ l),some (.int _ c),some (.slice elem)=>(match P.info? elem,zeroOf P elem with
      | some i,some z=>dO h elem z.cells i.size i.bytes l c λs h'=>K (some s.v) h'
      | _,_=>False)
    | _,_,_=>False
  | .slice t x lo hi mx=>match e x,qi e lo,qi e hi,qi e mx with
    | some (.slice a n c),some lo,some hi,some mx=>(match P.underlying t with
      | some (.slice elem)=>(match jm P elem with | some size=>(if hi.isNone && mx.isSome then False else jA ⟨a,n,c⟩ size lo hi mx λs=>K (some s.v) h) | none=>False)
      | _=>False)
    | some (.string s),some lo,some hi,some none=>(match P.underlying t with
      | some .string=>qs s lo hi λs'=>K (some (.string s')) h
      | _=>False)
    | _,_,_,_=>False
  | .fieldAddr t x i=>match e x,Oh P t i with
    | some (.pointer (some a)),some f=>(match jm P f.type with | some (_+1)=>K (some (.pointer (some (a.add f.offset)))) h | _=>False)
    | _,_=>False
  | .field t x i=>match e x,Oh P t i with
    | some (.agg cs),some f=>(match DE P f.type cs f.offset with | some v=>K (some v) h | none=>False)
    | _,_=>False
  | .indexAddr t x ix=>match e x,e ix with
    | some (.slice a n _),some (.int _ i)=>(match P.underlying t with
      | some (.slice elem)=>(match jm P elem with | some size=>Ix a n size i λad=>K (some (.pointer (some ad))) h | none=>False)
      | _=>False)
    | some (.pointer p),some (.int _ i)=>(match P.underlying t with
      | some (.array n elem)=>(match jm P elem with | some size=>Ix p n size i λad=>K (some (.pointer (some ad))) h | none=>False)
      | _=>False)
    | _,_=>False
  | .index t x ix=>match e x,e ix with
    | some (.string s),some (.int _ i)=>(match P.underlying t with | some .string=>gY s i λb=>K (some (.int .u8 b)) h | _=>False)
    | some (.agg cs),some (.int _ i)=>(match P.underlying t with | some (.array n elem)=>xh P elem cs n i λv=>K (some v) h | _=>False)
    | _,_=>False
  | .makeMap _ r=>match r with | none=>E0 h λm h'=>K (some (.map (some m))) h' | some _=>False
  | .lookup t x ix ok=>match e x,e ix,P.underlying t with
    | some (.map m),some k,some (.map kt et)=>(match P.underlying kt,zeroOf P et with
      | some kd,some z=>ic (rD kd) (DO h m kd k z λv b=>K (some (bif ok then .tuple #[v,.bool b] else v)) h)<|False
      | _,_=>False)
    | _,_,_=>False
  | .mapUpdate t x k v=>match e x,e k,e v,P.underlying t with
    | some (.map m),some k,some v,some (.map kt _)=>(match P.underlying kt with
      | some kd=>ic (rD kd) (Up h m kd k v λh'=>K none h')<|False
      | none=>False)
    | _,_,_,_=>False
  | .typeAssert x _ asserted ok=>match e x with
    | some (.iface t v)=>(match Yl P asserted t v ok with | some u=>K (some u) h | none=>False)
    | _=>False
  | .extract x i=>match e x with
    | some (.tuple vs)=>(match vs[i]? with | some v=>K (some v) h | none=>False)
    | _=>False
  | .build t parts=>match xy e parts.toList with
    | some ps=>O4 P t ps λv=>K (some v) h
    | none=>False
  | .buildSlice t len parts=>match xy e parts.toList with
    | some ps=>O2 P t len ps λcs elem=>aL h cs elem λa h'=>K (some (Sl.v ⟨some a,len,len⟩)) h'
    | none=>False
  | .panic x=>match e x with | some (.iface t v)=>Kp [{ v:=.iface t v,recovered:=false }] h | _=>False
  | .call c=>match c.callee with
    | .builtin b=>(match iF e c.args.toList with | some vs=>AO P b c.argTypes.toList vs h λv h'=>K (some v) h' | none=>False)
    | .value f=>(match e f,iF e c.args.toList with | some fv,some args=>HK P ty fv args h (λv h'=>K (some v) h') Kp | _,_=>False)
    | .invoke f name=>(match e f,iF e c.args.toList with | some fv,some args=>HJ P ty fv name args h (λv h'=>K (some v) h') Kp | _,_=>False)
  | _=>False
def gO (fr:Fr) (d:Option Nat) (v:Option Value):Fr:=match d with | some t=>fr.set t v | none=>fr
def uY (P:Program) (ops:Array Oper) (i:Nat) (K:Fr->HP) (Kp:PK) (fr:Fr) (h:Hp):Prop :=
  match ops[i]? with
  | none=>K fr h
  | some o=>match o.guard with
    | none=>iL P o.op o.type (ev fr) (λv h'=>K (gO fr o.dst v) h') Kp h
    | some (j,b)=>match (ops[j]?).bind (·.dst) with
      | some d=>(match fr.getD d none with
        | some (.bool c)=>If c
          (ic (b) (iL P o.op o.type (ev (fr.set d (some (.bool true)))) (λv h'=>K (gO (fr.set d (some (.bool true))) o.dst v) h') Kp h)<|K (gO (fr.set d (some (.bool true))) o.dst (some undef)) h)
          (ic (b) (K (gO (fr.set d (some (.bool false))) o.dst (some undef)) h)<|iL P o.op o.type (ev (fr.set d (some (.bool false)))) (λv h'=>K (gO (fr.set d (some (.bool false))) o.dst v) h') Kp h)
        | some (.tuple _)=>K (gO fr o.dst (some undef)) h
        | _=>False)
      | none=>False
def forget (lv:cV) (fr:Fr):Fr:=fr.zipIdx.map λ(v,i)=>bif lv.contains i then v else none
abbrev fP:=List (Nat × List Nat)
def fP.find (bW:fP) (k:Nat) (fr:Fr):Fr:=match bW with | []=>fr | (j,lv)::r=>bif j == k then forget lv fr else fP.find r k fr
def fP.HX (id:Nat):fP->fP
 | []=>[]
 | (k,lv)::r=>bif Nat.ble (40000+1000*id) k && Nat.ble k (40999+1000*id) then (k - (40000+1000*id),lv)::fP.HX id r else fP.HX id r
def fP.at (bW:fP) (k:Nat) (fr:Fr) (K:Fr->Prop):Prop:=match bW with | []=>K fr | (j,lv)::r=>ic (j == k) (J9 (K (forget lv fr)))<|fP.at r k fr K
def fP.next (ra:fP) (l:cV) (fr:Fr) (K:Fr->Prop):Prop:=match l with | []=>K fr | i::_=>ra.at i fr K
def HH (P:Program) (ra:fP) (ops:Array Oper):List Nat->(Fr->HP)->PK->Fr->HP
 | [],K,_,fr,h=>K fr h
 | i::l,K,Kp,fr,h=>uY P ops i (λcZ h'=>ra.next l cZ λD7=>HH P ra ops l K Kp D7 h') Kp fr h
def pe:Code->Array Oper | .region _ ops _=>ops | _=>#[]
def iE:Code->Nat
 | .region id _ _=>id
 | .seq a _=>iE a
 | .cond (.tmp i) _ _=>i+20000
 | .cond _ a _=>iE a+500
 | .block id _=>id+1000
 | .loop b=>iE b+2000
 | .exit id=>id+3000
 | .rangeFunc _ _ a _=>iE a+4000
 | _=>9999
def WU:Code->Nat
 | .cond _ x y=>3000000+100000*iE x+iE y
 | .seq x _=>WU x
 | c=>iE c+2000000
abbrev Qt:=Exit->Fr->HP
def yU (K:Fr->HP) (Q:Qt):Qt:=λe fr h=>match e with | .normal=>K fr h | e=>Q e fr h
def O8 (id:Nat) (Q:Qt):Qt:=λe fr h=>match e with | .exit j=>if j=id then Q .normal fr h else Q (.exit j) fr h | e=>Q e fr h
def DT (B:(Fr->HP)->Fr->HP):Nat->Fr->HP
 | 0=>λ_ _=>False
 | n+1=>B (DT B n)
def Cm (B:(Fr->HP)->Fr->HP) (fr:Fr) (h:Hp):Prop:=∃n,DT B n fr h
def tK (P:Program) (fv:Value) (args:bg) (h:Hp) (K:de) (Kp:PK):Prop :=
 match fv with
 | .func (.func g) first captured=>ic (jT P g) (dW P g (first.toList++args++captured.toList) h K Kp)<|False
 | _=>False
def ahA (fr:Fr) (tm:Array Value):Prop:=fr.length<=tm.size/\∀i v,fr.getD i none=some v->tm.getD i undef=v
def Ei (rd:Option Nat) (h:Hp) (K:Hp->Nat->Prop):Prop :=
 match rd with
 | none=>K (h.push (.deferred none)) h.size
 | some l=>match h[l]? with | some (.loop r)=>K h r.defers | _=>False
def zw (l:Nat) (h:Hp) (K:Option Code->HP):Prop :=
 match h[l]? with | some (.loop r)=>r.state≠.busy/\K r.pending (h.setIfInBounds l (.loop { r with state:=.exhausted })) | _=>False
def fT (P:Program) (bW:fP) (D:Nat->Array Oper->(Fr->HP)->PK->Fr->HP) (rd:Option Nat):Code->Qt->PK->Fr->HP
  | .skip,Q,_,fr,h=>Q .normal fr h
  | .label _,Q,_,fr,h=>Q .normal fr h
  | .region id ops draw,Q,Kp,fr,h=>ic (draw) (D id ops (Q .normal) Kp fr h)<|HH P (bW.HX id) ops (List.range ops.size) (Q .normal) Kp fr h
  | .seq x y,Q,Kp,fr,h=>fT P bW D rd x (yU (λcZ h'=>bW.at (WU y) cZ λD7=>fT P bW D rd y Q Kp D7 h') Q) Kp fr h
  | .cond c x y,Q,Kp,fr,h=>match ev fr c with
    | some (.bool b)=>If b (fT P bW D rd x Q Kp (bW.find (iE x+5000) fr) h) (fT P bW D rd y Q Kp (bW.find (iE y+5000) fr) h)
    | _=>False
  | .block id x,Q,Kp,fr,h=>fT P bW D rd x (O8 id Q) Kp fr h
  | .loop x,Q,Kp,fr,h=>Cm (λN fr h=>fT P bW D rd x (yU (λcZ h'=>N (bW.find (iE x+2000) cZ) h') Q) Kp fr h) (bW.find (iE x+2000) fr) h
  | .rangeFunc g ps assign body,Q,Kp,fr,h=>match ev fr g with
    | some fv=>∀fn tm,ahA (bW.find (iE assign+4000) fr) tm->Ei rd h λh0 d =>
        tK P fv [.func (.yield h0.size) #[] #[]] (h0.push (.loop { state:=.ready,pending:=none,fn,tmps:=tm,params:=ps,assign,body,defers:=d }))
          (λ_ h'=>zw h0.size h' λjump qk=>match jump with
            | none=>Q .normal (bW.find (iE assign+4000) fr) qk
            | some .ret=>Q .ret (bW.find (iE assign+4000) fr) qk
            | some (.exit id)=>Q (.exit id) (bW.find (iE assign+4000) fr) qk
            | _=>False) Kp
    | none=>False
  | .exit id,Q,_,fr,h=>Q (.exit id) fr h
  | .ret,Q,_,fr,h=>Q .ret fr h
  | _,_,_,_,_=>False
abbrev ah (x:Int):Value:=.int .i64 x
abbrev aF (b:Nat):Addr:=⟨b,0,none⟩
abbrev bD (b:Nat):Option Addr:=some ⟨b,0,none⟩
abbrev bB (b:Nat):Value:=.pointer (some ⟨b,0,none⟩)
abbrev cU (a:Addr):Value:=.pointer (some a)
abbrev bM:Sl:=⟨none,0,0⟩
abbrev aW (p:Prop) [Decidable p]:=If (decide p)
abbrev aP:=Wr .i64
theorem aA {c:Prop} [Decidable c] {α:Sort _} {a b:α} (h:¬c:=by omega):(if c then a else b)=b:=aE h
theorem dU {c:Prop} [Decidable c] {α:Sort _} {a b:α} (h:c:=by omega):(if c then a else b)=a:=aI h
end Go.Sh
