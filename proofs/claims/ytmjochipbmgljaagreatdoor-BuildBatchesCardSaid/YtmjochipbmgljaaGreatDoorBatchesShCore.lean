import Derived.CallsIn
import Derived.KernelRfl
import Derived.WalkKit
import Derived.TacticsInMore
set_option linter.all false
namespace Go.Sh
abbrev ff:=ByteArray
abbrev cG:=List Nat
abbrev ig:=List (List UInt8)
abbrev dB:=List UInt8
abbrev bg:=List Value
abbrev aQ:=Nat->Prop
abbrev aC:=@if_neg
abbrev aI:=@if_pos
abbrev bx:=@List.getElem?_eq_getElem
abbrev bL:=@List.mem_of_getElem?
abbrev bP:=@Nat.le_refl
abbrev cm:=@List.length_map
abbrev cz:=@Nat.zero_add
abbrev cU:=@List.getElem?_eq_some_iff
abbrev dm:=@Bool.and_eq_true
abbrev dN:=@Nat.zero_le
abbrev dQ:=@decide_eq_true_eq
abbrev fh:=@List.getElem?_map
abbrev fR:=@Int.toNat_natCast
abbrev gm:=@List.getElem?_append_right
abbrev gu:=@if_true
abbrev gL:=@List.getD_eq_getElem?_getD
abbrev iq:=@List.length_cons
abbrev ij:=@List.length_append
abbrev iQ:=@List.getElem?_append_left
abbrev iY:=@Nat.le_trans
abbrev jw:=@List.length_singleton
abbrev jv:=@List.length_eq_zero_iff
abbrev jJ:=@List.prefix_refl
abbrev ki:=@List.set_cons_zero
abbrev kg:=@List.take_succ_eq_append_getElem
abbrev ke:=@Bool.eq_iff_iff
abbrev kE:=@List.getElem_mem
abbrev kS:=@Array.getElem?_eq_some_iff
abbrev kR:=@List.map_append
abbrev kP:=@List.length_take
abbrev kZ:=@Nat.lt_of_lt_of_le
abbrev lJ:=@if_false
abbrev lU:=@List.mem_map
abbrev mD:=@Bool.false_eq_true
abbrev mC:=@Option.some.injEq
abbrev mB:=@List.mem_cons
abbrev mA:=@List.mem_singleton
abbrev mz:=@List.take_length
abbrev nv:=@beq_iff_eq
abbrev nt:=@List.mem_append
abbrev nZ:=@List.setIfInBounds_toArray
abbrev oI:=@Option.getD_some
abbrev oH:=@List.append_nil
abbrev oG:=@List.length_zipWith
abbrev pH:=@Option.map_some
abbrev pG:=@Nat.mul_le_mul_right
abbrev pF:=@List.not_mem_nil
abbrev qu:=@List.take_of_length_le
abbrev rm:=@List.map_cons
abbrev ri:=@List.mem_iff_getElem?
abbrev rf:=@Nat.succ_mul
abbrev q9:=@List.append_assoc
abbrev q8:=@List.length_nil
abbrev qZ:=@List.getElem?_toArray
abbrev sE:=@List.ext_getElem?
abbrev sD:=@Ne.symm
abbrev tU:=@Option.map_eq_some_iff
abbrev tT:=@Option.getD_none
abbrev tS:=@Bool.not_eq_true'
abbrev tR:=@Array.ext'
abbrev tQ:=@Array.getD_eq_getD_getElem?
abbrev tP:=@congrArg
abbrev tO:=@List.set_cons_succ
abbrev tN:=@Nat.mul_le_mul
abbrev tM:=@UInt8.toNat_ofNat'
abbrev tL:=@List.prefix_append
abbrev vg:=@Array.getElem?_setIfInBounds
abbrev u7:=@Nat.mul_one
abbrev uZ:=@List.pairwise_iff_getElem
abbrev uY:=@Nat.mod_eq_of_lt
abbrev uX:=@List.range_succ
abbrev uW:=@Option.some.inj
abbrev wP:=@decide_eq_false_iff_not
abbrev wO:=@List.mem_range
abbrev wN:=@List.eq_nil_of_length_eq_zero
abbrev wM:=@Nat.sub_self
abbrev wL:=@BitVec.toNat_ofNat
abbrev wK:=@List.set_append_right
abbrev wJ:=@List.drop_length
abbrev yN:=@bne_iff_ne
abbrev yM:=@Nat.mod_lt
abbrev yL:=@Classical.byContradiction
abbrev yK:=@List.getElem?_set
abbrev yJ:=@List.cons_append
abbrev yI:=@List.drop_eq_getElem_cons
abbrev yH:=@Int.toNat_of_nonneg
abbrev yG:=@List.pairwise_cons
abbrev Al:=@Array.ext_getElem?
abbrev Ak:=@Array.getElem?_eq_getElem
abbrev Aj:=@List.all_eq_true
abbrev Ai:=@List.nil_append
abbrev Ah:=@Bool.true_and
abbrev Ag:=@UInt8.toNat_lt
abbrev Af:=@List.getElem?_cons_succ
abbrev Ae:=@List.dropLast_concat_getLast
abbrev Ad:=@Nat.min_eq_left
abbrev Ac:=@List.pairwise_singleton
abbrev Ab:=@or_false
abbrev B0:=@Array.getElem?_map
abbrev BZ:=@Option.bind_eq_some_iff
abbrev Cd:=@Array.getElem?_toList
abbrev Cb:=@List.map_nil
abbrev Ca:=@List.length_set
abbrev B9:=@List.getElem?_cons_zero
abbrev B7:=@List.drop_drop
abbrev B4:=@List.map_congr_left
abbrev B2:=@List.length_flatMap
abbrev Eo:=@Nat.add_zero
abbrev En:=@cond_true
abbrev Em:=@and_true
abbrev El:=@List.getElem?_set_self
abbrev Ek:=@List.contains_eq_mem
abbrev Ej:=@Int.le_refl
abbrev Ei:=@Nat.le_of_eq
abbrev Eh:=@List.getElem?_range
abbrev Eg:=@List.take_append_drop
abbrev Ef:=@Nat.min_self
abbrev Ee:=@Nat.pow_le_pow_right
abbrev Ed:=@BitVec.ofInt_natCast
abbrev Ec:=@Int.fdiv_eq_ediv_of_nonneg
abbrev Ea:=@Int.pow_pos
abbrev D8:=@Bool.false_and
abbrev D7:=@List.replicate_succ'
abbrev HV:=@List.getElem?_eq_none
abbrev HU:=@List.getElem?_set_ne
abbrev HS:=@Bool.or_eq_true
abbrev HR:=@Nat.add_mul
abbrev HQ:=@List.take_zero
abbrev HO:=@List.zipWith_append
abbrev HN:=@Nat.pow_add
abbrev HM:=@Nat.mul_comm
abbrev HL:=@List.getElem?_drop
abbrev HK:=@Int.le_of_lt
abbrev HJ:=@Nat.or_lt_two_pow
abbrev HH:=@List.length_drop
abbrev HG:=@List.map_take
abbrev HF:=@List.replicate_succ
abbrev HD:=@List.getD_cons_zero
abbrev HC:=@List.length_replicate
abbrev HA:=@List.map_singleton
abbrev Hz:=@List.sum_append
abbrev Hy:=@List.length_range
abbrev Mc:=@Array.getElem?_modify
abbrev Mb:=@Option.isSome_iff_exists
abbrev Ma:=@Nat.sub_zero
abbrev L9:=@List.mem_filterMap
abbrev L8:=@Array.getElem?_setIfInBounds_ne
abbrev L7:=@Array.getElem?_push_size
abbrev L6:=@decide_eq_true
abbrev L5:=@Array.toList_push
abbrev L4:=@Int.toNat_zero
abbrev L3:=@List.take_add_one
abbrev L0:=@List.map_map
abbrev LZ:=@Nat.pow_lt_pow_right
abbrev LY:=@Nat.add_comm
abbrev LX:=@List.length_pos_iff
abbrev LW:=@List.dropLast_prefix
abbrev LV:=@List.pairwise_append
abbrev LU:=@List.size_toArray
abbrev LS:=@Nat.min_eq_right
abbrev Vf:=@beq_eq_false_iff_ne
abbrev Ve:=@Array.size_map
abbrev Vd:=@List.map_eq_nil_iff
abbrev Va:=@List.mapM_cons
abbrev U9:=@Array.getElem?_append_left
abbrev U8:=@Bool.false_or
abbrev U7:=@List.eq_nil_iff_forall_not_mem
abbrev U6:=@Nat.le_of_ble_eq_true
abbrev U5:=@List.flatten_cons
abbrev U4:=@Nat.eq_zero_or_pos
abbrev U3:=@Option.isNone_iff_eq_none
abbrev U2:=@List.ext_getElem
abbrev U1:=@Bool.eq_false_iff
abbrev U0:=@Bool.not_eq_false'
abbrev UZ:=@List.Pairwise.nil
abbrev UY:=@List.getElem?_modify
abbrev UX:=@List.take_succ_cons
abbrev UW:=@BitVec.toNat_and
abbrev UU:=@Int.natCast_mul
abbrev UT:=@Decidable.byContradiction
abbrev US:=@List.getElem?_take
abbrev UR:=@List.cons.injEq
abbrev UQ:=@List.take_append_of_le_length
abbrev UP:=@List.sum_cons
abbrev UO:=@Nat.mul_le_mul_left
abbrev UN:=@List.countP_eq_zero
abbrev UM:=@List.getLast?_eq_getElem?
abbrev UL:=@List.length_filter_le
abbrev UK:=@List.getElem_modify
abbrev UJ:=@List.map_replicate
abbrev UI:=@List.prefix_iff_eq_take
abbrev UH:=@List.getLast?_eq_some_getLast
abbrev UG:=@List.mem_cons_self
abbrev UF:=@List.mem_cons_of_mem
abbrev UE:=@List.getElem_set
abbrev UD:=@UInt8.toNat_inj
abbrev UC:=@List.flatMap_def
abbrev afh:=@Array.all_eq_true_iff_forall_mem
abbrev afg:=@List.length_erase_of_mem
abbrev aff:=@List.getElem?_take_of_lt
abbrev afe:=@Nat.add_sub_cancel_left
abbrev afd:=@List.getLastD_eq_getLast?
abbrev afc:=@List.prefix_of_prefix_length_le
variable {p:Prop} {z:Value} {K:Value->Prop} {P:Program} {e:TypeId}
theorem sm:(∀(p:Prop) [Decidable p],(decide p=true)=p)/\(∀(p:Prop) [Decidable p],decide p=false↔¬p)/\(∀{α:Type} [BEq α] [LawfulBEq α] {a b:α},(a == b)=true↔a=b) /\
  (∀{α:Type} [BEq α] [LawfulBEq α] {a b:α},(a == b)=false↔a≠b)/\(∀{α:Type} (a b:α),(a≠b)=¬(a=b))/\(∀(p:Prop),(True↔p)=p)/\(∀(p:Prop),(False↔p)=¬p) /\
  (∀(b:Bool),((!b)=true)=(b=false))/\(∀(b:Bool),((!b)=false)=(b=true))/\(∀{α:Type} [BEq α] [LawfulBEq α] {a b:α},(a != b)=true↔a≠b) /\
  (∀{α:Type} [BEq α] [LawfulBEq α] {a b:α},(a != b)=false↔a=b)/\((!true)=false)/\((!false)=true)/\(∀{p:Prop} [Decidable p],¬¬p↔p) :=
 ⟨λp=>dQ,λp=>wP,nv,Vf,λa b=>ne_eq a b,λp=>true_iff p,λp=>false_iff p,λb=>by simp,λb=>by simp,yN,bne_eq_false_iff_eq,rfl,rfl,Decidable.not_not⟩
theorem ag (h:p:=by omega):p:=h
theorem aY (h:p:=by decide):p:=h
theorem aA (h:p:=by simp):p:=h
theorem cj (h:p:=by simp;omega):p:=h
theorem bU (h:p:=by grind):p:=h
theorem dM (h:p:=by simp[*]):p:=h
theorem aV{α:Sort _}{a b:α} (h:a=b:=by kernel_rfl):a=b:=h
theorem aM{q:Prop} (h:p) (k:p->q:=by intro h;simp only[sm,reduceCtorEq] at h;exact h):q:=k h
abbrev Hp:=Array Obj
abbrev HP:=Hp->Prop
abbrev de:=Value->HP
abbrev fJ:=Bool->HP
abbrev cJ:=Int->HP
abbrev PK:=List PanicEntry->HP
abbrev Fr:=List (Option Value)
def cell (h:Hp) (a:Addr):Option Value :=
 match h[a.block]? with
 | some (.cells c _ _)=>if a.spot.isSome then none else c[a.off]?
 | _=>none
def DC (h:Hp) (a:Addr):Bool :=
 match h[a.block]? with
 | some (.cells _ _ (lo,hi))=>lo<=a.off && a.off < hi
 | _=>false
def put (h:Hp) (a:Addr) (v:Value):Hp :=
 h.modify a.block fun
  | .cells c elem frozen=>.cells (if a.spot.isSome then c else c.setIfInBounds a.off v) elem frozen
  | o=>o
def uC:Obj->Obj
 | .deferred _=>.deferred none
 | o=>o
def aT (w:World):Hp:=w.heap.map uC
def cE (w w':World):Prop:=w'.tape=w.tape/\w'.os=w.os/\w'.output=w.output/\w.heap.size<=w'.heap.size/\∀(b:Nat) ds,w.heap[b]? = some (.deferred ds)->w'.heap[b]? = some (.deferred ds)
theorem cE.refl (w:World):cE w w:=⟨rfl,rfl,rfl,bP _,λ_ _ h=>h⟩
abbrev j0:=@cE.refl
theorem cE.trans{a b c:World} (h:cE a b) (h':cE b c):cE a c:=⟨h'.1.trans h.1,h'.2.1.trans h.2.1,h'.2.2.1.trans h.2.2.1,iY h.2.2.2.1 h'.2.2.2.1,λx ds d=>h'.2.2.2.2 x ds (h.2.2.2.2 x ds d)⟩
structure Sl where
 a:Option Addr
 n:Nat
 c:Nat
def Sl.v (s:Sl):Value:=.slice s.a s.n s.c
def Sl.nil:Sl:=⟨none,0,0⟩
def nJ (z:Value) (K:Value->Prop):Prop :=
 match z with
 | .int k _=>∃n:Int,K (.int k n)
 | .bool _=>∃b:Bool,K (.bool b)
 | .string _=>∃s:ByteArray,K (.string s)
 | .slice _ _ _=>∃s:Sl,K s.v
 | .pointer _=>∃p:Option Addr,K (.pointer p)
 | .map _=>∃r:Option Nat,K (.map r)
 | _=>∃v:Value,K v
def CT:List Value->(List Value->Prop)->Prop
 | [],K=>K []
 | z::zs,K=>nJ z λv=>CT zs λvs=>K (v::vs)
def xp (z:Value) (K:Value->Prop):Prop :=
 match z with
 | .agg zs=>CT zs.toList λvs=>K (.agg vs.toArray)
 | z=>nJ z K
def AR:List Value->(List Value->Prop)->Prop
 | [],K=>K []
 | z::zs,K=>xp z λv=>AR zs λvs=>K (v::vs)
def Je (z v:Value) (p:Value->Prop):Prop :=
 match z with
 | .int k _=>match v with | .int k' n=>if k'=k then p (.int k n) else False | _=>False
 | .bool _=>match v with | .bool b=>p (.bool b) | _=>False
 | .string _=>match v with | .string s=>p (.string s) | _=>False
 | .slice _ _ _=>match v with | .slice a n c=>p (Sl.v ⟨a,n,c⟩) | _=>False
 | .pointer _=>match v with | .pointer a=>p (.pointer a) | _=>False
 | .map _=>match v with | .map r=>p (.map r) | _=>False
 | _=>p v
def O2:List Value->List Value->(List Value->Prop)->Prop
 | [],[],p=>p []
 | z::zs,v::vs,p=>Je z v λx=>O2 zs vs λxs=>p (x::xs)
 | _,_,_=>False
def Jf (z v:Value) (p:Value->Prop):Prop :=
 match z with
 | .agg zs=>match v with | .agg vs=>O2 zs.toList vs.toList λxs=>p (.agg xs.toArray) | _=>False
 | z=>Je z v p
def O3:List Value->List Value->(List Value->Prop)->Prop
 | [],[],p=>p []
 | z::zs,v::vs,p=>Jf z v λx=>O3 zs vs λxs=>p (x::xs)
 | _,_,_=>False
theorem Y2{v:Value}{p:Value->Prop} (h:Je z v p):nJ z λx=>v=x/\p x:=by
 cases z <;> cases v <;> simp only[Je,nJ] at h ⊢ <;> first
  | exact h.elim
  | exact ⟨_,rfl,h⟩
  | exact ⟨⟨_,_,_⟩,rfl,h⟩
  | (split at h <;> first | exact h.elim | (rename_i e;subst e;exact ⟨_,rfl,h⟩))
theorem vC{a:Value->Prop} (h:nJ z K) (c:∀v,K v->a v):nJ z a:=by
 unfold nJ at h ⊢;split at h <;> (obtain ⟨x,b⟩:=h;exact ⟨x,c _ b⟩)
theorem Za{zs:bg}:∀{K a:List Value->Prop},CT zs K->(∀v,K v->a v)->CT zs a:=by
 induction zs with
 | nil=>intro K a h b;exact b _ h
 | cons z zs d=>intro K a h b;exact vC h λv e=>d e λvs c=>b _ c
theorem O9{c:Value->Prop} (h:xp z K) (b:∀v,K v->c v):xp z c:=by
 unfold xp at h ⊢;grind[Za,vC]
theorem Zb{zs:bg}:∀{K a:List Value->Prop},AR zs K->(∀v,K v->a v)->AR zs a:=by
 induction zs with
 | nil=>intro K a h b;exact b _ h
 | cons z zs d=>intro K a h b;exact O9 h λv e=>d e λvs c=>b _ c
theorem CU (h:nJ z K):∃v,K v:=by
 unfold nJ at h;split at h <;> (obtain ⟨x,a⟩:=h;exact ⟨_,a⟩)
theorem aly{zs:bg}:∀{K:List Value->Prop},CT zs K->∃vs,vs.length=zs.length/\K vs:=by
  induction zs with
  | nil=>intro K h;exact ⟨[],rfl,h⟩
  | cons z zs b =>
    intro K h;obtain ⟨v,c⟩:=CU h;obtain ⟨vs,hl,a⟩:=b c;exact ⟨v::vs,by simp[hl],a⟩
theorem Zc (h:xp z K):∃v,K v:=by
 unfold xp at h;split at h
 ·grind[aly]
 ·exact CU h
theorem alz{zs:bg}:∀{K:List Value->Prop},AR zs K->∃vs,vs.length=zs.length/\K vs:=by
  induction zs with
  | nil=>intro K h;exact ⟨[],rfl,h⟩
  | cons z zs b =>
    intro K h;obtain ⟨v,c⟩:=Zc h;obtain ⟨vs,hl,a⟩:=b c;exact ⟨v::vs,by simp[hl],a⟩
theorem alh:∀{zs vs:bg} {p:List Value->Prop},O2 zs vs p->CT zs λa=>vs=a/\p a:=by
  intro zs
  induction zs with
  | nil=>intro vs p h;cases vs with
    | nil=>exact ⟨rfl,h⟩
    | cons=>exact h.elim
  | cons z zs c =>
    intro vs p h;cases vs with
    | nil=>exact h.elim
    | cons v vs =>
      refine vC (Y2 h) ?_;simp_all
theorem Y3{v:Value}{p:Value->Prop} (h:Jf z v p):xp z λx=>v=x/\p x:=by
 unfold Jf at h;unfold xp;split at h
 ·split at h
  ·refine Za (alh h) ?_;simp_all
  ·exact h.elim
 ·exact Y2 h
theorem ali:∀{zs vs:bg} {p:List Value->Prop},O3 zs vs p->AR zs λa=>vs=a/\p a:=by
  intro zs
  induction zs with
  | nil=>intro vs p h;cases vs with
    | nil=>exact ⟨rfl,h⟩
    | cons=>exact h.elim
  | cons z zs c =>
    intro vs p h;cases vs with
    | nil=>exact h.elim
    | cons v vs =>
      refine O9 (Y3 h) ?_;simp_all
def Wr (k:IntKind) (x:Int) (K:Int->Prop):Prop:=K (k.wrap x)
def Dv (b:Int) (X:Prop):Prop:=b≠0/\X
def Nn (b:Int) (X:Prop):Prop:=0<=b/\X
def If (c:Bool) (A B:Prop):Prop:=match c with | true=>A | false=>B
def NN (p:Option Addr) (K:Addr->Prop):Prop:=match p with | some a=>K a | none=>False
def Ld {α:Type} (h:Hp) (a:Addr) (mk:α->Value) (K:α->Prop):Prop:=∃x,cell h a=some (mk x)/\K x
def one:Value->Bool | .agg _ | .tuple _=>false | _=>true
def St (h:Hp) (a:Addr) (v:Value) (K:Hp->Prop):Prop:=one v=true/\(cell h a).isSome=true/\DC h a=false/\K (put h a v)
def ji (h:Hp) (a:Addr) (i:Nat):List Value->(Hp->Prop)->Prop
 | [],K=>K h
 | v::vs,K=>St h (a.add i) v λh'=>ji h' a (i+1) vs K
def aH (h:Hp) (cells:Array Value) (t:TypeId) (K:Addr->HP):Prop:=K ⟨h.size,0,none⟩ (h.push (.cells cells t (0,0)))
def Ix (p:Option Addr) (n:Nat) (size:Nat) (i:Int) (K:Addr->Prop):Prop :=
 match p with | some a=>0<=i/\i < n/\K (a.add (i.toNat*size)) | none=>False
def me (p:Option Addr) (l m size:Nat):Option Addr:=if m=l then p else p.map (·.add (l*size))
def jA (s:Sl) (size:Nat) (lo hi mx:Option Int) (K:Sl->Prop):Prop :=
 0<=lo.getD 0/\lo.getD 0<=hi.getD s.n/\hi.getD s.n<=mx.getD s.c/\mx.getD s.c<=s.c /\
  K ⟨me s.a (lo.getD 0).toNat (mx.getD s.c).toNat size,(hi.getD s.n).toNat - (lo.getD 0).toNat,(mx.getD s.c).toNat - (lo.getD 0).toNat⟩
def qz (s:ff) (lo hi:Option Int) (K:ByteArray->Prop):Prop :=
 0<=lo.getD 0/\lo.getD 0<=hi.getD s.size/\hi.getD s.size<=s.size/\K (s.extract (lo.getD 0).toNat (hi.getD s.size).toNat)
def hY (s:ff) (i:Int) (K:Int->Prop):Prop:=∃b,0<=i/\s[i.toNat]? = some b/\K (b.toNat:Int)
def zs (zero:Array Value) (n:Nat):Array Value:=(Array.range n).map λi=>zero[i % zero.size]!
def dO (h:Hp) (elem:TypeId) (zero:Array Value) (size bytes:Nat) (l c:Int) (K:Sl->HP):Prop :=
 0<=l/\l<=c/\(bytes:Int)*c<=2 ^ 48/\c < 2 ^ 63/\K ⟨some ⟨h.size,0,none⟩,l.toNat,c.toNat⟩ (h.push (.cells (zs zero (c.toNat*size)) elem (0,0)))
def rd (h:Hp) (p:Option Addr) (n:Nat) (vs:bg):Prop :=
 match p with | none=>vs=[] | some a=>vs.length=n/\∀(i:Nat) v,vs[i]? = some v->cell h (a.add i)=some v
def Ap (h:Hp) (elem:TypeId) (zero:Array Value) (size bytes:Nat) (s:Sl) (n:Nat) (aF:List Value->Prop) (K:Sl->HP):Prop :=
  ∃vs,aF vs /\
    ((s.n+n<=s.c/\(match s.a with | some a=>ji h (a.add (s.n*size)) 0 vs λh'=>K ⟨s.a,s.n+n,s.c⟩ h' | none=>K ⟨s.a,s.n+n,s.c⟩ h)) \/
     (s.c < s.n+n/\Builtin.nextslicecap (s.n+n) s.c*bytes<=2 ^ 48/\s.n+n < 2 ^ 63/\∃fG,rd h s.a (s.n*size) fG /\
      ∀JS,s.n+n<=JS->JS < 2 ^ 63->K ⟨some ⟨h.size,0,none⟩,s.n+n,JS⟩ (h.push (.cells ((fG++vs).toArray++Builtin.zeroCells zero (JS - (s.n+n))) elem (0,0)))))
def sM (h:Hp) (s:Sl) (K:ByteArray->Prop):Prop :=
 ∃bs:List UInt8,rd h s.a s.n (bs.map λb=>.int .u8 b.toNat)/\K ⟨bs.toArray⟩
structure Il (p:Prop):Prop where
 h:p
abbrev iy (c:Bool) (a b:Prop):Prop:=match c with | true=>a | false=>b
theorem lH (a b:Prop):iy true a b=a:=rfl
theorem Ht (a b:Prop):iy false a b=b:=rfl
def zeroOf (P:Program) (t:TypeId):Option Value:=(P.info? t).bind (·.zero)
def jo (P:Program) (t:TypeId):Option Nat:=(P.info? t).map (·.size)
def uK:TypeDesc->Bool | .struct _ | .array _ _=>true | _=>false
def Dh (P:Program) (t:TypeId) (cs:Array Value) (off:Nat):Option Value :=
 match P.underlying t,jo P t with
 | some d,some n=>bif uK d then some (.agg (cs.extract off (off+n))) else cs[off]?
 | _,_=>none
def rY:TypeDesc->Bool | .int _=>true | .string=>true | .bool=>true | _=>false
def Lk {α:Type} (h:Hp) (m:Option Nat) (kd:TypeDesc) (key z:Value) (mk:α->Value) (K:α->Bool->Prop):Prop :=
 match m with
 | none=>∃x,z=mk x/\K x false
 | some r=>∃es c res,h[r]? = some (.map es c)/\Instr.findNow kd key es.toList 0=some res/\∃x,match res with | some (_,u)=>u=mk x/\K x true | none=>z=mk x/\K x false
def Dr (h:Hp) (m:Option Nat) (kd:TypeDesc) (key z:Value) (K:Value->Bool->Prop):Prop :=
 match m with
 | none=>nJ z λv=>z=v/\K v false
 | some r=>∃es c res,h[r]? = some (.map es c)/\Instr.findNow kd key es.toList 0=some res/\nJ z λv=>match res with | some (_,u)=>u=v/\K v true | none=>z=v/\K v false
def Up (h:Hp) (m:Option Nat) (kd:TypeDesc) (key val:Value) (K:Hp->Prop):Prop :=
 match m with
 | none=>False
 | some r=>∃es c res,h[r]? = some (.map es c)/\Instr.findNow kd key es.toList 0=some res /\
   K (h.setIfInBounds r (match res with | some (i,_)=>.map (es.modify i λe=>{ e with key:=key,val:=val }) c | none=>.map (es.push { key:=key,val:=val,born:=c }) (c+1)))
def Ez (h:Hp) (K:Nat->HP):Prop:=K h.size (h.push (.map #[] 0))
def xN (P:Program) (elem:TypeId) (cs:Array Value) (n:Nat) (i:Int) (K:Value->Prop):Prop :=
 match P.underlying elem,zeroOf P elem with
 | some d,some z=>iy (uK d) (False)<|if jo P elem=some 1 then 0<=i/\i < n/\nJ z λv=>cs[i.toNat]? = some v/\K v else False
 | _,_=>False
def dP (P:Program) (f:FuncId) (args:bg) (h:Hp) (K:de) (Kp:PK):Prop :=
 ∀w:World,aT w=h->Calls P f args.toArray w λe w'=>cE w w'/\match e with
  | .returned v=>K v (aT w')
  | .panicked ch=>Kp ch (aT w')
  | .outgrown=>False
abbrev Fc (r:Option Nat):Fence:={ fn:=λ_=>True,depth:=none,alive:=false,round:=r }
def wS (P:Program) (l:Nat) (args:bg) (h:Hp) (K:de) (Kp:PK):Prop :=
 ∀w:World,aT w=h->∃fn tmps assign body,(Instr.yield l args.toArray).run P w=.ok (.round l fn tmps assign body) w /\
  RoundIn (Fc none) 0 P l fn tmps assign body w λe w'=>cE w w'/\match e with
   | .returned v=>K v (aT w')
   | .panicked ch=>Kp ch (aT w')
   | .outgrown=>False
def jV (P:Program) (g:Nat):Bool:=match P.funcs[g]? with | some fn=>fn.body.isSome && !(fn.name == "runtime.NumGoroutine") | none=>false
def sX (P:Program) (t:TypeId) (name:String):Option (FuncId × Bool) :=
 (P.info? t).bind λi=>(i.methods.find? (·.name == name)).bind λm=>bif m.path.isEmpty then m.func else none
def C6 (P:Program) (t:TypeId) (pr:Bool):Bool:=match P.underlying t with | some (.pointer _)=>pr | some _=>!pr | none=>false
def Dq (P:Program) (t:TypeId) (name:String):Option (FuncId × Nat) :=
  (P.info? t).bind λi=>(i.methods.find? (·.name == name)).bind λm=>match m.path.toList,m.func with
    | [s],some (g,true)=>bif s.deref then (match (match P.underlying s.struct with | some (.struct fs)=>fs[s.index]? | _=>none) with
      | some f=>(match jo P f.type,P.underlying f.type with
        | some (_+1),some (.struct _)=>some (g,f.offset)
        | _,_=>none)
      | none=>none) else none
    | _,_=>none
def PY (v:Value) (off:Nat) (K:Value->Prop):Prop:=match v with | .pointer (some a)=>K (.pointer (some (a.add off))) | _=>False
def fE (P:Program) (fv:Value) (name:String) (args:bg) (h:Hp) (K:de) (Kp:PK):Prop :=
  match fv with
  | .iface t v=>(match sX P t name with
    | some (g,pr)=>iy (C6 P t pr && jV P g) (dP P g (v::args) h K Kp)<|False
    | none=>(match Dq P t name with
      | some (g,off)=>iy (jV P g) (PY v off λv'=>dP P g (v'::args) h K Kp)<|False
      | none=>False))
  | _=>False
def Cq (P:Program) (v:Value) (name:String) (X:Prop):Prop :=
 match v with
 | .iface t _=>(match sX P t name with | some (_,true)=>True | _=>False)/\X
 | _=>False
def Yx (P:Program) (t:TypeId) (name:String) (args:bg) (h:Hp) (K:de) (Kp:PK):Prop :=
  match args with
  | r::rest=>(match P.underlying t with
    | some (.interface _)=>fE P r name rest h K Kp
    | _=>False)
  | []=>False
def cX (P:Program) (fv:Value) (args:bg) (h:Hp) (K:de) (Kp:PK):Prop :=
 match fv with
 | .func (.func g) first captured=>iy (jV P g) (dP P g (first.toList++args++captured.toList) h K Kp)<|False
 | .func (.yield l) first _=>wS P l (first.toList++args) h K Kp
 | .func (.methodOf t name) first _=>Yx P t name (first.toList++args) h K Kp
 | _=>False
def yP (v:Value) (K:Value->Prop):Prop :=
 match v with
 | .pointer p=>NN p λa=>K (.pointer (some a))
 | .func (.func f) x y=>K (.func (.func f) x y)
 | .slice a n c=>K (.slice a n c)
 | .iface t v=>K (.iface t v)
 | _=>False
def sJ (P:Program) (v:Value) (K:Value->Prop):Prop :=
 match v with
 | .func (.method name) first captured=>(match first.toList with | [u]=>Cq P u name (K (.func (.method name) first captured)) | _=>False)
 | v=>yP v K
def ev (fr:Fr):Operand->Option Value
 | .tmp t=>fr.getD t none
 | .const v=>some v
 | .global g=>some (.pointer (some ⟨g,0,none⟩))
 | .func f=>some (.func (.func f) #[] #[])
def iH (e:Operand->Option Value):List Operand->Option (List Value)
 | []=>some []
 | x::xs=>match e x,iH e xs with | some v,some vs=>some (v::vs) | _,_=>none
def xY (e:Operand->Option Value):List (Nat × Operand)->Option (List (Nat × Value))
 | []=>some []
 | (i,x)::xs=>match e x,xY e xs with | some v,some vs=>some ((i,v)::vs) | _,_=>none
def gH (op:BinOp) (k:IntKind) (a b:Int):Int :=
 match op with
 | .and=>k.wrap (BitVec.ofInt k.bits a &&& BitVec.ofInt k.bits b).toNat
 | .or=>k.wrap (BitVec.ofInt k.bits a ||| BitVec.ofInt k.bits b).toNat
 | .xor=>k.wrap (BitVec.ofInt k.bits a ^^^ BitVec.ofInt k.bits b).toNat
 | _=>k.wrap (BitVec.ofInt k.bits a &&& ~~~(BitVec.ofInt k.bits b)).toNat
def vR (op:BinOp) (k:IntKind) (a b:Int) (K:Value->Prop):Prop :=
 match op with
 | .add=>Wr k (a+b) λc=>K (.int k c)
 | .sub=>Wr k (a - b) λc=>K (.int k c)
 | .mul=>Wr k (a*b) λc=>K (.int k c)
 | .quo=>Dv b (Wr k (a.tdiv b) λc=>K (.int k c))
 | .rem=>Dv b (K (.int k (a.tmod b)))
 | .and=>K (.int k (gH .and k a b))
 | .or=>K (.int k (gH .or k a b))
 | .xor=>K (.int k (gH .xor k a b))
 | .andNot=>K (.int k (gH .andNot k a b))
 | .shl=>Nn b (Wr k (a*2 ^ (min b.toNat k.bits)) λc=>K (.int k c))
 | .shr=>Nn b (K (.int k (a.fdiv (2 ^ (min b.toNat k.bits)))))
 | .eql=>K (.bool (a == b))
 | .neq=>K (.bool (a != b))
 | .lss=>K (.bool (decide (a < b)))
 | .leq=>K (.bool (decide (a<=b)))
 | .gtr=>K (.bool (decide (a > b)))
 | .geq=>K (.bool (decide (a>=b)))
def xC (op:BinOp) (x y:ff) (K:Value->Prop):Prop :=
 match op with
 | .add=>((x.size+y.size:Nat):Int)<=IntKind.i64.max/\K (.string (x++y))
 | .eql=>K (.bool (x.toList == y.toList))
 | .neq=>K (.bool (!(x.toList == y.toList)))
 | .lss=>K (.bool (Op.bytesLess x.toList y.toList))
 | .leq=>K (.bool (Op.bytesLess x.toList y.toList || x.toList == y.toList))
 | .gtr=>K (.bool (!(Op.bytesLess x.toList y.toList || x.toList == y.toList)))
 | .geq=>K (.bool (!(Op.bytesLess x.toList y.toList)))
 | _=>False
def Dp {α:Type} (a b:Option α):Option Bool:=match b with | none=>some a.isNone | some _=>match a with | none=>some false | some _=>none
def zL (P:Program) (t:TypeId) (x y:Value):Option Bool :=
  match P.underlying t with
  | some .bool=>match x,y with | .bool a,.bool b=>some (a == b) | _,_=>none
  | some (.int _)=>match x,y with | .int k a,.int k' b=>if k=k' then some (a == b) else none | _,_=>none
  | some .string=>match x,y with | .string a,.string b=>some (a == b) | _,_=>none
  | some (.pointer _)=>match x,y with | .pointer a,.pointer b=>Dp a b | _,_=>none
  | some (.slice _)=>match x,y with | .slice a _ _,.slice b _ _=>Dp a b | _,_=>none
  | some (.map _ _)=>match x,y with | .map a,.map b=>Dp a b | _,_=>none
  | some (.interface ms)=>match x,y with | .iface _ _,.nilIface=>some false | .nilIface,.iface _ _=>some false | .nilIface,.nilIface=>bif ms.isEmpty then some true else none | _,_=>none
  | some (.func _ _ _)=>match x,y with | .func _ _ _,.nilFunc=>some false | .nilFunc,.nilFunc=>some true | .nilFunc,.func _ _ _=>some false | _,_=>none
  | _=>none
def GO (P:Program):List Field->Array Value->Array Value->Option Bool
  | [],_,_=>some true
  | f::fs,xs,ys=>if f.name = "_" then none else
    match Dh P f.type xs f.offset,Dh P f.type ys f.offset with
    | some a,some b=>(match zL P f.type a b,GO P fs xs ys with | some r,some r'=>some (r && r') | _,_=>none)
    | _,_=>none
def KP (P:Program) (t:TypeId) (xs ys:Array Value):Option Bool :=
 match P.underlying t with
 | some (.struct fs)=>bif P.stoodInHeld t || P.eqGuardType P.depth t then none else GO P fs.toList xs ys
 | _=>none
def ux:Value->Value->Bool
 | .agg _,_=>false
 | .float _ _,_=>false
 | .complex _ _ _,_=>false
 | _,_=>true
def oN (x:Value) (K:Bool->Prop):Prop:=match x with | .func _ _ _=>K false | .nilFunc=>K true | _=>False
def xD (P:Program) (op:BinOp) (t:TypeId) (x y:Value) (K:Value->Prop):Prop :=
  match x with
  | .int k a=>match y with
    | .int k' b=>(match op with
      | .shl=>vR .shl k a b K
      | .shr=>vR .shr k a b K
      | op=>if k=k' then vR op k a b K else False)
    | _=>False
  | .string a=>match y with | .string b=>xC op a b K | _=>False
  | .agg xs=>match y with
    | .agg ys=>(match op with
      | .eql=>(match KP P t xs ys with | some r=>K (.bool r) | none=>False)
      | .neq=>(match KP P t xs ys with | some r=>K (.bool (!r)) | none=>False)
      | _=>False)
    | _=>False
  | x=>match op with
    | .eql=>if ux x y then match zL P t x y with | some r=>K (.bool r) | none=>False else False
    | .neq=>if ux x y then match zL P t x y with | some r=>K (.bool (!r)) | none=>False else False
    | _=>False
def xE (P:Program) (op:BinOp) (t:TypeId) (x y:Value) (K:Value->Prop):Prop :=
  match y with
  | .nilFunc=>(match P.underlying t with
    | some (.func _ _ _)=>(match op with
      | .eql=>oN x λb=>K (.bool b)
      | .neq=>oN x λb=>K (.bool (!b))
      | _=>False)
    | _=>False)
  | y=>xD P op t x y K
def xB (op:UnOp) (x:Value) (K:Value->Prop):Prop :=
 match op with
 | .not=>match x with | .bool b=>K (.bool (!b)) | _=>False
 | .neg=>match x with | .int k n=>Wr k (0 - n) λc=>K (.int k c) | _=>False
 | .xor=>match x with | .int k n=>K (.int k (gH .xor k (if k.signed then -1 else k.max) n)) | _=>False
 | .plus=>False
def xI (h:Hp) (a:Addr) (i:Nat):List Value->(List Value->Prop)->Prop
 | [],K=>K []
 | z::zs,K=>nJ z λv=>cell h (a.add i)=some v/\xI h a (i+1) zs λvs=>K (v::vs)
def mQ (P:Program) (t:TypeId) (h:Hp) (a:Addr) (K:Value->Prop):Prop :=
 match P.underlying t,zeroOf P t with
 | some d,some z=>iy (uK d) ((match z with
   | .agg zs=>if jo P t=some zs.size then xI h a 0 zs.toList λvs=>K (.agg vs.toArray) else False
   | _=>False))<|nJ z λv=>cell h a=some v/\K v
 | _,_=>False
def NA (v:Value) (X:Prop):Prop:=v.cells=#[v]/\X
def asw:TypeDesc->Bool | .func _ _ _=>true | .interface _=>true | _=>false
def tu (P:Program) (t:TypeId):Bool:=match P.underlying t with | some d=>asw d | none=>false
def vG (P:Program) (t:TypeId) (h:Hp) (a:Addr) (v:Value) (K:Hp->Prop):Prop :=
 iy (tu P t) (NA v (if jo P t=some 1 then ji h a 0 [v] K else False))<|if jo P t=some v.cells.size then ji h a 0 v.cells.toList K else False
theorem ZD{h:Hp}{a:Addr}{v:Value}{K:Hp->Prop} (b:vG P e h a v K):if jo P e=some v.cells.size then ji h a 0 v.cells.toList K else False:=by
 unfold vG at b;cases c:tu P e
 ·simpa only [c,cond] using b
 ·simp only[c,cond] at b;obtain ⟨f,d⟩:=b;rw[f];exact d
theorem amW{h:Hp}{a:Addr}{v:Value}{K f:Hp->Prop} (b:vG P e h a v K) (c:(if jo P e=some v.cells.size then ji h a 0 v.cells.toList f else False)):vG P e h a v f:=by
 unfold vG at b ⊢;cases d:tu P e
 ·simpa only [d,cond] using c
 ·simp only[d,cond] at b ⊢;refine ⟨b.1,?_⟩;rw[b.1] at c;exact c
def KK (P:Program) (t:TypeId) (i:Nat):Option Field :=
 match P.underlying t with | some (.struct fs)=>fs[i]? | _=>none
def places (P:Program):List Field->Option (List (Nat × Nat))
 | []=>some []
 | f::fs=>match jo P f.type,places P fs with | some n,some r=>some ((f.offset,n)::r) | _,_=>none
def LA (P:Program) (t:TypeId) (parts:List (Nat × Value)):Option Value :=
  match zeroOf P t,P.underlying t with
  | some z,some (.struct fields)=>match places P fields.toList with
    | some ps=>(Instr.fill (ps[·]?) z.cells parts).map .agg
    | none=>none
  | some z,some (.array _ elem)=>match jo P elem with
    | some size=>(Instr.fill (λi=>some (i*size,size)) z.cells parts).map .agg
    | none=>none
  | _,_=>none
def zu (raw:Nat->Bool):List (Nat × Value)->Prop->Prop
 | [],X=>X
 | (i,v)::r,X=>iy (raw i) (NA v (zu raw r X))<|zu raw r X
def Bz (raw:Nat->Bool) (place:Nat->Option (Nat × Nat)) (cells:Array Value):List (Nat × Value)->Option (Array Value)
  | []=>some cells
  | (i,v)::rest =>
    match place i with
    | none=>none
    | some (off,size) =>
      if (bif raw i then #[v] else v.cells).size≠size || off+(bif raw i then #[v] else v.cells).size > cells.size then none
      else Bz raw place ((bif raw i then #[v] else v.cells).zipIdx.foldl (λcs (c,j)=>cs.setIfInBounds (off+j) c) cells) rest
theorem aas{b:Nat->Bool}:∀{c:List (Nat × Value)} {X:Prop},zu b c X->X/\(∀a cells,Instr.fill a cells c=Bz b a cells c)/\∀Y:Prop,Y->zu b c Y:=by
  intro c
  induction c with
  | nil=>intro X h;exact ⟨h,λ_ _=>rfl,λ_ h=>h⟩
  | cons q c l =>
    intro X h;obtain ⟨i,v⟩:=q;simp only[zu] at h ⊢;cases e:b i with
    | false =>
      rw[e] at h;obtain ⟨k,j,g⟩:=l h;refine ⟨k,λa cells => ?_,λY f=>g Y f⟩;simp only[Instr.fill,Bz,e,cond];cases a i with
      | none=>rfl
      | some x =>
        simp_all
    | true =>
      rw[e] at h;obtain ⟨m,h⟩:=h;obtain ⟨k,j,g⟩:=l h;refine ⟨k,λa cells => ?_,λY f=>⟨m,g Y f⟩⟩;simp only[Instr.fill,Bz,e,cond,m];cases a i with
      | none=>rfl
      | some x =>
        simp_all
def aat (P:Program) (fields:Array Field) (i:Nat):Bool:=match fields[i]? with | some f=>tu P f.type | none=>false
def LD (P:Program) (t:TypeId) (parts:List (Nat × Value)) (K:Value->Prop):Prop :=
  match zeroOf P t,P.underlying t with
  | some z,some (.struct fields)=>match places P fields.toList with
    | some ps=>zu (aat P fields) parts (match Bz (aat P fields) (ps[·]?) z.cells parts with | some cs=>K (.agg cs) | none=>False)
    | none=>False
  | some z,some (.array _ elem)=>match jo P elem with
    | some size=>zu (λ_=>tu P elem) parts (match Bz (λ_=>tu P elem) (λi=>some (i*size,size)) z.cells parts with | some cs=>K (.agg cs) | none=>False)
    | none=>False
  | _,_=>False
theorem Ul{f:List (Nat × Value)} (h:LD P e f K):∃v,LA P e f=some v/\K v/\∀d:Value->Prop,d v->LD P e f d:=by
 unfold LD LA at *;split at h
 all_goals grind[aas]
def LC (P:Program) (t:TypeId) (len:Nat) (parts:List (Nat × Value)):Option (Array Value × TypeId) :=
  match P.underlying t with
  | some (.slice elem)=>match jo P elem,zeroOf P elem with
    | some size,some z=>if len*size<=2 ^ 24 then (Instr.fill (λi=>some (i*size,size)) (zs (if len*size=0 then #[] else z.cells) (len*size)) parts).map (·,elem) else none
    | _,_=>none
  | _=>none
def LB (P:Program) (t:TypeId) (len:Nat) (parts:List (Nat × Value)) (K:Array Value->TypeId->Prop):Prop :=
  match P.underlying t with
  | some (.slice elem)=>match jo P elem,zeroOf P elem with
    | some size,some z=>if len*size<=2 ^ 24 then zu (λ_=>tu P elem) parts (match Bz (λ_=>tu P elem) (λi=>some (i*size,size)) (zs (if len*size=0 then #[] else z.cells) (len*size)) parts with | some cs=>K cs elem | none=>False) else False
    | _,_=>False
  | _=>False
theorem aeO{len:Nat}{a:List (Nat × Value)}{K:Array Value->TypeId->Prop} (h:LB P e len a K):∃cs el,LC P e len a=some (cs,el)/\K cs el/\∀d:Array Value->TypeId->Prop,d cs el->LB P e len a d:=by
 unfold LB LC at *;split at h
 ·rename_i el j
  split at h
  ·rename_i g z k i
   split at h
   ·rename_i f
    obtain ⟨b,n,m⟩:=aas h;split at b
    ·rename_i cs c
     refine ⟨cs,el,?_,b,λd l => ?_⟩
     ·simp only[j,k,i,f,gu,n,c];rfl
     ·rw[aI f];exact m _ l
    ·exact b.elim
   ·exact h.elim
  ·exact h.elim
 ·exact h.elim
def qm (e:Operand->Option Value):Option Operand->Option (Option Int)
 | none=>some none
 | some x=>match e x with | some (.int _ n)=>some (some n) | _=>none
def OJ (P:Program):List TypeId->Option (List Value)
 | []=>some []
 | t::ts=>match zeroOf P t,OJ P ts with | some z,some zs=>some (z::zs) | _,_=>none
def gO (zs:bg) (v:Value) (K:Value->Prop):Prop :=
 match zs with
 | [z]=>xp z λx=>v=x/\K x
 | zs=>AR zs λxs=>v=.tuple xs.toArray/\K (.tuple xs.toArray)
def nN (zs:bg) (v:Value) (K:Value->Prop):Prop :=
 match zs with
 | [z]=>Jf z v K
 | zs=>match v with | .tuple xs=>O3 zs xs.toList λys=>K (.tuple ys.toArray) | _=>False
theorem FH{zs:bg}{v:Value} (h:nN zs v K):gO zs v K:=by
 unfold nN at h;unfold gO;split at h
 ·exact Y3 h
 ·split at h
  ·refine Zb (ali h) ?_;simp_all
  ·exact h.elim
theorem aak{zs:bg}{v:Value} (h:gO zs v K):K v:=by
 unfold gO at h;split at h
 ·obtain ⟨x,rfl,a⟩:=Zc h;exact a
 ·obtain ⟨x,_,rfl,a⟩:=alz h;exact a
def aaj (P:Program) (ty:TypeId):List TypeId:=match P.underlying ty with | some (.tuple es)=>es.toList | _=>[ty]
def Fx (P:Program) (ty:TypeId) (fv:Value) (args:bg) (h:Hp) (K:de) (Kp:PK):Prop :=
 match OJ P (aaj P ty) with
 | some zs=>cX P fv args h (λv h'=>gO zs v λv'=>K v' h') Kp
 | none=>False
def Fw (P:Program) (ty:TypeId) (fv:Value) (name:String) (args:bg) (h:Hp) (K:de) (Kp:PK):Prop :=
 match OJ P (aaj P ty) with
 | some zs=>fE P fv name args h (λv h'=>gO zs v λv'=>K v' h') Kp
 | none=>False
def C3 (x:Value) (K:Value->Prop):Prop :=
 match x with
 | .string s=>K (.int .i64 s.size)
 | .slice _ n _=>K (.int .i64 n)
 | .map none=>K (.int .i64 0)
 | _=>False
def R1 (P:Program) (t:TypeId) (x:Value):Bool :=
 match P.underlying t,x with
 | some .string,.string _=>true
 | some (.slice _),.slice _ _ _=>true
 | some (.map _ _),.map none=>true
 | _,_=>false
def abm (x y:Value):Option Value:=match x,y with | .int k a,.int _ b=>some (.int k (if b < a then b else a)) | _,_=>none
def abp (x y:Value):Option Value:=match x,y with | .int k a,.int _ b=>some (.int k (if b > a then b else a)) | _,_=>none
def Fy (P:Program) (ts:List TypeId) (s x:Value) (h:Hp) (K:de):Prop :=
  match ts,s with
  | [t,u],.slice a n c=>match P.underlying t,P.underlying u with
    | some (.slice elem),some du=>match P.info? elem,zeroOf P elem with
      | some i,some z=>(match du,x with
        | .int _,_=>False
        | _,.slice b m _=>Ap h elem z.cells i.size i.bytes ⟨a,n,c⟩ m (rd h b (m*i.size)) λs' h'=>K s'.v h'
        | _,.string bs=>Ap h elem z.cells i.size i.bytes ⟨a,n,c⟩ bs.size (λvs=>vs=bs.data.toList.map λb=>.int .u8 b.toNat) λs' h'=>K s'.v h'
        | _,_=>False)
      | _,_=>False
    | _,_=>False
  | _,_=>False
def AJ (h:Hp) (a:Option Addr) (aF:List Value->Prop) (K:Hp->Prop):Prop:=∃vs,aF vs/\match a with | some a=>ji h a 0 vs K | none=>K h
def Pn (P:Program) (ts:List TypeId) (s x:Value) (h:Hp) (K:de):Prop :=
  match ts,s with
  | t::_,.slice a n _=>match P.underlying t with
    | some (.slice elem)=>(match jo P elem with
      | some size=>(match x with
        | .slice b m _=>AJ h a (rd h b (Nat.min m n*size)) λh'=>K (.int .i64 (Nat.min m n:Nat)) h'
        | .string bs=>AJ h a (λvs=>vs=(bs.extract 0 (Nat.min bs.size n)).data.toList.map λb=>.int .u8 b.toNat) λh'=>K (.int .i64 (Nat.min bs.size n:Nat)) h'
        | _=>False)
      | none=>False)
    | _=>False
  | _,_=>False
def zb (h:Hp) (m:Option Nat) (kd:TypeDesc) (key:Value) (K:Hp->Prop):Prop :=
 match m with
 | none=>K h
 | some r=>∃es c res,h[r]? = some (.map es c)/\Instr.findNow kd key es.toList 0=some res/\K (h.setIfInBounds r (match res with | some (i,_)=>.map (es.eraseIdxIfInBounds i) c | none=>.map es c))
def Pm (P:Program) (ts:List TypeId) (m k:Value) (h:Hp) (K:de):Prop :=
  match ts,m with
  | t::_,.map m=>match P.underlying t with
    | some (.map kt _)=>(match P.underlying kt with
      | some kd=>iy (rY kd) (zb h m kd k λh'=>K (.tuple #[]) h')<|False
      | none=>False)
    | _=>False
  | _,_=>False
def AW (P:Program) (b:Builtin) (ts:List TypeId) (args:bg) (h:Hp) (K:de):Prop :=
 match b with
 | .len=>match ts,args with | t::_,x::_=>if R1 P t x then C3 x (λv=>K v h) else False | _,_=>False
 | .cap=>match ts,args with | t::_,.slice _ _ c::_=>(match P.underlying t with | some (.slice _)=>K (.int .i64 c) h | _=>False) | _,_=>False
 | .min=>match args with | [x,y]=>(match abm x y with | some v=>K v h | none=>False) | _=>False
 | .max=>match args with | [x,y]=>(match abp x y with | some v=>K v h | none=>False) | _=>False
 | .append=>match args with | [s,x]=>Fy P ts s x h K | _=>False
 | .copy=>match args with | [s,x]=>Pn P ts s x h K | _=>False
 | .delete=>match args with | [m,k]=>Pm P ts m k h K | _=>False
 | _=>False
def BI (P:Program) (src dst:TypeId) (x:Value) (h:Hp) (K:Value->Prop):Prop :=
 match P.underlying src,P.underlying dst with
 | some (.int _),some (.int k)=>match x with | .int _ n=>Wr k n λc=>K (.int k c) | _=>False
 | some .string,some .string=>match x with | .string s=>K (.string s) | _=>False
 | some (.slice e),some .string=>(match P.underlying e,x with | some (.int .u8),.slice a n c=>sM h ⟨a,n,c⟩ λs=>K (.string s) | _,_=>False)
 | _,_=>False
def Ur (P:Program) (asserted t:TypeId) (v:Value) (ok:Bool):Option Value :=
 match P.underlying asserted with
 | some (.interface _)=>none
 | some _=>if t=asserted then some (bif ok then .tuple #[v,.bool true] else v) else (bif ok then (zeroOf P asserted).map (λz=>.tuple #[z,.bool false]) else none)
 | none=>none
def iL (P:Program) (op:Op) (ty:TypeId) (e:Operand->Option Value) (K:Option Value->HP) (Kp:PK) (h:Hp):Prop :=
  match op with
  | .move x=>K (e x) h
  | .assign x=>K (e x) h
  | .pick c a b=>match e c with
    | some (.bool t)=>(match t with
      | true=>K (e a) h
      | false=>K (e b) h)
    | _=>False
  | .alloc t=>match zeroOf P t with | some z=>aH h z.cells t λa h'=>K (some (.pointer (some a))) h' | none=>False
  | .box t x=>match e x with | some v=>aH h v.cells t λa h'=>K (some (.pointer (some a))) h' | none=>False
  | .load t x=>match e x with | some (.pointer (some a))=>mQ P t h a λv=>K (some v) h | _=>False
  | .store t x y=>match e x,e y with | some (.pointer (some a)),some v=>vG P t h a v λh'=>K none h' | _,_=>False
  | .nilCheck x=>match e x with
    | some v=>sJ P v λv'=>K (some v') h
    | none=>False
  | .binOp op t x y _=>match e x,e y with | some a,some b=>xE P op t a b λv=>K (some v) h | _,_=>False
  | .unOp op _ x=>match e x with | some a=>xB op a λv=>K (some v) h | none=>False
  | .convert s d x=>match e x with | some a=>BI P s d a h λv=>K (some v) h | none=>False
  | .makeInterface t x=>match e x,P.underlying t with
    | some _,some (.interface _)=>False
    | some v,some _=>K (some (.iface t v)) h
    | _,_=>False
  | .makeFunc fn first captured=>match iH e first.toList,iH e captured.toList with
    | some xs,some ys=>K (some (.func fn xs.toArray ys.toArray)) h
    | _,_=>False
  | .makeSlice t l c=>match e l,e c,P.underlying t with
    | some (.int _ l),some (.int _ c),some (.slice elem)=>(match P.info? elem,zeroOf P elem with
      | some i,some z=>dO h elem z.cells i.size i.bytes l c λs h'=>K (some s.v) h'
      | _,_=>False)
    | _,_,_=>False
  | .slice t x lo hi mx=>match e x,qm e lo,qm e hi,qm e mx with
    | some (.slice a n c),some lo,some hi,some mx=>(match P.underlying t with
      | some (.slice elem)=>(match jo P elem with | some size=>(if hi.isNone && mx.isSome then False else jA ⟨a,n,c⟩ size lo hi mx λs=>K (some s.v) h) | none=>False)
      | _=>False)
    | some (.string s),some lo,some hi,some none=>(match P.underlying t with
      | some .string=>qz s lo hi λs'=>K (some (.string s')) h
      | _=>False)
    | _,_,_,_=>False
  | .fieldAddr t x i=>match e x,KK P t i with
    | some (.pointer (some a)),some f=>(match jo P f.type with | some (_+1)=>K (some (.pointer (some (a.add f.offset)))) h | _=>False)
    | _,_=>False
  | .field t x i=>match e x,KK P t i with
    | some (.agg cs),some f=>(match Dh P f.type cs f.offset with | some v=>K (some v) h | none=>False)
    | _,_=>False
  | .indexAddr t x ix=>match e x,e ix with
    | some (.slice a n _),some (.int _ i)=>(match P.underlying t with
      | some (.slice elem)=>(match jo P elem with | some size=>Ix a n size i λad=>K (some (.pointer (some ad))) h | none=>False)
      | _=>False)
    | some (.pointer p),some (.int _ i)=>(match P.underlying t with
      | some (.array n elem)=>(match jo P elem with | some size=>Ix p n size i λad=>K (some (.pointer (some ad))) h | none=>False)
      | _=>False)
    | _,_=>False
  | .index t x ix=>match e x,e ix with
    | some (.string s),some (.int _ i)=>(match P.underlying t with | some .string=>hY s i λb=>K (some (.int .u8 b)) h | _=>False)
    | some (.agg cs),some (.int _ i)=>(match P.underlying t with | some (.array n elem)=>xN P elem cs n i λv=>K (some v) h | _=>False)
    | _,_=>False
  | .makeMap _ r=>match r with | none=>Ez h λm h'=>K (some (.map (some m))) h' | some _=>False
  | .lookup t x ix ok=>match e x,e ix,P.underlying t with
    | some (.map m),some k,some (.map kt et)=>(match P.underlying kt,zeroOf P et with
      | some kd,some z=>iy (rY kd) (Dr h m kd k z λv b=>K (some (bif ok then .tuple #[v,.bool b] else v)) h)<|False
      | _,_=>False)
    | _,_,_=>False
  | .mapUpdate t x k v=>match e x,e k,e v,P.underlying t with
    | some (.map m),some k,some v,some (.map kt _)=>(match P.underlying kt with
      | some kd=>iy (rY kd) (Up h m kd k v λh'=>K none h')<|False
      | none=>False)
    | _,_,_,_=>False
  | .typeAssert x _ asserted ok=>match e x with
    | some (.iface t v)=>(match Ur P asserted t v ok with | some u=>K (some u) h | none=>False)
    | _=>False
  | .extract x i=>match e x with
    | some (.tuple vs)=>(match vs[i]? with | some v=>K (some v) h | none=>False)
    | _=>False
  | .build t parts=>match xY e parts.toList with
    | some ps=>LD P t ps λv=>K (some v) h
    | none=>False
  | .buildSlice t len parts=>match xY e parts.toList with
    | some ps=>LB P t len ps λcs elem=>aH h cs elem λa h'=>K (some (Sl.v ⟨some a,len,len⟩)) h'
    | none=>False
  | .panic x=>match e x with | some (.iface t v)=>Kp [{ v:=.iface t v,recovered:=false }] h | _=>False
  | .call c=>match c.callee with
    | .builtin b=>(match iH e c.args.toList with | some vs=>AW P b c.argTypes.toList vs h λv h'=>K (some v) h' | none=>False)
    | .value f=>(match e f,iH e c.args.toList with | some fv,some args=>Fx P ty fv args h (λv h'=>K (some v) h') Kp | _,_=>False)
    | .invoke f name=>(match e f,iH e c.args.toList with | some fv,some args=>Fw P ty fv name args h (λv h'=>K (some v) h') Kp | _,_=>False)
  | _=>False
def gR (fr:Fr) (d:Option Nat) (v:Option Value):Fr:=match d with | some t=>fr.set t v | none=>fr
def vK (P:Program) (ops:Array Oper) (i:Nat) (K:Fr->HP) (Kp:PK) (fr:Fr) (h:Hp):Prop :=
  match ops[i]? with
  | none=>K fr h
  | some o=>match o.guard with
    | none=>iL P o.op o.type (ev fr) (λv h'=>K (gR fr o.dst v) h') Kp h
    | some (j,b)=>match (ops[j]?).bind (·.dst) with
      | some d=>(match fr.getD d none with
        | some (.bool c)=>If c
          (iy (b) (iL P o.op o.type (ev (fr.set d (some (.bool true)))) (λv h'=>K (gR (fr.set d (some (.bool true))) o.dst v) h') Kp h)<|K (gR (fr.set d (some (.bool true))) o.dst (some undef)) h)
          (iy (b) (K (gR (fr.set d (some (.bool false))) o.dst (some undef)) h)<|iL P o.op o.type (ev (fr.set d (some (.bool false)))) (λv h'=>K (gR (fr.set d (some (.bool false))) o.dst v) h') Kp h)
        | some (.tuple _)=>K (gR fr o.dst (some undef)) h
        | _=>False)
      | none=>False
def forget (lv:cG) (fr:Fr):Fr:=fr.zipIdx.map λ(v,i)=>bif lv.contains i then v else none
abbrev fS:=List (Nat × List Nat)
def fS.find (bS:fS) (k:Nat) (fr:Fr):Fr:=match bS with | []=>fr | (j,lv)::r=>bif j == k then forget lv fr else fS.find r k fr
def fS.FJ (id:Nat):fS->fS
 | []=>[]
 | (k,lv)::r=>bif Nat.ble (40000+1000*id) k && Nat.ble k (40999+1000*id) then (k - (40000+1000*id),lv)::fS.FJ id r else fS.FJ id r
def fS.at (bS:fS) (k:Nat) (fr:Fr) (K:Fr->Prop):Prop:=match bS with | []=>K fr | (j,lv)::r=>iy (j == k) (Il (K (forget lv fr)))<|fS.at r k fr K
def fS.next (ra:fS) (l:cG) (fr:Fr) (K:Fr->Prop):Prop:=match l with | []=>K fr | i::_=>ra.at i fr K
def Fv (P:Program) (ra:fS) (ops:Array Oper):List Nat->(Fr->HP)->PK->Fr->HP
 | [],K,_,fr,h=>K fr h
 | i::l,K,Kp,fr,h=>vK P ops i (λcW h'=>ra.next l cW λDD=>Fv P ra ops l K Kp DD h') Kp fr h
def oY:Code->Array Oper | .region _ ops _=>ops | _=>#[]
def iF:Code->Nat
 | .region id _ _=>id
 | .seq a _=>iF a
 | .cond (.tmp i) _ _=>i+20000
 | .cond _ a _=>iF a+500
 | .block id _=>id+1000
 | .loop b=>iF b+2000
 | .exit id=>id+3000
 | .rangeFunc _ _ a _=>iF a+4000
 | _=>9999
def Sk:Code->Nat
 | .cond _ x y=>3000000+100000*iF x+iF y
 | .seq x _=>Sk x
 | c=>iF c+2000000
abbrev Qt:=Exit->Fr->HP
def zm (K:Fr->HP) (Q:Qt):Qt:=λe fr h=>match e with | .normal=>K fr h | e=>Q e fr h
def LI (id:Nat) (Q:Qt):Qt:=λe fr h=>match e with | .exit j=>if j=id then Q .normal fr h else Q (.exit j) fr h | e=>Q e fr h
def Gf (B:(Fr->HP)->Fr->HP):Nat->Fr->HP
 | 0=>λ_ _=>False
 | n+1=>B (Gf B n)
def Cr (B:(Fr->HP)->Fr->HP) (fr:Fr) (h:Hp):Prop:=∃n,Gf B n fr h
def uo (P:Program) (fv:Value) (args:bg) (h:Hp) (K:de) (Kp:PK):Prop :=
 match fv with
 | .func (.func g) first captured=>iy (jV P g) (dP P g (first.toList++args++captured.toList) h K Kp)<|False
 | _=>False
def ajO (fr:Fr) (tm:Array Value):Prop:=fr.length<=tm.size/\∀i v,fr.getD i none=some v->tm.getD i undef=v
def DM (rd:Option Nat) (h:Hp) (K:Hp->Nat->Prop):Prop :=
 match rd with
 | none=>K (h.push (.deferred none)) h.size
 | some l=>match h[l]? with | some (.loop r)=>K h r.defers | _=>False
def zM (l:Nat) (h:Hp) (K:Option Code->HP):Prop :=
 match h[l]? with | some (.loop r)=>r.state≠.busy/\K r.pending (h.setIfInBounds l (.loop { r with state:=.exhausted })) | _=>False
def fV (P:Program) (bS:fS) (D:Nat->Array Oper->(Fr->HP)->PK->Fr->HP) (rd:Option Nat):Code->Qt->PK->Fr->HP
  | .skip,Q,_,fr,h=>Q .normal fr h
  | .label _,Q,_,fr,h=>Q .normal fr h
  | .region id ops draw,Q,Kp,fr,h=>iy (draw) (D id ops (Q .normal) Kp fr h)<|Fv P (bS.FJ id) ops (List.range ops.size) (Q .normal) Kp fr h
  | .seq x y,Q,Kp,fr,h=>fV P bS D rd x (zm (λcW h'=>bS.at (Sk y) cW λDD=>fV P bS D rd y Q Kp DD h') Q) Kp fr h
  | .cond c x y,Q,Kp,fr,h=>match ev fr c with
    | some (.bool b)=>If b (fV P bS D rd x Q Kp (bS.find (iF x+5000) fr) h) (fV P bS D rd y Q Kp (bS.find (iF y+5000) fr) h)
    | _=>False
  | .block id x,Q,Kp,fr,h=>fV P bS D rd x (LI id Q) Kp fr h
  | .loop x,Q,Kp,fr,h=>Cr (λN fr h=>fV P bS D rd x (zm (λcW h'=>N (bS.find (iF x+2000) cW) h') Q) Kp fr h) (bS.find (iF x+2000) fr) h
  | .rangeFunc g ps assign body,Q,Kp,fr,h=>match ev fr g with
    | some fv=>∀fn tm,ajO (bS.find (iF assign+4000) fr) tm->DM rd h λh0 d =>
        uo P fv [.func (.yield h0.size) #[] #[]] (h0.push (.loop { state:=.ready,pending:=none,fn,tmps:=tm,params:=ps,assign,body,defers:=d }))
          (λ_ h'=>zM h0.size h' λjump qn=>match jump with
            | none=>Q .normal (bS.find (iF assign+4000) fr) qn
            | some .ret=>Q .ret (bS.find (iF assign+4000) fr) qn
            | some (.exit id)=>Q (.exit id) (bS.find (iF assign+4000) fr) qn
            | _=>False) Kp
    | none=>False
  | .exit id,Q,_,fr,h=>Q (.exit id) fr h
  | .ret,Q,_,fr,h=>Q .ret fr h
  | _,_,_,_,_=>False
abbrev ah (x:Int):Value:=.int .i64 x
abbrev aJ (b:Nat):Addr:=⟨b,0,none⟩
abbrev bz (b:Nat):Option Addr:=some ⟨b,0,none⟩
abbrev bI (b:Nat):Value:=.pointer (some ⟨b,0,none⟩)
abbrev dw (a:Addr):Value:=.pointer (some a)
abbrev bT:Sl:=⟨none,0,0⟩
abbrev aS (p:Prop) [Decidable p]:=If (decide p)
abbrev aO:=Wr .i64
theorem ay {c:Prop} [Decidable c] {α:Sort _} {a b:α} (h:¬c:=by omega):(if c then a else b)=b:=aC h
theorem dR {c:Prop} [Decidable c] {α:Sort _} {a b:α} (h:c:=by omega):(if c then a else b)=a:=aI h
end Go.Sh
