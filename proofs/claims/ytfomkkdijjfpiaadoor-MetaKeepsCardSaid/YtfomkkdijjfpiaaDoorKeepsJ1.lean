import Derived.Test.YtfomkkdijjfpiaaDoorKeepsS8
import Derived.Test.YtfomkkdijjfpiaaDoorKeepsS13
import Derived.Test.YtfomkkdijjfpiaaDoorKeepsS14
import Derived.Test.YtfomkkdijjfpiaaDoorShLoc
import Derived.Test.YtfomkkdijjfpiaaDoorKeepsS9
import Derived.Test.YtfomkkdijjfpiaaDoorKeepsS2
import Derived.Test.YtfomkkdijjfpiaaDoorKeepsS3
import Derived.Test.YtfomkkdijjfpiaaDoorKeepsS15
import Derived.Test.YtfomkkdijjfpiaaDoorKeepsS16
import Derived.Test.YtfomkkdijjfpiaaDoorKeepsS17
import Derived.Laws.Strings
import Derived.WideShapes
import Derived.Test.YtfomkkdijjfpiaaDoorKeepsS10
import Derived.Test.YtfomkkdijjfpiaaDoorKeepsS5
set_option linter.unusedSimpArgs false
set_option linter.unusedVariables false
/- The writer of heads: bytes put at the end of a buffer of one's own. -/
namespace Go.Proofs.YtfomkkdijjfpiaaDoor
open Go Go.Sh
theorem Wr_any {k : IntKind} {x : Int} {K : Int → Prop} (h : K (k.wrap x)) : Wr k x K := h
theorem Lt_any {α : Type} {x : α} {K : α → Prop} (h : K x) : Lt x K := h
/-- bytes as values -/
def bv (l : List UInt8) : List Value := l.map fun b => .int .u8 b.toNat
theorem bv_append (a b : List UInt8) : bv (a ++ b) = bv a ++ bv b := by simp [bv]
theorem bv_len (a : List UInt8) : (bv a).length = a.length := by simp [bv]
theorem bv_one {a : List UInt8} : ∀ v ∈ bv a, one v = true := by intro v hv; simp only [bv, List.mem_map] at hv; obtain ⟨x, _, rfl⟩ := hv; rfl
/-- the low byte -/
def b8 (x : Int) : UInt8 := UInt8.ofNat (x % 256).toNat
theorem b8_v (x : Int) : IntKind.u8.wrap x = ((b8 x).toNat : Int) := by
  have e : IntKind.u8.wrap x = x % 256 := by simp [IntKind.wrap, IntKind.signed, IntKind.bits]
  rw [e, b8, UInt8.toNat_ofNat']
  omega
/-- a number in k bytes, the lowest first -/
def num (x : Int) : Nat → List UInt8
  | 0 => []
  | k + 1 => b8 x :: num (Int.fdiv x 256) k
theorem num_len (x : Int) (k : Nat) : (num x k).length = k := by induction k generalizing x <;> simp [num, *]
/-- what the writer may turn: its own cell, and bytes from lo on -/
def WX (p lo : Nat) (h : Hp) : Nat → Prop := fun b => b = p ∨ (lo ≤ b ∧ ∃ cs, Blk h b cs 5)
theorem WX.trans {p lo : Nat} {a b c : Hp} (x : Tn (WX p lo a) a b) (y : Tn (WX p lo b) b c) : Tn (WX p lo a) a c := by
  refine x.trans' y ?_
  intro d hd hlt
  by_cases hw : WX p lo a d
  · exact hw
  · rcases hd with hd | ⟨h1, cs, hb⟩
    · exact .inl hd
    · exact .inr ⟨h1, cs, (x.2 d hlt hw).symm.trans hb⟩
theorem Ap_at {h : Hp} {p : Nat} {s : Sl} {C : Sl → Prop} (k : Blk h p #[Sl.v s] 50) (H : ∃ s', Blk h p #[Sl.v s'] 50 ∧ C s') : C s := by
  obtain ⟨s', k', c⟩ := H
  have e := k.symm.trans k'
  simp only [Option.some.injEq, Obj.cells.injEq, Array.mk.injEq, List.cons.injEq, and_true] at e
  exact Sl.v_inj e ▸ c
/-- the writer at p: its buffer holds the bytes l -/
structure Wtr (p lo : Nat) (h : Hp) (l : List UInt8) : Prop where
  ex : ∃ s, Blk h p #[Sl.v s] 50 ∧ Sh lo h.size 1 h s (bv l) 5
  lt : p < lo
  le : lo ≤ h.size
/-- bytes at the end -/
theorem Wtr.app {p lo : Nat} {h : Hp} {l new : List UInt8} {n : Nat} {vals : List Value → Prop} {K : HP} (w : Wtr p lo h l) (hn : new.length = n) (hv : vals (bv new)) (hl : l.length + n ≤ 2 ^ 40)
    (hk : ∀ h', Tn (WX p lo h) h h' → Wtr p lo h' (l ++ new) → K h') :
    ∃ s, Blk h p #[Sl.v s] 50 ∧ Ap h 5 #[(.int .u8 (0:Int))] 1 1 s n vals fun t' h2 => St h2 ⟨p, 0, none⟩ (Sl.v t') fun h3 => K h3 := by
  obtain ⟨s, k, o⟩ := w.ex
  refine ⟨s, k, ?_⟩
  have hs := o.n
  rw [bv_len] at hs
  refine Ap_sh o w.le rfl (new := bv new) (by rw [bv_len]; omega) bv_one hv (by omega) (by omega) fun s' h2 f2 at2 o2 hn2 => ?_
  have hat : ∀ c, s.at c → WX p lo h c := by
    intro c hc
    rcases o with ⟨rfl, _⟩ | ⟨b, hb1, hb2, ob⟩
    · exact absurd hc (Sl.at_nil c)
    · obtain ⟨a, ha, hb⟩ := hc
      obtain ⟨e, _, cs, kb, _⟩ := ob
      rw [e] at ha; cases ha; simp only at hb; subst hb
      exact .inr ⟨hb1, cs, kb⟩
  have hnp : ¬ s.at p := fun hc => by have := (o.at hc).1; have := w.lt; omega
  have k2 := f2.blk k hnp
  refine St_i k2 (by simp) rfl fun h3 o3 k3 => ?_
  have f3 : Tn (WX p lo h) h h3 := (f2.mono fun d hd _ => hat d hd).trans (o3.fr.mono fun d hd _ => .inl hd)
  refine hk h3 f3 ⟨⟨s', k3, ?_⟩, w.lt, by have := w.le; have := f2.1; have := o3.1; omega⟩
  rw [bv_append]
  have o2' := o2.fr o3.fr fun b hb _ e => by have := w.lt; omega
  exact o2'.wide (Nat.le_refl _) (by have := o3.1; omega)
theorem Wtr.keep {p lo : Nat} {h h' : Hp} {l : List UInt8} (w : Wtr p lo h l) (g : Grw h h') : Wtr p lo h' l := by
  obtain ⟨s, k, o⟩ := w.ex
  exact ⟨⟨s, (g.2 p k.lt).trans k, (o.grw g).wide (Nat.le_refl _) g.1⟩, w.lt, by have := w.le; have := g.1; omega⟩
theorem WX.grw {p lo : Nat} {a b c : Hp} (x : Grw a b) (y : Tn (WX p lo b) b c) : Tn (WX p lo a) a c := WX.trans (Tn.of_grw x) y
theorem number_c {p lo : Nat} {h : Hp} {l : List UInt8} {x width : Int} {K : HP} {Kp : PK} (w : Wtr p lo h l) (h0 : 0 ≤ width) (h8 : width ≤ 8) (hl : l.length + 8 ≤ 2 ^ 40)
    (hk : ∀ h', Tn (WX p lo h) h h' → Wtr p lo h' (l ++ num x width.toNat) → K h') : Fn22 (some ⟨p, 0, none⟩) x width h K Kp := by
  refine Fn22.of ?_
  unfold S22
  refine L22_1.rule (fun y k h' => ∃ l', 0 ≤ k ∧ k ≤ width ∧ l'.length = l.length + k.toNat ∧ Tn (WX p lo h) h h' ∧ Wtr p lo h' l' ∧ l' ++ num y (width - k).toNat = l ++ num x width.toNat) (fun _ k _ => (width - k).toNat) ⟨l, by omega, h0, by simp, Tn.refl _ _, w, by simp⟩ ?_
  rintro y k h1 ⟨l', hk0, hk1, hll, f1, w1, e1⟩ N1 hN
  unfold T22_1
  refine If_i (fun c => ?_) fun c => ?_
  · simp only [decide_eq_true_eq] at c
    have hstep := fun {K : HP} (b : Nat) (h2 : Hp) (g2 : Grw h1 h2) (k2 : Blk h2 b #[Value.int .u8 (IntKind.u8.wrap y)] 5) => (w1.keep g2).app (new := [b8 y]) (n := 1) (vals := rd h2 (some ⟨b, 0, none⟩) (1 * 1)) (K := K) rfl (by
      refine ⟨rfl, fun i v hi => ?_⟩
      rw [add_blk, cell_blk k2, b8_v, Nat.zero_add, ← hi]; simp [bv]) (by omega)
    obtain ⟨s, kk, oo⟩ := w1.ex
    refine Ld_blk kk rfl ?_
    refine Wr_any (New_i fun b h2 e2 g2 k2 _ => ?_)
    refine Ap_at ((g2.2 p kk.lt).trans kk) (hstep (K := fun h3 => Nn (8 : Int) <| Lt (Int.fdiv y (2 ^ (min (Int.toNat (8 : Int)) (IntKind.bits .i64)))) fun t21 => Wr .i64 (k + (1 : Int)) fun t22 => N1 (mk22_1 (some ⟨p, 0, none⟩) width t21 t22) h3) b h2 g2 k2 fun h3 f3 w3 => ?_)
    refine Nn_i (by omega) (Lt_any ?_)
    refine Wr_i64 (by omega) (by omega) ?_
    refine hN _ _ _ ⟨l' ++ [b8 y], by omega, by omega, by simp; omega, WX.trans f1 (WX.grw g2 f3), w3, ?_⟩ (by omega)
    rw [← e1, List.append_assoc]
    have e : (width - k).toNat = (width - (k + 1)).toNat + 1 := by omega
    rw [e]; rfl
  · simp only [decide_eq_false_iff_not] at c
    have e : (width - k).toNat = 0 := by omega
    rw [e] at e1
    simp only [num, List.append_nil] at e1
    exact hk h1 f1 (e1 ▸ w1)
end Go.Proofs.YtfomkkdijjfpiaaDoor
/- The writer of heads: texts, flags, fields. -/
namespace Go.Proofs.YtfomkkdijjfpiaaDoor
open Go Go.Sh
/-- a field -/
inductive Fld
  | mk (name : ByteArray) (nul : Bool) (kind width id ix : Int) (cs : List Fld)
/-- what stands in the seven cells of a field -/
def vals7 (n : ByteArray) (nul : Bool) (k w id ix : Int) (s : Sl) : List Value := [.string n, .bool nul, .int .i64 k, .int .i64 w, .int .i64 id, .int .i64 ix, Sl.v s]
mutual
/-- a slice of fields -/
def FsH (h : Hp) (s : Sl) : List Fld → Prop
  | [] => s.n = 0 ∧ s.n ≤ s.c
  | f :: fs => s.n = fs.length + 1 ∧ s.n ≤ s.c ∧ ∃ a, s.a = some a ∧ FldH h a f ∧ FrH h a 1 fs
/-- the fields from the i-th on -/
def FrH (h : Hp) (a : Addr) (i : Nat) : List Fld → Prop
  | [] => True
  | f :: fs => FldH h (a.add (i * 7)) f ∧ FrH h a (i + 1) fs
def FldH (h : Hp) (a : Addr) : Fld → Prop
  | .mk n nul k w id ix cs => ∃ s, Cs h a (vals7 n nul k w id ix s) ∧ FsH h s cs
end
mutual
def Fld.enc : Fld → List UInt8
  | .mk n nul k w id ix cs => num n.size 1 ++ n.data.toList ++ num (if nul then 1 else 0) 1 ++ num k 1 ++
      (if k = 14 ∨ k = 16 then num w 2 else if k = 19 then num id 2 ++ num ix 1 else if k = 17 ∨ k = 18 then num cs.length 1 else []) ++ encs cs
def encs : List Fld → List UInt8
  | [] => []
  | f :: fs => f.enc ++ encs fs
end
theorem flag_c {p lo : Nat} {h : Hp} {l : List UInt8} {b : Bool} {K : HP} {Kp : PK} (w : Wtr p lo h l) (hl : l.length + 8 ≤ 2 ^ 40)
    (hk : ∀ h', Tn (WX p lo h) h h' → Wtr p lo h' (l ++ num (if b then 1 else 0) 1) → K h') : Fn24 (some ⟨p, 0, none⟩) b h K Kp := by
  refine Fn24.of ?_
  unfold S24
  cases b
  · exact If_f rfl (number_c w (by omega) (by omega) hl hk)
  · exact If_t rfl (number_c w (by omega) (by omega) hl hk)
theorem text_c {p lo : Nat} {h : Hp} {l : List UInt8} {s : ByteArray} {width : Int} {K : HP} {Kp : PK} (w : Wtr p lo h l) (h0 : 0 ≤ width) (h8 : width ≤ 8) (hl : l.length + 8 + s.size ≤ 2 ^ 40)
    (hk : ∀ h', Tn (WX p lo h) h h' → Wtr p lo h' (l ++ (num s.size width.toNat ++ s.data.toList)) → K h') : Fn44 (some ⟨p, 0, none⟩) s width h K Kp := by
  refine Fn44.of ?_
  unfold S44
  refine number_c w h0 h8 (by omega) fun h1 f1 w1 => ?_
  obtain ⟨s1, k1, a1⟩ := w1.app (new := s.data.toList) (n := s.size) (vals := fun vs => vs = s.data.toList.map fun b => Value.int .u8 b.toNat) (K := K) rfl rfl (by rw [List.length_append, num_len]; omega) fun h2 f2 w2 => hk h2 (WX.trans f1 f2) (by rw [← List.append_assoc]; exact w2)
  exact Ld_blk (K := fun t => Ap h1 5 #[(.int .u8 (0:Int))] 1 1 t s.size _ _) k1 rfl a1
theorem encs_len : ∀ cs : List Fld, cs.length ≤ (encs cs).length
  | [] => by simp [encs]
  | f :: fs => by
    have h1 := encs_len fs
    have h2 : 1 ≤ f.enc.length := by cases f; simp only [Fld.enc, List.length_append, num_len]; omega
    simp only [encs, List.length_append, List.length_cons]; omega
theorem WX.old {p lo : Nat} {h0 h h' : Hp} (hp : h0.size ≤ p) (w : p < lo) (g : Grw h0 h) (f : Tn (WX p lo h) h h') : Grw h0 h' := by
  refine ⟨Nat.le_trans g.1 f.1, fun c hc => (f.2 c (Nat.lt_of_lt_of_le hc g.1) ?_).trans (g.2 c hc)⟩
  rintro (h1 | ⟨h1, _⟩) <;> omega
theorem WX.not {p lo b : Nat} {h : Hp} {cs : Array Value} {el : TypeId} (k : Blk h b cs el) (hb : b ≠ p) (he : el ≠ 5) : ¬ WX p lo h b := by
  rintro (h1 | ⟨_, cs', k'⟩)
  · exact hb h1
  · have e := k.symm.trans k'
    simp only [Option.some.injEq, Obj.cells.injEq] at e
    exact he e.2.1
theorem FrH.get {h : Hp} {a : Addr} : ∀ {fs : List Fld} {i : Nat}, FrH h a i fs → ∀ (j : Nat) f, fs[j]? = some f → FldH h (a.add ((i + j) * 7)) f
  | [], _, _, _, _, hj => by simp at hj
  | f :: fs, i, hh, 0, g, hj => by simp at hj; subst hj; unfold FrH at hh; exact hh.1
  | f :: fs, i, hh, j + 1, g, hj => by
    unfold FrH at hh
    have := FrH.get hh.2 j g (by simpa using hj)
    have e : i + (j + 1) = i + 1 + j := by omega
    rw [e]; exact this
/-- each field of a slice -/
theorem FsH.get {h : Hp} {s : Sl} {fs : List Fld} (hh : FsH h s fs) {j : Nat} {f : Fld} (hj : fs[j]? = some f) : ∃ a, s.a = some a ∧ FldH h (a.add (j * 7)) f := by
  cases fs with
  | nil => simp at hj
  | cons g gs =>
    unfold FsH at hh
    obtain ⟨_, _, a, ha, h1, h2⟩ := hh
    refine ⟨a, ha, ?_⟩
    cases j with
    | zero =>
      simp at hj; subst hj
      have e : a.add (0 * 7) = a := by simp [Addr.add]
      rw [e]; exact h1
    | succ j =>
      have := h2.get j f (by simpa using hj)
      have e : 1 + j = j + 1 := by omega
      rw [e] at this; exact this
theorem FsH.n {h : Hp} {s : Sl} {fs : List Fld} (hh : FsH h s fs) : s.n = fs.length ∧ s.n ≤ s.c := by
  cases fs with
  | nil => unfold FsH at hh; exact hh
  | cons g gs => unfold FsH at hh; exact ⟨hh.1, hh.2.1⟩
end Go.Proofs.YtfomkkdijjfpiaaDoor
/- The writer of heads: a field with its children. -/
namespace Go.Proofs.YtfomkkdijjfpiaaDoor
open Go Go.Sh
/-- what the writer does with a field -/
def FieldC : Fld → Prop
  | .mk n nul k w id ix cs => ∀ {p lo : Nat} {h0 h : Hp} {l : List UInt8} {s : Sl} {K : HP} {Kp : PK}, h0.size ≤ p → Grw h0 h → FsH h0 s cs → Wtr p lo h l →
      l.length + (Fld.enc (.mk n nul k w id ix cs)).length + 1000 ≤ 2 ^ 40 → (∀ h', Tn (WX p lo h) h h' → Wtr p lo h' (l ++ Fld.enc (.mk n nul k w id ix cs)) → K h') →
      Fn43 (some ⟨p, 0, none⟩) n nul k w id ix s h K Kp
theorem fieldL_c {cs : List Fld} (IH : ∀ f ∈ cs, FieldC f) {p lo : Nat} {h0 h : Hp} {l : List UInt8} {s : Sl} {K : HP} {Kp : PK} (hp : h0.size ≤ p) (g : Grw h0 h) (hs : FsH h0 s cs) (w : Wtr p lo h l)
    (hl : l.length + (encs cs).length + 1000 ≤ 2 ^ 40) (hk : ∀ h', Tn (WX p lo h) h h' → Wtr p lo h' (l ++ encs cs) → K h') : L43_2 (some ⟨p, 0, none⟩) s (s.n : Int) K Kp 0 h := by
  have hn := hs.n
  have hcl := encs_len cs
  refine L43_2.rule (fun x h' => ∃ i : Nat, ∃ l', x = (i : Int) ∧ i ≤ cs.length ∧ Tn (WX p lo h) h h' ∧ Wtr p lo h' l' ∧ l' ++ encs (cs.drop i) = l ++ encs cs) (fun x _ => cs.length - x.toNat) ⟨0, l, rfl, by omega, Tn.refl _ _, w, by simp⟩ ?_
  rintro x h1 ⟨i, l', rfl, hi, f1, w1, e1⟩ N1 hN
  unfold T43_2
  refine If_i (fun c => ?_) fun c => ?_
  · simp only [decide_eq_true_eq] at c
    have hi' : i < cs.length := by omega
    have hj : cs[i]? = some cs[i] := List.getElem?_eq_getElem hi'
    obtain ⟨a, ha, hf⟩ := hs.get hj
    have hmem : cs[i] ∈ cs := List.getElem_mem hi'
    have hdr : cs.drop i = cs[i] :: cs.drop (i + 1) := List.drop_eq_getElem_cons hi'
    generalize cs[i] = f at hj hf hmem hdr
    obtain ⟨n, nul, k, wd, id, ix, ds⟩ := f
    unfold FldH at hf
    obtain ⟨t, hc, ht⟩ := hf
    have g1 := WX.old hp w.lt g f1
    have hc1 := hc.grw g1
    have c0 := hc1 0 _ rfl; have c1 := hc1 1 _ rfl; have c2 := hc1 2 _ rfl; have c3 := hc1 3 _ rfl; have c4 := hc1 4 _ rfl; have c5 := hc1 5 _ rfl; have c6 := hc1 6 _ rfl
    have ez : (a.add (i * 7)).add 0 = a.add (i * 7) := by unfold Addr.add; split <;> simp_all
    rw [ez] at c0
    rw [ha]
    refine ⟨by omega, by omega, ?_⟩
    rw [Int.toNat_natCast]
    refine ⟨_, c0, _, c1, _, c2, _, c3, _, c4, _, c5, _, c6, ?_⟩
    have lc := SyH.start No h1
    repeat (first | refine lc.ldo 0 rfl rfl ?_ | refine lc.ld 0 rfl rfl ?_ | refine lc.ldo 1 rfl rfl ?_ | refine lc.ld 1 rfl rfl ?_ | refine lc.ldo 2 rfl rfl ?_ | refine lc.ld 2 rfl rfl ?_ | refine lc.ldo 3 rfl rfl ?_ | refine lc.ld 3 rfl rfl ?_ | refine lc.ldo 4 rfl rfl ?_ | refine lc.ld 4 rfl rfl ?_ | refine lc.ldo 5 rfl rfl ?_ | refine lc.ld 5 rfl rfl ?_ | refine lc.ldo 6 rfl rfl ?_ | refine lc.ld 6 rfl rfl ?_ | (refine lc.sto 0 rfl rfl rfl fun _ _ lc => ?_; simp only [Nat.zero_add, List.set_cons_zero, List.set_cons_succ, List.setIfInBounds_toArray] at lc) | (refine lc.st 0 rfl rfl rfl fun _ _ lc => ?_; simp only [Nat.zero_add, List.set_cons_zero, List.set_cons_succ, List.setIfInBounds_toArray] at lc) | (refine lc.sto 1 rfl rfl rfl fun _ _ lc => ?_; simp only [Nat.zero_add, List.set_cons_zero, List.set_cons_succ, List.setIfInBounds_toArray] at lc) | (refine lc.st 1 rfl rfl rfl fun _ _ lc => ?_; simp only [Nat.zero_add, List.set_cons_zero, List.set_cons_succ, List.setIfInBounds_toArray] at lc) | (refine lc.sto 2 rfl rfl rfl fun _ _ lc => ?_; simp only [Nat.zero_add, List.set_cons_zero, List.set_cons_succ, List.setIfInBounds_toArray] at lc) | (refine lc.st 2 rfl rfl rfl fun _ _ lc => ?_; simp only [Nat.zero_add, List.set_cons_zero, List.set_cons_succ, List.setIfInBounds_toArray] at lc) | (refine lc.sto 3 rfl rfl rfl fun _ _ lc => ?_; simp only [Nat.zero_add, List.set_cons_zero, List.set_cons_succ, List.setIfInBounds_toArray] at lc) | (refine lc.st 3 rfl rfl rfl fun _ _ lc => ?_; simp only [Nat.zero_add, List.set_cons_zero, List.set_cons_succ, List.setIfInBounds_toArray] at lc) | (refine lc.sto 4 rfl rfl rfl fun _ _ lc => ?_; simp only [Nat.zero_add, List.set_cons_zero, List.set_cons_succ, List.setIfInBounds_toArray] at lc) | (refine lc.st 4 rfl rfl rfl fun _ _ lc => ?_; simp only [Nat.zero_add, List.set_cons_zero, List.set_cons_succ, List.setIfInBounds_toArray] at lc) | (refine lc.sto 5 rfl rfl rfl fun _ _ lc => ?_; simp only [Nat.zero_add, List.set_cons_zero, List.set_cons_succ, List.setIfInBounds_toArray] at lc) | (refine lc.st 5 rfl rfl rfl fun _ _ lc => ?_; simp only [Nat.zero_add, List.set_cons_zero, List.set_cons_succ, List.setIfInBounds_toArray] at lc) | (refine lc.sto 6 rfl rfl rfl fun _ _ lc => ?_; simp only [Nat.zero_add, List.set_cons_zero, List.set_cons_succ, List.setIfInBounds_toArray] at lc) | (refine lc.st 6 rfl rfl rfl fun _ _ lc => ?_; simp only [Nat.zero_add, List.set_cons_zero, List.set_cons_succ, List.setIfInBounds_toArray] at lc) | refine lc.ldo 0 (x := Sl.nil) rfl rfl ?_ | refine lc.ld 0 (x := Sl.nil) rfl rfl ?_ | refine lc.ldo 1 (x := Sl.nil) rfl rfl ?_ | refine lc.ld 1 (x := Sl.nil) rfl rfl ?_ | refine lc.ldo 2 (x := Sl.nil) rfl rfl ?_ | refine lc.ld 2 (x := Sl.nil) rfl rfl ?_ | refine lc.ldo 3 (x := Sl.nil) rfl rfl ?_ | refine lc.ld 3 (x := Sl.nil) rfl rfl ?_ | refine lc.ldo 4 (x := Sl.nil) rfl rfl ?_ | refine lc.ld 4 (x := Sl.nil) rfl rfl ?_ | refine lc.ldo 5 (x := Sl.nil) rfl rfl ?_ | refine lc.ld 5 (x := Sl.nil) rfl rfl ?_ | refine lc.ldo 6 (x := Sl.nil) rfl rfl ?_ | refine lc.ld 6 (x := Sl.nil) rfl rfl ?_ | refine lc.new fun _ _ _ _ lc => ?_ | refine Wr_i64 (by omega) (by omega) ?_ | refine If_t rfl ?_ | refine If_f rfl ?_)
    rw [hdr, encs] at e1
    have hlen := congrArg List.length e1
    simp only [List.length_append] at hlen
    refine IH _ hmem hp (Grw.trans g1 lc.grw) ht (w1.keep lc.grw) (by omega) fun h2 f2 w2 => ?_
    refine Wr_i64 (by omega) (by omega) ?_
    refine hN _ _ ⟨i + 1, _, by simp, by omega, WX.trans f1 (WX.grw lc.grw f2), w2, ?_⟩ (by omega)
    rw [← e1, List.append_assoc]
  · simp only [decide_eq_false_iff_not] at c
    have : i = cs.length := by omega
    subst this
    rw [List.drop_length, encs, List.append_nil] at e1
    exact hk h1 f1 (e1 ▸ w1)
end Go.Proofs.YtfomkkdijjfpiaaDoor
/- The writer of heads: a field with its children, the whole. -/
namespace Go.Proofs.YtfomkkdijjfpiaaDoor
open Go Go.Sh
theorem field_step {n : ByteArray} {nul : Bool} {k w id ix : Int} {cs : List Fld} (IH : ∀ f ∈ cs, FieldC f) : FieldC (.mk n nul k w id ix cs) := by
  intro p lo h0 h l s K Kp hp g hs w0 hl hk
  simp only [Fld.enc, List.length_append, num_len, List.append_assoc] at hl hk
  have hns : n.data.toList.length = n.size := rfl
  have hsn := hs.n
  refine Fn43.of ?_
  unfold S43
  refine New_i fun b3 h1 e3 g1 k3 _ => ?_
  have hpl := w0.lt
  have hll := w0.le
  have nb3 : b3 ≠ p := by omega
  refine Ld_blk k3 rfl ?_
  have w1 := w0.keep g1
  refine text_c w1 (by omega) (by omega) (by omega) fun h2 f2 w2 => ?_
  have F2 := WX.grw g1 f2
  have k3 := f2.blk k3 (WX.not k3 nb3 (by decide))
  rw [add_blk]
  refine Ld_blk k3 rfl ?_
  refine flag_c w2 (by simp only [List.length_append, num_len]; omega) fun h3 f3 w3 => ?_
  have F3 := WX.trans F2 f3
  have k3 := f3.blk k3 (WX.not k3 nb3 (by decide))
  simp only [add_blk]
  refine Ld_blk k3 rfl (Ld_blk k3 rfl (Ld_blk k3 rfl (Ld_blk k3 rfl (Ld_blk k3 rfl ?_))))
  have lc := SyH.start No h3
  refine lc.new fun b4 _ hb4 _ lc => ?_
  repeat (first | refine lc.ldo 0 rfl rfl ?_ | refine lc.ld 0 rfl rfl ?_ | refine lc.ldo 1 rfl rfl ?_ | refine lc.ld 1 rfl rfl ?_ | refine lc.ldo 2 rfl rfl ?_ | refine lc.ld 2 rfl rfl ?_ | refine lc.ldo 3 rfl rfl ?_ | refine lc.ld 3 rfl rfl ?_ | refine lc.ldo 4 rfl rfl ?_ | refine lc.ld 4 rfl rfl ?_ | refine lc.ldo 5 rfl rfl ?_ | refine lc.ld 5 rfl rfl ?_ | refine lc.ldo 6 rfl rfl ?_ | refine lc.ld 6 rfl rfl ?_ | (refine lc.sto 0 rfl rfl rfl fun _ _ lc => ?_; simp only [Nat.zero_add, List.set_cons_zero, List.set_cons_succ, List.setIfInBounds_toArray] at lc) | (refine lc.st 0 rfl rfl rfl fun _ _ lc => ?_; simp only [Nat.zero_add, List.set_cons_zero, List.set_cons_succ, List.setIfInBounds_toArray] at lc) | (refine lc.sto 1 rfl rfl rfl fun _ _ lc => ?_; simp only [Nat.zero_add, List.set_cons_zero, List.set_cons_succ, List.setIfInBounds_toArray] at lc) | (refine lc.st 1 rfl rfl rfl fun _ _ lc => ?_; simp only [Nat.zero_add, List.set_cons_zero, List.set_cons_succ, List.setIfInBounds_toArray] at lc) | (refine lc.sto 2 rfl rfl rfl fun _ _ lc => ?_; simp only [Nat.zero_add, List.set_cons_zero, List.set_cons_succ, List.setIfInBounds_toArray] at lc) | (refine lc.st 2 rfl rfl rfl fun _ _ lc => ?_; simp only [Nat.zero_add, List.set_cons_zero, List.set_cons_succ, List.setIfInBounds_toArray] at lc) | (refine lc.sto 3 rfl rfl rfl fun _ _ lc => ?_; simp only [Nat.zero_add, List.set_cons_zero, List.set_cons_succ, List.setIfInBounds_toArray] at lc) | (refine lc.st 3 rfl rfl rfl fun _ _ lc => ?_; simp only [Nat.zero_add, List.set_cons_zero, List.set_cons_succ, List.setIfInBounds_toArray] at lc) | (refine lc.sto 4 rfl rfl rfl fun _ _ lc => ?_; simp only [Nat.zero_add, List.set_cons_zero, List.set_cons_succ, List.setIfInBounds_toArray] at lc) | (refine lc.st 4 rfl rfl rfl fun _ _ lc => ?_; simp only [Nat.zero_add, List.set_cons_zero, List.set_cons_succ, List.setIfInBounds_toArray] at lc) | (refine lc.sto 5 rfl rfl rfl fun _ _ lc => ?_; simp only [Nat.zero_add, List.set_cons_zero, List.set_cons_succ, List.setIfInBounds_toArray] at lc) | (refine lc.st 5 rfl rfl rfl fun _ _ lc => ?_; simp only [Nat.zero_add, List.set_cons_zero, List.set_cons_succ, List.setIfInBounds_toArray] at lc) | (refine lc.sto 6 rfl rfl rfl fun _ _ lc => ?_; simp only [Nat.zero_add, List.set_cons_zero, List.set_cons_succ, List.setIfInBounds_toArray] at lc) | (refine lc.st 6 rfl rfl rfl fun _ _ lc => ?_; simp only [Nat.zero_add, List.set_cons_zero, List.set_cons_succ, List.setIfInBounds_toArray] at lc) | refine lc.ldo 0 (x := Sl.nil) rfl rfl ?_ | refine lc.ld 0 (x := Sl.nil) rfl rfl ?_ | refine lc.ldo 1 (x := Sl.nil) rfl rfl ?_ | refine lc.ld 1 (x := Sl.nil) rfl rfl ?_ | refine lc.ldo 2 (x := Sl.nil) rfl rfl ?_ | refine lc.ld 2 (x := Sl.nil) rfl rfl ?_ | refine lc.ldo 3 (x := Sl.nil) rfl rfl ?_ | refine lc.ld 3 (x := Sl.nil) rfl rfl ?_ | refine lc.ldo 4 (x := Sl.nil) rfl rfl ?_ | refine lc.ld 4 (x := Sl.nil) rfl rfl ?_ | refine lc.ldo 5 (x := Sl.nil) rfl rfl ?_ | refine lc.ld 5 (x := Sl.nil) rfl rfl ?_ | refine lc.ldo 6 (x := Sl.nil) rfl rfl ?_ | refine lc.ld 6 (x := Sl.nil) rfl rfl ?_ | refine Wr_i64 (by omega) (by omega) ?_ | refine If_t rfl ?_ | refine If_f rfl ?_)
  have nb4 : b4 ≠ p := by have := w3.lt; have := w3.le; omega
  have k4 : Blk _ b4 #[.int .i64 k, .int .i64 w, .int .i64 id, .int .i64 ix, Sl.v s] 61 := lc.blk (i := 0) rfl
  have F4 := F3.trans' (Tn.of_grw lc.grw : Tn No _ _) (fun _ t _ => t.elim)
  have w4 := w3.keep lc.grw
  clear lc
  rename_i h9 _ _
  refine number_c w4 (by omega) (by omega) (by simp only [List.length_append, num_len]; omega) fun h5 f5 w5 => ?_
  have F5 := WX.trans F4 f5
  have k4 := f5.blk k4 (WX.not k4 nb4 (show (61 : Nat) ≠ 5 by decide))
  refine Ld_blk k4 rfl ?_
  have j1 : ∀ (h6 : Hp) (l6 : List UInt8), Tn (WX p lo h) h h6 → Wtr p lo h6 (l ++ l6) → Blk h6 b4 #[.int .i64 k, .int .i64 w, .int .i64 id, .int .i64 ix, Sl.v s] 61 → l.length + l6.length + (encs cs).length + 1000 ≤ 2 ^ 40 →
      (∀ h', Tn (WX p lo h) h h' → Wtr p lo h' (l ++ (l6 ++ encs cs)) → K h') → J43_1 (some ⟨p, 0, none⟩) ⟨b4, 0, none⟩ K Kp h6 := by
    intro h6 l6 F6 w6 k6 hl6 hk6
    refine J43_1.of ?_
    unfold JT43_1
    rw [add_blk]
    refine Ld_blk k6 rfl ?_
    refine fieldL_c IH hp (WX.old hp w0.lt g F6) hs w6 (by simp only [List.length_append]; omega) fun h7 f7 w7 => hk6 h7 (WX.trans F6 f7) (by rw [← List.append_assoc]; exact w7)
  have e1w : (1 : Int).toNat = 1 := rfl
  have e2w : (2 : Int).toNat = 2 := rfl
  have hfin : ∀ (h6 : Hp) (mid : List UInt8), Tn (WX p lo h) h h6 → Wtr p lo h6 (l ++ (num n.size 1 ++ (n.data.toList ++ (num (if nul then 1 else 0) 1 ++ (num k 1 ++ mid))))) → Blk h6 b4 #[.int .i64 k, .int .i64 w, .int .i64 id, .int .i64 ix, Sl.v s] 61 → mid.length ≤ 3 →
      (if k = 14 ∨ k = 16 then num w 2 else if k = 19 then num id 2 ++ num ix 1 else if k = 17 ∨ k = 18 then num cs.length 1 else []) = mid → J43_1 (some ⟨p, 0, none⟩) ⟨b4, 0, none⟩ K Kp h6 := by
    intro h6 mid F6 w6 k6 hm hmid
    rw [hmid] at hk hl
    refine j1 h6 _ F6 w6 k6 (by simp only [List.length_append, num_len]; omega) fun h' F' w' => hk h' F' ?_
    simpa only [List.append_assoc] using w'
  simp only [e1w, List.append_assoc] at w5
  have j3 : J43_3 (some ⟨p, 0, none⟩) ⟨b4, 0, none⟩ k (decide (k = 14 ∨ k = 16)) K Kp h5 := by
    refine J43_3.of ?_
    unfold JT43_3
    simp only [add_blk]
    refine If_i (fun c => ?_) fun c => ?_
    · simp only [decide_eq_true_eq] at c
      refine Ld_blk k4 rfl ?_
      refine number_c w5 (by omega) (by omega) (by simp only [List.length_append, num_len]; omega) fun h6 f6 w6 => ?_
      simp only [e2w, List.append_assoc] at w6
      exact hfin h6 _ (WX.trans F5 f6) w6 (f6.blk k4 (WX.not k4 nb4 (by decide))) (by rw [num_len]; omega) (if_pos c)
    · simp only [decide_eq_false_iff_not] at c
      refine If_i (fun c19 => ?_) fun c19 => ?_
      · simp only [beq_iff_eq] at c19
        refine Ld_blk k4 rfl ?_
        refine number_c w5 (by omega) (by omega) (by simp only [List.length_append, num_len]; omega) fun h6 f6 w6 => ?_
        have k6 := f6.blk k4 (WX.not k4 nb4 (by decide))
        refine Ld_blk k6 rfl ?_
        refine number_c w6 (by omega) (by omega) (by simp only [List.length_append, num_len]; omega) fun h7 f7 w7 => ?_
        simp only [e1w, e2w, List.append_assoc] at w7
        exact hfin h7 _ (WX.trans (WX.trans F5 f6) f7) w7 (f7.blk k6 (WX.not k6 nb4 (by decide))) (by simp only [List.length_append, num_len]; omega) (by rw [if_neg c, if_pos c19])
      · simp only [beq_eq_false_iff_ne, ne_eq] at c19
        have two : (k = 17 ∨ k = 18) → Ld h5 ⟨b4, 4, none⟩ (Sl.v) fun t45 => Fn22 (some ⟨p, 0, none⟩) (t45.n : Int) (1 : Int) h5 (fun h1 => J43_1 (some ⟨p, 0, none⟩) ⟨b4, 0, none⟩ K Kp h1) Kp := by
          intro c2
          refine Ld_blk k4 rfl ?_
          refine number_c w5 (by omega) (by omega) (by simp only [List.length_append, num_len]; omega) fun h6 f6 w6 => ?_
          simp only [e1w, List.append_assoc] at w6
          refine hfin h6 _ (WX.trans F5 f6) w6 (f6.blk k4 (WX.not k4 nb4 (by decide))) (by rw [num_len]; omega) ?_
          rw [if_neg c, if_neg c19, if_pos c2, hsn.1]
        refine If_i (fun c17 => ?_) fun c17 => ?_
        · exact If_t c17 (two (.inl (by simpa using c17)))
        · refine If_i (fun c18 => ?_) fun c18 => ?_
          · exact two (.inr (by simpa using c18))
          · simp only [beq_eq_false_iff_ne, ne_eq] at c17 c18
            refine hfin h5 [] F5 (by simpa only [List.append_nil] using w5) k4 (by simp) ?_
            rw [if_neg c, if_neg c19, if_neg (by omega)]
  refine If_i (fun c => ?_) fun c => ?_
  · have e : (k == (14 : Int)) = decide (k = 14 ∨ k = 16) := by simp only [beq_iff_eq] at c; subst c; decide
    rw [e]; exact j3
  · have e : (k == (16 : Int)) = decide (k = 14 ∨ k = 16) := by
      simp only [beq_eq_false_iff_ne, ne_eq] at c
      by_cases h16 : k = 16
      · subst h16; decide
      · simp [c, h16]
    rw [e]; exact j3
theorem field_c : ∀ f : Fld, FieldC f
  | .mk _ _ _ _ _ _ cs => field_step fun f _ => field_c f
end Go.Proofs.YtfomkkdijjfpiaaDoor
/- The writer of heads: a schema. -/
namespace Go.Proofs.YtfomkkdijjfpiaaDoor
open Go Go.Sh
/-- a slice of rows of sz cells -/
def RsH (h : Hp) (s : Sl) (sz : Nat) (rows : List (List Value)) : Prop := s.n = rows.length ∧ s.n ≤ s.c ∧ ∀ (j : Nat) r, rows[j]? = some r → ∃ a, s.a = some a ∧ Cs h (a.add (j * sz)) r
abbrev Md := ByteArray × ByteArray
def mdRow (m : Md) : List Value := [.string m.1, .string m.2]
def text2 (s : ByteArray) : List UInt8 := num s.size 2 ++ s.data.toList
def mdEnc (m : Md) : List UInt8 := text2 m.1 ++ text2 m.2
def mdsEnc (ms : List Md) : List UInt8 := (ms.map mdEnc).flatten
theorem text2_len (s : ByteArray) : (text2 s).length = 2 + s.size := by rw [text2, List.length_append, num_len]; rfl
theorem mdsEnc_len (ms : List Md) : ms.length ≤ (mdsEnc ms).length := by
  induction ms with
  | nil => simp [mdsEnc]
  | cons m ms ih =>
    have e : mdsEnc (m :: ms) = mdEnc m ++ mdsEnc ms := by simp [mdsEnc]
    rw [e, List.length_append, List.length_cons, mdEnc, List.length_append, text2_len, text2_len]; omega
theorem add_zero' (a : Addr) : a.add 0 = a := by unfold Addr.add; split <;> simp_all
theorem mdL_c {ms : List Md} {p lo : Nat} {h0 h : Hp} {l : List UInt8} {s : Sl} {K : HP} {Kp : PK} (hp : h0.size ≤ p) (g : Grw h0 h) (hs : RsH h0 s 2 (ms.map mdRow)) (w : Wtr p lo h l)
    (hl : l.length + (mdsEnc ms).length + 1000 ≤ 2 ^ 40) (hk : ∀ h', Tn (WX p lo h) h h' → Wtr p lo h' (l ++ mdsEnc ms) → K h') : L23_2 (some ⟨p, 0, none⟩) s (s.n : Int) K Kp 0 h := by
  have hn : s.n = ms.length := by simpa using hs.1
  have hcl := mdsEnc_len ms
  refine L23_2.rule (fun x h' => ∃ i : Nat, ∃ l', x = (i : Int) ∧ i ≤ ms.length ∧ Tn (WX p lo h) h h' ∧ Wtr p lo h' l' ∧ l' ++ mdsEnc (ms.drop i) = l ++ mdsEnc ms) (fun x _ => ms.length - x.toNat) ⟨0, l, rfl, by omega, Tn.refl _ _, w, by simp⟩ ?_
  rintro x h1 ⟨i, l', rfl, hi, f1, w1, e1⟩ N1 hN
  unfold T23_2
  refine If_i (fun c => ?_) fun c => ?_
  · simp only [decide_eq_true_eq] at c
    have hi' : i < ms.length := by omega
    obtain ⟨a, ha, hc⟩ := hs.2.2 i (mdRow ms[i]) (by rw [List.getElem?_map, List.getElem?_eq_getElem hi']; rfl)
    have hdr : ms.drop i = ms[i] :: ms.drop (i + 1) := List.drop_eq_getElem_cons hi'
    generalize ms[i] = m at hc hdr
    have g1 := WX.old hp w.lt g f1
    have hc1 := hc.grw g1
    have c0 := hc1 0 _ rfl; have c1 := hc1 1 _ rfl
    rw [add_zero'] at c0
    rw [ha]
    refine ⟨by omega, by omega, ?_⟩
    rw [Int.toNat_natCast]
    refine ⟨_, c0, _, c1, ?_⟩
    rw [hdr] at e1
    have e2 : mdsEnc (m :: ms.drop (i + 1)) = text2 m.1 ++ (text2 m.2 ++ mdsEnc (ms.drop (i + 1))) := by simp [mdsEnc, mdEnc]
    rw [e2] at e1
    have hlen := congrArg List.length e1
    simp only [List.length_append, text2_len] at hlen
    have lc := SyH.start No h1
    refine lc.new fun b7 _ hb7 _ lc => ?_
    repeat (first | refine lc.ldo 0 rfl rfl ?_ | refine lc.ld 0 rfl rfl ?_ | refine lc.ldo 1 rfl rfl ?_ | refine lc.ld 1 rfl rfl ?_ | refine lc.ldo 2 rfl rfl ?_ | refine lc.ld 2 rfl rfl ?_ | refine lc.ldo 3 rfl rfl ?_ | refine lc.ld 3 rfl rfl ?_ | refine lc.ldo 4 rfl rfl ?_ | refine lc.ld 4 rfl rfl ?_ | refine lc.ldo 5 rfl rfl ?_ | refine lc.ld 5 rfl rfl ?_ | refine lc.ldo 6 rfl rfl ?_ | refine lc.ld 6 rfl rfl ?_ | (refine lc.sto 0 rfl rfl rfl fun _ _ lc => ?_; simp only [Nat.zero_add, List.set_cons_zero, List.set_cons_succ, List.setIfInBounds_toArray] at lc) | (refine lc.st 0 rfl rfl rfl fun _ _ lc => ?_; simp only [Nat.zero_add, List.set_cons_zero, List.set_cons_succ, List.setIfInBounds_toArray] at lc) | (refine lc.sto 1 rfl rfl rfl fun _ _ lc => ?_; simp only [Nat.zero_add, List.set_cons_zero, List.set_cons_succ, List.setIfInBounds_toArray] at lc) | (refine lc.st 1 rfl rfl rfl fun _ _ lc => ?_; simp only [Nat.zero_add, List.set_cons_zero, List.set_cons_succ, List.setIfInBounds_toArray] at lc) | (refine lc.sto 2 rfl rfl rfl fun _ _ lc => ?_; simp only [Nat.zero_add, List.set_cons_zero, List.set_cons_succ, List.setIfInBounds_toArray] at lc) | (refine lc.st 2 rfl rfl rfl fun _ _ lc => ?_; simp only [Nat.zero_add, List.set_cons_zero, List.set_cons_succ, List.setIfInBounds_toArray] at lc) | (refine lc.sto 3 rfl rfl rfl fun _ _ lc => ?_; simp only [Nat.zero_add, List.set_cons_zero, List.set_cons_succ, List.setIfInBounds_toArray] at lc) | (refine lc.st 3 rfl rfl rfl fun _ _ lc => ?_; simp only [Nat.zero_add, List.set_cons_zero, List.set_cons_succ, List.setIfInBounds_toArray] at lc) | (refine lc.sto 4 rfl rfl rfl fun _ _ lc => ?_; simp only [Nat.zero_add, List.set_cons_zero, List.set_cons_succ, List.setIfInBounds_toArray] at lc) | (refine lc.st 4 rfl rfl rfl fun _ _ lc => ?_; simp only [Nat.zero_add, List.set_cons_zero, List.set_cons_succ, List.setIfInBounds_toArray] at lc) | (refine lc.sto 5 rfl rfl rfl fun _ _ lc => ?_; simp only [Nat.zero_add, List.set_cons_zero, List.set_cons_succ, List.setIfInBounds_toArray] at lc) | (refine lc.st 5 rfl rfl rfl fun _ _ lc => ?_; simp only [Nat.zero_add, List.set_cons_zero, List.set_cons_succ, List.setIfInBounds_toArray] at lc) | (refine lc.sto 6 rfl rfl rfl fun _ _ lc => ?_; simp only [Nat.zero_add, List.set_cons_zero, List.set_cons_succ, List.setIfInBounds_toArray] at lc) | (refine lc.st 6 rfl rfl rfl fun _ _ lc => ?_; simp only [Nat.zero_add, List.set_cons_zero, List.set_cons_succ, List.setIfInBounds_toArray] at lc) | refine lc.ldo 0 (x := Sl.nil) rfl rfl ?_ | refine lc.ld 0 (x := Sl.nil) rfl rfl ?_ | refine lc.ldo 1 (x := Sl.nil) rfl rfl ?_ | refine lc.ld 1 (x := Sl.nil) rfl rfl ?_ | refine lc.ldo 2 (x := Sl.nil) rfl rfl ?_ | refine lc.ld 2 (x := Sl.nil) rfl rfl ?_ | refine lc.ldo 3 (x := Sl.nil) rfl rfl ?_ | refine lc.ld 3 (x := Sl.nil) rfl rfl ?_ | refine lc.ldo 4 (x := Sl.nil) rfl rfl ?_ | refine lc.ld 4 (x := Sl.nil) rfl rfl ?_ | refine lc.ldo 5 (x := Sl.nil) rfl rfl ?_ | refine lc.ld 5 (x := Sl.nil) rfl rfl ?_ | refine lc.ldo 6 (x := Sl.nil) rfl rfl ?_ | refine lc.ld 6 (x := Sl.nil) rfl rfl ?_ | refine Wr_i64 (by omega) (by omega) ?_ | refine If_t rfl ?_ | refine If_f rfl ?_)
    have k7 : Blk _ b7 #[.string m.1, .string m.2] 66 := lc.blk (i := 0) rfl
    have nb : b7 ≠ p := by have := w1.lt; have := w1.le; omega
    refine text_c (w1.keep lc.grw) (by omega) (by omega) (by omega) fun h2 f2 w2 => ?_
    have k7 := f2.blk k7 (WX.not k7 nb (show (66 : Nat) ≠ 5 by decide))
    rw [add_blk]
    refine Ld_blk k7 rfl ?_
    refine text_c w2 (by omega) (by omega) (by rw [List.length_append, List.length_append, num_len]; show _ + (2 + m.1.size) + _ + _ ≤ _; omega) fun h3 f3 w3 => ?_
    refine Wr_i64 (by omega) (by omega) ?_
    refine hN _ _ ⟨i + 1, _, by simp, by omega, WX.trans f1 (WX.trans (WX.grw lc.grw f2) f3), w3, ?_⟩ (by omega)
    rw [← e1]; simp only [text2, List.append_assoc]; rfl
  · simp only [decide_eq_false_iff_not] at c
    have : i = ms.length := by omega
    subst this
    rw [List.drop_length, mdsEnc, List.map_nil, List.flatten_nil, List.append_nil] at e1
    exact hk h1 f1 (e1 ▸ w1)
def schemaEnc (fs : List Fld) (ms : List Md) : List UInt8 := num fs.length 2 ++ (encs fs ++ (num ms.length 2 ++ mdsEnc ms))
theorem schema_c {cs : List Fld} {ms : List Md} {p lo : Nat} {h0 h : Hp} {l : List UInt8} {s t : Sl} {K : HP} {Kp : PK} (hp : h0.size ≤ p) (g : Grw h0 h) (hs : FsH h0 s cs) (ht : RsH h0 t 2 (ms.map mdRow)) (w : Wtr p lo h l)
    (hl : l.length + (schemaEnc cs ms).length + 1000 ≤ 2 ^ 40) (hk : ∀ h', Tn (WX p lo h) h h' → Wtr p lo h' (l ++ schemaEnc cs ms) → K h') : Fn23 (some ⟨p, 0, none⟩) s t h K Kp := by
  simp only [schemaEnc, List.length_append, num_len] at hl hk
  have hn := hs.n
  have hm : t.n = ms.length := by simpa using ht.1
  have hcl := encs_len cs
  refine Fn23.of ?_
  unfold S23
  refine New_i fun b3 h1 e3 g1 k3 _ => ?_
  have nb3 : b3 ≠ p := by have := w.lt; have := w.le; omega
  refine Ld_blk k3 rfl ?_
  refine number_c (w.keep g1) (by omega) (by omega) (by omega) fun h2 f2 w2 => ?_
  have F2 := WX.grw g1 f2
  have k3 := f2.blk k3 (WX.not k3 nb3 (show (25 : Nat) ≠ 5 by decide))
  refine Ld_blk k3 rfl ?_
  rw [hn.1] at w2
  generalize hl2 : l ++ num (↑cs.length) (Int.toNat 2) = l2 at w2
  have hl2' : l2.length = l.length + 2 := by rw [← hl2, List.length_append, num_len]; rfl
  refine L23_3.rule (fun x h' => ∃ i : Nat, ∃ l', x = (i : Int) ∧ i ≤ cs.length ∧ Tn (WX p lo h) h h' ∧ Wtr p lo h' l' ∧ Blk h' b3 #[Sl.v s, Sl.v t] 25 ∧ l' ++ encs (cs.drop i) = l2 ++ encs cs) (fun x _ => cs.length - x.toNat) ⟨0, l2, rfl, by omega, F2, w2, k3, by simp⟩ ?_
  rintro x h1 ⟨i, l', rfl, hi, f1, w1, k3, e1⟩ N1 hN
  unfold T23_3
  refine If_i (fun c => ?_) fun c => ?_
  · simp only [decide_eq_true_eq] at c
    have hi' : i < cs.length := by omega
    have hj : cs[i]? = some cs[i] := List.getElem?_eq_getElem hi'
    obtain ⟨a, ha, hf⟩ := hs.get hj
    have hdr : cs.drop i = cs[i] :: cs.drop (i + 1) := List.drop_eq_getElem_cons hi'
    generalize cs[i] = f at hj hf hdr
    obtain ⟨n, nul, k, wd, id, ix, ds⟩ := f
    unfold FldH at hf
    obtain ⟨u, hc, hu⟩ := hf
    have g1 := WX.old hp w.lt g f1
    have hc1 := hc.grw g1
    have c0 := hc1 0 _ rfl; have c1 := hc1 1 _ rfl; have c2 := hc1 2 _ rfl; have c3 := hc1 3 _ rfl; have c4 := hc1 4 _ rfl; have c5 := hc1 5 _ rfl; have c6 := hc1 6 _ rfl
    rw [add_zero'] at c0
    rw [ha]
    refine ⟨by omega, by omega, ?_⟩
    rw [Int.toNat_natCast]
    refine ⟨_, c0, _, c1, _, c2, _, c3, _, c4, _, c5, _, c6, ?_⟩
    have lc := SyH.start No h1
    repeat (first | refine lc.ldo 0 rfl rfl ?_ | refine lc.ld 0 rfl rfl ?_ | refine lc.ldo 1 rfl rfl ?_ | refine lc.ld 1 rfl rfl ?_ | refine lc.ldo 2 rfl rfl ?_ | refine lc.ld 2 rfl rfl ?_ | refine lc.ldo 3 rfl rfl ?_ | refine lc.ld 3 rfl rfl ?_ | refine lc.ldo 4 rfl rfl ?_ | refine lc.ld 4 rfl rfl ?_ | refine lc.ldo 5 rfl rfl ?_ | refine lc.ld 5 rfl rfl ?_ | refine lc.ldo 6 rfl rfl ?_ | refine lc.ld 6 rfl rfl ?_ | (refine lc.sto 0 rfl rfl rfl fun _ _ lc => ?_; simp only [Nat.zero_add, List.set_cons_zero, List.set_cons_succ, List.setIfInBounds_toArray] at lc) | (refine lc.st 0 rfl rfl rfl fun _ _ lc => ?_; simp only [Nat.zero_add, List.set_cons_zero, List.set_cons_succ, List.setIfInBounds_toArray] at lc) | (refine lc.sto 1 rfl rfl rfl fun _ _ lc => ?_; simp only [Nat.zero_add, List.set_cons_zero, List.set_cons_succ, List.setIfInBounds_toArray] at lc) | (refine lc.st 1 rfl rfl rfl fun _ _ lc => ?_; simp only [Nat.zero_add, List.set_cons_zero, List.set_cons_succ, List.setIfInBounds_toArray] at lc) | (refine lc.sto 2 rfl rfl rfl fun _ _ lc => ?_; simp only [Nat.zero_add, List.set_cons_zero, List.set_cons_succ, List.setIfInBounds_toArray] at lc) | (refine lc.st 2 rfl rfl rfl fun _ _ lc => ?_; simp only [Nat.zero_add, List.set_cons_zero, List.set_cons_succ, List.setIfInBounds_toArray] at lc) | (refine lc.sto 3 rfl rfl rfl fun _ _ lc => ?_; simp only [Nat.zero_add, List.set_cons_zero, List.set_cons_succ, List.setIfInBounds_toArray] at lc) | (refine lc.st 3 rfl rfl rfl fun _ _ lc => ?_; simp only [Nat.zero_add, List.set_cons_zero, List.set_cons_succ, List.setIfInBounds_toArray] at lc) | (refine lc.sto 4 rfl rfl rfl fun _ _ lc => ?_; simp only [Nat.zero_add, List.set_cons_zero, List.set_cons_succ, List.setIfInBounds_toArray] at lc) | (refine lc.st 4 rfl rfl rfl fun _ _ lc => ?_; simp only [Nat.zero_add, List.set_cons_zero, List.set_cons_succ, List.setIfInBounds_toArray] at lc) | (refine lc.sto 5 rfl rfl rfl fun _ _ lc => ?_; simp only [Nat.zero_add, List.set_cons_zero, List.set_cons_succ, List.setIfInBounds_toArray] at lc) | (refine lc.st 5 rfl rfl rfl fun _ _ lc => ?_; simp only [Nat.zero_add, List.set_cons_zero, List.set_cons_succ, List.setIfInBounds_toArray] at lc) | (refine lc.sto 6 rfl rfl rfl fun _ _ lc => ?_; simp only [Nat.zero_add, List.set_cons_zero, List.set_cons_succ, List.setIfInBounds_toArray] at lc) | (refine lc.st 6 rfl rfl rfl fun _ _ lc => ?_; simp only [Nat.zero_add, List.set_cons_zero, List.set_cons_succ, List.setIfInBounds_toArray] at lc) | refine lc.ldo 0 (x := Sl.nil) rfl rfl ?_ | refine lc.ld 0 (x := Sl.nil) rfl rfl ?_ | refine lc.ldo 1 (x := Sl.nil) rfl rfl ?_ | refine lc.ld 1 (x := Sl.nil) rfl rfl ?_ | refine lc.ldo 2 (x := Sl.nil) rfl rfl ?_ | refine lc.ld 2 (x := Sl.nil) rfl rfl ?_ | refine lc.ldo 3 (x := Sl.nil) rfl rfl ?_ | refine lc.ld 3 (x := Sl.nil) rfl rfl ?_ | refine lc.ldo 4 (x := Sl.nil) rfl rfl ?_ | refine lc.ld 4 (x := Sl.nil) rfl rfl ?_ | refine lc.ldo 5 (x := Sl.nil) rfl rfl ?_ | refine lc.ld 5 (x := Sl.nil) rfl rfl ?_ | refine lc.ldo 6 (x := Sl.nil) rfl rfl ?_ | refine lc.ld 6 (x := Sl.nil) rfl rfl ?_ | refine lc.new fun _ _ _ _ lc => ?_ | refine Wr_i64 (by omega) (by omega) ?_ | refine If_t rfl ?_ | refine If_f rfl ?_)
    rw [hdr, encs] at e1
    have hlen := congrArg List.length e1
    simp only [List.length_append] at hlen
    refine field_c (.mk n nul k wd id ix ds) hp (Grw.trans g1 lc.grw) hu (w1.keep lc.grw) (by omega) fun h2 f2 w2 => ?_
    refine Wr_i64 (by omega) (by omega) ?_
    refine hN _ _ ⟨i + 1, _, by simp, by omega, WX.trans f1 (WX.grw lc.grw f2), w2, f2.blk (k3.grw lc.grw) (WX.not (k3.grw lc.grw) nb3 (by decide)), ?_⟩ (by omega)
    rw [← e1, List.append_assoc]
  · simp only [decide_eq_false_iff_not] at c
    have : i = cs.length := by omega
    subst this
    rw [List.drop_length, encs, List.append_nil] at e1
    subst e1
    refine J23_1.of ?_
    unfold JT23_1
    rw [add_blk]
    refine Ld_blk k3 rfl ?_
    refine number_c w1 (by omega) (by omega) (by rw [List.length_append]; omega) fun h5 f5 w5 => ?_
    have k3 := f5.blk k3 (WX.not k3 nb3 (show (25 : Nat) ≠ 5 by decide))
    refine Ld_blk k3 rfl ?_
    refine mdL_c hp (WX.old hp w.lt g (WX.trans f1 f5)) ht w5 (by simp only [List.length_append, num_len]; show _ + _ + 2 + _ + _ ≤ _; omega) fun h6 f6 w6 => hk h6 (WX.trans (WX.trans f1 f5) f6) ?_
    rw [← hl2, hm] at w6
    have e2w : (2 : Int).toNat = 2 := rfl
    simpa only [e2w, List.append_assoc] using w6
end Go.Proofs.YtfomkkdijjfpiaaDoor
/- The document's writing of heads: bytes behind a slice of one's own. -/
namespace Go.Proofs.YtfomkkdijjfpiaaDoor
open Go Go.Sh
/-- bytes from lo on -/
def RX (lo : Nat) (h : Hp) : Nat → Prop := fun b => lo ≤ b ∧ ∃ cs, Blk h b cs 5
theorem RX.trans {lo : Nat} {a b c : Hp} (x : Tn (RX lo a) a b) (y : Tn (RX lo b) b c) : Tn (RX lo a) a c := by
  refine x.trans' y ?_
  intro d hd hlt
  by_cases hw : RX lo a d
  · exact hw
  · obtain ⟨h1, cs, hb⟩ := hd
    exact ⟨h1, cs, (x.2 d hlt hw).symm.trans hb⟩
theorem RX.grw {lo : Nat} {a b c : Hp} (x : Grw a b) (y : Tn (RX lo b) b c) : Tn (RX lo a) a c := RX.trans (Tn.of_grw x) y
theorem RX.old {lo : Nat} {h0 h h' : Hp} (hp : h0.size ≤ lo) (g : Grw h0 h) (f : Tn (RX lo h) h h') : Grw h0 h' := by
  refine ⟨Nat.le_trans g.1 f.1, fun c hc => (f.2 c (Nat.lt_of_lt_of_le hc g.1) ?_).trans (g.2 c hc)⟩
  rintro ⟨h1, _⟩; omega
theorem RX.not {lo b : Nat} {h : Hp} {cs : Array Value} {el : TypeId} (k : Blk h b cs el) (he : el ≠ 5) : ¬ RX lo h b := by
  rintro ⟨_, cs', k'⟩
  have e := k.symm.trans k'
  simp only [Option.some.injEq, Obj.cells.injEq] at e
  exact he e.2.1
/-- the slice holds these bytes, from lo on -/
structure Rb (lo : Nat) (h : Hp) (s : Sl) (l : List UInt8) : Prop where
  sh : Sh lo h.size 1 h s (bv l) 5
  le : lo ≤ h.size
theorem Rb.keep {lo : Nat} {h h' : Hp} {s : Sl} {l : List UInt8} (w : Rb lo h s l) (g : Grw h h') : Rb lo h' s l := ⟨(w.sh.grw g).wide (Nat.le_refl _) g.1, Nat.le_trans w.le g.1⟩
theorem Rb.at {lo : Nat} {h : Hp} {s : Sl} {l : List UInt8} (w : Rb lo h s l) {c : Nat} (hc : s.at c) : RX lo h c := by
  rcases w.sh with ⟨rfl, _⟩ | ⟨b, hb1, hb2, ob⟩
  · exact absurd hc (Sl.at_nil c)
  · obtain ⟨a, ha, hb⟩ := hc
    obtain ⟨e, _, cs, kb, _⟩ := ob
    rw [e] at ha; cases ha; simp only at hb; subst hb
    exact ⟨hb1, cs, kb⟩
theorem Rb.app {lo : Nat} {h : Hp} {s : Sl} {l new : List UInt8} {n : Nat} {vals : List Value → Prop} {K : Sl → HP} (w : Rb lo h s l) (hn : new.length = n) (hv : vals (bv new)) (hl : l.length + n ≤ 2 ^ 40)
    (hk : ∀ s' h', Tn (RX lo h) h h' → Rb lo h' s' (l ++ new) → K s' h') : Ap h 5 #[(.int .u8 (0:Int))] 1 1 s n vals K := by
  have hs := w.sh.n
  rw [bv_len] at hs
  refine Ap_sh w.sh w.le rfl (new := bv new) (by rw [bv_len]; omega) bv_one hv (by omega) (by omega) fun s' h2 f2 at2 o2 hn2 => ?_
  exact hk s' h2 (f2.mono fun d hd _ => w.at hd) ⟨by rw [bv_append]; exact o2, Nat.le_trans w.le f2.1⟩
theorem rnumber_c {lo : Nat} {h : Hp} {s : Sl} {l : List UInt8} {x width : Int} {K : Sl → HP} {Kp : PK} (w : Rb lo h s l) (hx : 0 ≤ x) (hx' : x ≤ 9223372036854775807) (h0 : 0 ≤ width) (h8 : width ≤ 8) (hl : l.length + 8 ≤ 2 ^ 40)
    (hk : ∀ s' h', Tn (RX lo h) h h' → Rb lo h' s' (l ++ num x width.toNat) → K s' h') : Fn25 s x width h K Kp := by
  refine Fn25.of ?_
  unfold S25
  refine L25_1.rule (fun t y k h' => ∃ l', 0 ≤ k ∧ k ≤ width ∧ 0 ≤ y ∧ y ≤ 9223372036854775807 ∧ l'.length = l.length + k.toNat ∧ Tn (RX lo h) h h' ∧ Rb lo h' t l' ∧ l' ++ num y (width - k).toNat = l ++ num x width.toNat) (fun _ _ k _ => (width - k).toNat) ⟨l, by omega, h0, hx, hx', by simp, Tn.refl _ _, w, by simp⟩ ?_
  rintro t y k h1 ⟨l', hk0, hk1, hy0, hy1, hll, f1, w1, e1⟩ N1 hN
  unfold T25_1
  refine If_i (fun c => ?_) fun c => ?_
  · simp only [decide_eq_true_eq] at c
    refine ⟨by omega, Lt_any (Wr_any (New_i fun b h2 e2 g2 k2 _ => ?_))⟩
    have et : IntKind.u8.wrap (Int.tmod y 256) = ((b8 y).toNat : Int) := by
      rw [Int.tmod_eq_emod_of_nonneg hy0, ← b8_v]
      simp [IntKind.wrap, IntKind.signed, IntKind.bits]
    rw [et] at k2
    have ed : Int.tdiv y 256 = Int.fdiv y 256 := by rw [Int.tdiv_eq_ediv_of_nonneg hy0, Int.fdiv_eq_ediv_of_nonneg _ (by omega)]
    have ed2 : Int.fdiv y 256 = y / 256 := Int.fdiv_eq_ediv_of_nonneg _ (by omega)
    refine (w1.keep g2).app (new := [b8 y]) rfl (rd_blk k2 rfl) (by omega) fun s' h3 f3 w3 => ?_
    refine ⟨by omega, ?_⟩
    rw [ed]
    refine Wr_i64 (by omega) (by omega) (Wr_i64 (by omega) (by omega) ?_)
    refine hN _ _ _ _ ⟨l' ++ [b8 y], by omega, by omega, by omega, by omega, by simp; omega, RX.trans f1 (RX.grw g2 f3), w3, ?_⟩ (by omega)
    rw [← e1, List.append_assoc]
    have e : (width - k).toNat = (width - (k + 1)).toNat + 1 := by omega
    rw [e]; rfl
  · simp only [decide_eq_false_iff_not] at c
    have e : (width - k).toNat = 0 := by omega
    rw [e] at e1
    simp only [num, List.append_nil] at e1
    exact hk t h1 f1 (e1 ▸ w1)
theorem rflag_c {lo : Nat} {h : Hp} {s : Sl} {l : List UInt8} {b : Bool} {K : Sl → HP} {Kp : PK} (w : Rb lo h s l) (hl : l.length + 8 ≤ 2 ^ 40)
    (hk : ∀ s' h', Tn (RX lo h) h h' → Rb lo h' s' (l ++ num (if b then 1 else 0) 1) → K s' h') : Fn28 s b h K Kp := by
  refine Fn28.of ?_
  unfold S28
  cases b
  · refine If_f rfl (New_i fun b h2 e2 g2 k2 _ => ?_)
    exact (w.keep g2).app (new := [0]) rfl (rd_blk k2 rfl) (by omega) fun s' h3 f3 w3 => hk _ _ (RX.grw g2 f3) w3
  · refine If_t rfl (New_i fun b h2 e2 g2 k2 _ => ?_)
    exact (w.keep g2).app (new := [1]) rfl (rd_blk k2 rfl) (by omega) fun s' h3 f3 w3 => hk _ _ (RX.grw g2 f3) w3
theorem rtext_c {lo : Nat} {h : Hp} {s : Sl} {l : List UInt8} {t : ByteArray} {width : Int} {K : Sl → HP} {Kp : PK} (w : Rb lo h s l) (h0 : 0 ≤ width) (h8 : width ≤ 8) (hl : l.length + 8 + t.size ≤ 2 ^ 40)
    (hk : ∀ s' h', Tn (RX lo h) h h' → Rb lo h' s' (l ++ (num t.size width.toNat ++ t.data.toList)) → K s' h') : Fn27 s t width h K Kp := by
  refine Fn27.of ?_
  unfold S27
  refine rnumber_c w (by omega) (by omega) h0 h8 (by omega) fun s1 h1 f1 w1 => ?_
  exact w1.app (new := t.data.toList) (n := t.size) rfl rfl (by rw [List.length_append, num_len]; omega) fun s2 h2 f2 w2 => hk s2 h2 (RX.trans f1 f2) (by rw [← List.append_assoc]; exact w2)
end Go.Proofs.YtfomkkdijjfpiaaDoor
/- The document's writing of heads: fields. -/
namespace Go.Proofs.YtfomkkdijjfpiaaDoor
open Go Go.Sh
abbrev i63 (x : Int) : Prop := 0 ≤ x ∧ x ≤ 9223372036854775807
mutual
/-- no number of a field is negative -/
def Fld.nn : Fld → Prop
  | .mk _ _ k w id ix cs => i63 k ∧ i63 w ∧ i63 id ∧ i63 ix ∧ nns cs
def nns : List Fld → Prop
  | [] => True
  | f :: fs => f.nn ∧ nns fs
end
theorem nns.get : ∀ {fs : List Fld}, nns fs → ∀ f ∈ fs, f.nn
  | [], _, _, h => by simp at h
  | g :: gs, hh, f, h => by
    unfold nns at hh
    rcases List.mem_cons.1 h with rfl | h
    · exact hh.1
    · exact nns.get hh.2 f h
/-- what the document does with a field -/
def RFieldC : Fld → Prop
  | .mk n nul k w id ix cs => ∀ {lo : Nat} {h0 h : Hp} {l : List UInt8} {b s : Sl} {K : Sl → HP} {Kp : PK}, h0.size ≤ lo → Grw h0 h → FsH h0 s cs → Fld.nn (.mk n nul k w id ix cs) → Rb lo h b l →
      l.length + (Fld.enc (.mk n nul k w id ix cs)).length + 1000 ≤ 2 ^ 40 → (∀ b' h', Tn (RX lo h) h h' → Rb lo h' b' (l ++ Fld.enc (.mk n nul k w id ix cs)) → K b' h') →
      Fn26 b n nul k w id ix s h K Kp
theorem rfieldL_c {cs : List Fld} (IH : ∀ f ∈ cs, RFieldC f) {lo p : Nat} {h0 h : Hp} {l : List UInt8} {b s : Sl} {v0 v1 v2 v3 : Value} {K : Sl → HP} {Kp : PK} (hp : h0.size ≤ lo) (g : Grw h0 h) (hs : FsH h0 s cs) (hnn : nns cs) (w : Rb lo h b l) (k5 : Blk h p #[v0, v1, v2, v3, Sl.v s] 61)
    (hl : l.length + (encs cs).length + 1000 ≤ 2 ^ 40) (hk : ∀ b' h', Tn (RX lo h) h h' → Rb lo h' b' (l ++ encs cs) → K b' h') : L26_2 ⟨p, 0, none⟩ K Kp b 0 h := by
  have hn := hs.n
  have hcl := encs_len cs
  refine L26_2.rule (fun t x h' => ∃ i : Nat, ∃ l', x = (i : Int) ∧ i ≤ cs.length ∧ Tn (RX lo h) h h' ∧ Rb lo h' t l' ∧ Blk h' p #[v0, v1, v2, v3, Sl.v s] 61 ∧ l' ++ encs (cs.drop i) = l ++ encs cs) (fun _ x _ => cs.length - x.toNat) ⟨0, l, rfl, by omega, Tn.refl _ _, w, k5, by simp⟩ ?_
  rintro t x h1 ⟨i, l', rfl, hi, f1, w1, k5, e1⟩ N1 hN
  unfold T26_2
  rw [add_blk]
  refine Ld_blk k5 rfl ?_
  refine If_i (fun c => ?_) fun c => ?_
  · refine Ld_blk k5 rfl ?_
    simp only [decide_eq_true_eq] at c
    have hi' : i < cs.length := by omega
    have hj : cs[i]? = some cs[i] := List.getElem?_eq_getElem hi'
    obtain ⟨a, ha, hf⟩ := hs.get hj
    have hmem : cs[i] ∈ cs := List.getElem_mem hi'
    have hdr : cs.drop i = cs[i] :: cs.drop (i + 1) := List.drop_eq_getElem_cons hi'
    generalize cs[i] = f at hj hf hmem hdr
    have hfn := hnn.get f hmem
    obtain ⟨n, nul, k, wd, id, ix, ds⟩ := f
    unfold FldH at hf
    obtain ⟨u, hc, hu⟩ := hf
    have g1 := RX.old hp g f1
    have hc1 := hc.grw g1
    have c0 := hc1 0 _ rfl; have c1 := hc1 1 _ rfl; have c2 := hc1 2 _ rfl; have c3 := hc1 3 _ rfl; have c4 := hc1 4 _ rfl; have c5 := hc1 5 _ rfl; have c6 := hc1 6 _ rfl
    rw [add_zero'] at c0
    rw [ha]
    refine ⟨by omega, by omega, ?_⟩
    rw [Int.toNat_natCast]
    refine ⟨_, c0, _, c1, _, c2, _, c3, _, c4, _, c5, _, c6, ?_⟩
    rw [hdr, encs] at e1
    have hlen := congrArg List.length e1
    simp only [List.length_append] at hlen
    refine IH _ hmem hp g1 hu hfn w1 (by omega) fun b2 h2 f2 w2 => ?_
    refine Wr_i64 (by omega) (by omega) ?_
    refine hN _ _ _ ⟨i + 1, _, by simp, by omega, RX.trans f1 f2, w2, f2.blk k5 (RX.not k5 (show (61 : Nat) ≠ 5 by decide)), ?_⟩ (by omega)
    rw [← e1, List.append_assoc]
  · simp only [decide_eq_false_iff_not] at c
    have : i = cs.length := by omega
    subst this
    rw [List.drop_length, encs, List.append_nil] at e1
    exact hk t h1 f1 (e1 ▸ w1)
theorem rfield_step {n : ByteArray} {nul : Bool} {k w id ix : Int} {cs : List Fld} (IH : ∀ f ∈ cs, RFieldC f) : RFieldC (.mk n nul k w id ix cs) := by
  intro lo h0 h l b s K Kp hp g hs hnn w0 hl hk
  simp only [Fld.enc, List.length_append, num_len, List.append_assoc] at hl hk
  unfold Fld.nn at hnn
  obtain ⟨⟨nk0, nk1⟩, ⟨nw0, nw1⟩, ⟨ni0, ni1⟩, ⟨nx0, nx1⟩, hnc⟩ := hnn
  have hns : n.data.toList.length = n.size := rfl
  have hsn := hs.n
  have hcl := encs_len cs
  refine Fn26.of ?_
  unfold S26
  refine New_i fun b3 h1 e3 g1 k3 _ => ?_
  refine Ld_blk k3 rfl ?_
  have w1 := w0.keep g1
  refine rtext_c w1 (by omega) (by omega) (by omega) fun s2 h2 f2 w2 => ?_
  have F2 := RX.grw g1 f2
  have k3 := f2.blk k3 (RX.not k3 (by decide))
  rw [add_blk]
  refine Ld_blk k3 rfl ?_
  refine rflag_c w2 (by simp only [List.length_append, num_len]; omega) fun s3 h3 f3 w3 => ?_
  have F3 := RX.trans F2 f3
  have k3 := f3.blk k3 (RX.not k3 (by decide))
  simp only [add_blk]
  refine Ld_blk k3 rfl (Ld_blk k3 rfl (Ld_blk k3 rfl (Ld_blk k3 rfl (Ld_blk k3 rfl ?_))))
  have lc := SyH.start No h3
  refine lc.new fun b4 _ hb4 _ lc => ?_
  repeat (first | refine lc.ldo 0 rfl rfl ?_ | refine lc.ld 0 rfl rfl ?_ | refine lc.ldo 1 rfl rfl ?_ | refine lc.ld 1 rfl rfl ?_ | refine lc.ldo 2 rfl rfl ?_ | refine lc.ld 2 rfl rfl ?_ | refine lc.ldo 3 rfl rfl ?_ | refine lc.ld 3 rfl rfl ?_ | refine lc.ldo 4 rfl rfl ?_ | refine lc.ld 4 rfl rfl ?_ | refine lc.ldo 5 rfl rfl ?_ | refine lc.ld 5 rfl rfl ?_ | refine lc.ldo 6 rfl rfl ?_ | refine lc.ld 6 rfl rfl ?_ | (refine lc.sto 0 rfl rfl rfl fun _ _ lc => ?_; simp only [Nat.zero_add, List.set_cons_zero, List.set_cons_succ, List.setIfInBounds_toArray] at lc) | (refine lc.st 0 rfl rfl rfl fun _ _ lc => ?_; simp only [Nat.zero_add, List.set_cons_zero, List.set_cons_succ, List.setIfInBounds_toArray] at lc) | (refine lc.sto 1 rfl rfl rfl fun _ _ lc => ?_; simp only [Nat.zero_add, List.set_cons_zero, List.set_cons_succ, List.setIfInBounds_toArray] at lc) | (refine lc.st 1 rfl rfl rfl fun _ _ lc => ?_; simp only [Nat.zero_add, List.set_cons_zero, List.set_cons_succ, List.setIfInBounds_toArray] at lc) | (refine lc.sto 2 rfl rfl rfl fun _ _ lc => ?_; simp only [Nat.zero_add, List.set_cons_zero, List.set_cons_succ, List.setIfInBounds_toArray] at lc) | (refine lc.st 2 rfl rfl rfl fun _ _ lc => ?_; simp only [Nat.zero_add, List.set_cons_zero, List.set_cons_succ, List.setIfInBounds_toArray] at lc) | (refine lc.sto 3 rfl rfl rfl fun _ _ lc => ?_; simp only [Nat.zero_add, List.set_cons_zero, List.set_cons_succ, List.setIfInBounds_toArray] at lc) | (refine lc.st 3 rfl rfl rfl fun _ _ lc => ?_; simp only [Nat.zero_add, List.set_cons_zero, List.set_cons_succ, List.setIfInBounds_toArray] at lc) | (refine lc.sto 4 rfl rfl rfl fun _ _ lc => ?_; simp only [Nat.zero_add, List.set_cons_zero, List.set_cons_succ, List.setIfInBounds_toArray] at lc) | (refine lc.st 4 rfl rfl rfl fun _ _ lc => ?_; simp only [Nat.zero_add, List.set_cons_zero, List.set_cons_succ, List.setIfInBounds_toArray] at lc) | (refine lc.sto 5 rfl rfl rfl fun _ _ lc => ?_; simp only [Nat.zero_add, List.set_cons_zero, List.set_cons_succ, List.setIfInBounds_toArray] at lc) | (refine lc.st 5 rfl rfl rfl fun _ _ lc => ?_; simp only [Nat.zero_add, List.set_cons_zero, List.set_cons_succ, List.setIfInBounds_toArray] at lc) | (refine lc.sto 6 rfl rfl rfl fun _ _ lc => ?_; simp only [Nat.zero_add, List.set_cons_zero, List.set_cons_succ, List.setIfInBounds_toArray] at lc) | (refine lc.st 6 rfl rfl rfl fun _ _ lc => ?_; simp only [Nat.zero_add, List.set_cons_zero, List.set_cons_succ, List.setIfInBounds_toArray] at lc) | refine lc.ldo 0 (x := Sl.nil) rfl rfl ?_ | refine lc.ld 0 (x := Sl.nil) rfl rfl ?_ | refine lc.ldo 1 (x := Sl.nil) rfl rfl ?_ | refine lc.ld 1 (x := Sl.nil) rfl rfl ?_ | refine lc.ldo 2 (x := Sl.nil) rfl rfl ?_ | refine lc.ld 2 (x := Sl.nil) rfl rfl ?_ | refine lc.ldo 3 (x := Sl.nil) rfl rfl ?_ | refine lc.ld 3 (x := Sl.nil) rfl rfl ?_ | refine lc.ldo 4 (x := Sl.nil) rfl rfl ?_ | refine lc.ld 4 (x := Sl.nil) rfl rfl ?_ | refine lc.ldo 5 (x := Sl.nil) rfl rfl ?_ | refine lc.ld 5 (x := Sl.nil) rfl rfl ?_ | refine lc.ldo 6 (x := Sl.nil) rfl rfl ?_ | refine lc.ld 6 (x := Sl.nil) rfl rfl ?_ | refine Wr_i64 (by omega) (by omega) ?_ | refine If_t rfl ?_ | refine If_f rfl ?_)
  have k4 : Blk _ b4 #[.int .i64 k, .int .i64 w, .int .i64 id, .int .i64 ix, Sl.v s] 61 := lc.blk (i := 0) rfl
  have F4 := F3.trans' (Tn.of_grw lc.grw : Tn No _ _) (fun _ t _ => t.elim)
  have w4 := w3.keep lc.grw
  clear lc
  refine rnumber_c w4 nk0 nk1 (by omega) (by omega) (by simp only [List.length_append, num_len]; omega) fun s5 h5 f5 w5 => ?_
  have F5 := RX.trans F4 f5
  have k4 := f5.blk k4 (RX.not k4 (show (61 : Nat) ≠ 5 by decide))
  refine Ld_blk k4 rfl ?_
  have e1w : (1 : Int).toNat = 1 := rfl
  have e2w : (2 : Int).toNat = 2 := rfl
  have hfin : ∀ (s6 : Sl) (h6 : Hp) (mid : List UInt8), Tn (RX lo h) h h6 → Rb lo h6 s6 (l ++ (num n.size 1 ++ (n.data.toList ++ (num (if nul then 1 else 0) 1 ++ (num k 1 ++ mid))))) → Blk h6 b4 #[.int .i64 k, .int .i64 w, .int .i64 id, .int .i64 ix, Sl.v s] 61 → mid.length ≤ 3 →
      (if k = 14 ∨ k = 16 then num w 2 else if k = 19 then num id 2 ++ num ix 1 else if k = 17 ∨ k = 18 then num cs.length 1 else []) = mid → J26_1 s6 ⟨b4, 0, none⟩ K Kp h6 := by
    intro s6 h6 mid F6 w6 k6 hm hmid
    rw [hmid] at hk hl
    refine J26_1.of ?_
    unfold JT26_1
    refine rfieldL_c IH hp (RX.old hp g F6) hs hnc w6 k6 (by simp only [List.length_append, num_len]; omega) fun b' h7 f7 w7 => hk b' h7 (RX.trans F6 f7) ?_
    simpa only [List.append_assoc] using w7
  simp only [e1w, List.append_assoc] at w5
  have j3 : J26_3 s5 ⟨b4, 0, none⟩ k (decide (k = 14 ∨ k = 16)) K Kp h5 := by
    refine J26_3.of ?_
    unfold JT26_3
    simp only [add_blk]
    refine If_i (fun c => ?_) fun c => ?_
    · simp only [decide_eq_true_eq] at c
      refine Ld_blk k4 rfl ?_
      refine rnumber_c w5 nw0 nw1 (by omega) (by omega) (by simp only [List.length_append, num_len]; omega) fun s6 h6 f6 w6 => ?_
      simp only [e2w, List.append_assoc] at w6
      exact hfin s6 h6 _ (RX.trans F5 f6) w6 (f6.blk k4 (RX.not k4 (by decide))) (by rw [num_len]; omega) (if_pos c)
    · simp only [decide_eq_false_iff_not] at c
      refine If_i (fun c19 => ?_) fun c19 => ?_
      · simp only [beq_iff_eq] at c19
        refine Ld_blk k4 rfl ?_
        refine rnumber_c w5 ni0 ni1 (by omega) (by omega) (by simp only [List.length_append, num_len]; omega) fun s6 h6 f6 w6 => ?_
        have k6 := f6.blk k4 (RX.not k4 (by decide))
        refine Ld_blk k6 rfl ?_
        refine rnumber_c w6 nx0 nx1 (by omega) (by omega) (by simp only [List.length_append, num_len]; omega) fun s7 h7 f7 w7 => ?_
        simp only [e1w, e2w, List.append_assoc] at w7
        exact hfin s7 h7 _ (RX.trans (RX.trans F5 f6) f7) w7 (f7.blk k6 (RX.not k6 (by decide))) (by simp only [List.length_append, num_len]; omega) (by rw [if_neg c, if_pos c19])
      · simp only [beq_eq_false_iff_ne, ne_eq] at c19
        have two : (k = 17 ∨ k = 18) → Ld h5 ⟨b4, 4, none⟩ (Sl.v) fun t45 => Fn25 s5 (t45.n : Int) (1 : Int) h5 (fun t47 h1 => J26_1 t47 ⟨b4, 0, none⟩ K Kp h1) Kp := by
          intro c2
          refine Ld_blk k4 rfl ?_
          refine rnumber_c w5 (by omega) (by omega) (by omega) (by omega) (by simp only [List.length_append, num_len]; omega) fun s6 h6 f6 w6 => ?_
          simp only [e1w, List.append_assoc] at w6
          refine hfin s6 h6 _ (RX.trans F5 f6) w6 (f6.blk k4 (RX.not k4 (by decide))) (by rw [num_len]; omega) ?_
          rw [if_neg c, if_neg c19, if_pos c2, hsn.1]
        refine If_i (fun c17 => ?_) fun c17 => ?_
        · exact If_t c17 (two (.inl (by simpa using c17)))
        · refine If_i (fun c18 => ?_) fun c18 => ?_
          · exact two (.inr (by simpa using c18))
          · simp only [beq_eq_false_iff_ne, ne_eq] at c17 c18
            refine hfin s5 h5 [] F5 (by simpa only [List.append_nil] using w5) k4 (by simp) ?_
            rw [if_neg c, if_neg c19, if_neg (by omega)]
  refine If_i (fun c => ?_) fun c => ?_
  · have e : (k == (14 : Int)) = decide (k = 14 ∨ k = 16) := by simp only [beq_iff_eq] at c; subst c; decide
    rw [e]; exact j3
  · have e : (k == (16 : Int)) = decide (k = 14 ∨ k = 16) := by
      simp only [beq_eq_false_iff_ne, ne_eq] at c
      by_cases h16 : k = 16
      · subst h16; decide
      · simp [c, h16]
    rw [e]; exact j3
theorem rfield_c : ∀ f : Fld, RFieldC f
  | .mk _ _ _ _ _ _ cs => rfield_step fun f _ => rfield_c f
end Go.Proofs.YtfomkkdijjfpiaaDoor
/- Put: the bytes of a head, when it may be. -/
namespace Go.Proofs.YtfomkkdijjfpiaaDoor
open Go Go.Sh
abbrev Nd := Int × Int
abbrev Bf := Int × Int × Int
def ndRow (x : Nd) : List Value := [.int .i64 x.1, .int .i64 x.2]
def bfRow (x : Bf) : List Value := [.int .i64 x.1, .int .i64 x.2.1, .int .i64 x.2.2]
def ndEnc (x : Nd) : List UInt8 := num x.1 4 ++ num x.2 4
def bfEnc (x : Bf) : List UInt8 := num x.1 4 ++ (num x.2.1 4 ++ num x.2.2 4)
def ndsEnc (l : List Nd) : List UInt8 := (l.map ndEnc).flatten
def bfsEnc (l : List Bf) : List UInt8 := (l.map bfEnc).flatten
theorem ndsEnc_len (l : List Nd) : (ndsEnc l).length = 8 * l.length := by
  induction l with
  | nil => rfl
  | cons m ms ih =>
    have e : ndsEnc (m :: ms) = ndEnc m ++ ndsEnc ms := by simp [ndsEnc]
    rw [e, List.length_append, ih, ndEnc, List.length_append, num_len, num_len, List.length_cons]; omega
theorem bfsEnc_len (l : List Bf) : (bfsEnc l).length = 12 * l.length := by
  induction l with
  | nil => rfl
  | cons m ms ih =>
    have e : bfsEnc (m :: ms) = bfEnc m ++ bfsEnc ms := by simp [bfsEnc]
    rw [e, List.length_append, ih, bfEnc, List.length_append, List.length_append, num_len, num_len, num_len, List.length_cons]; omega
/-- the answer of Put: bytes of its own, the old memory as it was -/
def PutK (h : Hp) (l : List UInt8) (K : Sl → Int → HP) : Prop := ∀ s h', Grw h h' → Sh h.size h'.size 1 h' s (bv l) 5 → K s 0 h'
theorem bufL_c {ms : List Bf} {p lo : Nat} {h0 h : Hp} {l : List UInt8} {s : Sl} {K : Sl → Int → HP} {Kp : PK} (hp : h0.size ≤ p) (g : Grw h0 h) (hs : RsH h0 s 3 (ms.map bfRow)) (w : Wtr p lo h l)
    (hl : l.length + (bfsEnc ms).length + 1000 ≤ 2 ^ 40) (hk : PutK h0 (l ++ bfsEnc ms) K) : L8_3 ⟨p, 0, none⟩ s (s.n : Int) K Kp 0 h := by
  have hn : s.n = ms.length := by simpa using hs.1
  have hcl := bfsEnc_len ms
  refine L8_3.rule (fun x h' => ∃ i : Nat, ∃ l', x = (i : Int) ∧ i ≤ ms.length ∧ Tn (WX p lo h) h h' ∧ Wtr p lo h' l' ∧ l' ++ bfsEnc (ms.drop i) = l ++ bfsEnc ms) (fun x _ => ms.length - x.toNat) ⟨0, l, rfl, by omega, Tn.refl _ _, w, by simp⟩ ?_
  rintro x h1 ⟨i, l', rfl, hi, f1, w1, e1⟩ N1 hN
  unfold T8_3
  refine If_i (fun c => ?_) fun c => ?_
  · simp only [decide_eq_true_eq] at c
    have hi' : i < ms.length := by omega
    obtain ⟨a, ha, hc⟩ := hs.2.2 i (bfRow ms[i]) (by rw [List.getElem?_map, List.getElem?_eq_getElem hi']; rfl)
    have hdr : ms.drop i = ms[i] :: ms.drop (i + 1) := List.drop_eq_getElem_cons hi'
    generalize ms[i] = m at hc hdr
    have g1 := WX.old hp w.lt g f1
    have hc1 := hc.grw g1
    have c0 := hc1 0 _ rfl; have c1 := hc1 1 _ rfl; have c2 := hc1 2 _ rfl
    rw [add_zero'] at c0
    rw [ha]
    refine ⟨by omega, by omega, ?_⟩
    rw [Int.toNat_natCast]
    refine ⟨_, c0, _, c1, _, c2, ?_⟩
    rw [hdr] at e1
    have e2 : bfsEnc (m :: ms.drop (i + 1)) = num m.1 4 ++ (num m.2.1 4 ++ (num m.2.2 4 ++ bfsEnc (ms.drop (i + 1)))) := by simp [bfsEnc, bfEnc]
    rw [e2] at e1
    have hlen := congrArg List.length e1
    simp only [List.length_append, num_len] at hlen
    have e4 : (4 : Int).toNat = 4 := rfl
    have lc := SyH.start No h1
    refine lc.new fun b7 _ hb7 _ lc => ?_
    repeat (first | refine lc.ldo 0 rfl rfl ?_ | refine lc.ld 0 rfl rfl ?_ | refine lc.ldo 1 rfl rfl ?_ | refine lc.ld 1 rfl rfl ?_ | refine lc.ldo 2 rfl rfl ?_ | refine lc.ld 2 rfl rfl ?_ | refine lc.ldo 3 rfl rfl ?_ | refine lc.ld 3 rfl rfl ?_ | refine lc.ldo 4 rfl rfl ?_ | refine lc.ld 4 rfl rfl ?_ | refine lc.ldo 5 rfl rfl ?_ | refine lc.ld 5 rfl rfl ?_ | refine lc.ldo 6 rfl rfl ?_ | refine lc.ld 6 rfl rfl ?_ | (refine lc.sto 0 rfl rfl rfl fun _ _ lc => ?_; simp only [Nat.zero_add, List.set_cons_zero, List.set_cons_succ, List.setIfInBounds_toArray] at lc) | (refine lc.st 0 rfl rfl rfl fun _ _ lc => ?_; simp only [Nat.zero_add, List.set_cons_zero, List.set_cons_succ, List.setIfInBounds_toArray] at lc) | (refine lc.sto 1 rfl rfl rfl fun _ _ lc => ?_; simp only [Nat.zero_add, List.set_cons_zero, List.set_cons_succ, List.setIfInBounds_toArray] at lc) | (refine lc.st 1 rfl rfl rfl fun _ _ lc => ?_; simp only [Nat.zero_add, List.set_cons_zero, List.set_cons_succ, List.setIfInBounds_toArray] at lc) | (refine lc.sto 2 rfl rfl rfl fun _ _ lc => ?_; simp only [Nat.zero_add, List.set_cons_zero, List.set_cons_succ, List.setIfInBounds_toArray] at lc) | (refine lc.st 2 rfl rfl rfl fun _ _ lc => ?_; simp only [Nat.zero_add, List.set_cons_zero, List.set_cons_succ, List.setIfInBounds_toArray] at lc) | (refine lc.sto 3 rfl rfl rfl fun _ _ lc => ?_; simp only [Nat.zero_add, List.set_cons_zero, List.set_cons_succ, List.setIfInBounds_toArray] at lc) | (refine lc.st 3 rfl rfl rfl fun _ _ lc => ?_; simp only [Nat.zero_add, List.set_cons_zero, List.set_cons_succ, List.setIfInBounds_toArray] at lc) | (refine lc.sto 4 rfl rfl rfl fun _ _ lc => ?_; simp only [Nat.zero_add, List.set_cons_zero, List.set_cons_succ, List.setIfInBounds_toArray] at lc) | (refine lc.st 4 rfl rfl rfl fun _ _ lc => ?_; simp only [Nat.zero_add, List.set_cons_zero, List.set_cons_succ, List.setIfInBounds_toArray] at lc) | (refine lc.sto 5 rfl rfl rfl fun _ _ lc => ?_; simp only [Nat.zero_add, List.set_cons_zero, List.set_cons_succ, List.setIfInBounds_toArray] at lc) | (refine lc.st 5 rfl rfl rfl fun _ _ lc => ?_; simp only [Nat.zero_add, List.set_cons_zero, List.set_cons_succ, List.setIfInBounds_toArray] at lc) | (refine lc.sto 6 rfl rfl rfl fun _ _ lc => ?_; simp only [Nat.zero_add, List.set_cons_zero, List.set_cons_succ, List.setIfInBounds_toArray] at lc) | (refine lc.st 6 rfl rfl rfl fun _ _ lc => ?_; simp only [Nat.zero_add, List.set_cons_zero, List.set_cons_succ, List.setIfInBounds_toArray] at lc) | refine lc.ldo 0 (x := Sl.nil) rfl rfl ?_ | refine lc.ld 0 (x := Sl.nil) rfl rfl ?_ | refine lc.ldo 1 (x := Sl.nil) rfl rfl ?_ | refine lc.ld 1 (x := Sl.nil) rfl rfl ?_ | refine lc.ldo 2 (x := Sl.nil) rfl rfl ?_ | refine lc.ld 2 (x := Sl.nil) rfl rfl ?_ | refine lc.ldo 3 (x := Sl.nil) rfl rfl ?_ | refine lc.ld 3 (x := Sl.nil) rfl rfl ?_ | refine lc.ldo 4 (x := Sl.nil) rfl rfl ?_ | refine lc.ld 4 (x := Sl.nil) rfl rfl ?_ | refine lc.ldo 5 (x := Sl.nil) rfl rfl ?_ | refine lc.ld 5 (x := Sl.nil) rfl rfl ?_ | refine lc.ldo 6 (x := Sl.nil) rfl rfl ?_ | refine lc.ld 6 (x := Sl.nil) rfl rfl ?_ | refine Wr_i64 (by omega) (by omega) ?_ | refine If_t rfl ?_ | refine If_f rfl ?_)
    have k7 : Blk _ b7 #[.int .i64 m.1, .int .i64 m.2.1, .int .i64 m.2.2] 57 := lc.blk (i := 0) rfl
    have nb : b7 ≠ p := by have := w1.lt; have := w1.le; omega
    refine number_c (w1.keep lc.grw) (by omega) (by omega) (by omega) fun h2 f2 w2 => ?_
    have k7 := f2.blk k7 (WX.not k7 nb (show (57 : Nat) ≠ 5 by decide))
    rw [add_blk]
    refine Ld_blk k7 rfl ?_
    refine number_c w2 (by omega) (by omega) (by rw [List.length_append, num_len]; omega) fun h3 f3 w3 => ?_
    have k7 := f3.blk k7 (WX.not k7 nb (show (57 : Nat) ≠ 5 by decide))
    rw [add_blk]
    refine Ld_blk k7 rfl ?_
    refine number_c w3 (by omega) (by omega) (by rw [List.length_append, List.length_append, num_len, num_len]; omega) fun h4 f4 w4 => ?_
    refine Wr_i64 (by omega) (by omega) ?_
    refine hN _ _ ⟨i + 1, _, by simp, by omega, WX.trans f1 (WX.trans (WX.trans (WX.grw lc.grw f2) f3) f4), w4, ?_⟩ (by omega)
    rw [← e1]; simp only [e4, List.append_assoc]
  · simp only [decide_eq_false_iff_not] at c
    have : i = ms.length := by omega
    subst this
    rw [List.drop_length, bfsEnc, List.map_nil, List.flatten_nil, List.append_nil] at e1
    subst e1
    obtain ⟨t, kt, ot⟩ := w1.ex
    refine Ld_blk kt rfl ?_
    have := w1.lt
    exact hk t h1 (WX.old hp w.lt g f1) (ot.wide (by omega) (Nat.le_refl _))
end Go.Proofs.YtfomkkdijjfpiaaDoor
/- Put: nodes, the whole. -/
namespace Go.Proofs.YtfomkkdijjfpiaaDoor
open Go Go.Sh
/-- what stands in the nine cells of a head -/
def vals9 (k : Int) (s1 s2 : Sl) (id : Int) (de : Bool) (rows press : Int) (s7 s8 : Sl) : Array Value := #[.int .i64 k, Sl.v s1, Sl.v s2, .int .i64 id, .bool de, .int .i64 rows, .int .i64 press, Sl.v s7, Sl.v s8]
theorem j82_c {bs : List Bf} {p lo b1 : Nat} {h0 h : Hp} {l : List UInt8} {k id rows press : Int} {s1 s2 s7 s8 : Sl} {de : Bool} {K : Sl → Int → HP} {Kp : PK} (hp : h0.size ≤ p) (g : Grw h0 h) (hs : RsH h0 s8 3 (bs.map bfRow)) (w : Wtr p lo h l)
    (k1 : Blk h b1 (vals9 k s1 s2 id de rows press s7 s8) 29) (nb : b1 ≠ p) (hl : l.length + (bfsEnc bs).length + 1010 ≤ 2 ^ 40) (hk : PutK h0 (l ++ (num bs.length 2 ++ bfsEnc bs)) K) : J8_2 ⟨b1, 0, none⟩ ⟨p, 0, none⟩ K Kp h := by
  have hn : s8.n = bs.length := by simpa using hs.1
  refine J8_2.of ?_
  unfold JT8_2
  rw [add_blk]
  refine Ld_blk k1 rfl ?_
  refine number_c w (by omega) (by omega) (by omega) fun h2 f2 w2 => ?_
  have k1 := f2.blk k1 (WX.not k1 nb (by decide))
  refine Ld_blk k1 rfl ?_
  refine bufL_c hp (WX.old hp w.lt g f2) hs w2 (by rw [List.length_append, num_len]; show _ + 2 + _ + _ ≤ _; omega) ?_
  rw [hn, List.append_assoc]; exact hk
theorem nodeL_c {ms : List Nd} {bs : List Bf} {p lo b1 : Nat} {h0 h : Hp} {l : List UInt8} {k id rows press : Int} {s1 s2 s7 s8 : Sl} {de : Bool} {K : Sl → Int → HP} {Kp : PK} (hp : h0.size ≤ p) (g : Grw h0 h) (hs : RsH h0 s7 2 (ms.map ndRow)) (ht : RsH h0 s8 3 (bs.map bfRow)) (w : Wtr p lo h l)
    (k1 : Blk h b1 (vals9 k s1 s2 id de rows press s7 s8) 29) (nb : b1 ≠ p) (hl : l.length + (ndsEnc ms).length + (bfsEnc bs).length + 1010 ≤ 2 ^ 40) (hk : PutK h0 (l ++ (ndsEnc ms ++ (num bs.length 2 ++ bfsEnc bs))) K) : L8_4 ⟨b1, 0, none⟩ ⟨p, 0, none⟩ s7 (s7.n : Int) K Kp 0 h := by
  have hn : s7.n = ms.length := by simpa using hs.1
  have hcl := ndsEnc_len ms
  refine L8_4.rule (fun x h' => ∃ i : Nat, ∃ l', x = (i : Int) ∧ i ≤ ms.length ∧ Tn (WX p lo h) h h' ∧ Wtr p lo h' l' ∧ Blk h' b1 (vals9 k s1 s2 id de rows press s7 s8) 29 ∧ l' ++ ndsEnc (ms.drop i) = l ++ ndsEnc ms) (fun x _ => ms.length - x.toNat) ⟨0, l, rfl, by omega, Tn.refl _ _, w, k1, by simp⟩ ?_
  rintro x h1 ⟨i, l', rfl, hi, f1, w1, k1, e1⟩ N1 hN
  unfold T8_4
  refine If_i (fun c => ?_) fun c => ?_
  · simp only [decide_eq_true_eq] at c
    have hi' : i < ms.length := by omega
    obtain ⟨a, ha, hc⟩ := hs.2.2 i (ndRow ms[i]) (by rw [List.getElem?_map, List.getElem?_eq_getElem hi']; rfl)
    have hdr : ms.drop i = ms[i] :: ms.drop (i + 1) := List.drop_eq_getElem_cons hi'
    generalize ms[i] = m at hc hdr
    have g1 := WX.old hp w.lt g f1
    have hc1 := hc.grw g1
    have c0 := hc1 0 _ rfl; have c1 := hc1 1 _ rfl
    rw [add_zero'] at c0
    rw [ha]
    refine ⟨by omega, by omega, ?_⟩
    rw [Int.toNat_natCast]
    refine ⟨_, c0, _, c1, ?_⟩
    rw [hdr] at e1
    have e2 : ndsEnc (m :: ms.drop (i + 1)) = num m.1 4 ++ (num m.2 4 ++ ndsEnc (ms.drop (i + 1))) := by simp [ndsEnc, ndEnc]
    rw [e2] at e1
    have hlen := congrArg List.length e1
    simp only [List.length_append, num_len] at hlen
    have e4 : (4 : Int).toNat = 4 := rfl
    have lc := SyH.start No h1
    refine lc.new fun b7 _ hb7 _ lc => ?_
    repeat (first | refine lc.ldo 0 rfl rfl ?_ | refine lc.ld 0 rfl rfl ?_ | refine lc.ldo 1 rfl rfl ?_ | refine lc.ld 1 rfl rfl ?_ | refine lc.ldo 2 rfl rfl ?_ | refine lc.ld 2 rfl rfl ?_ | refine lc.ldo 3 rfl rfl ?_ | refine lc.ld 3 rfl rfl ?_ | refine lc.ldo 4 rfl rfl ?_ | refine lc.ld 4 rfl rfl ?_ | refine lc.ldo 5 rfl rfl ?_ | refine lc.ld 5 rfl rfl ?_ | refine lc.ldo 6 rfl rfl ?_ | refine lc.ld 6 rfl rfl ?_ | (refine lc.sto 0 rfl rfl rfl fun _ _ lc => ?_; simp only [Nat.zero_add, List.set_cons_zero, List.set_cons_succ, List.setIfInBounds_toArray] at lc) | (refine lc.st 0 rfl rfl rfl fun _ _ lc => ?_; simp only [Nat.zero_add, List.set_cons_zero, List.set_cons_succ, List.setIfInBounds_toArray] at lc) | (refine lc.sto 1 rfl rfl rfl fun _ _ lc => ?_; simp only [Nat.zero_add, List.set_cons_zero, List.set_cons_succ, List.setIfInBounds_toArray] at lc) | (refine lc.st 1 rfl rfl rfl fun _ _ lc => ?_; simp only [Nat.zero_add, List.set_cons_zero, List.set_cons_succ, List.setIfInBounds_toArray] at lc) | (refine lc.sto 2 rfl rfl rfl fun _ _ lc => ?_; simp only [Nat.zero_add, List.set_cons_zero, List.set_cons_succ, List.setIfInBounds_toArray] at lc) | (refine lc.st 2 rfl rfl rfl fun _ _ lc => ?_; simp only [Nat.zero_add, List.set_cons_zero, List.set_cons_succ, List.setIfInBounds_toArray] at lc) | (refine lc.sto 3 rfl rfl rfl fun _ _ lc => ?_; simp only [Nat.zero_add, List.set_cons_zero, List.set_cons_succ, List.setIfInBounds_toArray] at lc) | (refine lc.st 3 rfl rfl rfl fun _ _ lc => ?_; simp only [Nat.zero_add, List.set_cons_zero, List.set_cons_succ, List.setIfInBounds_toArray] at lc) | (refine lc.sto 4 rfl rfl rfl fun _ _ lc => ?_; simp only [Nat.zero_add, List.set_cons_zero, List.set_cons_succ, List.setIfInBounds_toArray] at lc) | (refine lc.st 4 rfl rfl rfl fun _ _ lc => ?_; simp only [Nat.zero_add, List.set_cons_zero, List.set_cons_succ, List.setIfInBounds_toArray] at lc) | (refine lc.sto 5 rfl rfl rfl fun _ _ lc => ?_; simp only [Nat.zero_add, List.set_cons_zero, List.set_cons_succ, List.setIfInBounds_toArray] at lc) | (refine lc.st 5 rfl rfl rfl fun _ _ lc => ?_; simp only [Nat.zero_add, List.set_cons_zero, List.set_cons_succ, List.setIfInBounds_toArray] at lc) | (refine lc.sto 6 rfl rfl rfl fun _ _ lc => ?_; simp only [Nat.zero_add, List.set_cons_zero, List.set_cons_succ, List.setIfInBounds_toArray] at lc) | (refine lc.st 6 rfl rfl rfl fun _ _ lc => ?_; simp only [Nat.zero_add, List.set_cons_zero, List.set_cons_succ, List.setIfInBounds_toArray] at lc) | refine lc.ldo 0 (x := Sl.nil) rfl rfl ?_ | refine lc.ld 0 (x := Sl.nil) rfl rfl ?_ | refine lc.ldo 1 (x := Sl.nil) rfl rfl ?_ | refine lc.ld 1 (x := Sl.nil) rfl rfl ?_ | refine lc.ldo 2 (x := Sl.nil) rfl rfl ?_ | refine lc.ld 2 (x := Sl.nil) rfl rfl ?_ | refine lc.ldo 3 (x := Sl.nil) rfl rfl ?_ | refine lc.ld 3 (x := Sl.nil) rfl rfl ?_ | refine lc.ldo 4 (x := Sl.nil) rfl rfl ?_ | refine lc.ld 4 (x := Sl.nil) rfl rfl ?_ | refine lc.ldo 5 (x := Sl.nil) rfl rfl ?_ | refine lc.ld 5 (x := Sl.nil) rfl rfl ?_ | refine lc.ldo 6 (x := Sl.nil) rfl rfl ?_ | refine lc.ld 6 (x := Sl.nil) rfl rfl ?_ | refine Wr_i64 (by omega) (by omega) ?_ | refine If_t rfl ?_ | refine If_f rfl ?_)
    have k7 : Blk _ b7 #[.int .i64 m.1, .int .i64 m.2] 55 := lc.blk (i := 0) rfl
    have nb7 : b7 ≠ p := by have := w1.lt; have := w1.le; omega
    have k1 := k1.grw lc.grw
    refine number_c (w1.keep lc.grw) (by omega) (by omega) (by omega) fun h2 f2 w2 => ?_
    have k7 := f2.blk k7 (WX.not k7 nb7 (show (55 : Nat) ≠ 5 by decide))
    have k1 := f2.blk k1 (WX.not k1 nb (by decide))
    rw [add_blk]
    refine Ld_blk k7 rfl ?_
    refine number_c w2 (by omega) (by omega) (by rw [List.length_append, num_len]; omega) fun h3 f3 w3 => ?_
    have k1 := f3.blk k1 (WX.not k1 nb (by decide))
    refine Wr_i64 (by omega) (by omega) ?_
    refine hN _ _ ⟨i + 1, _, by simp, by omega, WX.trans f1 (WX.trans (WX.grw lc.grw f2) f3), w3, k1, ?_⟩ (by omega)
    rw [← e1]; simp only [e4, List.append_assoc]
  · simp only [decide_eq_false_iff_not] at c
    have : i = ms.length := by omega
    subst this
    rw [List.drop_length, ndsEnc, List.map_nil, List.flatten_nil, List.append_nil] at e1
    subst e1
    refine j82_c hp (WX.old hp w.lt g f1) ht w1 k1 nb (by rw [List.length_append]; omega) ?_
    rw [List.append_assoc]; exact hk
def tailEnc (rows press : Int) (ms : List Nd) (bs : List Bf) : List UInt8 := num rows 4 ++ (num press 1 ++ (num ms.length 2 ++ (ndsEnc ms ++ (num bs.length 2 ++ bfsEnc bs))))
theorem j81_c {ms : List Nd} {bs : List Bf} {p lo b1 : Nat} {h0 h : Hp} {l : List UInt8} {k id rows press : Int} {s1 s2 s7 s8 : Sl} {de : Bool} {K : Sl → Int → HP} {Kp : PK} (hp : h0.size ≤ p) (g : Grw h0 h) (hs : RsH h0 s7 2 (ms.map ndRow)) (ht : RsH h0 s8 3 (bs.map bfRow)) (w : Wtr p lo h l)
    (k1 : Blk h b1 (vals9 k s1 s2 id de rows press s7 s8) 29) (nb : b1 ≠ p) (hl : l.length + (tailEnc rows press ms bs).length + 1010 ≤ 2 ^ 40) (hk : PutK h0 (l ++ tailEnc rows press ms bs) K) : J8_1 ⟨b1, 0, none⟩ ⟨p, 0, none⟩ K Kp h := by
  simp only [tailEnc, List.length_append, num_len] at hl hk
  have hn : s7.n = ms.length := by simpa using hs.1
  refine J8_1.of ?_
  unfold JT8_1
  simp only [add_blk]
  refine Ld_blk k1 rfl ?_
  refine number_c w (by omega) (by omega) (by omega) fun h2 f2 w2 => ?_
  have k1 := f2.blk k1 (WX.not k1 nb (by decide))
  refine Ld_blk k1 rfl ?_
  refine number_c w2 (by omega) (by omega) (by rw [List.length_append, num_len]; show _ + 4 + _ ≤ _; omega) fun h3 f3 w3 => ?_
  have k1 := f3.blk k1 (WX.not k1 nb (by decide))
  refine Ld_blk k1 rfl ?_
  refine number_c w3 (by omega) (by omega) (by rw [List.length_append, List.length_append, num_len, num_len]; show _ + 4 + 1 + _ ≤ _; omega) fun h4 f4 w4 => ?_
  have k1 := f4.blk k1 (WX.not k1 nb (by decide))
  refine Ld_blk k1 rfl ?_
  refine nodeL_c hp (WX.old hp w.lt g (WX.trans (WX.trans f2 f3) f4)) hs ht w4 k1 nb (by simp only [List.length_append, num_len]; show _ + 4 + 1 + 2 + _ + _ + _ ≤ _; omega) ?_
  have e1 : (1 : Int).toNat = 1 := rfl
  have e2 : (2 : Int).toNat = 2 := rfl
  have e4 : (4 : Int).toNat = 4 := rfl
  rw [hn]
  simpa only [e1, e2, e4, List.append_assoc] using hk
end Go.Proofs.YtfomkkdijjfpiaaDoor
/- Put: the whole, but for the question whether the head may be. -/
namespace Go.Proofs.YtfomkkdijjfpiaaDoor
open Go Go.Sh
/-- a head -/
structure Hd where
  k : Int
  fs : List Fld
  ms : List Md
  id : Int
  de : Bool
  rows : Int
  press : Int
  nodes : List Nd
  bufs : List Bf
/-- the lists of a head stand at these slices -/
structure HdH (h : Hp) (H : Hd) (s1 s2 s7 s8 : Sl) : Prop where
  fs : FsH h s1 H.fs
  ms : RsH h s2 2 (H.ms.map mdRow)
  nodes : RsH h s7 2 (H.nodes.map ndRow)
  bufs : RsH h s8 3 (H.bufs.map bfRow)
def Hd.enc (H : Hd) : List UInt8 := num H.k 1 ++ (num 1 1 ++ (num 0 2 ++
  (if H.k = 1 then schemaEnc H.fs H.ms else (if H.k = 2 then num H.id 2 ++ num (if H.de then 1 else 0) 1 else []) ++ tailEnc H.rows H.press H.nodes H.bufs)))
/-- the package's table of kinds: which may be an index -/
def KTab (h : Hp) : Prop := ∀ i : Nat, i < 21 → cell h ⟨0, i * 4 + 3, none⟩ = some (.bool (decide (3 ≤ i ∧ i ≤ 10)))
theorem KTab.grw {h h' : Hp} (t : KTab h) (g : Grw h h') : KTab h' := fun i hi => g.cell (t i hi)
/-- the question whether a head may be, as the package asks it -/
def MayC (H : Hd) (m : Bool) : Prop := ∀ {h0 h : Hp} {s1 s2 s7 s8 : Sl} {K : Bool → HP} {Kp : PK}, KTab h0 → Grw h0 h → HdH h0 H s1 s2 s7 s8 → (∀ h', Grw h h' → K m h') → Fn21 H.k s1 s2 H.id H.de H.rows H.press s7 s8 h K Kp
theorem put_c {H : Hd} {m : Bool} (hm : MayC H m) {h : Hp} {s1 s2 s7 s8 : Sl} {K : Sl → Int → HP} {Kp : PK} (htab : KTab h) (hh : HdH h H s1 s2 s7 s8) (hl : m = true → H.enc.length + 2000 ≤ 2 ^ 40)
    (hf : m = false → ∀ h', Grw h h' → K Sl.nil 50 h') (ht : m = true → PutK h H.enc K) : Fn8 H.k s1 s2 H.id H.de H.rows H.press s7 s8 h K Kp := by
  obtain ⟨k, fs, ms, id, de, rows, press, nodes, bufs⟩ := H
  simp only at hh hf ht ⊢
  refine Fn8.of ?_
  unfold S8
  refine New_i fun b1 h1 e1 g1 k1 _ => ?_
  simp only [add_blk]
  refine Ld_blk k1 rfl (Ld_blk k1 rfl (Ld_blk k1 rfl (Ld_blk k1 rfl (Ld_blk k1 rfl (Ld_blk k1 rfl (Ld_blk k1 rfl (Ld_blk k1 rfl (Ld_blk k1 rfl ?_))))))))
  refine hm htab g1 hh fun h2 g2 => ?_
  have k1 := k1.grw g2
  cases m
  · exact If_t rfl (hf rfl h2 (Grw.trans g1 g2))
  · refine If_f rfl (New_i fun p h3 ep g3 kp e3 => ?_)
    have k1' : Blk h3 b1 (vals9 k s1 s2 id de rows press s7 s8) 29 := k1.grw g3
    clear k1
    have hb1 := k1'.lt
    have G3 : Grw h h3 := Grw.trans (Grw.trans g1 g2) g3
    have nb : b1 ≠ p := by
      rintro rfl
      have e := k1'.symm.trans kp
      simp [vals9] at e
    have hp : h.size ≤ p := by rw [ep]; exact (Grw.trans g1 g2).1
    have w : Wtr p (p + 1) h3 [] := ⟨⟨Sl.nil, kp, Sh.nil _ _ _ _ _⟩, Nat.lt_succ_self _, by omega⟩
    have F := fun {h'} (f : Tn (WX p (p + 1) h3) h3 h') => WX.old hp w.lt G3 f
    refine Ld_blk k1' rfl ?_
    refine number_c w (by omega) (by omega) (by simp only [List.length_nil]; omega) fun h4 f4 w4 => ?_
    refine number_c w4 (by omega) (by omega) (by simp only [List.length_append, num_len, List.length_nil]; omega) fun h5 f5 w5 => ?_
    refine number_c w5 (by omega) (by omega) (by simp only [List.length_append, num_len, List.length_nil]; omega) fun h6 f6 w6 => ?_
    have f6 := WX.trans (WX.trans f4 f5) f6
    have k6 := f6.blk k1' (WX.not k1' nb (show (29 : Nat) ≠ 5 by decide))
    have hT := ht rfl
    have hl := hl rfl
    clear ht hf
    have e1 : (1 : Int).toNat = 1 := rfl
    have e2 : (2 : Int).toNat = 2 := rfl
    simp only [Hd.enc, List.length_append, num_len] at hl hT
    simp only [e1, e2, List.nil_append, List.append_assoc] at w6
    refine Ld_blk k6 rfl ?_
    refine If_i (fun c => ?_) fun c => ?_
    · simp only [beq_iff_eq] at c
      rw [if_pos c] at hl hT
      refine Ld_blk k6 rfl (Ld_blk k6 rfl ?_)
      refine schema_c hp (F f6) hh.fs hh.ms w6 (by simp only [List.length_append, num_len]; omega) fun h7 f7 w7 => ?_
      obtain ⟨t, kt, ot⟩ := w7.ex
      refine Ld_blk kt rfl ?_
      refine hT t h7 (F (WX.trans f6 f7)) ?_
      have ot := ot.wide (lo' := h.size) (hi' := h7.size) (by omega) (Nat.le_refl _)
      simpa only [List.append_assoc] using ot
    · simp only [beq_eq_false_iff_ne, ne_eq] at c
      rw [if_neg c] at hl hT
      refine Ld_blk k6 rfl ?_
      refine If_i (fun c2 => ?_) fun c2 => ?_
      · simp only [beq_iff_eq] at c2
        rw [if_pos c2] at hl hT
        try simp only [List.length_append, num_len] at hl
        refine Ld_blk k6 rfl ?_
        refine number_c w6 (by omega) (by omega) (by simp only [List.length_append, num_len]; omega) fun h7 f7 w7 => ?_
        have k7 := f7.blk k6 (WX.not k6 nb (show (29 : Nat) ≠ 5 by decide))
        refine Ld_blk k7 rfl ?_
        refine flag_c w7 (by simp only [List.length_append, num_len]; show _ + 2 + _ ≤ _; omega) fun h8 f8 w8 => ?_
        have k8 := f8.blk k7 (WX.not k7 nb (show (29 : Nat) ≠ 5 by decide))
        refine j81_c hp (F (WX.trans (WX.trans f6 f7) f8)) hh.nodes hh.bufs w8 k8 nb (by simp only [List.length_append, num_len]; show _ + 2 + 1 + _ + _ ≤ _; omega) ?_
        simpa only [e2, List.append_assoc] using hT
      · simp only [beq_eq_false_iff_ne, ne_eq] at c2
        rw [if_neg c2] at hl hT
        try simp only [List.length_nil, List.nil_append] at hl
        refine j81_c hp (F f6) hh.nodes hh.bufs w6 k6 nb (by simp only [List.length_append, num_len]; omega) ?_
        simpa only [List.nil_append, List.append_assoc] using hT
end Go.Proofs.YtfomkkdijjfpiaaDoor
/- The document's Put: buffers and nodes. -/
namespace Go.Proofs.YtfomkkdijjfpiaaDoor
open Go Go.Sh
def Nd.nn (x : Nd) : Prop := i63 x.1 ∧ i63 x.2
def Bf.nn (x : Bf) : Prop := i63 x.1 ∧ i63 x.2.1 ∧ i63 x.2.2
abbrev B9 (h : Hp) (b1 : Nat) (k : Int) (s1 s2 : Sl) (id : Int) (de : Bool) (rows press : Int) (s7 s8 : Sl) : Prop := Blk h b1 (vals9 k s1 s2 id de rows press s7 s8) 29
theorem rbufL_c {ms : List Bf} (hnn : ∀ x ∈ ms, Bf.nn x) {lo b1 : Nat} {h0 h : Hp} {l : List UInt8} {k id rows press : Int} {s1 s2 s7 s8 b : Sl} {de : Bool} {K : Sl → Int → HP} {Kp : PK} (hp : h0.size ≤ lo) (g : Grw h0 h) (hs : RsH h0 s8 3 (ms.map bfRow)) (w : Rb lo h b l)
    (k1 : B9 h b1 k s1 s2 id de rows press s7 s8) (hl : l.length + (bfsEnc ms).length + 1000 ≤ 2 ^ 40) (hk : PutK h0 (l ++ bfsEnc ms) K) : L9_4 ⟨b1, 0, none⟩ K Kp b 0 h := by
  have hn : s8.n = ms.length := by simpa using hs.1
  have hcl := bfsEnc_len ms
  refine L9_4.rule (fun t x h' => ∃ i : Nat, ∃ l', x = (i : Int) ∧ i ≤ ms.length ∧ Tn (RX lo h) h h' ∧ Rb lo h' t l' ∧ B9 h' b1 k s1 s2 id de rows press s7 s8 ∧ l' ++ bfsEnc (ms.drop i) = l ++ bfsEnc ms) (fun _ x _ => ms.length - x.toNat) ⟨0, l, rfl, by omega, Tn.refl _ _, w, k1, by simp⟩ ?_
  rintro t x h1 ⟨i, l', rfl, hi, f1, w1, k1, e1⟩ N1 hN
  unfold T9_4
  simp only [add_blk]
  refine Ld_blk k1 rfl ?_
  refine If_i (fun c => ?_) fun c => ?_
  · refine Ld_blk k1 rfl ?_
    simp only [decide_eq_true_eq] at c
    have hi' : i < ms.length := by omega
    obtain ⟨a, ha, hc⟩ := hs.2.2 i (bfRow ms[i]) (by rw [List.getElem?_map, List.getElem?_eq_getElem hi']; rfl)
    have hdr : ms.drop i = ms[i] :: ms.drop (i + 1) := List.drop_eq_getElem_cons hi'
    have hx := hnn ms[i] (List.getElem_mem hi')
    generalize ms[i] = m at hc hdr hx
    obtain ⟨n1, n2, n3⟩ := hx
    have g1 := RX.old hp g f1
    have c0 := (hc.grw g1) 0 _ rfl
    rw [add_zero'] at c0
    rw [hdr] at e1
    have e2 : bfsEnc (m :: ms.drop (i + 1)) = num m.1 4 ++ (num m.2.1 4 ++ (num m.2.2 4 ++ bfsEnc (ms.drop (i + 1)))) := by simp [bfsEnc, bfEnc]
    rw [e2] at e1
    have hlen := congrArg List.length e1
    simp only [List.length_append, num_len] at hlen
    have e4 : (4 : Int).toNat = 4 := rfl
    rw [ha]
    refine ⟨by omega, by omega, ?_⟩
    rw [Int.toNat_natCast]
    refine ⟨_, c0, ?_⟩
    refine rnumber_c w1 n1.1 n1.2 (by omega) (by omega) (by omega) fun t2 h2 f2 w2 => ?_
    have k1 := f2.blk k1 (RX.not k1 (by decide))
    have c1 := (hc.grw (RX.old hp g (RX.trans f1 f2))) 1 _ rfl
    refine Ld_blk k1 rfl ?_
    rw [ha]
    refine ⟨by omega, by omega, ?_⟩
    rw [Int.toNat_natCast]
    refine ⟨_, c1, ?_⟩
    refine rnumber_c w2 n2.1 n2.2 (by omega) (by omega) (by rw [List.length_append, num_len]; omega) fun t3 h3 f3 w3 => ?_
    have k1 := f3.blk k1 (RX.not k1 (by decide))
    have c2 := (hc.grw (RX.old hp g (RX.trans (RX.trans f1 f2) f3))) 2 _ rfl
    refine Ld_blk k1 rfl ?_
    rw [ha]
    refine ⟨by omega, by omega, ?_⟩
    rw [Int.toNat_natCast]
    refine ⟨_, c2, ?_⟩
    refine rnumber_c w3 n3.1 n3.2 (by omega) (by omega) (by rw [List.length_append, List.length_append, num_len, num_len]; omega) fun t4 h4 f4 w4 => ?_
    have k1 := f4.blk k1 (RX.not k1 (by decide))
    refine Wr_i64 (by omega) (by omega) ?_
    refine hN _ _ _ ⟨i + 1, _, by simp, by omega, RX.trans (RX.trans (RX.trans f1 f2) f3) f4, w4, k1, ?_⟩ (by omega)
    rw [← e1]; simp only [e4, List.append_assoc]
  · simp only [decide_eq_false_iff_not] at c
    have : i = ms.length := by omega
    subst this
    rw [List.drop_length, bfsEnc, List.map_nil, List.flatten_nil, List.append_nil] at e1
    subst e1
    exact hk t h1 (RX.old hp g f1) (w1.sh.wide hp (Nat.le_refl _))
theorem r93_c {bs : List Bf} (hnn : ∀ x ∈ bs, Bf.nn x) {lo b1 : Nat} {h0 h : Hp} {l : List UInt8} {k id rows press : Int} {s1 s2 s7 s8 b : Sl} {de : Bool} {K : Sl → Int → HP} {Kp : PK} (hp : h0.size ≤ lo) (g : Grw h0 h) (hs : RsH h0 s8 3 (bs.map bfRow)) (w : Rb lo h b l)
    (k1 : B9 h b1 k s1 s2 id de rows press s7 s8) (hl : l.length + (bfsEnc bs).length + 1010 ≤ 2 ^ 40) (hk : PutK h0 (l ++ (num bs.length 2 ++ bfsEnc bs)) K) : J9_3 ⟨b1, 0, none⟩ b K Kp h := by
  have hn : s8.n = bs.length := by simpa using hs.1
  have hcl := bfsEnc_len bs
  refine J9_3.of ?_
  unfold JT9_3
  rw [add_blk]
  refine Ld_blk k1 rfl ?_
  refine rnumber_c w (by omega) (by omega) (by omega) (by omega) (by omega) fun t2 h2 f2 w2 => ?_
  have k1 := f2.blk k1 (RX.not k1 (by decide))
  refine rbufL_c hnn hp (RX.old hp g f2) hs w2 k1 (by rw [List.length_append, num_len]; show _ + 2 + _ + _ ≤ _; omega) ?_
  rw [hn, List.append_assoc]; exact hk
theorem rnodeL_c {ms : List Nd} {bs : List Bf} (hnm : ∀ x ∈ ms, Nd.nn x) (hnn : ∀ x ∈ bs, Bf.nn x) {lo b1 : Nat} {h0 h : Hp} {l : List UInt8} {k id rows press : Int} {s1 s2 s7 s8 b : Sl} {de : Bool} {K : Sl → Int → HP} {Kp : PK} (hp : h0.size ≤ lo) (g : Grw h0 h) (hs : RsH h0 s7 2 (ms.map ndRow)) (ht : RsH h0 s8 3 (bs.map bfRow)) (w : Rb lo h b l)
    (k1 : B9 h b1 k s1 s2 id de rows press s7 s8) (hl : l.length + (ndsEnc ms).length + (bfsEnc bs).length + 1010 ≤ 2 ^ 40) (hk : PutK h0 (l ++ (ndsEnc ms ++ (num bs.length 2 ++ bfsEnc bs))) K) : L9_5 ⟨b1, 0, none⟩ K Kp b 0 h := by
  have hn : s7.n = ms.length := by simpa using hs.1
  have hcl := ndsEnc_len ms
  refine L9_5.rule (fun t x h' => ∃ i : Nat, ∃ l', x = (i : Int) ∧ i ≤ ms.length ∧ Tn (RX lo h) h h' ∧ Rb lo h' t l' ∧ B9 h' b1 k s1 s2 id de rows press s7 s8 ∧ l' ++ ndsEnc (ms.drop i) = l ++ ndsEnc ms) (fun _ x _ => ms.length - x.toNat) ⟨0, l, rfl, by omega, Tn.refl _ _, w, k1, by simp⟩ ?_
  rintro t x h1 ⟨i, l', rfl, hi, f1, w1, k1, e1⟩ N1 hN
  unfold T9_5
  simp only [add_blk]
  refine Ld_blk k1 rfl ?_
  refine If_i (fun c => ?_) fun c => ?_
  · refine Ld_blk k1 rfl ?_
    simp only [decide_eq_true_eq] at c
    have hi' : i < ms.length := by omega
    obtain ⟨a, ha, hc⟩ := hs.2.2 i (ndRow ms[i]) (by rw [List.getElem?_map, List.getElem?_eq_getElem hi']; rfl)
    have hdr : ms.drop i = ms[i] :: ms.drop (i + 1) := List.drop_eq_getElem_cons hi'
    have hx := hnm ms[i] (List.getElem_mem hi')
    generalize ms[i] = m at hc hdr hx
    obtain ⟨n1, n2⟩ := hx
    have c0 := (hc.grw (RX.old hp g f1)) 0 _ rfl
    rw [add_zero'] at c0
    rw [hdr] at e1
    have e2 : ndsEnc (m :: ms.drop (i + 1)) = num m.1 4 ++ (num m.2 4 ++ ndsEnc (ms.drop (i + 1))) := by simp [ndsEnc, ndEnc]
    rw [e2] at e1
    have hlen := congrArg List.length e1
    simp only [List.length_append, num_len] at hlen
    have e4 : (4 : Int).toNat = 4 := rfl
    rw [ha]
    refine ⟨by omega, by omega, ?_⟩
    rw [Int.toNat_natCast]
    refine ⟨_, c0, ?_⟩
    refine rnumber_c w1 n1.1 n1.2 (by omega) (by omega) (by omega) fun t2 h2 f2 w2 => ?_
    have k1 := f2.blk k1 (RX.not k1 (by decide))
    have c1 := (hc.grw (RX.old hp g (RX.trans f1 f2))) 1 _ rfl
    refine Ld_blk k1 rfl ?_
    rw [ha]
    refine ⟨by omega, by omega, ?_⟩
    rw [Int.toNat_natCast]
    refine ⟨_, c1, ?_⟩
    refine rnumber_c w2 n2.1 n2.2 (by omega) (by omega) (by rw [List.length_append, num_len]; omega) fun t3 h3 f3 w3 => ?_
    have k1 := f3.blk k1 (RX.not k1 (by decide))
    refine Wr_i64 (by omega) (by omega) ?_
    refine hN _ _ _ ⟨i + 1, _, by simp, by omega, RX.trans (RX.trans f1 f2) f3, w3, k1, ?_⟩ (by omega)
    rw [← e1]; simp only [e4, List.append_assoc]
  · simp only [decide_eq_false_iff_not] at c
    have : i = ms.length := by omega
    subst this
    rw [List.drop_length, ndsEnc, List.map_nil, List.flatten_nil, List.append_nil] at e1
    subst e1
    refine r93_c hnn hp (RX.old hp g f1) ht w1 k1 (by rw [List.length_append]; omega) ?_
    rw [List.append_assoc]; exact hk
end Go.Proofs.YtfomkkdijjfpiaaDoor
/- The document's Put: notes, fields, the tail, the whole. -/
namespace Go.Proofs.YtfomkkdijjfpiaaDoor
open Go Go.Sh
theorem rmdL_c {ms : List Md} {lo b1 : Nat} {h0 h : Hp} {l : List UInt8} {k id rows press : Int} {s1 s2 s7 s8 b : Sl} {de : Bool} {K : Sl → Int → HP} {Kp : PK} (hp : h0.size ≤ lo) (g : Grw h0 h) (hs : RsH h0 s2 2 (ms.map mdRow)) (w : Rb lo h b l)
    (k1 : B9 h b1 k s1 s2 id de rows press s7 s8) (hl : l.length + (mdsEnc ms).length + 1000 ≤ 2 ^ 40) (hk : PutK h0 (l ++ mdsEnc ms) K) : L9_7 ⟨b1, 0, none⟩ K Kp b 0 h := by
  have hn : s2.n = ms.length := by simpa using hs.1
  have hcl := mdsEnc_len ms
  refine L9_7.rule (fun t x h' => ∃ i : Nat, ∃ l', x = (i : Int) ∧ i ≤ ms.length ∧ Tn (RX lo h) h h' ∧ Rb lo h' t l' ∧ B9 h' b1 k s1 s2 id de rows press s7 s8 ∧ l' ++ mdsEnc (ms.drop i) = l ++ mdsEnc ms) (fun _ x _ => ms.length - x.toNat) ⟨0, l, rfl, by omega, Tn.refl _ _, w, k1, by simp⟩ ?_
  rintro t x h1 ⟨i, l', rfl, hi, f1, w1, k1, e1⟩ N1 hN
  unfold T9_7
  simp only [add_blk]
  refine Ld_blk k1 rfl ?_
  refine If_i (fun c => ?_) fun c => ?_
  · refine Ld_blk k1 rfl ?_
    simp only [decide_eq_true_eq] at c
    have hi' : i < ms.length := by omega
    obtain ⟨a, ha, hc⟩ := hs.2.2 i (mdRow ms[i]) (by rw [List.getElem?_map, List.getElem?_eq_getElem hi']; rfl)
    have hdr : ms.drop i = ms[i] :: ms.drop (i + 1) := List.drop_eq_getElem_cons hi'
    generalize ms[i] = m at hc hdr
    have c0 := (hc.grw (RX.old hp g f1)) 0 _ rfl
    rw [add_zero'] at c0
    rw [hdr] at e1
    have e2 : mdsEnc (m :: ms.drop (i + 1)) = (num m.1.size 2 ++ m.1.data.toList) ++ ((num m.2.size 2 ++ m.2.data.toList) ++ mdsEnc (ms.drop (i + 1))) := by simp [mdsEnc, mdEnc, text2]
    rw [e2] at e1
    have hlen := congrArg List.length e1
    simp only [List.length_append, num_len] at hlen
    have hz1 : m.1.data.toList.length = m.1.size := rfl
    have hz2 : m.2.data.toList.length = m.2.size := rfl
    have e4 : (2 : Int).toNat = 2 := rfl
    rw [ha]
    refine ⟨by omega, by omega, ?_⟩
    rw [Int.toNat_natCast]
    refine ⟨_, c0, ?_⟩
    refine rtext_c w1 (by omega) (by omega) (by omega) fun t2 h2 f2 w2 => ?_
    have k1 := f2.blk k1 (RX.not k1 (by decide))
    have c1 := (hc.grw (RX.old hp g (RX.trans f1 f2))) 1 _ rfl
    refine Ld_blk k1 rfl ?_
    rw [ha]
    refine ⟨by omega, by omega, ?_⟩
    rw [Int.toNat_natCast]
    refine ⟨_, c1, ?_⟩
    refine rtext_c w2 (by omega) (by omega) (by simp only [List.length_append, num_len]; show _ + (2 + _) + _ + _ ≤ _; omega) fun t3 h3 f3 w3 => ?_
    have k1 := f3.blk k1 (RX.not k1 (by decide))
    refine Wr_i64 (by omega) (by omega) ?_
    refine hN _ _ _ ⟨i + 1, _, by simp, by omega, RX.trans (RX.trans f1 f2) f3, w3, k1, ?_⟩ (by omega)
    rw [← e1]; simp only [e4, List.append_assoc]
  · simp only [decide_eq_false_iff_not] at c
    have : i = ms.length := by omega
    subst this
    rw [List.drop_length, mdsEnc, List.map_nil, List.flatten_nil, List.append_nil] at e1
    subst e1
    exact hk t h1 (RX.old hp g f1) (w1.sh.wide hp (Nat.le_refl _))
theorem rfldL_c {cs : List Fld} {ms : List Md} (hnn : nns cs) {lo b1 : Nat} {h0 h : Hp} {l : List UInt8} {k id rows press : Int} {s1 s2 s7 s8 b : Sl} {de : Bool} {K : Sl → Int → HP} {Kp : PK} (hp : h0.size ≤ lo) (g : Grw h0 h) (hs : FsH h0 s1 cs) (hm : RsH h0 s2 2 (ms.map mdRow)) (w : Rb lo h b l)
    (k1 : B9 h b1 k s1 s2 id de rows press s7 s8) (hl : l.length + (encs cs).length + (mdsEnc ms).length + 1010 ≤ 2 ^ 40) (hk : PutK h0 (l ++ (encs cs ++ (num ms.length 2 ++ mdsEnc ms))) K) : L9_8 ⟨b1, 0, none⟩ K Kp b 0 h := by
  have hn := hs.n
  have hcl := encs_len cs
  have hcm := mdsEnc_len ms
  have hnm : s2.n = ms.length := by simpa using hm.1
  refine L9_8.rule (fun t x h' => ∃ i : Nat, ∃ l', x = (i : Int) ∧ i ≤ cs.length ∧ Tn (RX lo h) h h' ∧ Rb lo h' t l' ∧ B9 h' b1 k s1 s2 id de rows press s7 s8 ∧ l' ++ encs (cs.drop i) = l ++ encs cs) (fun _ x _ => cs.length - x.toNat) ⟨0, l, rfl, by omega, Tn.refl _ _, w, k1, by simp⟩ ?_
  rintro t x h1 ⟨i, l', rfl, hi, f1, w1, k1, e1⟩ N1 hN
  unfold T9_8
  simp only [add_blk]
  refine Ld_blk k1 rfl ?_
  refine If_i (fun c => ?_) fun c => ?_
  · refine Ld_blk k1 rfl ?_
    simp only [decide_eq_true_eq] at c
    have hi' : i < cs.length := by omega
    have hj : cs[i]? = some cs[i] := List.getElem?_eq_getElem hi'
    obtain ⟨a, ha, hf⟩ := hs.get hj
    have hmem : cs[i] ∈ cs := List.getElem_mem hi'
    have hdr : cs.drop i = cs[i] :: cs.drop (i + 1) := List.drop_eq_getElem_cons hi'
    generalize cs[i] = f at hj hf hmem hdr
    have hfn := hnn.get f hmem
    have IH := rfield_c f
    obtain ⟨n, nul, k, wd, id, ix, ds⟩ := f
    unfold FldH at hf
    obtain ⟨u, hc, hu⟩ := hf
    have g1 := RX.old hp g f1
    have hc1 := hc.grw g1
    have c0 := hc1 0 _ rfl; have c1 := hc1 1 _ rfl; have c2 := hc1 2 _ rfl; have c3 := hc1 3 _ rfl; have c4 := hc1 4 _ rfl; have c5 := hc1 5 _ rfl; have c6 := hc1 6 _ rfl
    rw [add_zero'] at c0
    rw [ha]
    refine ⟨by omega, by omega, ?_⟩
    rw [Int.toNat_natCast]
    refine ⟨_, c0, _, c1, _, c2, _, c3, _, c4, _, c5, _, c6, ?_⟩
    rw [hdr, encs] at e1
    have hlen := congrArg List.length e1
    simp only [List.length_append] at hlen
    refine IH hp g1 hu hfn w1 (by omega) fun b2 h2 f2 w2 => ?_
    refine Wr_i64 (by omega) (by omega) ?_
    refine hN _ _ _ ⟨i + 1, _, by simp, by omega, RX.trans f1 f2, w2, f2.blk k1 (RX.not k1 (show (29 : Nat) ≠ 5 by decide)), ?_⟩ (by omega)
    rw [← e1, List.append_assoc]
  · simp only [decide_eq_false_iff_not] at c
    have : i = cs.length := by omega
    subst this
    rw [List.drop_length, encs, List.append_nil] at e1
    subst e1
    refine J9_6.of ?_
    unfold JT9_6
    simp only [add_blk]
    refine Ld_blk k1 rfl ?_
    refine rnumber_c w1 (by omega) (by omega) (by omega) (by omega) (by rw [List.length_append]; omega) fun t2 h2 f2 w2 => ?_
    have k1 := f2.blk k1 (RX.not k1 (show (29 : Nat) ≠ 5 by decide))
    refine rmdL_c hp (RX.old hp g (RX.trans f1 f2)) hm w2 k1 (by simp only [List.length_append, num_len]; show _ + _ + 2 + _ + _ ≤ _; omega) ?_
    have e2 : (2 : Int).toNat = 2 := rfl
    rw [hnm]; simpa only [e2, List.append_assoc] using hk
theorem r92_c {ms : List Nd} {bs : List Bf} (hnm : ∀ x ∈ ms, Nd.nn x) (hnn : ∀ x ∈ bs, Bf.nn x) {lo b1 : Nat} {h0 h : Hp} {l : List UInt8} {k id rows press : Int} {s1 s2 s7 s8 b : Sl} {de : Bool} {K : Sl → Int → HP} {Kp : PK} (hr : i63 rows) (hpr : i63 press) (hp : h0.size ≤ lo) (g : Grw h0 h) (hs : RsH h0 s7 2 (ms.map ndRow)) (ht : RsH h0 s8 3 (bs.map bfRow)) (w : Rb lo h b l)
    (k1 : B9 h b1 k s1 s2 id de rows press s7 s8) (hl : l.length + (tailEnc rows press ms bs).length + 1010 ≤ 2 ^ 40) (hk : PutK h0 (l ++ tailEnc rows press ms bs) K) : J9_2 ⟨b1, 0, none⟩ b K Kp h := by
  simp only [tailEnc, List.length_append, num_len] at hl hk
  have hn : s7.n = ms.length := by simpa using hs.1
  have hcl := ndsEnc_len ms
  refine J9_2.of ?_
  unfold JT9_2
  simp only [add_blk]
  refine Ld_blk k1 rfl ?_
  refine rnumber_c w hr.1 hr.2 (by omega) (by omega) (by omega) fun t2 h2 f2 w2 => ?_
  have k1 := f2.blk k1 (RX.not k1 (by decide))
  refine Ld_blk k1 rfl ?_
  refine rnumber_c w2 hpr.1 hpr.2 (by omega) (by omega) (by rw [List.length_append, num_len]; show _ + 4 + _ ≤ _; omega) fun t3 h3 f3 w3 => ?_
  have k1 := f3.blk k1 (RX.not k1 (by decide))
  refine Ld_blk k1 rfl ?_
  refine rnumber_c w3 (by omega) (by omega) (by omega) (by omega) (by rw [List.length_append, List.length_append, num_len, num_len]; show _ + 4 + 1 + _ ≤ _; omega) fun t4 h4 f4 w4 => ?_
  have k1 := f4.blk k1 (RX.not k1 (by decide))
  refine rnodeL_c hnm hnn hp (RX.old hp g (RX.trans (RX.trans f2 f3) f4)) hs ht w4 k1 (by simp only [List.length_append, num_len]; show _ + 4 + 1 + 2 + _ + _ + _ ≤ _; omega) ?_
  have e1 : (1 : Int).toNat = 1 := rfl
  have e2 : (2 : Int).toNat = 2 := rfl
  have e4 : (4 : Int).toNat = 4 := rfl
  rw [hn]
  simpa only [e1, e2, e4, List.append_assoc] using hk
/-- no number of a head is negative -/
structure Hd.nn (H : Hd) : Prop where
  fs : nns H.fs
  id : i63 H.id
  rows : i63 H.rows
  press : i63 H.press
  nodes : ∀ x ∈ H.nodes, Nd.nn x
  bufs : ∀ x ∈ H.bufs, Bf.nn x
/-- the question whether a head may be, as the document asks it -/
def RMayC (H : Hd) (m : Bool) : Prop := ∀ {h0 h : Hp} {s1 s2 s7 s8 : Sl} {K : Bool → HP} {Kp : PK}, Grw h0 h → HdH h0 H s1 s2 s7 s8 → (∀ h', Grw h h' → K m h') → Fn16 H.k s1 s2 H.id H.de H.rows H.press s7 s8 h K Kp
theorem rput_c {H : Hd} {m : Bool} (hm : RMayC H m) {h : Hp} {s1 s2 s7 s8 : Sl} {K : Sl → Int → HP} {Kp : PK} (hh : HdH h H s1 s2 s7 s8) (hnn : m = true → H.nn) (hl : m = true → H.enc.length + 2000 ≤ 2 ^ 40)
    (hf : m = false → ∀ h', Grw h h' → K Sl.nil 50 h') (ht : m = true → PutK h H.enc K) : Fn9 H.k s1 s2 H.id H.de H.rows H.press s7 s8 h K Kp := by
  obtain ⟨k, fs, ms, id, de, rows, press, nodes, bufs⟩ := H
  simp only at hh hf ht ⊢
  refine Fn9.of ?_
  unfold S9
  refine New_i fun b1 h1 e1 g1 k1 _ => ?_
  simp only [add_blk]
  refine Ld_blk k1 rfl (Ld_blk k1 rfl (Ld_blk k1 rfl (Ld_blk k1 rfl (Ld_blk k1 rfl (Ld_blk k1 rfl (Ld_blk k1 rfl (Ld_blk k1 rfl (Ld_blk k1 rfl ?_))))))))
  refine hm g1 hh fun h2 g2 => ?_
  have k1 := k1.grw g2
  cases m
  · exact If_t rfl (hf rfl h2 (Grw.trans g1 g2))
  · obtain ⟨n1, n2, n3, n4, n5, n6⟩ := hnn rfl
    simp only at n1 n2 n3 n4 n5 n6
    refine If_f rfl (Ld_blk k1 rfl (Wr_any (New_i fun p h3 ep g3 kp e3 => ?_)))
    have k1' : Blk h3 b1 (vals9 k s1 s2 id de rows press s7 s8) 29 := k1.grw g3
    clear k1
    have G2 := Grw.trans g1 g2
    have G3 : Grw h h3 := Grw.trans G2 g3
    have hp : h.size ≤ p := by rw [ep]; exact G2.1
    have w : Rb p h3 ⟨some ⟨p, 0, none⟩, 4, 4⟩ (num k 1 ++ (num 1 1 ++ num 0 2)) := by
      refine ⟨.inr ⟨p, Nat.le_refl _, by omega, rfl, rfl, _, kp, Nat.le_refl _, rfl, fun i hi => ?_⟩, by omega⟩
      have e : bv (num k 1 ++ (num 1 1 ++ num 0 2)) = [.int .u8 (IntKind.u8.wrap k), .int .u8 1, .int .u8 0, .int .u8 0] := by rw [b8_v]; rfl
      rw [e, List.getElem?_toArray]
    have F := fun {h'} (f : Tn (RX p h3) h3 h') => RX.old hp G3 f
    refine Ld_blk k1' rfl ?_
    have hT := ht rfl
    have hl := hl rfl
    have hss : s1.n = fs.length ∧ s1.n ≤ s1.c := hh.fs.n
    have hcl := encs_len fs
    clear ht hf
    have e1 : (1 : Int).toNat = 1 := rfl
    have e2 : (2 : Int).toNat = 2 := rfl
    simp only [Hd.enc, List.length_append, num_len] at hl hT
    refine If_i (fun c => ?_) fun c => ?_
    · simp only [beq_iff_eq] at c
      rw [if_pos c] at hl hT
      simp only [schemaEnc, List.length_append, num_len] at hl hT
      refine Ld_blk k1' rfl ?_
      refine rnumber_c w (by omega) (by omega) (by omega) (by omega) (by simp only [List.length_append, num_len]; omega) fun t4 h4 f4 w4 => ?_
      have k4 := f4.blk k1' (RX.not k1' (show (29 : Nat) ≠ 5 by decide))
      refine rfldL_c n1 hp (F f4) hh.fs hh.ms w4 k4 (by simp only [List.length_append, num_len]; show 1 + (1 + 2) + 2 + _ + _ + _ ≤ _; omega) ?_
      rw [hss.1]; simp only [e2]
      simpa only [List.append_assoc] using hT
    · simp only [beq_eq_false_iff_ne, ne_eq] at c
      rw [if_neg c] at hl hT
      refine J9_1.of ?_
      unfold JT9_1
      simp only [add_blk]
      refine Ld_blk k1' rfl ?_
      refine If_i (fun c2 => ?_) fun c2 => ?_
      · simp only [beq_iff_eq] at c2
        rw [if_pos c2] at hl hT
        try simp only [List.length_append, num_len] at hl
        refine Ld_blk k1' rfl ?_
        refine rnumber_c w n2.1 n2.2 (by omega) (by omega) (by simp only [List.length_append, num_len]; omega) fun t7 h7 f7 w7 => ?_
        have k7 := f7.blk k1' (RX.not k1' (show (29 : Nat) ≠ 5 by decide))
        refine Ld_blk k7 rfl ?_
        refine rflag_c w7 (by simp only [List.length_append, num_len]; show 1 + (1 + 2) + 2 + _ ≤ _; omega) fun t8 h8 f8 w8 => ?_
        have k8 := f8.blk k7 (RX.not k7 (show (29 : Nat) ≠ 5 by decide))
        refine r92_c n5 n6 n3 n4 hp (F (RX.trans f7 f8)) hh.nodes hh.bufs w8 k8 (by simp only [List.length_append, num_len]; show 1 + (1 + 2) + 2 + 1 + _ + _ ≤ _; omega) ?_
        simpa only [e2, List.append_assoc] using hT
      · simp only [beq_eq_false_iff_ne, ne_eq] at c2
        rw [if_neg c2] at hl hT
        try simp only [List.length_nil, List.nil_append] at hl
        refine r92_c n5 n6 n3 n4 hp G3 hh.nodes hh.bufs w k1' (by simp only [List.length_append, num_len]; omega) ?_
        simpa only [List.nil_append, List.append_assoc] using hT
end Go.Proofs.YtfomkkdijjfpiaaDoor
/- Whether a head may be: names, kinds, marks of null. -/
namespace Go.Proofs.YtfomkkdijjfpiaaDoor
open Go Go.Sh Go.WideShapes
def Lett (c : Int) : Prop := (97 ≤ c ∧ c ≤ 122) ∨ (65 ≤ c ∧ c ≤ 90) ∨ c = 95
def Digi (c : Int) : Prop := 48 ≤ c ∧ c ≤ 57
def ChOk (j : Nat) (c : Int) : Prop := Lett c ∨ (Digi c ∧ j ≠ 0)
/-- what a name must be -/
def NameOk (s : ByteArray) : Prop := 1 ≤ s.size ∧ s.size ≤ 48 ∧ ∀ (j : Nat) (b : UInt8), s[j]? = some b → ChOk j (b.toNat : Int)
theorem rnamed_c {s : ByteArray} {h : Hp} {K : Bool → HP} {Kp : PK} (hk : ∀ b, (b = true ↔ NameOk s) → K b h) : Fn61 s h K Kp := by
  refine Fn61.of ?_
  unfold S61
  have hF : ¬ NameOk s → K false h := fun n => hk false ⟨by simp, fun x => (n x).elim⟩
  have hT : NameOk s → K true h := fun n => hk true ⟨fun _ => n, fun _ => rfl⟩
  refine If_i (fun c => hF fun n => ?_) fun c => ?_
  · simp only [decide_eq_true_eq] at c; have := n.1; omega
  refine If_i (fun c' => hF fun n => ?_) fun c' => ?_
  · simp only [decide_eq_true_eq] at c'; have := n.2.1; omega
  simp only [decide_eq_false_iff_not] at c c'
  refine J61_1.of ?_
  unfold JT61_1
  refine L61_2.rule (fun x h' => h' = h ∧ ∃ i : Nat, x = i ∧ i ≤ s.size ∧ ∀ j b, j < i → s[j]? = some b → ChOk j (b.toNat : Int)) (fun x _ => s.size - x.toNat) ⟨rfl, 0, rfl, by omega, fun j b hj => by omega⟩ ?_
  rintro x h1 ⟨rfl, i, rfl, hi, hall⟩ N1 hN
  unfold T61_2
  refine If_i (fun c2 => ?_) fun c2 => ?_
  · simp only [decide_eq_true_eq] at c2
    have hi' : i < s.size := by omega
    have hb : s[i]? = some s[i] := getElem?_pos s i hi'
    generalize s[i] = b at hb
    refine ⟨b, by omega, by rw [Int.toNat_natCast]; exact hb, ?_⟩
    have nope : ¬ ChOk i (b.toNat : Int) → K false h1 := fun n => hF fun q => n (q.2.2 i b hb)
    have step : ChOk i (b.toNat : Int) → Wr .i64 ((i : Int) + 1) fun t20 => N1 (mk61_2 s t20) h1 := fun ok => by
      refine Wr_i64 (by omega) (by omega) ?_
      refine hN _ _ ⟨rfl, i + 1, by simp, by omega, fun j b' hj hb' => ?_⟩ (by omega)
      by_cases e : j = i
      · subst e; rw [hb] at hb'; cases hb'; exact ok
      · exact hall j b' (by omega) hb'
    unfold ChOk Lett Digi at nope step
    generalize (b.toNat : Int) = t at nope step
    repeat' (first | ((with_reducible refine J61_3.of ?_); unfold JT61_3; (try simp only [add_blk, Nat.reduceAdd])) | ((with_reducible refine J61_4.of ?_); unfold JT61_4; (try simp only [add_blk, Nat.reduceAdd])) | ((with_reducible refine J61_5.of ?_); unfold JT61_5; (try simp only [add_blk, Nat.reduceAdd])) | ((with_reducible refine If_t (by first | rfl | (simp only [decide_eq_true_eq, decide_eq_false_iff_not, beq_iff_eq, beq_eq_false_iff_ne, ne_eq, reduceCtorEq, true_iff, false_iff, Bool.not_eq_true', Bool.not_eq_false', bne_iff_ne, bne_eq_false_iff_eq, Bool.not_true, Bool.not_false, Decidable.not_not]; omega)) ?_)) | ((with_reducible refine If_f (by first | rfl | (simp only [decide_eq_true_eq, decide_eq_false_iff_not, beq_iff_eq, beq_eq_false_iff_ne, ne_eq, reduceCtorEq, true_iff, false_iff, Bool.not_eq_true', Bool.not_eq_false', bne_iff_ne, bne_eq_false_iff_eq, Bool.not_true, Bool.not_false, Decidable.not_not]; omega)) ?_)) | (((with_reducible refine If_i (fun c => ?_) (fun c => ?_)) <;> (try simp only [decide_eq_true_eq, decide_eq_false_iff_not, beq_iff_eq, beq_eq_false_iff_ne, ne_eq, reduceCtorEq, true_iff, false_iff, Bool.not_eq_true', Bool.not_eq_false', bne_iff_ne, bne_eq_false_iff_eq, Bool.not_true, Bool.not_false, Decidable.not_not] at c))))
    all_goals first | refine step ?_ | refine nope ?_
    all_goals simp only [decide_eq_true_eq, decide_eq_false_iff_not, beq_iff_eq, beq_eq_false_iff_ne, ne_eq, Bool.not_eq_true', Bool.not_eq_false', Bool.not_eq_true, Bool.not_eq_false, Bool.not_true, Bool.not_false, reduceCtorEq] at *
    all_goals omega
  · simp only [decide_eq_false_iff_not] at c2
    refine hT ⟨by omega, by omega, fun j b hb => ?_⟩
    have : j < s.size := by
      rcases Nat.lt_or_ge j s.size with h | h
      · exact h
      · rw [getElem?_neg s j (by omega)] at hb; cases hb
    exact hall j b (by omega) hb
theorem letter_c {c : Int} {h : Hp} {K : Bool → HP} {Kp : PK} (hk : ∀ b, (b = true ↔ (Lett c ∨ Digi c)) → K b h) : Fn71 c h K Kp := by
  refine Fn71.of ?_
  unfold S71
  unfold Lett Digi at hk
  repeat' (first | ((with_reducible refine J71_1.of ?_); unfold JT71_1; (try simp only [add_blk, Nat.reduceAdd])) | ((with_reducible refine J71_2.of ?_); unfold JT71_2; (try simp only [add_blk, Nat.reduceAdd])) | ((with_reducible refine J71_3.of ?_); unfold JT71_3; (try simp only [add_blk, Nat.reduceAdd])) | ((with_reducible refine If_t (by first | rfl | (simp only [decide_eq_true_eq, decide_eq_false_iff_not, beq_iff_eq, beq_eq_false_iff_ne, ne_eq, reduceCtorEq, true_iff, false_iff, Bool.not_eq_true', Bool.not_eq_false', bne_iff_ne, bne_eq_false_iff_eq, Bool.not_true, Bool.not_false, Decidable.not_not]; omega)) ?_)) | ((with_reducible refine If_f (by first | rfl | (simp only [decide_eq_true_eq, decide_eq_false_iff_not, beq_iff_eq, beq_eq_false_iff_ne, ne_eq, reduceCtorEq, true_iff, false_iff, Bool.not_eq_true', Bool.not_eq_false', bne_iff_ne, bne_eq_false_iff_eq, Bool.not_true, Bool.not_false, Decidable.not_not]; omega)) ?_)) | (((with_reducible refine If_i (fun c => ?_) (fun c => ?_)) <;> (try simp only [decide_eq_true_eq, decide_eq_false_iff_not, beq_iff_eq, beq_eq_false_iff_ne, ne_eq, reduceCtorEq, true_iff, false_iff, Bool.not_eq_true', Bool.not_eq_false', bne_iff_ne, bne_eq_false_iff_eq, Bool.not_true, Bool.not_false, Decidable.not_not] at c))))
  all_goals refine hk _ ?_
  all_goals simp only [decide_eq_true_eq, decide_eq_false_iff_not, beq_iff_eq, beq_eq_false_iff_ne, ne_eq, reduceCtorEq, true_iff, false_iff] at *
  all_goals omega
theorem known_c {k : Int} {h : Hp} {K : Bool → HP} {Kp : PK} (hk : ∀ b, (b = true ↔ (1 ≤ k ∧ k ≤ 20)) → K b h) : Fn73 k h K Kp := by
  refine Fn73.of ?_
  unfold S73
  repeat' (first | ((with_reducible refine If_t (by first | rfl | (simp only [decide_eq_true_eq, decide_eq_false_iff_not, beq_iff_eq, beq_eq_false_iff_ne, ne_eq, reduceCtorEq, true_iff, false_iff, Bool.not_eq_true', Bool.not_eq_false', bne_iff_ne, bne_eq_false_iff_eq, Bool.not_true, Bool.not_false, Decidable.not_not]; omega)) ?_)) | ((with_reducible refine If_f (by first | rfl | (simp only [decide_eq_true_eq, decide_eq_false_iff_not, beq_iff_eq, beq_eq_false_iff_ne, ne_eq, reduceCtorEq, true_iff, false_iff, Bool.not_eq_true', Bool.not_eq_false', bne_iff_ne, bne_eq_false_iff_eq, Bool.not_true, Bool.not_false, Decidable.not_not]; omega)) ?_)) | (((with_reducible refine If_i (fun c => ?_) (fun c => ?_)) <;> (try simp only [decide_eq_true_eq, decide_eq_false_iff_not, beq_iff_eq, beq_eq_false_iff_ne, ne_eq, reduceCtorEq, true_iff, false_iff, Bool.not_eq_true', Bool.not_eq_false', bne_iff_ne, bne_eq_false_iff_eq, Bool.not_true, Bool.not_false, Decidable.not_not] at c))))
  all_goals refine hk _ ?_
  all_goals simp only [decide_eq_true_eq, decide_eq_false_iff_not, reduceCtorEq, true_iff, false_iff] at *
  all_goals omega
theorem bytes_eq {a b : ByteArray} : (a.toList == b.toList) = true ↔ a = b := by
  rw [beq_iff_eq, ByteArray.toList_eq, ByteArray.toList_eq]
  exact ⟨bytes_inj, fun e => by rw [e]⟩
theorem named_c {s : ByteArray} {h : Hp} {K : Bool → HP} {Kp : PK} (hs : s.size ≤ 9223372036854775807) (hk : ∀ b, (b = true ↔ NameOk s) → K b h) : Fn66 s h K Kp := by
  refine Fn66.of ?_
  unfold S66
  have hF : ¬ NameOk s → K false h := fun n => hk false ⟨by simp, fun x => (n x).elim⟩
  refine L66_1.rule (fun x h' => h' = h ∧ ∃ i : Nat, x = i ∧ i ≤ s.size ∧ ∀ j b, j < i → s[j]? = some b → ChOk j (b.toNat : Int)) (fun x _ => s.size - x.toNat) ⟨rfl, 0, rfl, by omega, fun j b hj => by omega⟩ ?_
  rintro x h1 ⟨rfl, i, rfl, hi, hall⟩ N1 hN
  unfold T66_1
  refine If_i (fun c2 => ?_) fun c2 => ?_
  · simp only [decide_eq_true_eq] at c2
    have hi' : i < s.size := by omega
    have hb : s[i]? = some s[i] := getElem?_pos s i hi'
    generalize s[i] = b at hb
    refine ⟨b, by omega, by rw [Int.toNat_natCast]; exact hb, ?_⟩
    have nope : ¬ ChOk i (b.toNat : Int) → K false h1 := fun n => hF fun q => n (q.2.2 i b hb)
    have step : ChOk i (b.toNat : Int) → Wr .i64 ((i : Int) + 1) fun t20 => N1 (mk66_1 s (s.size : Int) t20) h1 := fun ok => by
      refine Wr_i64 (by omega) (by omega) ?_
      refine hN _ _ ⟨rfl, i + 1, by simp, by omega, fun j b' hj hb' => ?_⟩ (by omega)
      by_cases e : j = i
      · subst e; rw [hb] at hb'; cases hb'; exact ok
      · exact hall j b' (by omega) hb'
    refine letter_c fun r hr => ?_
    unfold ChOk Lett Digi at nope step
    unfold Lett Digi at hr
    generalize (b.toNat : Int) = t at nope step hr
    cases r <;> repeat' (first | ((with_reducible refine If_t (by first | rfl | (simp only [decide_eq_true_eq, decide_eq_false_iff_not, beq_iff_eq, beq_eq_false_iff_ne, ne_eq, reduceCtorEq, true_iff, false_iff, Bool.not_eq_true', Bool.not_eq_false', bne_iff_ne, bne_eq_false_iff_eq, Bool.not_true, Bool.not_false, Decidable.not_not]; omega)) ?_)) | ((with_reducible refine If_f (by first | rfl | (simp only [decide_eq_true_eq, decide_eq_false_iff_not, beq_iff_eq, beq_eq_false_iff_ne, ne_eq, reduceCtorEq, true_iff, false_iff, Bool.not_eq_true', Bool.not_eq_false', bne_iff_ne, bne_eq_false_iff_eq, Bool.not_true, Bool.not_false, Decidable.not_not]; omega)) ?_)) | (((with_reducible refine If_i (fun c => ?_) (fun c => ?_)) <;> (try simp only [decide_eq_true_eq, decide_eq_false_iff_not, beq_iff_eq, beq_eq_false_iff_ne, ne_eq, reduceCtorEq, true_iff, false_iff, Bool.not_eq_true', Bool.not_eq_false', bne_iff_ne, bne_eq_false_iff_eq, Bool.not_true, Bool.not_false, Decidable.not_not] at c))))
    all_goals first | refine step ?_ | refine nope ?_
    all_goals simp only [decide_eq_true_eq, decide_eq_false_iff_not, beq_iff_eq, beq_eq_false_iff_ne, ne_eq, reduceCtorEq, true_iff, false_iff] at *
    all_goals omega
  · simp only [decide_eq_false_iff_not] at c2
    refine If_i (fun c3 => hk _ ?_) (fun c3 => hF fun q => ?_)
    · rw [Bool.not_eq_true', Bool.eq_false_iff, ne_eq, bytes_eq] at c3
      rw [decide_eq_true_eq]
      constructor
      · intro h48
        refine ⟨?_, by omega, fun j b hb => ?_⟩
        · rcases Nat.eq_zero_or_pos s.size with h0 | h0
          · exact (c3 (bytes_inj (List.eq_nil_of_length_eq_zero (show s.data.toList.length = 0 from h0)))).elim
          · exact h0
        · have : j < s.size := by
            rcases Nat.lt_or_ge j s.size with h | h
            · exact h
            · rw [getElem?_neg s j (by omega)] at hb; cases hb
          exact hall j b (by omega) hb
      · intro q; have := q.2.1; omega
    · rw [Bool.not_eq_false', bytes_eq] at c3
      subst c3
      exact absurd q.1 (by decide)
/-- what a type must be, its children's own apart -/
def Shaped (k w id ix : Int) (n : Nat) : Prop :=
  1 ≤ k ∧ k ≤ 20 ∧ (k = 14 → 1 ≤ w ∧ w ≤ 16) ∧ (k = 16 → 1 ≤ w ∧ w ≤ 64) ∧ (k ≠ 14 ∧ k ≠ 16 → w = 0) ∧ (k = 19 → 0 ≤ id ∧ id ≤ 31 ∧ 3 ≤ ix ∧ ix ≤ 10) ∧ (k ≠ 19 → id = 0 ∧ ix = 0) ∧
    (k = 15 ∨ k = 16 ∨ k = 19 ∨ k = 20 → n = 1) ∧ (k = 17 → n ≤ 32) ∧ (k = 18 → 1 ≤ n ∧ n ≤ 32) ∧ (k ≠ 15 ∧ k ≠ 16 ∧ k ≠ 19 ∧ k ≠ 20 ∧ k ≠ 17 ∧ k ≠ 18 → n = 0)
theorem rshaped_c {k w id ix : Int} {s : Sl} {h : Hp} {K : Bool → HP} {Kp : PK} (hk : ∀ b h', Grw h h' → (b = true ↔ Shaped k w id ix s.n) → K b h') : Fn62 k w id ix s h K Kp := by
  refine Fn62.of ?_
  unfold S62
  refine New_i fun b1 h1 e1 g1 k1 _ => ?_
  have hk := fun b => hk b h1 g1
  unfold Shaped at hk
  rcases (by omega : k = 14 ∨ k = 15 ∨ k = 16 ∨ k = 17 ∨ k = 18 ∨ k = 19 ∨ k = 20 ∨ (k ≠ 14 ∧ k ≠ 15 ∧ k ≠ 16 ∧ k ≠ 17 ∧ k ≠ 18 ∧ k ≠ 19 ∧ k ≠ 20)) with e | e | e | e | e | e | e | e
  all_goals repeat' (first | ((with_reducible refine J62_1.of ?_); unfold JT62_1; (try simp only [add_blk, Nat.reduceAdd])) | ((with_reducible refine J62_2.of ?_); unfold JT62_2; (try simp only [add_blk, Nat.reduceAdd])) | ((with_reducible refine J62_3.of ?_); unfold JT62_3; (try simp only [add_blk, Nat.reduceAdd])) | ((with_reducible refine J62_4.of ?_); unfold JT62_4; (try simp only [add_blk, Nat.reduceAdd])) | ((with_reducible refine J62_5.of ?_); unfold JT62_5; (try simp only [add_blk, Nat.reduceAdd])) | ((with_reducible refine J62_6.of ?_); unfold JT62_6; (try simp only [add_blk, Nat.reduceAdd])) | ((with_reducible refine J62_7.of ?_); unfold JT62_7; (try simp only [add_blk, Nat.reduceAdd])) | ((with_reducible refine J62_8.of ?_); unfold JT62_8; (try simp only [add_blk, Nat.reduceAdd])) | ((with_reducible refine If_t (by first | rfl | (simp only [decide_eq_true_eq, decide_eq_false_iff_not, beq_iff_eq, beq_eq_false_iff_ne, ne_eq, reduceCtorEq, true_iff, false_iff, Bool.not_eq_true', Bool.not_eq_false', bne_iff_ne, bne_eq_false_iff_eq, Bool.not_true, Bool.not_false, Decidable.not_not]; omega)) ?_)) | ((with_reducible refine If_f (by first | rfl | (simp only [decide_eq_true_eq, decide_eq_false_iff_not, beq_iff_eq, beq_eq_false_iff_ne, ne_eq, reduceCtorEq, true_iff, false_iff, Bool.not_eq_true', Bool.not_eq_false', bne_iff_ne, bne_eq_false_iff_eq, Bool.not_true, Bool.not_false, Decidable.not_not]; omega)) ?_)) | (((with_reducible refine If_i (fun c => ?_) (fun c => ?_)) <;> (try simp only [decide_eq_true_eq, decide_eq_false_iff_not, beq_iff_eq, beq_eq_false_iff_ne, ne_eq, reduceCtorEq, true_iff, false_iff, Bool.not_eq_true', Bool.not_eq_false', bne_iff_ne, bne_eq_false_iff_eq, Bool.not_true, Bool.not_false, Decidable.not_not] at c))) | ((refine Ld_blk k1 rfl ?_)))
  all_goals refine hk _ ?_
  all_goals clear hk k1 g1
  all_goals simp only [decide_eq_true_eq, decide_eq_false_iff_not, beq_iff_eq, beq_eq_false_iff_ne, ne_eq, reduceCtorEq, true_iff, false_iff, Bool.not_eq_true', Bool.not_eq_false', bne_iff_ne, bne_eq_false_iff_eq] at *
  all_goals omega
end Go.Proofs.YtfomkkdijjfpiaaDoor
/- Whether a head may be: kinds as the package asks, names apart. -/
namespace Go.Proofs.YtfomkkdijjfpiaaDoor
open Go Go.Sh Go.WideShapes
theorem fits_c {k w id ix : Int} {s : Sl} {h : Hp} {K : Bool → HP} {Kp : PK} (ht : KTab h) (hk : ∀ b h', Grw h h' → (b = true ↔ Shaped k w id ix s.n) → K b h') : Fn69 k w id ix s h K Kp := by
  refine Fn69.of ?_
  unfold S69
  refine New_i fun b1 h1 e1 g1 k1 _ => ?_
  have hk := fun b => hk b h1 g1
  have ht := ht.grw g1
  have tab : ∀ (K : Bool → Prop), 1 ≤ ix → ix ≤ 20 → K (decide (3 ≤ ix ∧ ix ≤ 10)) → Ix (some (⟨0, 0, none⟩)) 21 4 ix fun a67 => Ld h1 (a67.add 3) (Value.bool) fun t69 => K t69 := by
    intro K h1 h2 hK
    refine ⟨by omega, by omega, decide (3 ≤ ix ∧ ix ≤ 10), ?_, hK⟩
    rw [add_blk, add_blk, Nat.zero_add, ht ix.toNat (by omega)]
    congr 2
    rw [decide_eq_decide]
    omega
  clear ht e1
  unfold Shaped at hk
  refine Ld_blk k1 rfl ?_
  refine known_c fun b hb => ?_
  cases b
  · refine If_t rfl (hk _ ?_)
    simp only [decide_eq_true_eq, decide_eq_false_iff_not, beq_iff_eq, beq_eq_false_iff_ne, ne_eq, reduceCtorEq, true_iff, false_iff, Bool.not_eq_true', Bool.not_eq_false', bne_iff_ne, bne_eq_false_iff_eq, Bool.not_true, Bool.not_false, Decidable.not_not] at *
    omega
  refine If_f rfl (Ld_blk k1 rfl ?_)
  simp only [decide_eq_true_eq, decide_eq_false_iff_not, beq_iff_eq, beq_eq_false_iff_ne, ne_eq, reduceCtorEq, true_iff, false_iff, Bool.not_eq_true', Bool.not_eq_false', bne_iff_ne, bne_eq_false_iff_eq, Bool.not_true, Bool.not_false, Decidable.not_not] at hb
  rcases (by omega : k = 14 ∨ k = 15 ∨ k = 16 ∨ k = 17 ∨ k = 18 ∨ k = 19 ∨ k = 20 ∨ (k ≠ 14 ∧ k ≠ 15 ∧ k ≠ 16 ∧ k ≠ 17 ∧ k ≠ 18 ∧ k ≠ 19 ∧ k ≠ 20)) with e | e | e | e | e | e | e | e
  case inr.inr.inr.inr.inr.inl =>
    repeat' (first | ((with_reducible refine J69_1.of ?_); unfold JT69_1; (try simp only [add_blk, Nat.reduceAdd])) | ((with_reducible refine J69_2.of ?_); unfold JT69_2; (try simp only [add_blk, Nat.reduceAdd])) | ((with_reducible refine J69_3.of ?_); unfold JT69_3; (try simp only [add_blk, Nat.reduceAdd])) | ((with_reducible refine J69_7.of ?_); unfold JT69_7; (try simp only [add_blk, Nat.reduceAdd])) | ((with_reducible refine If_t (by first | rfl | (simp only [decide_eq_true_eq, decide_eq_false_iff_not, beq_iff_eq, beq_eq_false_iff_ne, ne_eq, reduceCtorEq, true_iff, false_iff, Bool.not_eq_true', Bool.not_eq_false', bne_iff_ne, bne_eq_false_iff_eq, Bool.not_true, Bool.not_false, Decidable.not_not]; omega)) ?_)) | ((with_reducible refine If_f (by first | rfl | (simp only [decide_eq_true_eq, decide_eq_false_iff_not, beq_iff_eq, beq_eq_false_iff_ne, ne_eq, reduceCtorEq, true_iff, false_iff, Bool.not_eq_true', Bool.not_eq_false', bne_iff_ne, bne_eq_false_iff_eq, Bool.not_true, Bool.not_false, Decidable.not_not]; omega)) ?_)) | (((with_reducible refine If_i (fun c => ?_) (fun c => ?_)) <;> (try simp only [decide_eq_true_eq, decide_eq_false_iff_not, beq_iff_eq, beq_eq_false_iff_ne, ne_eq, reduceCtorEq, true_iff, false_iff, Bool.not_eq_true', Bool.not_eq_false', bne_iff_ne, bne_eq_false_iff_eq, Bool.not_true, Bool.not_false, Decidable.not_not] at c))) | ((refine Ld_blk k1 rfl ?_)))
    all_goals simp only [decide_eq_true_eq, decide_eq_false_iff_not, beq_iff_eq, beq_eq_false_iff_ne, ne_eq, reduceCtorEq, true_iff, false_iff, Bool.not_eq_true', Bool.not_eq_false', bne_iff_ne, bne_eq_false_iff_eq, Bool.not_true, Bool.not_false, Decidable.not_not] at *
    all_goals first
      | (refine known_c fun b hb2 => ?_
         cases b
         · simp only [decide_eq_true_eq, decide_eq_false_iff_not, beq_iff_eq, beq_eq_false_iff_ne, ne_eq, reduceCtorEq, true_iff, false_iff, Bool.not_eq_true', Bool.not_eq_false', bne_iff_ne, bne_eq_false_iff_eq, Bool.not_true, Bool.not_false, Decidable.not_not] at hb2
           repeat' (first | ((with_reducible refine J69_8.of ?_); unfold JT69_8; (try simp only [add_blk, Nat.reduceAdd])) | ((with_reducible refine J69_4.of ?_); unfold JT69_4; (try simp only [add_blk, Nat.reduceAdd])) | ((with_reducible refine J69_5.of ?_); unfold JT69_5; (try simp only [add_blk, Nat.reduceAdd])) | ((with_reducible refine J69_6.of ?_); unfold JT69_6; (try simp only [add_blk, Nat.reduceAdd])) | ((with_reducible refine If_t (by first | rfl | (simp only [decide_eq_true_eq, decide_eq_false_iff_not, beq_iff_eq, beq_eq_false_iff_ne, ne_eq, reduceCtorEq, true_iff, false_iff, Bool.not_eq_true', Bool.not_eq_false', bne_iff_ne, bne_eq_false_iff_eq, Bool.not_true, Bool.not_false, Decidable.not_not]; omega)) ?_)) | ((with_reducible refine If_f (by first | rfl | (simp only [decide_eq_true_eq, decide_eq_false_iff_not, beq_iff_eq, beq_eq_false_iff_ne, ne_eq, reduceCtorEq, true_iff, false_iff, Bool.not_eq_true', Bool.not_eq_false', bne_iff_ne, bne_eq_false_iff_eq, Bool.not_true, Bool.not_false, Decidable.not_not]; omega)) ?_)) | (((with_reducible refine If_i (fun c => ?_) (fun c => ?_)) <;> (try simp only [decide_eq_true_eq, decide_eq_false_iff_not, beq_iff_eq, beq_eq_false_iff_ne, ne_eq, reduceCtorEq, true_iff, false_iff, Bool.not_eq_true', Bool.not_eq_false', bne_iff_ne, bne_eq_false_iff_eq, Bool.not_true, Bool.not_false, Decidable.not_not] at c))) | ((refine Ld_blk k1 rfl ?_)))
           all_goals refine hk _ ?_
           all_goals simp only [decide_eq_true_eq, decide_eq_false_iff_not, beq_iff_eq, beq_eq_false_iff_ne, ne_eq, reduceCtorEq, true_iff, false_iff, Bool.not_eq_true', Bool.not_eq_false', bne_iff_ne, bne_eq_false_iff_eq, Bool.not_true, Bool.not_false, Decidable.not_not] at *
           all_goals omega
         · simp only [decide_eq_true_eq, decide_eq_false_iff_not, beq_iff_eq, beq_eq_false_iff_ne, ne_eq, reduceCtorEq, true_iff, false_iff, Bool.not_eq_true', Bool.not_eq_false', bne_iff_ne, bne_eq_false_iff_eq, Bool.not_true, Bool.not_false, Decidable.not_not] at hb2
           refine J69_8.of ?_
           unfold JT69_8
           simp only [add_blk, Nat.reduceAdd]
           refine If_t rfl (Ld_blk k1 rfl ?_)
           refine tab (fun b => J69_4 ⟨b1, 0, none⟩ 1 1 _ b K Kp h1) (by omega) (by omega) ?_
           by_cases hx : 3 ≤ ix ∧ ix ≤ 10
           · rw [decide_eq_true hx]
             repeat' (first | ((with_reducible refine J69_4.of ?_); unfold JT69_4; (try simp only [add_blk, Nat.reduceAdd])) | ((with_reducible refine J69_5.of ?_); unfold JT69_5; (try simp only [add_blk, Nat.reduceAdd])) | ((with_reducible refine J69_6.of ?_); unfold JT69_6; (try simp only [add_blk, Nat.reduceAdd])) | ((with_reducible refine If_t (by first | rfl | (simp only [decide_eq_true_eq, decide_eq_false_iff_not, beq_iff_eq, beq_eq_false_iff_ne, ne_eq, reduceCtorEq, true_iff, false_iff, Bool.not_eq_true', Bool.not_eq_false', bne_iff_ne, bne_eq_false_iff_eq, Bool.not_true, Bool.not_false, Decidable.not_not]; omega)) ?_)) | ((with_reducible refine If_f (by first | rfl | (simp only [decide_eq_true_eq, decide_eq_false_iff_not, beq_iff_eq, beq_eq_false_iff_ne, ne_eq, reduceCtorEq, true_iff, false_iff, Bool.not_eq_true', Bool.not_eq_false', bne_iff_ne, bne_eq_false_iff_eq, Bool.not_true, Bool.not_false, Decidable.not_not]; omega)) ?_)) | (((with_reducible refine If_i (fun c => ?_) (fun c => ?_)) <;> (try simp only [decide_eq_true_eq, decide_eq_false_iff_not, beq_iff_eq, beq_eq_false_iff_ne, ne_eq, reduceCtorEq, true_iff, false_iff, Bool.not_eq_true', Bool.not_eq_false', bne_iff_ne, bne_eq_false_iff_eq, Bool.not_true, Bool.not_false, Decidable.not_not] at c))) | ((refine Ld_blk k1 rfl ?_)))
             all_goals refine hk _ ?_
             all_goals simp only [decide_eq_true_eq, decide_eq_false_iff_not, beq_iff_eq, beq_eq_false_iff_ne, ne_eq, reduceCtorEq, true_iff, false_iff, Bool.not_eq_true', Bool.not_eq_false', bne_iff_ne, bne_eq_false_iff_eq, Bool.not_true, Bool.not_false, Decidable.not_not] at *
             all_goals omega
           · rw [decide_eq_false hx]
             repeat' (first | ((with_reducible refine J69_4.of ?_); unfold JT69_4; (try simp only [add_blk, Nat.reduceAdd])) | ((with_reducible refine J69_5.of ?_); unfold JT69_5; (try simp only [add_blk, Nat.reduceAdd])) | ((with_reducible refine J69_6.of ?_); unfold JT69_6; (try simp only [add_blk, Nat.reduceAdd])) | ((with_reducible refine If_t (by first | rfl | (simp only [decide_eq_true_eq, decide_eq_false_iff_not, beq_iff_eq, beq_eq_false_iff_ne, ne_eq, reduceCtorEq, true_iff, false_iff, Bool.not_eq_true', Bool.not_eq_false', bne_iff_ne, bne_eq_false_iff_eq, Bool.not_true, Bool.not_false, Decidable.not_not]; omega)) ?_)) | ((with_reducible refine If_f (by first | rfl | (simp only [decide_eq_true_eq, decide_eq_false_iff_not, beq_iff_eq, beq_eq_false_iff_ne, ne_eq, reduceCtorEq, true_iff, false_iff, Bool.not_eq_true', Bool.not_eq_false', bne_iff_ne, bne_eq_false_iff_eq, Bool.not_true, Bool.not_false, Decidable.not_not]; omega)) ?_)) | (((with_reducible refine If_i (fun c => ?_) (fun c => ?_)) <;> (try simp only [decide_eq_true_eq, decide_eq_false_iff_not, beq_iff_eq, beq_eq_false_iff_ne, ne_eq, reduceCtorEq, true_iff, false_iff, Bool.not_eq_true', Bool.not_eq_false', bne_iff_ne, bne_eq_false_iff_eq, Bool.not_true, Bool.not_false, Decidable.not_not] at c))) | ((refine Ld_blk k1 rfl ?_)))
             all_goals refine hk _ ?_
             all_goals simp only [decide_eq_true_eq, decide_eq_false_iff_not, beq_iff_eq, beq_eq_false_iff_ne, ne_eq, reduceCtorEq, true_iff, false_iff, Bool.not_eq_true', Bool.not_eq_false', bne_iff_ne, bne_eq_false_iff_eq, Bool.not_true, Bool.not_false, Decidable.not_not] at *
             all_goals omega)
      | (repeat' (first | ((with_reducible refine J69_8.of ?_); unfold JT69_8; (try simp only [add_blk, Nat.reduceAdd])) | ((with_reducible refine J69_4.of ?_); unfold JT69_4; (try simp only [add_blk, Nat.reduceAdd])) | ((with_reducible refine J69_5.of ?_); unfold JT69_5; (try simp only [add_blk, Nat.reduceAdd])) | ((with_reducible refine J69_6.of ?_); unfold JT69_6; (try simp only [add_blk, Nat.reduceAdd])) | ((with_reducible refine If_t (by first | rfl | (simp only [decide_eq_true_eq, decide_eq_false_iff_not, beq_iff_eq, beq_eq_false_iff_ne, ne_eq, reduceCtorEq, true_iff, false_iff, Bool.not_eq_true', Bool.not_eq_false', bne_iff_ne, bne_eq_false_iff_eq, Bool.not_true, Bool.not_false, Decidable.not_not]; omega)) ?_)) | ((with_reducible refine If_f (by first | rfl | (simp only [decide_eq_true_eq, decide_eq_false_iff_not, beq_iff_eq, beq_eq_false_iff_ne, ne_eq, reduceCtorEq, true_iff, false_iff, Bool.not_eq_true', Bool.not_eq_false', bne_iff_ne, bne_eq_false_iff_eq, Bool.not_true, Bool.not_false, Decidable.not_not]; omega)) ?_)) | (((with_reducible refine If_i (fun c => ?_) (fun c => ?_)) <;> (try simp only [decide_eq_true_eq, decide_eq_false_iff_not, beq_iff_eq, beq_eq_false_iff_ne, ne_eq, reduceCtorEq, true_iff, false_iff, Bool.not_eq_true', Bool.not_eq_false', bne_iff_ne, bne_eq_false_iff_eq, Bool.not_true, Bool.not_false, Decidable.not_not] at c))) | ((refine Ld_blk k1 rfl ?_)))
         all_goals refine hk _ ?_
         all_goals simp only [decide_eq_true_eq, decide_eq_false_iff_not, beq_iff_eq, beq_eq_false_iff_ne, ne_eq, reduceCtorEq, true_iff, false_iff, Bool.not_eq_true', Bool.not_eq_false', bne_iff_ne, bne_eq_false_iff_eq, Bool.not_true, Bool.not_false, Decidable.not_not] at *
         all_goals omega)
  all_goals repeat' (first | ((with_reducible refine J69_1.of ?_); unfold JT69_1; (try simp only [add_blk, Nat.reduceAdd])) | ((with_reducible refine J69_2.of ?_); unfold JT69_2; (try simp only [add_blk, Nat.reduceAdd])) | ((with_reducible refine J69_3.of ?_); unfold JT69_3; (try simp only [add_blk, Nat.reduceAdd])) | ((with_reducible refine J69_4.of ?_); unfold JT69_4; (try simp only [add_blk, Nat.reduceAdd])) | ((with_reducible refine J69_5.of ?_); unfold JT69_5; (try simp only [add_blk, Nat.reduceAdd])) | ((with_reducible refine J69_6.of ?_); unfold JT69_6; (try simp only [add_blk, Nat.reduceAdd])) | ((with_reducible refine J69_7.of ?_); unfold JT69_7; (try simp only [add_blk, Nat.reduceAdd])) | ((with_reducible refine J69_8.of ?_); unfold JT69_8; (try simp only [add_blk, Nat.reduceAdd])) | ((with_reducible refine If_t (by first | rfl | (simp only [decide_eq_true_eq, decide_eq_false_iff_not, beq_iff_eq, beq_eq_false_iff_ne, ne_eq, reduceCtorEq, true_iff, false_iff, Bool.not_eq_true', Bool.not_eq_false', bne_iff_ne, bne_eq_false_iff_eq, Bool.not_true, Bool.not_false, Decidable.not_not]; omega)) ?_)) | ((with_reducible refine If_f (by first | rfl | (simp only [decide_eq_true_eq, decide_eq_false_iff_not, beq_iff_eq, beq_eq_false_iff_ne, ne_eq, reduceCtorEq, true_iff, false_iff, Bool.not_eq_true', Bool.not_eq_false', bne_iff_ne, bne_eq_false_iff_eq, Bool.not_true, Bool.not_false, Decidable.not_not]; omega)) ?_)) | (((with_reducible refine If_i (fun c => ?_) (fun c => ?_)) <;> (try simp only [decide_eq_true_eq, decide_eq_false_iff_not, beq_iff_eq, beq_eq_false_iff_ne, ne_eq, reduceCtorEq, true_iff, false_iff, Bool.not_eq_true', Bool.not_eq_false', bne_iff_ne, bne_eq_false_iff_eq, Bool.not_true, Bool.not_false, Decidable.not_not] at c))) | ((refine Ld_blk k1 rfl ?_)))
  all_goals refine hk _ ?_
  all_goals simp only [decide_eq_true_eq, decide_eq_false_iff_not, beq_iff_eq, beq_eq_false_iff_ne, ne_eq, reduceCtorEq, true_iff, false_iff, Bool.not_eq_true', Bool.not_eq_false', bne_iff_ne, bne_eq_false_iff_eq, Bool.not_true, Bool.not_false, Decidable.not_not] at *
  all_goals omega
end Go.Proofs.YtfomkkdijjfpiaaDoor
/- Whether a head may be: fields of one name, marks of null. -/
namespace Go.Proofs.YtfomkkdijjfpiaaDoor
open Go Go.Sh Go.WideShapes
def Fld.name : Fld → ByteArray | .mk n _ _ _ _ _ _ => n
def Fld.nul : Fld → Bool | .mk _ b _ _ _ _ _ => b
def Fld.k : Fld → Int | .mk _ _ k _ _ _ _ => k
def Fld.w : Fld → Int | .mk _ _ _ w _ _ _ => w
def Fld.id : Fld → Int | .mk _ _ _ _ i _ _ => i
def Fld.ix : Fld → Int | .mk _ _ _ _ _ i _ => i
def Fld.cs : Fld → List Fld | .mk _ _ _ _ _ _ cs => cs
/-- the cells of a field -/
theorem FldH.cells {h : Hp} {a : Addr} {f : Fld} (hf : FldH h a f) : ∃ s, FsH h s f.cs ∧ cell h a = some (.string f.name) ∧ cell h (a.add 1) = some (.bool f.nul) ∧ cell h (a.add 2) = some (.int .i64 f.k) ∧
    cell h (a.add 3) = some (.int .i64 f.w) ∧ cell h (a.add 4) = some (.int .i64 f.id) ∧ cell h (a.add 5) = some (.int .i64 f.ix) ∧ cell h (a.add 6) = some (Sl.v s) := by
  obtain ⟨n, nul, k, wd, id, ix, ds⟩ := f
  unfold FldH at hf
  obtain ⟨u, hc, hu⟩ := hf
  have c0 := hc 0 _ rfl
  rw [add_zero'] at c0
  exact ⟨u, hu, c0, hc 1 _ rfl, hc 2 _ rfl, hc 3 _ rfl, hc 4 _ rfl, hc 5 _ rfl, hc 6 _ rfl⟩
/-- the i-th field of a slice is reached -/
theorem FsH.ix {h0 : Hp} {s : Sl} {cs : List Fld} (hs : FsH h0 s cs) {x : Int} {i : Nat} (hx : x = (i : Int)) {f : Fld} (hj : cs[i]? = some f) {K : Addr → Prop} (hk : ∀ a, FldH h0 a f → K a) : Ix s.a s.n 7 x K := by
  obtain ⟨a, ha, hf⟩ := hs.get hj
  have hn := hs.n
  have hi : i < cs.length := (List.getElem?_eq_some_iff.1 hj).1
  subst hx
  rw [ha]
  exact ⟨by omega, by omega, by rw [Int.toNat_natCast]; exact hk _ hf⟩
def Nulls (k : Int) (nul : Bool) (cs : List Fld) : Prop := (k = 1 → nul = true) ∧ (k = 18 → nul = false) ∧ (k = 20 → ∃ c, cs[0]? = some c ∧ nul = c.nul)
theorem nulls_c {n : ByteArray} {nul : Bool} {k w id ix : Int} {s : Sl} {cs : List Fld} {h0 h : Hp} {K : Bool → HP} {Kp : PK} (g : Grw h0 h) (hs : FsH h0 s cs) (h1 : k = 20 → cs.length = 1) (hk : ∀ b h', Grw h h' → (b = true ↔ Nulls k nul cs) → K b h') : Fn70 n nul k w id ix s h K Kp := by
  refine Fn70.of ?_
  unfold S70
  refine New_i fun b1 h2 e1 g1 k1 _ => ?_
  have hk := fun b => hk b h2 g1
  unfold Nulls at hk
  simp only [add_blk, Nat.reduceAdd]
  refine Ld_blk k1 rfl ?_
  refine If_i (fun c => ?_) (fun c => ?_)
  · simp only [decide_eq_true_eq, decide_eq_false_iff_not, beq_iff_eq, beq_eq_false_iff_ne, ne_eq, reduceCtorEq, true_iff, false_iff, Bool.not_eq_true', Bool.not_eq_false', bne_iff_ne, bne_eq_false_iff_eq, Bool.not_true, Bool.not_false, Decidable.not_not] at c; subst c
    refine Ld_blk k1 rfl (hk _ ?_)
    simp
  refine If_i (fun c2 => ?_) (fun c2 => ?_)
  · simp only [decide_eq_true_eq, decide_eq_false_iff_not, beq_iff_eq, beq_eq_false_iff_ne, ne_eq, reduceCtorEq, true_iff, false_iff, Bool.not_eq_true', Bool.not_eq_false', bne_iff_ne, bne_eq_false_iff_eq, Bool.not_true, Bool.not_false, Decidable.not_not] at c2; subst c2
    refine Ld_blk k1 rfl (hk _ ?_)
    simp
  refine If_i (fun c3 => ?_) (fun c3 => ?_)
  · simp only [decide_eq_true_eq, decide_eq_false_iff_not, beq_iff_eq, beq_eq_false_iff_ne, ne_eq, reduceCtorEq, true_iff, false_iff, Bool.not_eq_true', Bool.not_eq_false', bne_iff_ne, bne_eq_false_iff_eq, Bool.not_true, Bool.not_false, Decidable.not_not] at c3; subst c3
    have hl := h1 rfl
    have hj : cs[0]? = some cs[0] := List.getElem?_eq_getElem (by omega)
    refine Ld_blk k1 rfl (Ld_blk k1 rfl ?_)
    generalize cs[0] = f at hj
    refine hs.ix rfl hj fun a ha => ?_
    obtain ⟨u, _, _, c1, _⟩ := ha.cells
    refine ⟨_, (Grw.trans g g1).cell c1, hk _ ?_⟩
    simp [hj]
  · simp only [decide_eq_true_eq, decide_eq_false_iff_not, beq_iff_eq, beq_eq_false_iff_ne, ne_eq, reduceCtorEq, true_iff, false_iff, Bool.not_eq_true', Bool.not_eq_false', bne_iff_ne, bne_eq_false_iff_eq, Bool.not_true, Bool.not_false, Decidable.not_not] at c c2 c3
    refine hk _ ?_
    simp [c, c2, c3]
/-- no two fields have one name -/
def Unlike (cs : List Fld) : Prop := ∀ (i j : Nat) a b, j < i → cs[i]? = some a → cs[j]? = some b → a.name ≠ b.name
theorem unlike_c {s : Sl} {cs : List Fld} {h0 h : Hp} {K : Bool → HP} {Kp : PK} (g : Grw h0 h) (hs : FsH h0 s cs) (hl : cs.length ≤ 9223372036854775807) (hk : ∀ b, (b = true ↔ Unlike cs) → K b h) : Fn51 s h K Kp := by
  refine Fn51.of ?_
  unfold S51
  have hn := hs.n
  refine L51_1.rule (fun x h' => h' = h ∧ ∃ i : Nat, x = i ∧ i ≤ cs.length ∧ ∀ (i' j : Nat) a b, i' < i → j < i' → cs[i']? = some a → cs[j]? = some b → a.name ≠ b.name) (fun x _ => cs.length - x.toNat) ⟨rfl, 0, rfl, by omega, fun i' j a b hi => by omega⟩ ?_
  rintro x h1 ⟨rfl, i, rfl, hi, hall⟩ N1 hN
  unfold T51_1
  refine If_i (fun c => ?_) (fun c => ?_)
  · simp only [decide_eq_true_eq, decide_eq_false_iff_not, beq_iff_eq, beq_eq_false_iff_ne, ne_eq, reduceCtorEq, true_iff, false_iff, Bool.not_eq_true', Bool.not_eq_false', bne_iff_ne, bne_eq_false_iff_eq, Bool.not_true, Bool.not_false, Decidable.not_not] at c
    have hi' : i < cs.length := by omega
    refine L51_2.rule (fun x h' => h' = h1 ∧ ∃ j : Nat, x = j ∧ j ≤ i ∧ ∀ (j' : Nat) a b, j' < j → cs[i]? = some a → cs[j']? = some b → a.name ≠ b.name) (fun x _ => i - x.toNat) ⟨rfl, 0, rfl, by omega, fun i' j a hi => by omega⟩ ?_
    rintro y h2 ⟨rfl, j, rfl, hj, hin⟩ N2 hN2
    unfold T51_2
    refine If_i (fun c2 => ?_) (fun c2 => ?_)
    · simp only [decide_eq_true_eq, decide_eq_false_iff_not, beq_iff_eq, beq_eq_false_iff_ne, ne_eq, reduceCtorEq, true_iff, false_iff, Bool.not_eq_true', Bool.not_eq_false', bne_iff_ne, bne_eq_false_iff_eq, Bool.not_true, Bool.not_false, Decidable.not_not] at c2
      have hj' : j < cs.length := by omega
      have ei : cs[i]? = some cs[i] := List.getElem?_eq_getElem hi'
      have ej : cs[j]? = some cs[j] := List.getElem?_eq_getElem hj'
      generalize cs[i] = a at ei
      generalize cs[j] = b at ej
      refine hs.ix rfl ei fun pa ha => ?_
      obtain ⟨_, _, ca, _⟩ := ha.cells
      refine ⟨_, g.cell ca, ?_⟩
      refine hs.ix rfl ej fun pb hb => ?_
      obtain ⟨_, _, cb, _⟩ := hb.cells
      refine ⟨_, g.cell cb, ?_⟩
      refine If_i (fun c3 => ?_) (fun c3 => ?_)
      · rw [bytes_eq] at c3
        exact hk false ⟨by simp, fun q => (q i j a b (by omega) ei ej c3).elim⟩
      · rw [Bool.eq_false_iff, ne_eq, bytes_eq] at c3
        refine Wr_i64 (by omega) (by omega) ?_
        refine hN2 _ _ ⟨rfl, j + 1, by simp, by omega, fun j' a' b' hlt ea eb => ?_⟩ (by omega)
        by_cases e : j' = j
        · subst e; rw [ei] at ea; rw [ej] at eb; cases ea; cases eb; exact c3
        · exact hin j' a' b' (by omega) ea eb
    · simp only [decide_eq_true_eq, decide_eq_false_iff_not, beq_iff_eq, beq_eq_false_iff_ne, ne_eq, reduceCtorEq, true_iff, false_iff, Bool.not_eq_true', Bool.not_eq_false', bne_iff_ne, bne_eq_false_iff_eq, Bool.not_true, Bool.not_false, Decidable.not_not] at c2
      refine Wr_i64 (by omega) (by omega) ?_
      refine hN _ _ ⟨rfl, i + 1, by simp, by omega, fun i' j' a' b' h1 h2 ea eb => ?_⟩ (by omega)
      by_cases e : i' = i
      · subst e; exact hin j' a' b' (by omega) ea eb
      · exact hall i' j' a' b' (by omega) h2 ea eb
  · simp only [decide_eq_true_eq, decide_eq_false_iff_not, beq_iff_eq, beq_eq_false_iff_ne, ne_eq, reduceCtorEq, true_iff, false_iff, Bool.not_eq_true', Bool.not_eq_false', bne_iff_ne, bne_eq_false_iff_eq, Bool.not_true, Bool.not_false, Decidable.not_not] at c
    refine hk true ⟨fun _ i' j a b h1 ea eb => ?_, fun _ => rfl⟩
    exact hall i' j a b (by have := (List.getElem?_eq_some_iff.1 ea).1; omega) h1 ea eb
/-- is a name among those of the fields ahead? -/
theorem again_c {s : Sl} {cs : List Fld} {h0 h : Hp} {a3 : Addr} {n : ByteArray} {K : Bool → HP} {Kp : PK} (g : Grw h0 h) (hs : FsH h0 s cs) (hl : cs.length ≤ 9223372036854775807) (hn : cell h (a3.add 2) = some (.string n))
    (hk : ∀ b h', Grw h h' → (b = true ↔ ∃ c ∈ cs, c.name = n) → K b h') : Fn67 s (.func (.func 68) #[] #[(.pointer (some a3))]) h K Kp := by
  refine Fn67.of ?_
  unfold S67
  refine Fn72.of ?_
  unfold S72
  have hsn := hs.n
  have hok : okFn Tryd.prog 68 = true := by kernel_rfl
  refine L72_1.rule (fun x h' => Grw h h' ∧ ∃ i : Nat, x = i ∧ i ≤ cs.length ∧ ∀ (j : Nat) a, j < i → cs[j]? = some a → a.name ≠ n) (fun x _ => cs.length - x.toNat) ⟨Grw.refl _, 0, rfl, by omega, fun j a hi => by omega⟩ ?_
  rintro x h1 ⟨g1, i, rfl, hi, hall⟩ N1 hN
  unfold T72_1
  refine If_i (fun c => ?_) (fun c => ?_)
  · simp only [decide_eq_true_eq, decide_eq_false_iff_not, beq_iff_eq, beq_eq_false_iff_ne, ne_eq, reduceCtorEq, true_iff, false_iff, Bool.not_eq_true', Bool.not_eq_false', bne_iff_ne, bne_eq_false_iff_eq, Bool.not_true, Bool.not_false, Decidable.not_not] at c
    have hi' : i < cs.length := by omega
    have ei : cs[i]? = some cs[i] := List.getElem?_eq_getElem hi'
    generalize cs[i] = f at ei
    refine hs.ix rfl ei fun pa ha => ?_
    obtain ⟨u, _, c0, c1, c2, c3, c4, c5, c6⟩ := ha.cells
    have G := Grw.trans g g1
    refine ⟨_, G.cell c0, _, G.cell c1, _, G.cell c2, _, G.cell c3, _, G.cell c4, _, G.cell c5, _, G.cell c6, ?_⟩
    unfold CallV
    simp only [hok, cond_true]
    refine Fn68.of ?_
    unfold S68
    refine New_i fun b1 h2 e1 g2 k1 _ => ?_
    refine Ld_blk k1 rfl ⟨_, g2.cell (g1.cell hn), ?_⟩
    refine If_i (fun c3 => ?_) (fun c3 => ?_)
    · rw [bytes_eq] at c3
      refine hk _ _ (Grw.trans g1 g2) ⟨fun _ => ⟨f, List.mem_of_getElem? ei, c3⟩, fun _ => by rw [decide_eq_true_eq]; omega⟩
    · rw [Bool.eq_false_iff, ne_eq, bytes_eq] at c3
      refine Wr_i64 (by omega) (by omega) ?_
      refine hN _ _ ⟨Grw.trans g1 g2, i + 1, by simp, by omega, fun j' a' hlt ea => ?_⟩ (by omega)
      by_cases e : j' = i
      · subst e; rw [ei] at ea; cases ea; exact c3
      · exact hall j' a' (by omega) ea
  · simp only [decide_eq_true_eq, decide_eq_false_iff_not, beq_iff_eq, beq_eq_false_iff_ne, ne_eq, reduceCtorEq, true_iff, false_iff, Bool.not_eq_true', Bool.not_eq_false', bne_iff_ne, bne_eq_false_iff_eq, Bool.not_true, Bool.not_false, Decidable.not_not] at c
    refine hk _ _ g1 ⟨fun q => ?_, fun ⟨f, hf, e⟩ => ?_⟩
    · rw [decide_eq_true_eq] at q; omega
    · obtain ⟨j, hj⟩ := List.mem_iff_getElem?.1 hf
      exact (hall j f (by have := (List.getElem?_eq_some_iff.1 hj).1; omega) hj e).elim
end Go.Proofs.YtfomkkdijjfpiaaDoor
/- Whether a schema may be: all fields in their order, each right behind those ahead of it. -/
namespace Go.Proofs.YtfomkkdijjfpiaaDoor
open Go Go.Sh Go.WideShapes
/-- a field at its place: how deep, which of its list are ahead, whether within a dictionary -/
structure Pl where
  deep : Nat
  ahead : List Fld
  f : Fld
  ins : Bool
mutual
def Fld.places (d : Nat) (ahead : List Fld) (ins : Bool) : Fld → List Pl
  | .mk n nul k w id ix cs => ⟨d, ahead, .mk n nul k w id ix cs, ins⟩ :: (if d < 65 then placesL (d + 1) [] (ins || k == 19) cs else [])
def placesL (d : Nat) (ahead : List Fld) (ins : Bool) : List Fld → List Pl
  | [] => []
  | f :: fs => f.places d ahead ins ++ placesL d (ahead ++ [f]) ins fs
end
def placesU (d : Nat) (ins : Bool) : List Fld → List Pl
  | [] => []
  | f :: fs => f.places d [] ins ++ placesU d ins fs
def nextIds (ids : List Int) (f : Fld) : List Int := if f.k = 19 then ids ++ [f.id] else ids
def Right (n : Nat) (ids : List Int) (x : Pl) : Prop := x.deep ≤ 64 ∧ n < 256 ∧ NameOk x.f.name ∧ (∀ g ∈ x.ahead, g.name ≠ x.f.name) ∧ Shaped x.f.k x.f.w x.f.id x.f.ix x.f.cs.length ∧ Nulls x.f.k x.f.nul x.f.cs ∧
  ¬ (x.ins = true ∧ (x.f.k = 19 ∨ x.f.k = 20)) ∧ (x.f.k = 19 → (∃ c, x.f.cs[0]? = some c ∧ c.nul = false) ∧ x.f.id ∉ ids)
def AllR (n : Nat) (ids : List Int) : List Pl → Prop
  | [] => True
  | x :: xs => Right n ids x ∧ AllR (n + 1) (nextIds ids x.f) xs
def idsOf (ids : List Int) : List Pl → List Int
  | [] => ids
  | x :: xs => idsOf (nextIds ids x.f) xs
theorem AllR_append {a b : List Pl} : ∀ {n : Nat} {ids : List Int}, AllR n ids (a ++ b) ↔ AllR n ids a ∧ AllR (n + a.length) (idsOf ids a) b := by
  induction a with
  | nil => intro n ids; simp [AllR, idsOf]
  | cons x xs ih =>
    intro n ids
    simp only [List.cons_append, AllR, idsOf, ih, List.length_cons, and_assoc]
    have e : n + 1 + xs.length = n + (xs.length + 1) := by omega
    rw [e]
theorem idsOf_append {a b : List Pl} : ∀ {ids : List Int}, idsOf ids (a ++ b) = idsOf (idsOf ids a) b := by
  induction a with
  | nil => intro ids; rfl
  | cons x xs ih => intro ids; simp only [List.cons_append, idsOf, ih]
theorem AllR_len {a : List Pl} : ∀ {n : Nat} {ids : List Int}, AllR n ids a → n ≤ 256 → n + a.length ≤ 256 := by
  induction a with
  | nil => intro n ids _ h; simpa using h
  | cons x xs ih =>
    intro n ids h _
    obtain ⟨⟨_, h1, _⟩, h2⟩ := h
    have := ih h2 (by omega)
    simp only [List.length_cons]; omega
theorem idsOf_len {a : List Pl} : ∀ {ids : List Int}, (idsOf ids a).length ≤ ids.length + a.length := by
  induction a with
  | nil => intro ids; simp [idsOf]
  | cons x xs ih =>
    intro ids
    have := ih (ids := nextIds ids x.f)
    have h2 : (nextIds ids x.f).length ≤ ids.length + 1 := by unfold nextIds; split <;> simp
    simp only [idsOf, List.length_cons]; omega
theorem places_ahead {f : Fld} {d : Nat} {ahead : List Fld} {ins : Bool} {n : Nat} {ids : List Int} : AllR n ids (f.places d ahead ins) ↔ (∀ g ∈ ahead, g.name ≠ f.name) ∧ AllR n ids (f.places d [] ins) := by
  obtain ⟨nm, nul, k, w, id, ix, cs⟩ := f
  simp only [Fld.places, AllR, Right, List.not_mem_nil]
  constructor
  · rintro ⟨⟨a, b, c, e, r⟩, q⟩; exact ⟨e, ⟨a, b, c, by simp, r⟩, q⟩
  · rintro ⟨e, ⟨a, b, c, _, r⟩, q⟩; exact ⟨⟨a, b, c, e, r⟩, q⟩
theorem places_len {f : Fld} {d : Nat} {ahead : List Fld} {ins : Bool} : (f.places d ahead ins).length = (f.places d [] ins).length := by
  obtain ⟨nm, nul, k, w, id, ix, cs⟩ := f
  simp only [Fld.places, List.length_cons]
theorem places_ids {f : Fld} {d : Nat} {ahead : List Fld} {ins : Bool} {ids : List Int} : idsOf ids (f.places d ahead ins) = idsOf ids (f.places d [] ins) := by
  obtain ⟨nm, nul, k, w, id, ix, cs⟩ := f
  simp only [Fld.places, idsOf]
def Apart : List Fld → List Fld → Prop
  | _, [] => True
  | ahead, f :: fs => (∀ g ∈ ahead, g.name ≠ f.name) ∧ Apart (ahead ++ [f]) fs
theorem AllR_L {fs : List Fld} {d : Nat} {ins : Bool} : ∀ {ahead : List Fld} {n : Nat} {ids : List Int}, AllR n ids (placesL d ahead ins fs) ↔ Apart ahead fs ∧ AllR n ids (placesU d ins fs) := by
  induction fs with
  | nil => intro ahead n ids; simp [placesL, placesU, Apart, AllR]
  | cons f fs ih =>
    intro ahead n ids
    simp only [placesL, placesU, Apart, AllR_append, ih, places_ahead (ahead := ahead), places_len (ahead := ahead), places_ids (ahead := ahead)]
    constructor
    · rintro ⟨⟨a, b⟩, c, e⟩; exact ⟨⟨a, c⟩, b, e⟩
    · rintro ⟨⟨a, c⟩, b, e⟩; exact ⟨⟨a, b⟩, c, e⟩
theorem unlike_pw {cs : List Fld} : Unlike cs ↔ cs.Pairwise fun a b => a.name ≠ b.name := by
  rw [List.pairwise_iff_getElem]
  constructor
  · intro u i j hi hj hlt e
    exact u j i _ _ hlt (List.getElem?_eq_getElem hj) (List.getElem?_eq_getElem hi) e.symm
  · intro u i j a b hlt ea eb e
    obtain ⟨hi, rfl⟩ := List.getElem?_eq_some_iff.1 ea
    obtain ⟨hj, rfl⟩ := List.getElem?_eq_some_iff.1 eb
    exact u j i hj hi hlt e.symm
theorem apart_pw {fs : List Fld} : ∀ {ahead : List Fld}, ahead.Pairwise (fun a b => a.name ≠ b.name) → (Apart ahead fs ↔ (ahead ++ fs).Pairwise fun a b => a.name ≠ b.name) := by
  induction fs with
  | nil => intro ahead h; simp [Apart, h]
  | cons f fs ih =>
    intro ahead h
    simp only [Apart]
    have e : ahead ++ f :: fs = (ahead ++ [f]) ++ fs := by simp
    constructor
    · rintro ⟨h1, h2⟩
      have hp : (ahead ++ [f]).Pairwise fun a b => a.name ≠ b.name := List.pairwise_append.2 ⟨h, by simp, fun a ha b hb => by simp only [List.mem_singleton] at hb; subst hb; exact h1 a ha⟩
      rw [e]; exact (ih hp).1 h2
    · intro hp
      rw [e] at hp
      have hp1 := (List.pairwise_append.1 hp).1
      exact ⟨fun g hg => (List.pairwise_append.1 hp1).2.2 g hg f (by simp), (ih hp1).2 hp⟩
theorem AllR_0 {fs : List Fld} {d : Nat} {ins : Bool} {n : Nat} {ids : List Int} : AllR n ids (placesL d [] ins fs) ↔ Unlike fs ∧ AllR n ids (placesU d ins fs) := by
  rw [AllR_L, apart_pw List.Pairwise.nil, List.nil_append, unlike_pw]
theorem placesU_append {a b : List Fld} {d : Nat} {ins : Bool} : placesU d ins (a ++ b) = placesU d ins a ++ placesU d ins b := by
  induction a with
  | nil => rfl
  | cons f fs ih => simp only [List.cons_append, placesU, ih, List.append_assoc]
end Go.Proofs.YtfomkkdijjfpiaaDoor
/- The document's asking of a field. -/
namespace Go.Proofs.YtfomkkdijjfpiaaDoor
open Go Go.Sh Go.WideShapes
/-- what may turn: a cell of one's own, and numbers from lo on -/
def SX (p lo : Nat) (h : Hp) : Nat → Prop := fun b => b = p ∨ (lo ≤ b ∧ ∃ cs, Blk h b cs 3)
theorem SX.trans {p lo : Nat} {a b c : Hp} (x : Tn (SX p lo a) a b) (y : Tn (SX p lo b) b c) : Tn (SX p lo a) a c := by
  refine x.trans' y ?_
  intro d hd hlt
  by_cases hw : SX p lo a d
  · exact hw
  · rcases hd with hd | ⟨h1, cs, hb⟩
    · exact .inl hd
    · exact .inr ⟨h1, cs, (x.2 d hlt hw).symm.trans hb⟩
theorem SX.grw {p lo : Nat} {a b c : Hp} (x : Grw a b) (y : Tn (SX p lo b) b c) : Tn (SX p lo a) a c := SX.trans (Tn.of_grw x) y
theorem SX.grw' {p lo : Nat} {a b c : Hp} (x : Tn (SX p lo a) a b) (y : Grw b c) : Tn (SX p lo a) a c := SX.trans x (Tn.of_grw y)
theorem SX.old {p lo : Nat} {h0 h h' : Hp} (hp : h0.size ≤ p) (w : p < lo) (g : Grw h0 h) (f : Tn (SX p lo h) h h') : Grw h0 h' := by
  refine ⟨Nat.le_trans g.1 f.1, fun c hc => (f.2 c (Nat.lt_of_lt_of_le hc g.1) ?_).trans (g.2 c hc)⟩
  rintro (h1 | ⟨h1, _⟩) <;> omega
theorem SX.not {p lo b : Nat} {h : Hp} {cs : Array Value} {el : TypeId} (k : Blk h b cs el) (hb : b ≠ p) (he : el ≠ 3) : ¬ SX p lo h b := by
  rintro (h1 | ⟨_, cs', k'⟩)
  · exact hb h1
  · have e := k.symm.trans k'
    simp only [Option.some.injEq, Obj.cells.injEq] at e
    exact he e.2.1
def iv (l : List Int) : List Value := l.map (Value.int .i64)
/-- what is known of the fields gone through -/
structure Seen (p lo : Nat) (h : Hp) (n : Nat) (ids : List Int) : Prop where
  ex : ∃ s, Blk h p #[.int .i64 n, Sl.v s] 96 ∧ Sh lo h.size 1 h s (iv ids) 3
  lt : p < lo
  le : lo ≤ h.size
theorem Seen.keep {p lo n : Nat} {h h' : Hp} {ids : List Int} (w : Seen p lo h n ids) (g : Grw h h') : Seen p lo h' n ids := by
  obtain ⟨s, k, o⟩ := w.ex
  exact ⟨⟨s, (g.2 p k.lt).trans k, (o.grw g).wide (Nat.le_refl _) g.1⟩, w.lt, by have := w.le; have := g.1; omega⟩
theorem Sh.at3 {lo : Nat} {h : Hp} {s : Sl} {vs : List Value} {el : TypeId} (o : Sh lo h.size 1 h s vs el) {c : Nat} (hc : s.at c) : lo ≤ c ∧ ∃ cs, Blk h c cs el := by
  rcases o with ⟨rfl, _⟩ | ⟨b, hb1, hb2, ob⟩
  · exact absurd hc (Sl.at_nil c)
  · obtain ⟨a, ha, hb⟩ := hc
    obtain ⟨e, _, cs, kb, _⟩ := ob
    rw [e] at ha; cases ha; simp only at hb; subst hb
    exact ⟨hb1, cs, kb⟩
abbrev B61 (h : Hp) (b : Nat) (k w id ix : Int) (s : Sl) : Prop := Blk h b #[.int .i64 k, .int .i64 w, .int .i64 id, .int .i64 ix, Sl.v s] 61
def SeenC : Fld → Prop
  | .mk nm nul k w id ix cs => ∀ {p lo n : Nat} {h0 h : Hp} {ids : List Int} {d : Nat} {ins : Bool} {s : Sl} {K : Bool → HP} {Kp : PK}, h0.size ≤ p → Grw h0 h → FsH h0 s cs → Seen p lo h n ids → n ≤ 256 → ids.length ≤ n → d ≤ 65 →
      (∀ b h', (b = true ↔ AllR n ids ((Fld.mk nm nul k w id ix cs).places d [] ins)) → Tn (SX p lo h) h h' → (b = true → Seen p lo h' (n + ((Fld.mk nm nul k w id ix cs).places d [] ins).length) (idsOf ids ((Fld.mk nm nul k w id ix cs).places d [] ins))) → K b h') →
      Fn52 (some ⟨p, 0, none⟩) nm nul k w id ix s (d : Int) ins h K Kp
theorem seenL_c {cs : List Fld} (IH : ∀ f ∈ cs, SeenC f) {p lo n b1 : Nat} {h0 h : Hp} {ids : List Int} {d : Nat} {ins : Bool} {s : Sl} {k w id ix : Int} {K : Bool → HP} {Kp : PK} (hp : h0.size ≤ p) (g : Grw h0 h) (hs : FsH h0 s cs) (hc : cs.length ≤ 32) (sn : Seen p lo h n ids) (hn : n ≤ 256) (hids : ids.length ≤ n)
    (hd : d ≤ 64) (k1 : B61 h b1 k w id ix s) (nb : b1 ≠ p)
    (hk : ∀ b h', (b = true ↔ AllR n ids (placesU (d + 1) ins cs)) → Tn (SX p lo h) h h' → (b = true → Seen p lo h' (n + (placesU (d + 1) ins cs).length) (idsOf ids (placesU (d + 1) ins cs))) → K b h') : L52_3 (some ⟨p, 0, none⟩) (d : Int) ins ⟨b1, 0, none⟩ K Kp 0 h := by
  have hsn := hs.n
  refine L52_3.rule (fun x h' => ∃ i : Nat, x = (i : Int) ∧ i ≤ cs.length ∧ Tn (SX p lo h) h h' ∧ Seen p lo h' (n + (placesU (d + 1) ins (cs.take i)).length) (idsOf ids (placesU (d + 1) ins (cs.take i))) ∧ AllR n ids (placesU (d + 1) ins (cs.take i)) ∧ B61 h' b1 k w id ix s) (fun x _ => cs.length - x.toNat)
    ⟨0, rfl, by omega, Tn.refl _ _, by simpa [placesU, idsOf] using sn, by simp [placesU, AllR], k1⟩ ?_
  rintro x h1 ⟨i, rfl, hi, f1, sn1, a1, k1⟩ N1 hN
  unfold T52_3
  simp only [add_blk, Nat.reduceAdd]
  refine Ld_blk k1 rfl ?_
  refine If_i (fun c => ?_) fun c => ?_
  · refine Ld_blk k1 rfl ?_
    simp only [decide_eq_true_eq, decide_eq_false_iff_not, beq_iff_eq, beq_eq_false_iff_ne, ne_eq, reduceCtorEq, true_iff, false_iff, Bool.not_eq_true', Bool.not_eq_false', bne_iff_ne, bne_eq_false_iff_eq, Bool.not_true, Bool.not_false, Decidable.not_not] at c
    have hi' : i < cs.length := by omega
    have hj : cs[i]? = some cs[i] := List.getElem?_eq_getElem hi'
    have htk : cs.take (i + 1) = cs.take i ++ [cs[i]] := List.take_succ_eq_append_getElem hi'
    have hall : cs = cs.take i ++ (cs[i] :: cs.drop (i + 1)) := by rw [← List.drop_eq_getElem_cons hi', List.take_append_drop]
    have hmem : cs[i] ∈ cs := List.getElem_mem hi'
    generalize cs[i] = f at hj htk hall hmem
    refine hs.ix rfl hj fun a ha => ?_
    have IHf := IH f hmem
    obtain ⟨u, hu, c0, c1, c2, c3, c4, c5, c6⟩ := ha.cells
    have G := SX.old hp sn.lt g f1
    refine ⟨_, G.cell c0, _, G.cell c1, _, G.cell c2, _, G.cell c3, _, G.cell c4, _, G.cell c5, _, G.cell c6, ?_⟩
    refine Wr_i64 (by omega) (by omega) ?_
    have hlen := AllR_len a1 hn
    have hil := idsOf_len (a := placesU (d + 1) ins (cs.take i)) (ids := ids)
    have e1 : placesU (d + 1) ins (cs.take (i + 1)) = placesU (d + 1) ins (cs.take i) ++ f.places (d + 1) [] ins := by rw [htk, placesU_append]; simp [placesU]
    have e2 : placesU (d + 1) ins cs = placesU (d + 1) ins (cs.take i) ++ (f.places (d + 1) [] ins ++ placesU (d + 1) ins (cs.drop (i + 1))) := by
      have q := congrArg (placesU (d + 1) ins) hall
      rw [q, placesU_append]; simp [placesU]
    obtain ⟨fn, fnul, fk, fw, fid, fix, fcs⟩ := f
    have := IHf (K := fun b h' => If (!b) (K false h') (Wr .i64 ((i : Int) + 1) fun t117 => N1 (mk52_3 (some ⟨p, 0, none⟩) (d : Int) ins ⟨b1, 0, none⟩ t117) h')) (Kp := Kp) (d := d + 1) (ins := ins) hp G hu sn1 hlen (by omega) (by omega) fun b h2 hb f2 hs2 => ?_
    · exact this
    · cases b
      · refine If_t rfl (hk false h2 ⟨by simp, fun q => ?_⟩ (SX.trans f1 f2) (by simp))
        rw [e2, AllR_append, AllR_append] at q
        exact absurd (hb.2 q.2.1) (by simp)
      · refine If_f rfl (Wr_i64 (by omega) (by omega) ?_)
        have hb := hb.1 rfl
        have s2 := hs2 rfl
        refine hN _ _ ⟨i + 1, by simp, by omega, SX.trans f1 f2, ?_, ?_, f2.blk k1 (SX.not k1 nb (show (61 : Nat) ≠ 3 by decide))⟩ (by omega)
        · rw [e1, List.length_append, idsOf_append, ← Nat.add_assoc]; exact s2
        · rw [e1, AllR_append]; exact ⟨a1, hb⟩
  · simp only [decide_eq_true_eq, decide_eq_false_iff_not, beq_iff_eq, beq_eq_false_iff_ne, ne_eq, reduceCtorEq, true_iff, false_iff, Bool.not_eq_true', Bool.not_eq_false', bne_iff_ne, bne_eq_false_iff_eq, Bool.not_true, Bool.not_false, Decidable.not_not] at c
    have : i = cs.length := by omega
    subst this
    rw [List.take_length] at a1 sn1
    exact hk true h1 ⟨fun _ => a1, fun _ => rfl⟩ f1 fun _ => sn1
theorem seen2_c {cs : List Fld} (IH : ∀ f ∈ cs, SeenC f) {p lo n b1 : Nat} {h0 h : Hp} {ids : List Int} {d : Nat} {ins : Bool} {s : Sl} {k w id ix : Int} {K : Bool → HP} {Kp : PK} (hp : h0.size ≤ p) (g : Grw h0 h) (hs : FsH h0 s cs) (hc : cs.length ≤ 32) (sn : Seen p lo h n ids) (hn : n ≤ 256) (hids : ids.length ≤ n)
    (hd : d ≤ 64) (k1 : B61 h b1 k w id ix s) (nb : b1 ≠ p)
    (hk : ∀ b h', (b = true ↔ AllR n ids (placesL (d + 1) [] ins cs)) → Tn (SX p lo h) h h' → (b = true → Seen p lo h' (n + (placesU (d + 1) ins cs).length) (idsOf ids (placesU (d + 1) ins cs))) → K b h') : J52_2 (some ⟨p, 0, none⟩) (d : Int) ins ⟨b1, 0, none⟩ K Kp h := by
  refine J52_2.of ?_
  unfold JT52_2
  simp only [add_blk, Nat.reduceAdd]
  refine Ld_blk k1 rfl ?_
  refine unlike_c g hs (by omega) fun b hb => ?_
  rw [AllR_0] at hk
  cases b
  · exact If_t rfl (hk false h ⟨by simp, fun q => absurd (hb.2 q.1) (by simp)⟩ (Tn.refl _ _) (by simp))
  · refine If_f rfl ?_
    refine seenL_c IH hp g hs hc sn hn hids hd k1 nb fun b h' hb' f s' => hk b h' ?_ f s'
    rw [hb']
    exact ⟨fun q => ⟨hb.1 rfl, q⟩, fun q => q.2⟩
theorem L_len {fs : List Fld} {d : Nat} {ins : Bool} : ∀ {ahead : List Fld}, (placesL d ahead ins fs).length = (placesU d ins fs).length := by
  induction fs with
  | nil => intro ahead; rfl
  | cons f fs ih => intro ahead; simp only [placesL, placesU, List.length_append, ih, places_len (ahead := ahead)]
theorem L_ids {fs : List Fld} {d : Nat} {ins : Bool} : ∀ {ahead : List Fld} {ids : List Int}, idsOf ids (placesL d ahead ins fs) = idsOf ids (placesU d ins fs) := by
  induction fs with
  | nil => intro ahead ids; rfl
  | cons f fs ih => intro ahead ids; simp only [placesL, placesU, idsOf_append, ih, places_ids (ahead := ahead)]
end Go.Proofs.YtfomkkdijjfpiaaDoor
/- The document's asking of a field, the whole. -/
namespace Go.Proofs.YtfomkkdijjfpiaaDoor
open Go Go.Sh Go.WideShapes
theorem NN_some {a : Addr} {K : Addr → Prop} : NN (some a) K = K a := rfl
theorem places_cons {nm : ByteArray} {nul : Bool} {k w id ix : Int} {cs : List Fld} {d : Nat} {ins : Bool} (hd : d ≤ 64) : (Fld.mk nm nul k w id ix cs).places d [] ins = ⟨d, [], .mk nm nul k w id ix cs, ins⟩ :: placesL (d + 1) [] (ins || k == 19) cs := by
  unfold Fld.places; rw [if_pos (by omega)]
theorem seen_step {nm : ByteArray} {nul : Bool} {k w id ix : Int} {cs : List Fld} (IH : ∀ f ∈ cs, SeenC f) : SeenC (.mk nm nul k w id ix cs) := by
  intro p lo n h0 h ids d ins s K Kp hp g hs sn hn hids hd hk
  have hsn := hs.n
  obtain ⟨si, kp, oi⟩ := sn.ex
  have hplt := sn.lt
  have hle := sn.le
  refine Fn52.of ?_
  unfold S52
  simp only [NN_some]
  refine New_i fun b5 h1 e5 g1 k5 _ => ?_
  have kp := kp.grw g1
  have nb5 : b5 ≠ p := by omega
  refine Ld_blk kp rfl (Wr_i64 (by omega) (by omega) ?_)
  refine St_i (b := p) (i := 0) kp (by simp) rfl fun h2 o2 kp => ?_
  have f2 : Tn (SX p lo h) h h2 := SX.grw g1 (o2.fr.mono fun c hc _ => .inl hc)
  have k5 := o2.blk k5 nb5
  have oi2 : Sh lo h2.size 1 h2 si (iv ids) 3 := by
    have := (oi.grw g1).wide (lo' := lo) (hi' := h1.size) (Nat.le_refl _) g1.1
    exact (this.fr o2.fr fun b hb _ e => by omega).wide (Nat.le_refl _) (by rw [o2.1]; exact Nat.le_refl _)
  have sn2 : Seen p lo h2 (n + 1) ids := ⟨⟨si, by simpa using kp, oi2⟩, hplt, by have := f2.1; omega⟩
  clear kp oi o2 oi2

  refine Ld_blk k5 rfl ?_
  refine rnamed_c fun b hb => ?_
  have hF : ¬ AllR n ids ((Fld.mk nm nul k w id ix cs).places d [] ins) → ∀ h', Tn (SX p lo h) h h' → K false h' := fun q h' f => hk false h' ⟨by simp, fun x => (q x).elim⟩ f (by simp)
  have hF' : ¬ Right n ids ⟨d, [], .mk nm nul k w id ix cs, ins⟩ → ∀ h', Tn (SX p lo h) h h' → K false h' := fun q => hF fun x => by unfold Fld.places at x; exact q x.1
  cases b
  · refine If_t rfl ?_
    refine J52_7.of ?_
    unfold JT52_7
    refine If_t rfl (hF' (fun q => absurd (hb.2 q.2.2.1) (by simp)) h2 f2)
  have hname := hb.1 rfl
  clear hb
  refine If_f rfl ?_
  obtain ⟨s2, kp2, _⟩ := sn2.ex
  refine Ld_blk kp2 rfl ?_
  refine J52_7.of ?_
  unfold JT52_7
  refine If_i (fun c => ?_) fun c => ?_
  · simp only [decide_eq_true_eq, decide_eq_false_iff_not, beq_iff_eq, beq_eq_false_iff_ne, ne_eq, reduceCtorEq, true_iff, false_iff, Bool.not_eq_true', Bool.not_eq_false', bne_iff_ne, bne_eq_false_iff_eq, Bool.not_true, Bool.not_false, Decidable.not_not] at c
    exact hF' (fun q => by have := q.2.1; omega) h2 f2
  refine If_i (fun c2 => ?_) fun c2 => ?_
  · simp only [decide_eq_true_eq, decide_eq_false_iff_not, beq_iff_eq, beq_eq_false_iff_ne, ne_eq, reduceCtorEq, true_iff, false_iff, Bool.not_eq_true', Bool.not_eq_false', bne_iff_ne, bne_eq_false_iff_eq, Bool.not_true, Bool.not_false, Decidable.not_not] at c2
    exact hF' (fun q => by have := q.1; simp only at this; omega) h2 f2
  simp only [decide_eq_true_eq, decide_eq_false_iff_not, beq_iff_eq, beq_eq_false_iff_ne, ne_eq, reduceCtorEq, true_iff, false_iff, Bool.not_eq_true', Bool.not_eq_false', bne_iff_ne, bne_eq_false_iff_eq, Bool.not_true, Bool.not_false, Decidable.not_not] at c c2
  refine J52_1.of ?_
  unfold JT52_1
  simp only [add_blk, Nat.reduceAdd]
  refine Ld_blk k5 rfl (Ld_blk k5 rfl (Ld_blk k5 rfl (Ld_blk k5 rfl (Ld_blk k5 rfl ?_))))
  have lc := SyH.start No h2
  refine lc.new fun b10 _ hb10 _ lc => ?_
  repeat (first | refine lc.ldo 0 rfl rfl ?_ | refine lc.ld 0 rfl rfl ?_ | refine lc.ldo 1 rfl rfl ?_ | refine lc.ld 1 rfl rfl ?_ | refine lc.ldo 2 rfl rfl ?_ | refine lc.ld 2 rfl rfl ?_ | refine lc.ldo 3 rfl rfl ?_ | refine lc.ld 3 rfl rfl ?_ | refine lc.ldo 4 rfl rfl ?_ | refine lc.ld 4 rfl rfl ?_ | refine lc.ldo 5 rfl rfl ?_ | refine lc.ld 5 rfl rfl ?_ | refine lc.ldo 6 rfl rfl ?_ | refine lc.ld 6 rfl rfl ?_ | (refine lc.sto 0 rfl rfl rfl fun _ _ lc => ?_; simp only [Nat.zero_add, List.set_cons_zero, List.set_cons_succ, List.setIfInBounds_toArray] at lc) | (refine lc.st 0 rfl rfl rfl fun _ _ lc => ?_; simp only [Nat.zero_add, List.set_cons_zero, List.set_cons_succ, List.setIfInBounds_toArray] at lc) | (refine lc.sto 1 rfl rfl rfl fun _ _ lc => ?_; simp only [Nat.zero_add, List.set_cons_zero, List.set_cons_succ, List.setIfInBounds_toArray] at lc) | (refine lc.st 1 rfl rfl rfl fun _ _ lc => ?_; simp only [Nat.zero_add, List.set_cons_zero, List.set_cons_succ, List.setIfInBounds_toArray] at lc) | (refine lc.sto 2 rfl rfl rfl fun _ _ lc => ?_; simp only [Nat.zero_add, List.set_cons_zero, List.set_cons_succ, List.setIfInBounds_toArray] at lc) | (refine lc.st 2 rfl rfl rfl fun _ _ lc => ?_; simp only [Nat.zero_add, List.set_cons_zero, List.set_cons_succ, List.setIfInBounds_toArray] at lc) | (refine lc.sto 3 rfl rfl rfl fun _ _ lc => ?_; simp only [Nat.zero_add, List.set_cons_zero, List.set_cons_succ, List.setIfInBounds_toArray] at lc) | (refine lc.st 3 rfl rfl rfl fun _ _ lc => ?_; simp only [Nat.zero_add, List.set_cons_zero, List.set_cons_succ, List.setIfInBounds_toArray] at lc) | (refine lc.sto 4 rfl rfl rfl fun _ _ lc => ?_; simp only [Nat.zero_add, List.set_cons_zero, List.set_cons_succ, List.setIfInBounds_toArray] at lc) | (refine lc.st 4 rfl rfl rfl fun _ _ lc => ?_; simp only [Nat.zero_add, List.set_cons_zero, List.set_cons_succ, List.setIfInBounds_toArray] at lc) | (refine lc.sto 5 rfl rfl rfl fun _ _ lc => ?_; simp only [Nat.zero_add, List.set_cons_zero, List.set_cons_succ, List.setIfInBounds_toArray] at lc) | (refine lc.st 5 rfl rfl rfl fun _ _ lc => ?_; simp only [Nat.zero_add, List.set_cons_zero, List.set_cons_succ, List.setIfInBounds_toArray] at lc) | (refine lc.sto 6 rfl rfl rfl fun _ _ lc => ?_; simp only [Nat.zero_add, List.set_cons_zero, List.set_cons_succ, List.setIfInBounds_toArray] at lc) | (refine lc.st 6 rfl rfl rfl fun _ _ lc => ?_; simp only [Nat.zero_add, List.set_cons_zero, List.set_cons_succ, List.setIfInBounds_toArray] at lc) | refine lc.ldo 0 (x := Sl.nil) rfl rfl ?_ | refine lc.ld 0 (x := Sl.nil) rfl rfl ?_ | refine lc.ldo 1 (x := Sl.nil) rfl rfl ?_ | refine lc.ld 1 (x := Sl.nil) rfl rfl ?_ | refine lc.ldo 2 (x := Sl.nil) rfl rfl ?_ | refine lc.ld 2 (x := Sl.nil) rfl rfl ?_ | refine lc.ldo 3 (x := Sl.nil) rfl rfl ?_ | refine lc.ld 3 (x := Sl.nil) rfl rfl ?_ | refine lc.ldo 4 (x := Sl.nil) rfl rfl ?_ | refine lc.ld 4 (x := Sl.nil) rfl rfl ?_ | refine lc.ldo 5 (x := Sl.nil) rfl rfl ?_ | refine lc.ld 5 (x := Sl.nil) rfl rfl ?_ | refine lc.ldo 6 (x := Sl.nil) rfl rfl ?_ | refine lc.ld 6 (x := Sl.nil) rfl rfl ?_ | refine Wr_i64 (by omega) (by omega) ?_ | refine If_t rfl ?_ | refine If_f rfl ?_)
  have k10 : B61 _ b10 k w id ix s := lc.blk (i := 0) rfl
  have f3 := SX.grw' f2 lc.grw
  have k5 := k5.grw lc.grw
  have sn3 := sn2.keep lc.grw
  have nb10 : b10 ≠ p := by have := sn2.le; omega
  clear lc sn2
  refine rshaped_c fun b h7 g7 hb => ?_
  have f7 := SX.grw' f3 g7
  have k5 := k5.grw g7
  have k10 := k10.grw g7
  have sn7 := sn3.keep g7
  rw [hsn.1] at hb
  clear sn3
  cases b
  · exact If_t rfl (hF' (fun q => absurd (hb.2 q.2.2.2.2.1) (by simp)) h7 f7)
  have hsh := hb.1 rfl
  clear hb
  have G7 := SX.old hp hplt g f7
  have hc32 : cs.length ≤ 32 := by unfold Shaped at hsh; omega
  -- all is right but the last two questions
  have hR : Nulls k nul cs → ¬ (ins = true ∧ (k = 19 ∨ k = 20)) → (k = 19 → (∃ c, cs[0]? = some c ∧ c.nul = false) ∧ id ∉ ids) → Right n ids ⟨d, [], .mk nm nul k w id ix cs, ins⟩ := fun a b e => ⟨by show d ≤ 64; omega, by omega, hname, by simp, hsh, a, b, e⟩
  have fin : ∀ (ins' : Bool) (ids' : List Int) (h8 : Hp), Right n ids ⟨d, [], .mk nm nul k w id ix cs, ins⟩ → ins' = (ins || k == 19) → ids' = nextIds ids (.mk nm nul k w id ix cs) → Tn (SX p lo h) h h8 → Seen p lo h8 (n + 1) ids' → ids'.length ≤ n + 1 → B61 h8 b10 k w id ix s → J52_2 (some ⟨p, 0, none⟩) (d : Int) ins' ⟨b10, 0, none⟩ K Kp h8 := by
    intro ins' ids' h8 hr hi hid f8 sn8 hl k8
    rw [places_cons (by omega)] at hk
    simp only [AllR, idsOf, List.length_cons, L_ids, L_len, ← hi, ← hid] at hk
    refine seen2_c IH hp (SX.old hp hplt g f8) hs hc32 sn8 (by omega) hl (by omega) k8 nb10 fun b h' hb' f s' => hk b h' ?_ (SX.trans f8 f) fun e => ?_
    · rw [hb']; exact ⟨fun q => ⟨hr, q⟩, fun q => q.2⟩
    · have e2 : n + ((placesU (d + 1) ins' cs).length + 1) = n + 1 + (placesU (d + 1) ins' cs).length := by omega
      rw [e2]; exact s' e
  have fin0 : k ≠ 19 → Nulls k nul cs → ¬ (ins = true ∧ (k = 19 ∨ k = 20)) → J52_2 (some ⟨p, 0, none⟩) (d : Int) ins ⟨b10, 0, none⟩ K Kp h7 := fun e a b =>
    fin ins ids h7 (hR a b fun q => absurd q e) (by simp [e]) (by unfold nextIds; rw [if_neg (by simpa [Fld.k] using e)]) f7 sn7 (by omega) k10
  simp only [add_blk, Nat.reduceAdd]
  refine If_f rfl (Ld_blk k10 rfl ?_)
  unfold Nulls at hR fin0
  refine If_i (fun e => ?_) fun e => ?_
  · simp only [decide_eq_true_eq, decide_eq_false_iff_not, beq_iff_eq, beq_eq_false_iff_ne, ne_eq, reduceCtorEq, true_iff, false_iff, Bool.not_eq_true', Bool.not_eq_false', bne_iff_ne, bne_eq_false_iff_eq, Bool.not_true, Bool.not_false, Decidable.not_not] at e
    subst e
    refine Ld_blk k5 rfl ?_
    cases nul
    · exact If_t rfl (hF' (fun q => by have := q.2.2.2.2.2.1.1; simp [Fld.k, Fld.nul] at this) h7 f7)
    · exact If_f rfl (fin0 (by simp) (by simp) (by simp))
  refine If_i (fun e2 => ?_) fun e2 => ?_
  · simp only [decide_eq_true_eq, decide_eq_false_iff_not, beq_iff_eq, beq_eq_false_iff_ne, ne_eq, reduceCtorEq, true_iff, false_iff, Bool.not_eq_true', Bool.not_eq_false', bne_iff_ne, bne_eq_false_iff_eq, Bool.not_true, Bool.not_false, Decidable.not_not] at e2
    subst e2
    refine Ld_blk k5 rfl ?_
    cases nul
    · exact If_f rfl (fin0 (by simp) (by simp) (by simp))
    · exact If_t rfl (hF' (fun q => by have := q.2.2.2.2.2.1.2.1; simp [Fld.k, Fld.nul] at this) h7 f7)
  refine If_i (fun e3 => ?_) fun e3 => ?_
  · simp only [decide_eq_true_eq, decide_eq_false_iff_not, beq_iff_eq, beq_eq_false_iff_ne, ne_eq, reduceCtorEq, true_iff, false_iff, Bool.not_eq_true', Bool.not_eq_false', bne_iff_ne, bne_eq_false_iff_eq, Bool.not_true, Bool.not_false, Decidable.not_not] at e3
    subst e3
    cases ins
    · refine If_f rfl (Ld_blk k5 rfl (Ld_blk k10 rfl ?_))
      obtain ⟨f, hj⟩ : ∃ f, cs[0]? = some f := by
        have hpos : 0 < cs.length := by unfold Shaped at hsh; omega
        exact ⟨cs[0], List.getElem?_eq_getElem hpos⟩
      refine hs.ix rfl hj fun a ha => ?_
      obtain ⟨u, _, _, c1, _⟩ := ha.cells
      refine ⟨_, G7.cell c1, ?_⟩
      refine If_i (fun e4 => ?_) fun e4 => ?_
      · refine hF' (fun q => ?_) h7 f7
        obtain ⟨c, hc, q⟩ := q.2.2.2.2.2.1.2.2 rfl
        simp only [Fld.cs, Fld.nul, hj, Option.some.injEq] at hc q
        subst hc
        cases nul <;> cases hfn : f.nul <;> simp_all [Fld.nul]
      · refine fin0 (by simp) ⟨by simp, by simp, fun _ => ⟨f, hj, ?_⟩⟩ (by simp)
        cases nul <;> cases hfn : f.nul <;> simp_all
    · exact If_t rfl (hF' (fun q => q.2.2.2.2.2.2.1 ⟨rfl, .inr rfl⟩) h7 f7)
  refine If_i (fun e4 => ?_) fun e4 => ?_
  · simp only [decide_eq_true_eq, decide_eq_false_iff_not, beq_iff_eq, beq_eq_false_iff_ne, ne_eq, reduceCtorEq, true_iff, false_iff, Bool.not_eq_true', Bool.not_eq_false', bne_iff_ne, bne_eq_false_iff_eq, Bool.not_true, Bool.not_false, Decidable.not_not] at e4
    subst e4
    cases ins
    · refine If_f rfl (Ld_blk k10 rfl ?_)
      obtain ⟨f, hj⟩ : ∃ f, cs[0]? = some f := by
        have hpos : 0 < cs.length := by unfold Shaped at hsh; omega
        exact ⟨cs[0], List.getElem?_eq_getElem hpos⟩
      refine hs.ix rfl hj fun a ha => ?_
      obtain ⟨u, _, _, c1, _⟩ := ha.cells
      refine ⟨_, G7.cell c1, ?_⟩
      refine If_i (fun e5 => ?_) fun e5 => ?_
      · refine hF' (fun q => ?_) h7 f7
        obtain ⟨c, hc, q⟩ := (q.2.2.2.2.2.2.2 rfl).1
        simp only [Fld.cs, hj, Option.some.injEq] at hc
        subst hc
        simp [e5] at q
      · refine J52_4.of ?_
        unfold JT52_4
        obtain ⟨s9, kp9, o9⟩ := sn7.ex
        have hn9 := o9.n
        have hni : s9.n = ids.length := by simpa [iv] using hn9.symm
        refine L52_6.rule (fun x h' => h' = h7 ∧ ∃ i : Nat, x = i ∧ i ≤ ids.length ∧ ∀ (j : Nat) v, j < i → ids[j]? = some v → v ≠ id) (fun x _ => ids.length - x.toNat) ⟨rfl, 0, rfl, by omega, fun j v hj => by omega⟩ ?_
        rintro x h8 ⟨rfl, i, rfl, hi, hall⟩ N1 hN
        unfold T52_6
        simp only [add_blk, Nat.reduceAdd]
        refine Ld_blk (b := p) (i := 1) kp9 rfl ?_
        refine If_i (fun c3 => ?_) fun c3 => ?_
        · simp only [decide_eq_true_eq, decide_eq_false_iff_not, beq_iff_eq, beq_eq_false_iff_ne, ne_eq, reduceCtorEq, true_iff, false_iff, Bool.not_eq_true', Bool.not_eq_false', bne_iff_ne, bne_eq_false_iff_eq, Bool.not_true, Bool.not_false, Decidable.not_not] at c3
          refine Ld_blk (b := p) (i := 1) kp9 rfl ?_
          have hi' : i < ids.length := by omega
          have ei : ids[i]? = some ids[i] := List.getElem?_eq_getElem hi'
          generalize ids[i] = v at ei
          refine o9.sv.ix (v := .int .i64 v) (by omega) (by omega) (by rw [Int.toNat_natCast, iv, List.getElem?_map, ei]; rfl) fun a9 c9 => ?_
          refine ⟨_, c9, Ld_blk k10 rfl ?_⟩
          refine If_i (fun c4 => ?_) fun c4 => ?_
          · simp only [decide_eq_true_eq, decide_eq_false_iff_not, beq_iff_eq, beq_eq_false_iff_ne, ne_eq, reduceCtorEq, true_iff, false_iff, Bool.not_eq_true', Bool.not_eq_false', bne_iff_ne, bne_eq_false_iff_eq, Bool.not_true, Bool.not_false, Decidable.not_not] at c4
            subst c4
            exact hF' (fun q => (q.2.2.2.2.2.2.2 rfl).2 (List.mem_of_getElem? ei)) h8 f7
          · simp only [decide_eq_true_eq, decide_eq_false_iff_not, beq_iff_eq, beq_eq_false_iff_ne, ne_eq, reduceCtorEq, true_iff, false_iff, Bool.not_eq_true', Bool.not_eq_false', bne_iff_ne, bne_eq_false_iff_eq, Bool.not_true, Bool.not_false, Decidable.not_not] at c4
            refine Wr_i64 (by omega) (by omega) (hN _ _ ⟨rfl, i + 1, by simp, by omega, fun j' v' hlt ej => ?_⟩ (by omega))
            by_cases e : j' = i
            · subst e; rw [ei] at ej; cases ej; exact c4
            · exact hall j' v' (by omega) ej
        · simp only [decide_eq_true_eq, decide_eq_false_iff_not, beq_iff_eq, beq_eq_false_iff_ne, ne_eq, reduceCtorEq, true_iff, false_iff, Bool.not_eq_true', Bool.not_eq_false', bne_iff_ne, bne_eq_false_iff_eq, Bool.not_true, Bool.not_false, Decidable.not_not] at c3
          have hnot : id ∉ ids := fun q => by
            obtain ⟨j, hj⟩ := List.mem_iff_getElem?.1 q
            exact hall j id (by have := (List.getElem?_eq_some_iff.1 hj).1; omega) hj rfl
          refine J52_5.of ?_
          unfold JT52_5
          simp only [NN_some, add_blk, Nat.reduceAdd]
          refine Ld_blk (b := p) (i := 1) kp9 rfl (Ld_blk k10 rfl ?_)
          refine New_i fun b11 h9 e11 g9 k11 _ => ?_
          have kp10 := kp9.grw g9
          refine ⟨fun i hi => by obtain rfl : i = 0 := by omega
                                 rw [add_zero']; show Go.Sh.cell h9 ⟨p, 1, none⟩ = Go.Sh.cell h8 ⟨p, 1, none⟩; rw [cell_blk kp10, cell_blk kp9], ?_⟩
          have o10 := (o9.grw g9).wide (lo' := lo) (hi' := h9.size) (Nat.le_refl _) g9.1
          refine Ap_sh o10 (by have := sn7.le; have := g9.1; omega) rfl (new := [.int .i64 id]) rfl (by simp [one]) (rd_blk k11 rfl) (by omega) (by omega) fun s12 h12 f12 at12 o12 hn12 => ?_
          have hat : ∀ c, s9.at c → SX p lo h9 c := fun c hc => .inr (Sh.at3 o10 hc)
          have hnp : ¬ s9.at p := fun hc => by have := (o10.at hc).1; omega
          have kp12 := f12.blk kp10 hnp
          refine St_i (b := p) (i := 1) kp12 (by simp) rfl fun h13 o13 kp13 => ?_
          have f13 : Tn (SX p lo h) h h13 := SX.trans f7 (SX.grw g9 (SX.trans (f12.mono fun c hc _ => hat c hc) (o13.fr.mono fun c hc _ => .inl hc)))
          have k13 := o13.fr.blk (f12.blk (k10.grw g9) fun hc => absurd (Sh.at3 o10 hc).2 (by
            rintro ⟨cs', k'⟩
            have e := (k10.grw g9).symm.trans k'
            simp at e)) nb10
          refine fin true (ids ++ [id]) h13 (hR (by simp) (by simp) fun _ => ⟨⟨f, hj, by simpa using e5⟩, hnot⟩) (by simp) (by unfold nextIds; rw [if_pos (by rfl)]; rfl) f13 ⟨⟨s12, by simpa using kp13, ?_⟩, hplt, ?_⟩ (by rw [List.length_append]; simp only [List.length_cons, List.length_nil]; omega) k13
          · have := o12.fr o13.fr fun b hb _ e => by omega
            have := this.wide (lo' := lo) (hi' := h13.size) (Nat.le_refl _) (by rw [o13.1]; exact Nat.le_refl _)
            simpa [iv] using this
          · have := sn7.le; have := g9.1; have := f12.1; have := o13.1; omega
    · exact If_t rfl (hF' (fun q => q.2.2.2.2.2.2.1 ⟨rfl, .inl rfl⟩) h7 f7)
  · simp only [decide_eq_true_eq, decide_eq_false_iff_not, beq_iff_eq, beq_eq_false_iff_ne, ne_eq, reduceCtorEq, true_iff, false_iff, Bool.not_eq_true', Bool.not_eq_false', bne_iff_ne, bne_eq_false_iff_eq, Bool.not_true, Bool.not_false, Decidable.not_not] at e e2 e3 e4
    exact fin0 e4 ⟨fun q => absurd q e, fun q => absurd q e2, fun q => absurd q e3⟩ (fun q => by omega)
theorem seen_c : ∀ f : Fld, SeenC f
  | .mk _ _ _ _ _ _ cs => seen_step fun f _ => seen_c f
end Go.Proofs.YtfomkkdijjfpiaaDoor
/- The document's asking of a schema, of a head. -/
namespace Go.Proofs.YtfomkkdijjfpiaaDoor
open Go Go.Sh Go.WideShapes
def MdOk (m : Md) : Prop := m.1.size ≤ 256 ∧ m.2.size ≤ 256
/-- which schemas may be -/
def SchOk (fs : List Fld) (ms : List Md) : Prop := fs.length ≤ 32 ∧ ms.length ≤ 16 ∧ (∀ (j : Nat) m, ms[j]? = some m → MdOk m) ∧ Unlike fs ∧ AllR 0 [] (placesU 1 false fs)
def NdOk (x : Nd) : Prop := 0 ≤ x.1 ∧ x.1 ≤ 4096 ∧ 0 ≤ x.2 ∧ x.2 ≤ x.1
def BfOk (x : Bf) : Prop := 0 ≤ x.1 ∧ x.1 ≤ 4194304 ∧ 0 ≤ x.2.1 ∧ x.2.1 ≤ 4194304 ∧ 0 ≤ x.2.2 ∧ x.2.2 ≤ 4194304
/-- which heads may be -/
def HdOk (H : Hd) : Prop := (H.k = 1 ∧ H.id = 0 ∧ H.de = false ∧ H.rows = 0 ∧ H.press = 0 ∧ H.nodes.length = 0 ∧ H.bufs.length = 0 ∧ SchOk H.fs H.ms) ∨
  ((H.k = 2 ∧ 0 ≤ H.id ∧ H.id ≤ 31 ∨ H.k = 3 ∧ H.id = 0 ∧ H.de = false) ∧ H.fs.length = 0 ∧ H.ms.length = 0 ∧ 0 ≤ H.rows ∧ H.rows ≤ 4096 ∧ 0 ≤ H.press ∧ H.press ≤ 2 ∧ H.nodes.length ≤ 512 ∧ H.bufs.length ≤ 1536 ∧
    (∀ (j : Nat) x, H.nodes[j]? = some x → NdOk x) ∧ (∀ (j : Nat) x, H.bufs[j]? = some x → BfOk x))
/-- a row is reached -/
theorem RsH.ix {α : Type} {row : α → List Value} {h0 : Hp} {s : Sl} {sz : Nat} {l : List α} (hs : RsH h0 s sz (l.map row)) {x : Int} {i : Nat} (hx : x = (i : Int)) {r : α} (hj : l[i]? = some r) {K : Addr → Prop} (hk : ∀ a, Cs h0 a (row r) → K a) : Ix s.a s.n sz x K := by
  obtain ⟨a, ha, hc⟩ := hs.2.2 i (row r) (by rw [List.getElem?_map, hj]; rfl)
  have hi : i < l.length := (List.getElem?_eq_some_iff.1 hj).1
  have hn : s.n = l.length := by simpa using hs.1
  subst hx
  rw [ha]
  exact ⟨by omega, by omega, by rw [Int.toNat_natCast]; exact hk _ hc⟩
theorem Cs.c0 {h : Hp} {a : Addr} {v : Value} {vs : List Value} (c : Cs h a (v :: vs)) : cell h a = some v := by
  have := c 0 _ rfl; rwa [add_zero'] at this
theorem schema_may {fs : List Fld} {ms : List Md} {h0 h : Hp} {s1 s2 : Sl} {K : Bool → HP} {Kp : PK} (g : Grw h0 h) (h1 : FsH h0 s1 fs) (h2 : RsH h0 s2 2 (ms.map mdRow)) (hk : ∀ b h', Grw h h' → (b = true ↔ SchOk fs ms) → K b h') : Fn37 s1 s2 h K Kp := by
  refine Fn37.of ?_
  unfold S37
  have hn1 := h1.n
  have hn2 : s2.n = ms.length := by simpa using h2.1
  refine New_i fun b1 h3 e1 g1 k1 _ => ?_
  have hF : ¬ SchOk fs ms → ∀ h', Grw h h' → K false h' := fun q h' g => hk false h' g ⟨by simp, fun x => (q x).elim⟩
  simp only [add_blk, Nat.reduceAdd]
  refine Ld_blk k1 rfl (If_i (fun c => ?_) fun c => ?_)
  · simp only [decide_eq_true_eq, decide_eq_false_iff_not, beq_iff_eq, beq_eq_false_iff_ne, ne_eq, reduceCtorEq, true_iff, false_iff, Bool.not_eq_true', Bool.not_eq_false', bne_iff_ne, bne_eq_false_iff_eq, Bool.not_true, Bool.not_false, Decidable.not_not] at c
    exact hF (fun q => by have := q.1; omega) _ g1
  refine Ld_blk k1 rfl (If_i (fun c2 => ?_) fun c2 => ?_)
  · simp only [decide_eq_true_eq, decide_eq_false_iff_not, beq_iff_eq, beq_eq_false_iff_ne, ne_eq, reduceCtorEq, true_iff, false_iff, Bool.not_eq_true', Bool.not_eq_false', bne_iff_ne, bne_eq_false_iff_eq, Bool.not_true, Bool.not_false, Decidable.not_not] at c2
    exact hF (fun q => by have := q.2.1; omega) _ g1
  simp only [decide_eq_true_eq, decide_eq_false_iff_not, beq_iff_eq, beq_eq_false_iff_ne, ne_eq, reduceCtorEq, true_iff, false_iff, Bool.not_eq_true', Bool.not_eq_false', bne_iff_ne, bne_eq_false_iff_eq, Bool.not_true, Bool.not_false, Decidable.not_not] at c c2
  refine J37_1.of ?_
  unfold JT37_1
  refine L37_4.rule (fun x h' => h' = h3 ∧ ∃ i : Nat, x = i ∧ i ≤ ms.length ∧ ∀ (j : Nat) v, j < i → ms[j]? = some v → MdOk v) (fun x _ => ms.length - x.toNat) ⟨rfl, 0, rfl, by omega, fun j v hj => by omega⟩ ?_
  rintro x h4 ⟨rfl, i, rfl, hi, hall⟩ N1 hN
  unfold T37_4
  simp only [add_blk, Nat.reduceAdd]
  have G := Grw.trans g g1
  refine Ld_blk k1 rfl (If_i (fun c3 => ?_) fun c3 => ?_)
  · simp only [decide_eq_true_eq, decide_eq_false_iff_not, beq_iff_eq, beq_eq_false_iff_ne, ne_eq, reduceCtorEq, true_iff, false_iff, Bool.not_eq_true', Bool.not_eq_false', bne_iff_ne, bne_eq_false_iff_eq, Bool.not_true, Bool.not_false, Decidable.not_not] at c3
    have hi' : i < ms.length := by omega
    have ei : ms[i]? = some ms[i] := List.getElem?_eq_getElem hi'
    generalize ms[i] = v at ei
    refine Ld_blk k1 rfl (h2.ix rfl ei fun a ha => ?_)
    refine ⟨_, G.cell (Cs.c0 (v := .string v.1) ha), If_i (fun c4 => ?_) fun c4 => ?_⟩
    · simp only [decide_eq_true_eq, decide_eq_false_iff_not, beq_iff_eq, beq_eq_false_iff_ne, ne_eq, reduceCtorEq, true_iff, false_iff, Bool.not_eq_true', Bool.not_eq_false', bne_iff_ne, bne_eq_false_iff_eq, Bool.not_true, Bool.not_false, Decidable.not_not] at c4
      exact hF (fun q => by have := (q.2.2.1 i v ei).1; omega) _ g1
    refine Ld_blk k1 rfl (h2.ix rfl ei fun a ha => ?_)
    refine ⟨_, G.cell (ha 1 _ rfl), If_i (fun c5 => ?_) fun c5 => ?_⟩
    · simp only [decide_eq_true_eq, decide_eq_false_iff_not, beq_iff_eq, beq_eq_false_iff_ne, ne_eq, reduceCtorEq, true_iff, false_iff, Bool.not_eq_true', Bool.not_eq_false', bne_iff_ne, bne_eq_false_iff_eq, Bool.not_true, Bool.not_false, Decidable.not_not] at c5
      exact hF (fun q => by have := (q.2.2.1 i v ei).2; omega) _ g1
    simp only [decide_eq_true_eq, decide_eq_false_iff_not, beq_iff_eq, beq_eq_false_iff_ne, ne_eq, reduceCtorEq, true_iff, false_iff, Bool.not_eq_true', Bool.not_eq_false', bne_iff_ne, bne_eq_false_iff_eq, Bool.not_true, Bool.not_false, Decidable.not_not] at c4 c5
    refine Wr_i64 (by omega) (by omega) (hN _ _ ⟨rfl, i + 1, by simp, by omega, fun j' v' hlt ej => ?_⟩ (by omega))
    by_cases e : j' = i
    · subst e; rw [ei] at ej; cases ej; exact ⟨by omega, by omega⟩
    · exact hall j' v' (by omega) ej
  · simp only [decide_eq_true_eq, decide_eq_false_iff_not, beq_iff_eq, beq_eq_false_iff_ne, ne_eq, reduceCtorEq, true_iff, false_iff, Bool.not_eq_true', Bool.not_eq_false', bne_iff_ne, bne_eq_false_iff_eq, Bool.not_true, Bool.not_false, Decidable.not_not] at c3
    have hms : ∀ (j : Nat) m, ms[j]? = some m → MdOk m := fun j v ej => hall j v (by have := (List.getElem?_eq_some_iff.1 ej).1; omega) ej
    refine J37_2.of ?_
    unfold JT37_2
    refine Ld_blk k1 rfl (unlike_c G h1 (by omega) fun b hb => ?_)
    cases b
    · exact If_t rfl (hF (fun q => absurd (hb.2 q.2.2.2.1) (by simp)) _ g1)
    refine If_f rfl (New_i fun p h5 ep g5 kp e5 => ?_)
    have hun := hb.1 rfl
    clear hb
    have hk : ∀ b h', Grw h h' → (b = true ↔ AllR 0 [] (placesU 1 false fs)) → K b h' := fun b h' g q => hk b h' g (q.trans ⟨fun x => ⟨by omega, by omega, hms, hun, x⟩, fun x => x.2.2.2.2⟩)
    have G5 := Grw.trans g1 g5
    have hp : h.size ≤ p := by rw [ep]; exact g1.1
    have hb1 := k1.lt
    have nb1 : b1 ≠ p := by omega
    have sn : Seen p (p + 1) h5 0 [] := ⟨⟨Sl.nil, kp, Sh.nil _ _ _ _ _⟩, Nat.lt_succ_self _, by omega⟩
    have k1 := k1.grw g5
    have back : ∀ {h'}, Tn (SX p (p + 1) h5) h5 h' → Grw h h' := fun f => SX.old hp (Nat.lt_succ_self _) G5 f
    refine L37_3.rule (fun x h' => ∃ i : Nat, x = (i : Int) ∧ i ≤ fs.length ∧ Tn (SX p (p + 1) h5) h5 h' ∧ Seen p (p + 1) h' (0 + (placesU 1 false (fs.take i)).length) (idsOf [] (placesU 1 false (fs.take i))) ∧ AllR 0 [] (placesU 1 false (fs.take i)) ∧ Blk h' b1 #[Sl.v s1, Sl.v s2] 25) (fun x _ => fs.length - x.toNat)
      ⟨0, rfl, by omega, Tn.refl _ _, by simpa [placesU, idsOf] using sn, by simp [placesU, AllR], k1⟩ ?_
    rintro x h6 ⟨i, rfl, hi, f1, sn1, a1, k1⟩ N1 hN
    unfold T37_3
    refine Ld_blk k1 rfl (If_i (fun c => ?_) fun c => ?_)
    · simp only [decide_eq_true_eq, decide_eq_false_iff_not, beq_iff_eq, beq_eq_false_iff_ne, ne_eq, reduceCtorEq, true_iff, false_iff, Bool.not_eq_true', Bool.not_eq_false', bne_iff_ne, bne_eq_false_iff_eq, Bool.not_true, Bool.not_false, Decidable.not_not] at c
      have hi' : i < fs.length := by omega
      have hj : fs[i]? = some fs[i] := List.getElem?_eq_getElem hi'
      have htk : fs.take (i + 1) = fs.take i ++ [fs[i]] := List.take_succ_eq_append_getElem hi'
      have hall : fs = fs.take i ++ (fs[i] :: fs.drop (i + 1)) := by rw [← List.drop_eq_getElem_cons hi', List.take_append_drop]
      generalize fs[i] = f at hj htk hall
      refine Ld_blk k1 rfl (h1.ix rfl hj fun a ha => ?_)
      obtain ⟨u, hu, c0, c1, c2, c3, c4, c5, c6⟩ := ha.cells
      have G6 := Grw.trans g (back f1)
      refine ⟨_, G6.cell c0, _, G6.cell c1, _, G6.cell c2, _, G6.cell c3, _, G6.cell c4, _, G6.cell c5, _, G6.cell c6, ?_⟩
      have hlen := AllR_len a1 (by omega)
      have hil := idsOf_len (a := placesU 1 false (fs.take i)) (ids := [])
      simp only [List.length_nil] at hil
      have e1 : placesU 1 false (fs.take (i + 1)) = placesU 1 false (fs.take i) ++ f.places 1 [] false := by rw [htk, placesU_append]; simp [placesU]
      have e2 : placesU 1 false fs = placesU 1 false (fs.take i) ++ (f.places 1 [] false ++ placesU 1 false (fs.drop (i + 1))) := by
        have q := congrArg (placesU 1 false) hall
        rw [q, placesU_append]; simp [placesU]
      have IHf := seen_c f
      obtain ⟨fn, fnul, fk, fw, fid, fix, fcs⟩ := f
      have := IHf (K := fun b h' => If (!b) (K false h') (Wr .i64 ((i : Int) + 1) fun t117 => N1 (mk37_3 ⟨b1, 0, none⟩ ⟨p, 0, none⟩ t117) h')) (Kp := Kp) (d := 1) (ins := false) (Nat.le_trans g.1 hp) G6 hu sn1 hlen (by omega) (by omega) fun b h2 hb f2 hs2 => ?_
      · exact this
      · cases b
        · refine If_t rfl (hk false h2 (back (SX.trans f1 f2)) ⟨by simp, fun q => ?_⟩)
          rw [e2, AllR_append, AllR_append] at q
          exact absurd (hb.2 q.2.1) (by simp)
        · refine If_f rfl (Wr_i64 (by omega) (by omega) ?_)
          have hb := hb.1 rfl
          have s2 := hs2 rfl
          refine hN _ _ ⟨i + 1, by simp, by omega, SX.trans f1 f2, ?_, ?_, f2.blk k1 (SX.not k1 nb1 (show (25 : Nat) ≠ 3 by decide))⟩ (by omega)
          · rw [e1, List.length_append, idsOf_append, ← Nat.add_assoc]; exact s2
          · rw [e1, AllR_append]; exact ⟨a1, hb⟩
    · simp only [decide_eq_true_eq, decide_eq_false_iff_not, beq_iff_eq, beq_eq_false_iff_ne, ne_eq, reduceCtorEq, true_iff, false_iff, Bool.not_eq_true', Bool.not_eq_false', bne_iff_ne, bne_eq_false_iff_eq, Bool.not_true, Bool.not_false, Decidable.not_not] at c
      have : i = fs.length := by omega
      subst this
      rw [List.take_length] at a1
      exact hk true h6 (back f1) ⟨fun _ => a1, fun _ => rfl⟩
end Go.Proofs.YtfomkkdijjfpiaaDoor
