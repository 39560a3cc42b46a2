/- Contracts: Need and Make, both sides; the document's There, bit and List. -/
import Derived.Test.YtajgmklgfdgnlaaDoorShGrow
import Derived.Test.YtajgmklgfdgnlaaDoorB
import Derived.Test.YtajgmklgfdgnlaaDoorS8
namespace Go.Proofs.YtajgmklgfdgnlaaDoor
open Go Go.Sh
def bo (l : List Bool) : List Value := l.map Value.bool
def needN (n : Nat) : Nat := (n + 7) / 8
def listF (f : Nat → Bool) (n : Nat) : List Bool := (List.range n).map f
theorem need_c {n : Nat} {h : Hp} {K : Int → Hp → Prop} {Kp : List PanicEntry → Hp → Prop} (hn : n < 2 ^ 60) (hk : K ((needN n : Nat) : Int) h) : Fn22 (n : Int) h K Kp := by
  refine Fn22.of ?_
  unfold S22
  unfold needN at hk
  refine If_i (fun h1 => ?_) fun h1 => ?_
  · simp only [decide_eq_true_eq] at h1
    have : n = 0 := by omega
    subst this; exact hk
  · simp only [decide_eq_false_iff_not] at h1
    obtain ⟨m, rfl⟩ : ∃ m, n = m + 1 := ⟨n - 1, by omega⟩
    have e1 : ((m + 1 : Nat) : Int) - 1 = (m : Int) := by omega
    have e2 : Int.tdiv (m : Int) 8 = ((m / 8 : Nat) : Int) := rfl
    refine Wr_i64 (by omega) (by omega) ?_
    rw [e1]
    refine Dv_i (by decide) (Wr_i64 (by rw [e2]; omega) (by rw [e2]; omega) ?_)
    rw [e2]
    refine Wr_i64 (by omega) (by omega) ?_
    have e3 : ((m / 8 : Nat) : Int) + 1 = (((m + 1 + 7) / 8 : Nat) : Int) := by omega
    rw [e3]; exact hk
theorem rneed_c {n : Nat} {h : Hp} {K : Int → Hp → Prop} {Kp : List PanicEntry → Hp → Prop} (hn : n < 2 ^ 60) (hk : K ((needN n : Nat) : Int) h) : Fn43 (n : Int) h K Kp := by
  refine Fn43.of ?_
  unfold S43
  unfold needN at hk
  have e2 : Int.tdiv (n : Int) 8 = ((n / 8 : Nat) : Int) := rfl
  have e3 : Int.tmod (n : Int) 8 = ((n % 8 : Nat) : Int) := rfl
  refine If_f (by simp) ?_
  refine Dv_i (by decide) (Wr_i64 (by rw [e2]; omega) (by rw [e2]; omega) ?_)
  refine Dv_i (by decide) ?_
  unfold Lt
  rw [e2, e3]
  refine If_i (fun h1 => ?_) fun h1 => ?_
  · simp only [bne_iff_ne, ne_eq] at h1
    refine Wr_i64 (by omega) (by omega) ?_
    have e4 : ((n / 8 : Nat) : Int) + 1 = (((n + 7) / 8 : Nat) : Int) := by omega
    rw [e4]; exact hk
  · simp only [bne_eq_false_iff_eq] at h1
    have e4 : ((n / 8 : Nat) : Int) = (((n + 7) / 8 : Nat) : Int) := by omega
    rw [e4]; exact hk
/-- a byte of eight bits -/
def byteOf (f : Nat → Bool) : Nat :=
  (f 0).toNat + 2 * (f 1).toNat + 4 * (f 2).toNat + 8 * (f 3).toNat + 16 * (f 4).toNat + 32 * (f 5).toNat + 64 * (f 6).toNat + 128 * (f 7).toNat
theorem byteOf_lt (f : Nat → Bool) : byteOf f < 256 := by
  unfold byteOf
  have := fun i => Bool.toNat_lt (f i)
  have a0 := this 0; have a1 := this 1; have a2 := this 2; have a3 := this 3; have a4 := this 4; have a5 := this 5; have a6 := this 6; have a7 := this 7
  omega
theorem byteOf_congr {f g : Nat → Bool} (h : ∀ j, j < 8 → f j = g j) : byteOf f = byteOf g := by
  unfold byteOf
  rw [h 0 (by decide), h 1 (by decide), h 2 (by decide), h 3 (by decide), h 4 (by decide), h 5 (by decide), h 6 (by decide), h 7 (by decide)]
theorem byteOf_add {f : Nat → Bool} {m : Nat} (hm : m < 8) (hf : f m = false) : byteOf f + 2 ^ m = byteOf fun j => f j || j == m := by
  unfold byteOf
  rcases m with _ | _ | _ | _ | _ | _ | _ | _ | m <;> first | omega | (simp [hf]; try omega)
def orOK (b0 b1 b2 b3 b4 b5 b6 b7 : Bool) (m : Nat) : Bool :=
  let x := b0.toNat + 2 * b1.toNat + 4 * b2.toNat + 8 * b3.toNat + 16 * b4.toNat + 32 * b5.toNat + 64 * b6.toNat + 128 * b7.toNat
  [b0, b1, b2, b3, b4, b5, b6, b7].getD m true || x ||| 2 ^ m == x + 2 ^ m
theorem orAll : ∀ b0 b1 b2 b3 b4 b5 b6 b7 : Bool, (List.range 8).all (orOK b0 b1 b2 b3 b4 b5 b6 b7) = true := by decide
theorem byteOf_or {f : Nat → Bool} {m : Nat} (hm : m < 8) (hf : f m = false) : byteOf f ||| 2 ^ m = byteOf f + 2 ^ m := by
  have := orAll (f 0) (f 1) (f 2) (f 3) (f 4) (f 5) (f 6) (f 7)
  rw [List.all_eq_true] at this
  have := this m (by simp [hm])
  unfold orOK at this
  have h1 : [f 0, f 1, f 2, f 3, f 4, f 5, f 6, f 7].getD m true = f m := by
    rcases m with _ | _ | _ | _ | _ | _ | _ | _ | m <;> first | omega | rfl
  simp only [h1, hf, Bool.false_or, beq_iff_eq] at this
  exact this
/-- the bytes of a list of bits, of which the first i have been laid -/
def packTo (l : List Bool) (i : Nat) : List Nat := (List.range (needN l.length)).map fun k => byteOf fun j => decide (8 * k + j < i) && l.getD (8 * k + j) false
def packN (l : List Bool) : List Nat := packTo l l.length
theorem packTo_zero (l : List Bool) : packTo l 0 = List.replicate (needN l.length) 0 := by
  apply List.ext_getElem
  · simp [packTo]
  · intro i h1 h2; simp [packTo, byteOf]
theorem packTo_get {l : List Bool} {i k : Nat} (hk : k < needN l.length) : (packTo l i)[k]? = some (byteOf fun j => decide (8 * k + j < i) && l.getD (8 * k + j) false) := by simp [packTo, hk]
theorem packTo_off {l : List Bool} {i : Nat} (hf : l.getD i false = false) : packTo l (i + 1) = packTo l i := by
  unfold packTo
  apply List.map_congr_left
  intro k _
  apply byteOf_congr
  intro j _
  by_cases e : 8 * k + j = i
  · rw [e, hf]; simp
  · have : decide (8 * k + j < i + 1) = decide (8 * k + j < i) := by congr 1; simp only [eq_iff_iff]; omega
    rw [this]
theorem packTo_on {l : List Bool} {i : Nat} (hf : l.getD i false = true) : packTo l (i + 1) = (packTo l i).set (i / 8) ((byteOf fun j => decide (8 * (i / 8) + j < i) && l.getD (8 * (i / 8) + j) false) + 2 ^ (i % 8)) := by
  have hlen : ∀ a, (packTo l a).length = needN l.length := by intro a; simp [packTo]
  apply List.ext_getElem?
  intro k
  rw [List.getElem?_set]
  by_cases hk : k < needN l.length
  · rw [packTo_get hk]
    by_cases e : i / 8 = k
    · subst e
      rw [if_pos rfl, if_pos (by rw [hlen]; exact hk), byteOf_add (by omega) (by simp; omega)]
      congr 1
      apply byteOf_congr
      intro j hj
      by_cases e2 : j = i % 8
      · subst e2
        have : 8 * (i / 8) + i % 8 = i := by omega
        rw [this, hf]; simp
      · have h1 : (j == i % 8) = false := by simp [e2]
        have h2 : decide (8 * (i / 8) + j < i + 1) = decide (8 * (i / 8) + j < i) := by congr 1; simp only [eq_iff_iff]; omega
        rw [h1, h2, Bool.or_false]
    · rw [if_neg e, packTo_get hk]
      congr 1
      apply byteOf_congr
      intro j hj
      have h2 : decide (8 * k + j < i + 1) = decide (8 * k + j < i) := by congr 1; simp only [eq_iff_iff]; omega
      rw [h2]
  · rw [List.getElem?_eq_none (by rw [hlen]; omega)]
    split
    · split
      · rename_i h1; rw [hlen] at h1; omega
      · rfl
    · rw [List.getElem?_eq_none (by rw [hlen]; omega)]
end Go.Proofs.YtajgmklgfdgnlaaDoor
