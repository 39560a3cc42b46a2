/- Contracts: Count; fixed. Counting. -/
import Derived.Test.YtajgmklgfdgnlaaDoorI
namespace Go.Proofs.YtajgmklgfdgnlaaDoor
open Go Go.Sh
def cntF (f : Nat → Bool) : Nat → Nat
  | 0 => 0
  | n + 1 => cntF f n + (f n).toNat
theorem cntF_le (f : Nat → Bool) (n : Nat) : cntF f n ≤ n := by
  induction n with
  | zero => exact Nat.le_refl _
  | succ n ih => have := Bool.toNat_le (f n); simp only [cntF]; omega
theorem cntF_add (f : Nat → Bool) (a b : Nat) : cntF f (a + b) = cntF f a + cntF (fun i => f (a + i)) b := by
  induction b with
  | zero => rfl
  | succ b ih =>
    show cntF f (a + b) + (f (a + b)).toNat = cntF f a + (cntF (fun i => f (a + i)) b + (f (a + b)).toNat)
    omega
theorem cntF_congr {f g : Nat → Bool} {n : Nat} (h : ∀ i, i < n → f i = g i) : cntF f n = cntF g n := by
  induction n with
  | zero => rfl
  | succ n ih => simp only [cntF]; rw [ih fun i hi => h i (by omega), h n (by omega)]
def sumR (rs : List (Nat × Nat)) : Nat := (rs.map (·.2)).sum
theorem sumR_snoc (rs : List (Nat × Nat)) (r : Nat × Nat) : sumR (rs ++ [r]) = sumR rs + r.2 := by simp [sumR]
theorem sumR_bump {rs : List (Nat × Nat)} (h : rs ≠ []) : sumR (bump rs) = sumR rs + 1 := by
  induction rs with
  | nil => exact absurd rfl h
  | cons x t ih =>
    cases t with
    | nil => simp [bump, sumR]
    | cons y t => have := ih (by simp); simp only [bump, sumR, List.map_cons, List.sum_cons] at *; omega
theorem sumR_runs (f : Nat → Bool) (n : Nat) : sumR (runsAt f n 0) = cntF f n := by
  rw [← runsUp_eq]
  induction n with
  | zero => rfl
  | succ n ih =>
    unfold runsUp cntF
    cases hf : f n
    · rw [if_neg (by simp), ih]; rfl
    · rw [if_pos rfl]
      split
      · rename_i h
        rw [sumR_bump (by rw [runsUp_eq]; exact (runsAt_b hf h.2 0 h.1).1), ih]; rfl
      · rw [sumR_snoc, ih]; rfl
def onesN (x : Nat) : Nat := [0, 1, 1, 2, 1, 2, 2, 3, 1, 2, 2, 3, 2, 3, 3, 4].getD x 0
def cnt8OK (c : Nat) : Bool := onesN (c / 16) + onesN (c % 16) == cntF (fun i => c.testBit i) 8
theorem cnt8All : (List.range 256).all cnt8OK = true := by decide +kernel
theorem cnt8 {c : Nat} (h : c < 256) : onesN (c / 16) + onesN (c % 16) = cntF (fun i => c.testBit i) 8 := by
  have := List.all_eq_true.1 cnt8All c (by simp [h])
  simpa [cnt8OK] using this
end Go.Proofs.YtajgmklgfdgnlaaDoor
