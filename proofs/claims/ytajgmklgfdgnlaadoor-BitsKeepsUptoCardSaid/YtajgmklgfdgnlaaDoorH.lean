/- Contracts: Cut, Runs, both sides. -/
import Derived.Test.YtajgmklgfdgnlaaDoorG
import Derived.Test.YtajgmklgfdgnlaaDoorS3
namespace Go.Proofs.YtajgmklgfdgnlaaDoor
open Go Go.Sh
/-! ### the runs, told from the front -/
def bump : List (Nat × Nat) → List (Nat × Nat)
  | [] => []
  | [x] => [(x.1, x.2 + 1)]
  | x :: y :: t => x :: bump (y :: t)
def runsUp (f : Nat → Bool) : Nat → List (Nat × Nat)
  | 0 => []
  | i + 1 => if f i = true then (if 0 < i ∧ f (i - 1) = true then bump (runsUp f i) else runsUp f i ++ [(i, 1)]) else runsUp f i
theorem bump_cons (x : Nat × Nat) (t : List (Nat × Nat)) (h : t ≠ []) : bump (x :: t) = x :: bump t := by
  cases t with
  | nil => exact absurd rfl h
  | cons y t => rfl
theorem endOf_next {f : Nat → Bool} {N : Nat} (i : Nat) (hi : i ≤ N) : endOf f (N + 1) i = if endOf f N i = N ∧ f N = true then N + 1 else endOf f N i := by
  by_cases h : i < N ∧ f i = true
  · rw [endOf_on (by omega) h.2, endOf_on h.1 h.2]
    exact endOf_next (i + 1) (by omega)
  · rw [endOf_off h]
    by_cases e : i = N
    · subst e
      by_cases hf : f i = true
      · rw [if_pos ⟨rfl, hf⟩, endOf_on (by omega) hf, endOf_off (by omega)]
      · rw [if_neg (fun x => hf x.2), endOf_off (fun x => hf x.2)]
    · rw [if_neg (fun x => e x.1), endOf_off (fun x => h ⟨by omega, x.2⟩)]
termination_by N - i
theorem endOf_stop {f : Nat → Bool} {N : Nat} (i : Nat) (h : endOf f N i < N) : f (endOf f N i) = false := by
  by_cases hc : i < N ∧ f i = true
  · rw [endOf_on hc.1 hc.2] at h ⊢
    exact endOf_stop (i + 1) h
  · rw [endOf_off hc] at h ⊢
    cases hf : f i
    · rfl
    · exact absurd ⟨h, hf⟩ hc
termination_by N - i
theorem runsAt_a {f : Nat → Bool} {N : Nat} (hN : f N = false) (i : Nat) (hi : i ≤ N) : runsAt f (N + 1) i = runsAt f N i := by
  by_cases h : i < N
  · cases hf : f i
    · rw [runsAt_off (by omega) hf, runsAt_off h hf]; exact runsAt_a hN (i + 1) (by omega)
    · have hgt := endOf_gt h hf
      have hle := endOf_le f N i hi
      rw [runsAt_on (by omega) hf, runsAt_on h hf, endOf_next i hi, if_neg (by simp [hN])]
      rw [runsAt_a hN (endOf f N i) hle]
  · have : i = N := by omega
    subst this
    rw [runsAt_off (by omega) hN, runsAt_end (by omega), runsAt_end (by omega)]
termination_by N - i
theorem runsAt_b {f : Nat → Bool} {N : Nat} (hN : f N = true) (hp : f (N - 1) = true) (i : Nat) (hi : i < N) : runsAt f N i ≠ [] ∧ runsAt f (N + 1) i = bump (runsAt f N i) := by
  cases hf : f i
  · have hne : i ≠ N - 1 := fun e => by rw [e, hp] at hf; cases hf
    rw [runsAt_off (N := N) hi hf, runsAt_off (N := N + 1) (by omega) hf]; exact runsAt_b hN hp (i + 1) (by omega)
  · have hgt := endOf_gt hi hf
    have hle := endOf_le f N i (by omega)
    rw [runsAt_on (N := N) hi hf, runsAt_on (N := N + 1) (by omega) hf, endOf_next i (by omega)]
    by_cases e : endOf f N i = N
    · rw [if_pos ⟨e, hN⟩, e, runsAt_end (by omega), runsAt_end (by omega)]
      exact ⟨by simp, by simp only [bump]; congr 2; omega⟩
    · rw [if_neg (fun x => e x.1)]
      obtain ⟨h1, h2⟩ := runsAt_b hN hp (endOf f N i) (by omega)
      exact ⟨by simp, by rw [bump_cons _ _ h1, h2]⟩
termination_by N - i
theorem runsAt_c {f : Nat → Bool} {N : Nat} (hN : f N = true) (i : Nat) (hi : i ≤ N) (hp : i < N → f (N - 1) = false) : runsAt f (N + 1) i = runsAt f N i ++ [(N, 1)] := by
  by_cases h : i < N
  · cases hf : f i
    · rw [runsAt_off (by omega) hf, runsAt_off h hf]; exact runsAt_c hN (i + 1) (by omega) fun _ => hp h
    · have hgt := endOf_gt h hf
      have hle := endOf_le f N i hi
      have hne : endOf f N i ≠ N := fun e => by
        have := endOf_in f N i (N - 1) (by omega) (by omega)
        rw [hp h] at this; cases this
      rw [runsAt_on (by omega) hf, runsAt_on h hf, endOf_next i hi, if_neg (fun x => hne x.1), runsAt_c hN (endOf f N i) hle fun _ => hp h]
      rfl
  · have : i = N := by omega
    subst this
    rw [runsAt_on (by omega) hN, runsAt_end (N := i) (by omega), endOf_on (by omega) hN, endOf_off (by omega), runsAt_end (by omega)]
    simp
termination_by N - i
theorem runsUp_eq (f : Nat → Bool) (N : Nat) : runsUp f N = runsAt f N 0 := by
  induction N with
  | zero => rw [runsAt_end (by omega)]; rfl
  | succ N ih =>
    unfold runsUp
    cases hf : f N
    · rw [if_neg (by simp), ih, runsAt_a hf 0 (Nat.zero_le _)]
    · rw [if_pos rfl]
      by_cases h : 0 < N ∧ f (N - 1) = true
      · rw [if_pos h, ih, (runsAt_b hf h.2 0 h.1).2]
      · rw [if_neg h, ih, runsAt_c hf 0 (Nat.zero_le _)]
        intro h0
        cases hg : f (N - 1)
        · rfl
        · exact absurd ⟨h0, hg⟩ h
theorem runsAt_congr {f g : Nat → Bool} {N : Nat} (h : ∀ i, i < N → f i = g i) : runsAt f N 0 = runsAt g N 0 := by
  rw [← runsUp_eq, ← runsUp_eq]
  have : ∀ k, k ≤ N → runsUp f k = runsUp g k := by
    intro k
    induction k with
    | zero => intro _; rfl
    | succ k ih =>
      intro hk
      unfold runsUp
      rw [ih (by omega), h k (by omega)]
      by_cases h0 : 0 < k
      · rw [h (k - 1) (by omega)]
      · simp [h0]
  exact this N (Nat.le_refl _)
/-! ### bits of packed bytes -/
def tbOK (b0 b1 b2 b3 b4 b5 b6 b7 : Bool) (m : Nat) : Bool :=
  (b0.toNat + 2 * b1.toNat + 4 * b2.toNat + 8 * b3.toNat + 16 * b4.toNat + 32 * b5.toNat + 64 * b6.toNat + 128 * b7.toNat).testBit m == [b0, b1, b2, b3, b4, b5, b6, b7].getD m true
theorem tbAll : ∀ b0 b1 b2 b3 b4 b5 b6 b7 : Bool, (List.range 8).all (tbOK b0 b1 b2 b3 b4 b5 b6 b7) = true := by decide
theorem byteOf_bit {f : Nat → Bool} {m : Nat} (hm : m < 8) : (byteOf f).testBit m = f m := by
  have := tbAll (f 0) (f 1) (f 2) (f 3) (f 4) (f 5) (f 6) (f 7)
  rw [List.all_eq_true] at this
  have := this m (by simp [hm])
  unfold tbOK at this
  have h1 : [f 0, f 1, f 2, f 3, f 4, f 5, f 6, f 7].getD m true = f m := by
    rcases m with _ | _ | _ | _ | _ | _ | _ | _ | m <;> first | omega | rfl
  rw [h1] at this
  simpa [byteOf] using this
theorem packN_len (L : List Bool) : (packN L).length = needN L.length := by simp [packN, packTo]
theorem packN_lt (L : List Bool) : ∀ x ∈ packN L, x < 256 := by
  intro x hx
  unfold packN packTo at hx
  obtain ⟨k, _, rfl⟩ := List.mem_map.1 hx
  exact byteOf_lt _
theorem bitN_pack {L : List Bool} {i : Nat} (hi : i < L.length) : bitN (packN L) i = L.getD i false := by
  have hk : i / 8 < needN L.length := by unfold needN; omega
  unfold bitN
  have := packTo_get (l := L) (i := L.length) hk
  rw [List.getD_eq_getElem?_getD, show (packN L)[i / 8]? = _ from this, Option.getD_some, byteOf_bit (by omega)]
  have : 8 * (i / 8) + i % 8 = i := by omega
  rw [this, decide_eq_true hi, Bool.true_and]
theorem listF_getD {f : Nat → Bool} {N i : Nat} (hi : i < N) : (listF f N).getD i false = f i := by simp [listF, hi]
theorem bitsF_pack {f : Nat → Bool} {N i : Nat} (hi : i < N) : bitsF (packN (listF f N)) 0 i = f i := by
  unfold bitsF
  rw [show (0 : Int).toNat + i = i by simp, bitN_pack (by simp [listF, hi]), listF_getD hi]
theorem Bs.of_own {h : Hp} {s : Sl} {b : Nat} {l : List Nat} (o : Own h s b (by8 l) 5) (h1 : ∀ x ∈ l, x < 256) (h2 : l.length < 2 ^ 36) : Bs h s l := ⟨o.sv, h1, h2⟩
end Go.Proofs.YtajgmklgfdgnlaaDoor
