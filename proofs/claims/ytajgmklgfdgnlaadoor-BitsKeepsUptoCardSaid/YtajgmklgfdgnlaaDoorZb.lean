/- The law BitsFollow: ones. -/
import Derived.Test.YtajgmklgfdgnlaaDoorZ
namespace Go.Proofs.YtajgmklgfdgnlaaDoor
open Go Go.Sh
theorem cntF_mono (f : Nat → Bool) {a b : Nat} (h : a ≤ b) : cntF f a ≤ cntF f b := by
  obtain ⟨c, rfl⟩ : ∃ c, b = a + c := ⟨b - a, by omega⟩
  rw [cntF_add]; omega
theorem placeF_at {f : Nat → Bool} {N i : Nat} (hi : i < N) (hf : f i = true) (j : Nat) (hj : j ≤ i) : placeF f N j (cntF f i - cntF f j) = some i := by
  rw [placeF.eq_def, if_pos (by omega)]
  by_cases e : j = i
  · subst e; rw [if_pos hf, if_pos (by omega)]
  · have hm := cntF_mono f (show j + 1 ≤ i by omega)
    have ih := placeF_at hi hf (j + 1) (by omega)
    simp only [cntF] at hm ih
    cases hfj : f j
    · rw [if_neg (by simp)]
      rw [hfj] at ih; simpa using ih
    · rw [hfj] at hm ih
      simp only [Bool.toNat_true] at hm ih
      rw [if_pos rfl, if_neg (by omega)]
      have e : cntF f i - cntF f j - 1 = cntF f i - (cntF f j + 1) := by omega
      rw [e]; exact ih
termination_by i - j
theorem placeF_none {f : Nat → Bool} {N : Nat} (j : Nat) (hj : j ≤ N) : placeF f N j (cntF f N - cntF f j) = none := by
  rw [placeF.eq_def]
  by_cases e : j < N
  · rw [if_pos e]
    have hm := cntF_mono f (show j + 1 ≤ N by omega)
    have ih := placeF_none (f := f) (N := N) (j + 1) (by omega)
    simp only [cntF] at hm ih
    cases hfj : f j
    · rw [if_neg (by simp)]
      rw [hfj] at ih; simpa using ih
    · rw [hfj] at hm ih
      simp only [Bool.toNat_true] at hm ih
      rw [if_pos rfl, if_neg (by omega)]
      have e : cntF f N - cntF f j - 1 = cntF f N - (cntF f j + 1) := by omega
      rw [e]; exact ih
  · rw [if_neg e]
termination_by N - j
theorem nextF_at {f : Nat → Bool} {N i : Nat} (hi : i < N) (hf : f i = true) (h0 : cntF f i = 0) (j : Nat) (hj : j ≤ i) : nextF f true N j = (i : Int) := by
  rw [nextF.eq_def, if_pos (by omega)]
  by_cases e : j = i
  · subst e; rw [if_pos hf]
  · have hm := cntF_mono f (show j + 1 ≤ i by omega)
    simp only [cntF] at hm
    cases hfj : f j
    · rw [if_neg (by simp)]; exact nextF_at hi hf h0 (j + 1) (by omega)
    · rw [hfj] at hm; simp only [Bool.toNat_true] at hm; omega
termination_by i - j
theorem nextF_none {f : Nat → Bool} {N : Nat} (h0 : cntF f N = 0) (j : Nat) : nextF f true N j = -1 := by
  rw [nextF.eq_def]
  by_cases e : j < N
  · rw [if_pos e]
    have hm := cntF_mono f (show j + 1 ≤ N by omega)
    simp only [cntF] at hm
    cases hfj : f j
    · rw [if_neg (by simp)]; exact nextF_none h0 (j + 1)
    · rw [hfj] at hm; simp only [Bool.toNat_true] at hm; omega
  · rw [if_neg e]
termination_by N - j
/-- each run begins behind the end of the one ahead -/
def Asc : Int → List (Nat × Nat) → Prop
  | _, [] => True
  | b, r :: rs => b < (r.1 : Int) ∧ Asc ((r.1 + r.2 : Nat) : Int) rs
def lastE : Int → List (Nat × Nat) → Int
  | b, [] => b
  | _, r :: rs => lastE ((r.1 + r.2 : Nat) : Int) rs
theorem lastE_snoc (b : Int) (pre : List (Nat × Nat)) (y : Nat × Nat) : lastE b (pre ++ [y]) = ((y.1 + y.2 : Nat) : Int) := by
  induction pre generalizing b with
  | nil => rfl
  | cons r rs ih => exact ih _
theorem Asc.last {b : Int} {pre suf : List (Nat × Nat)} {y : Nat × Nat} (h : Asc b (pre ++ y :: suf)) : lastE b pre < (y.1 : Int) := by
  induction pre generalizing b with
  | nil => exact h.1
  | cons r rs ih => exact ih h.2
theorem runs_asc (f : Nat → Bool) (N i : Nat) (b : Int) (h : b < (i : Int) ∨ b = (i : Int) ∧ (i < N → f i = false)) : Asc b (runsAt f N i) := by
  by_cases hi : i < N
  · cases hf : f i
    · rw [runsAt_off hi hf]; exact runs_asc f N (i + 1) b (.inl (by omega))
    · have hgt := endOf_gt hi hf
      rw [runsAt_on hi hf]
      have hb : b < (i : Int) := by
        rcases h with h | ⟨_, h⟩
        · exact h
        · rw [h hi] at hf; cases hf
      refine ⟨hb, ?_⟩
      have e : i + (endOf f N i - i) = endOf f N i := by omega
      simp only [e]
      exact runs_asc f N (endOf f N i) _ (.inr ⟨rfl, fun hl => endOf_stop i hl⟩)
  · rw [runsAt_end hi]; trivial
termination_by N - i
/-- the list of booleans that is asked is there -/
theorem ones_c {a l : Sl} {fr : Int} {N : Nat} {la : List Nat} {h : Hp} {K : Bool → Hp → Prop} {Kp : List PanicEntry → Hp → Prop} (ha : Bs h a la) (hl : Sv h l (bo (listF (bitsF la fr) N))) (i1 : 0 ≤ fr) (i3 : (N : Int) ≤ 8 * (la.length : Int) - fr) (h34 : la.length < 2 ^ 34)
    (hk : ∀ h', Grw h h' → K true h') : Fn23 a l fr (N : Int) ((cntF (bitsF la fr) N : Nat) : Int) h K Kp := by
  refine Fn23.of ?_
  unfold S23
  have hlen := ha.2.2
  have iN : I64 (N : Int) := by unfold I64; omega
  have zA : askB la.length fr (N : Int) = 0 := askB_zero i1 (by omega) i3
  have lc := SyH.start No h
  refine lc.new fun b6 h1 p6 f6 lc => lc.new fun b8 h2 p8 f8 lc => lc.new fun b10 h3 p10 f10 lc => ?_
  simp only [List.nil_append, List.cons_append] at lc
  have hln : l.n = N := by have := hl.1; simpa [bo, listF] using this
  have hcN := cntF_le (bitsF la fr) N
  refine L23_6.rule (fun k x h' => ∃ i : Nat, x = (i : Int) ∧ i ≤ N ∧ k = ((cntF (bitsF la fr) i : Nat) : Int) ∧ SyH No h h' [⟨b6, #[l.v], 36⟩, ⟨b8, #[.int .i64 (N : Int)], 3⟩, ⟨b10, #[.bool false], 4⟩]) (fun _ x _ => N - x.toNat) ⟨0, rfl, Nat.zero_le _, rfl, lc⟩ ?_
  rintro k x h' ⟨i, rfl, hi, rfl, lc⟩ N1 hN
  unfold T23_6
  repeat (first | refine lc.ldo 0 rfl rfl ?_ | refine lc.ld 0 rfl rfl ?_ | refine lc.ldo 1 rfl rfl ?_ | refine lc.ld 1 rfl rfl ?_ | refine lc.ldo 2 rfl rfl ?_ | refine lc.ld 2 rfl rfl ?_ | refine lc.ldo 3 rfl rfl ?_ | refine lc.ld 3 rfl rfl ?_ | refine lc.ldo 4 rfl rfl ?_ | refine lc.ld 4 rfl rfl ?_ | refine lc.ldo 5 rfl rfl ?_ | refine lc.ld 5 rfl rfl ?_ | refine lc.ldo 6 rfl rfl ?_ | refine lc.ld 6 rfl rfl ?_ | (refine lc.sto 0 rfl rfl rfl fun _ _ lc => ?_; simp only [Nat.zero_add, List.set_cons_zero, List.set_cons_succ, List.setIfInBounds_toArray] at lc) | (refine lc.st 0 rfl rfl rfl fun _ _ lc => ?_; simp only [Nat.zero_add, List.set_cons_zero, List.set_cons_succ, List.setIfInBounds_toArray] at lc) | (refine lc.sto 1 rfl rfl rfl fun _ _ lc => ?_; simp only [Nat.zero_add, List.set_cons_zero, List.set_cons_succ, List.setIfInBounds_toArray] at lc) | (refine lc.st 1 rfl rfl rfl fun _ _ lc => ?_; simp only [Nat.zero_add, List.set_cons_zero, List.set_cons_succ, List.setIfInBounds_toArray] at lc) | (refine lc.sto 2 rfl rfl rfl fun _ _ lc => ?_; simp only [Nat.zero_add, List.set_cons_zero, List.set_cons_succ, List.setIfInBounds_toArray] at lc) | (refine lc.st 2 rfl rfl rfl fun _ _ lc => ?_; simp only [Nat.zero_add, List.set_cons_zero, List.set_cons_succ, List.setIfInBounds_toArray] at lc) | (refine lc.sto 3 rfl rfl rfl fun _ _ lc => ?_; simp only [Nat.zero_add, List.set_cons_zero, List.set_cons_succ, List.setIfInBounds_toArray] at lc) | (refine lc.st 3 rfl rfl rfl fun _ _ lc => ?_; simp only [Nat.zero_add, List.set_cons_zero, List.set_cons_succ, List.setIfInBounds_toArray] at lc) | (refine lc.sto 4 rfl rfl rfl fun _ _ lc => ?_; simp only [Nat.zero_add, List.set_cons_zero, List.set_cons_succ, List.setIfInBounds_toArray] at lc) | (refine lc.st 4 rfl rfl rfl fun _ _ lc => ?_; simp only [Nat.zero_add, List.set_cons_zero, List.set_cons_succ, List.setIfInBounds_toArray] at lc) | (refine lc.sto 5 rfl rfl rfl fun _ _ lc => ?_; simp only [Nat.zero_add, List.set_cons_zero, List.set_cons_succ, List.setIfInBounds_toArray] at lc) | (refine lc.st 5 rfl rfl rfl fun _ _ lc => ?_; simp only [Nat.zero_add, List.set_cons_zero, List.set_cons_succ, List.setIfInBounds_toArray] at lc) | (refine lc.sto 6 rfl rfl rfl fun _ _ lc => ?_; simp only [Nat.zero_add, List.set_cons_zero, List.set_cons_succ, List.setIfInBounds_toArray] at lc) | (refine lc.st 6 rfl rfl rfl fun _ _ lc => ?_; simp only [Nat.zero_add, List.set_cons_zero, List.set_cons_succ, List.setIfInBounds_toArray] at lc) | refine lc.ldo 0 (x := Sl.nil) rfl rfl ?_ | refine lc.ld 0 (x := Sl.nil) rfl rfl ?_ | refine lc.ldo 1 (x := Sl.nil) rfl rfl ?_ | refine lc.ld 1 (x := Sl.nil) rfl rfl ?_ | refine lc.ldo 2 (x := Sl.nil) rfl rfl ?_ | refine lc.ld 2 (x := Sl.nil) rfl rfl ?_ | refine lc.ldo 3 (x := Sl.nil) rfl rfl ?_ | refine lc.ld 3 (x := Sl.nil) rfl rfl ?_ | refine lc.ldo 4 (x := Sl.nil) rfl rfl ?_ | refine lc.ld 4 (x := Sl.nil) rfl rfl ?_ | refine lc.ldo 5 (x := Sl.nil) rfl rfl ?_ | refine lc.ld 5 (x := Sl.nil) rfl rfl ?_ | refine lc.ldo 6 (x := Sl.nil) rfl rfl ?_ | refine lc.ld 6 (x := Sl.nil) rfl rfl ?_ | refine lc.new fun _ _ _ _ lc => ?_ | refine Wr_i64 (by omega) (by omega) ?_ | refine If_t rfl ?_ | refine If_f rfl ?_)
  have hci := cntF_le (bitsF la fr) i
  refine If_i (fun c => ?_) fun c => ?_
  · simp only [decide_eq_true_eq] at c
    refine Wr_i64 (by omega) (by omega) ?_
    refine get_c (ha.grw lc.grw) (by unfold I64; omega) (fun hz => absurd (askB_zero (by omega) (by omega) (by omega)) hz) fun _ _ => ?_
    have e1 : bitN la (fr + (i : Int)).toNat = bitsF la fr i := by unfold bitsF; congr 1; omega
    rw [e1]
    repeat (first | refine lc.ldo 0 rfl rfl ?_ | refine lc.ld 0 rfl rfl ?_ | refine lc.ldo 1 rfl rfl ?_ | refine lc.ld 1 rfl rfl ?_ | refine lc.ldo 2 rfl rfl ?_ | refine lc.ld 2 rfl rfl ?_ | refine lc.ldo 3 rfl rfl ?_ | refine lc.ld 3 rfl rfl ?_ | refine lc.ldo 4 rfl rfl ?_ | refine lc.ld 4 rfl rfl ?_ | refine lc.ldo 5 rfl rfl ?_ | refine lc.ld 5 rfl rfl ?_ | refine lc.ldo 6 rfl rfl ?_ | refine lc.ld 6 rfl rfl ?_ | (refine lc.sto 0 rfl rfl rfl fun _ _ lc => ?_; simp only [Nat.zero_add, List.set_cons_zero, List.set_cons_succ, List.setIfInBounds_toArray] at lc) | (refine lc.st 0 rfl rfl rfl fun _ _ lc => ?_; simp only [Nat.zero_add, List.set_cons_zero, List.set_cons_succ, List.setIfInBounds_toArray] at lc) | (refine lc.sto 1 rfl rfl rfl fun _ _ lc => ?_; simp only [Nat.zero_add, List.set_cons_zero, List.set_cons_succ, List.setIfInBounds_toArray] at lc) | (refine lc.st 1 rfl rfl rfl fun _ _ lc => ?_; simp only [Nat.zero_add, List.set_cons_zero, List.set_cons_succ, List.setIfInBounds_toArray] at lc) | (refine lc.sto 2 rfl rfl rfl fun _ _ lc => ?_; simp only [Nat.zero_add, List.set_cons_zero, List.set_cons_succ, List.setIfInBounds_toArray] at lc) | (refine lc.st 2 rfl rfl rfl fun _ _ lc => ?_; simp only [Nat.zero_add, List.set_cons_zero, List.set_cons_succ, List.setIfInBounds_toArray] at lc) | (refine lc.sto 3 rfl rfl rfl fun _ _ lc => ?_; simp only [Nat.zero_add, List.set_cons_zero, List.set_cons_succ, List.setIfInBounds_toArray] at lc) | (refine lc.st 3 rfl rfl rfl fun _ _ lc => ?_; simp only [Nat.zero_add, List.set_cons_zero, List.set_cons_succ, List.setIfInBounds_toArray] at lc) | (refine lc.sto 4 rfl rfl rfl fun _ _ lc => ?_; simp only [Nat.zero_add, List.set_cons_zero, List.set_cons_succ, List.setIfInBounds_toArray] at lc) | (refine lc.st 4 rfl rfl rfl fun _ _ lc => ?_; simp only [Nat.zero_add, List.set_cons_zero, List.set_cons_succ, List.setIfInBounds_toArray] at lc) | (refine lc.sto 5 rfl rfl rfl fun _ _ lc => ?_; simp only [Nat.zero_add, List.set_cons_zero, List.set_cons_succ, List.setIfInBounds_toArray] at lc) | (refine lc.st 5 rfl rfl rfl fun _ _ lc => ?_; simp only [Nat.zero_add, List.set_cons_zero, List.set_cons_succ, List.setIfInBounds_toArray] at lc) | (refine lc.sto 6 rfl rfl rfl fun _ _ lc => ?_; simp only [Nat.zero_add, List.set_cons_zero, List.set_cons_succ, List.setIfInBounds_toArray] at lc) | (refine lc.st 6 rfl rfl rfl fun _ _ lc => ?_; simp only [Nat.zero_add, List.set_cons_zero, List.set_cons_succ, List.setIfInBounds_toArray] at lc) | refine lc.ldo 0 (x := Sl.nil) rfl rfl ?_ | refine lc.ld 0 (x := Sl.nil) rfl rfl ?_ | refine lc.ldo 1 (x := Sl.nil) rfl rfl ?_ | refine lc.ld 1 (x := Sl.nil) rfl rfl ?_ | refine lc.ldo 2 (x := Sl.nil) rfl rfl ?_ | refine lc.ld 2 (x := Sl.nil) rfl rfl ?_ | refine lc.ldo 3 (x := Sl.nil) rfl rfl ?_ | refine lc.ld 3 (x := Sl.nil) rfl rfl ?_ | refine lc.ldo 4 (x := Sl.nil) rfl rfl ?_ | refine lc.ld 4 (x := Sl.nil) rfl rfl ?_ | refine lc.ldo 5 (x := Sl.nil) rfl rfl ?_ | refine lc.ld 5 (x := Sl.nil) rfl rfl ?_ | refine lc.ldo 6 (x := Sl.nil) rfl rfl ?_ | refine lc.ld 6 (x := Sl.nil) rfl rfl ?_ | refine lc.new fun _ _ _ _ lc => ?_ | refine Wr_i64 (by omega) (by omega) ?_ | refine If_t rfl ?_ | refine If_f rfl ?_)
    refine (hl.grw lc.grw).ix (by omega) (by omega) (listGet (by omega)) fun q hq => Ld_i hq ?_
    refine If_f (by simp) (If_f rfl (J23_7.of ?_))
    unfold JT23_7
    refine If_i (fun d => ?_) fun d => ?_
    · simp only [Bool.not_eq_true'] at d
      refine Wr_i64 (by omega) (by omega) ?_
      exact hN _ _ _ ⟨i + 1, by simp, by omega, by simp [cntF, d], lc⟩ (by omega)
    · simp only [Bool.not_eq_false'] at d
      have hpl := placeF_at (N := N) (by omega) d 0 (Nat.zero_le _)
      simp only [cntF, Nat.sub_zero] at hpl
      repeat (first | refine lc.ldo 0 rfl rfl ?_ | refine lc.ld 0 rfl rfl ?_ | refine lc.ldo 1 rfl rfl ?_ | refine lc.ld 1 rfl rfl ?_ | refine lc.ldo 2 rfl rfl ?_ | refine lc.ld 2 rfl rfl ?_ | refine lc.ldo 3 rfl rfl ?_ | refine lc.ld 3 rfl rfl ?_ | refine lc.ldo 4 rfl rfl ?_ | refine lc.ld 4 rfl rfl ?_ | refine lc.ldo 5 rfl rfl ?_ | refine lc.ld 5 rfl rfl ?_ | refine lc.ldo 6 rfl rfl ?_ | refine lc.ld 6 rfl rfl ?_ | (refine lc.sto 0 rfl rfl rfl fun _ _ lc => ?_; simp only [Nat.zero_add, List.set_cons_zero, List.set_cons_succ, List.setIfInBounds_toArray] at lc) | (refine lc.st 0 rfl rfl rfl fun _ _ lc => ?_; simp only [Nat.zero_add, List.set_cons_zero, List.set_cons_succ, List.setIfInBounds_toArray] at lc) | (refine lc.sto 1 rfl rfl rfl fun _ _ lc => ?_; simp only [Nat.zero_add, List.set_cons_zero, List.set_cons_succ, List.setIfInBounds_toArray] at lc) | (refine lc.st 1 rfl rfl rfl fun _ _ lc => ?_; simp only [Nat.zero_add, List.set_cons_zero, List.set_cons_succ, List.setIfInBounds_toArray] at lc) | (refine lc.sto 2 rfl rfl rfl fun _ _ lc => ?_; simp only [Nat.zero_add, List.set_cons_zero, List.set_cons_succ, List.setIfInBounds_toArray] at lc) | (refine lc.st 2 rfl rfl rfl fun _ _ lc => ?_; simp only [Nat.zero_add, List.set_cons_zero, List.set_cons_succ, List.setIfInBounds_toArray] at lc) | (refine lc.sto 3 rfl rfl rfl fun _ _ lc => ?_; simp only [Nat.zero_add, List.set_cons_zero, List.set_cons_succ, List.setIfInBounds_toArray] at lc) | (refine lc.st 3 rfl rfl rfl fun _ _ lc => ?_; simp only [Nat.zero_add, List.set_cons_zero, List.set_cons_succ, List.setIfInBounds_toArray] at lc) | (refine lc.sto 4 rfl rfl rfl fun _ _ lc => ?_; simp only [Nat.zero_add, List.set_cons_zero, List.set_cons_succ, List.setIfInBounds_toArray] at lc) | (refine lc.st 4 rfl rfl rfl fun _ _ lc => ?_; simp only [Nat.zero_add, List.set_cons_zero, List.set_cons_succ, List.setIfInBounds_toArray] at lc) | (refine lc.sto 5 rfl rfl rfl fun _ _ lc => ?_; simp only [Nat.zero_add, List.set_cons_zero, List.set_cons_succ, List.setIfInBounds_toArray] at lc) | (refine lc.st 5 rfl rfl rfl fun _ _ lc => ?_; simp only [Nat.zero_add, List.set_cons_zero, List.set_cons_succ, List.setIfInBounds_toArray] at lc) | (refine lc.sto 6 rfl rfl rfl fun _ _ lc => ?_; simp only [Nat.zero_add, List.set_cons_zero, List.set_cons_succ, List.setIfInBounds_toArray] at lc) | (refine lc.st 6 rfl rfl rfl fun _ _ lc => ?_; simp only [Nat.zero_add, List.set_cons_zero, List.set_cons_succ, List.setIfInBounds_toArray] at lc) | refine lc.ldo 0 (x := Sl.nil) rfl rfl ?_ | refine lc.ld 0 (x := Sl.nil) rfl rfl ?_ | refine lc.ldo 1 (x := Sl.nil) rfl rfl ?_ | refine lc.ld 1 (x := Sl.nil) rfl rfl ?_ | refine lc.ldo 2 (x := Sl.nil) rfl rfl ?_ | refine lc.ld 2 (x := Sl.nil) rfl rfl ?_ | refine lc.ldo 3 (x := Sl.nil) rfl rfl ?_ | refine lc.ld 3 (x := Sl.nil) rfl rfl ?_ | refine lc.ldo 4 (x := Sl.nil) rfl rfl ?_ | refine lc.ld 4 (x := Sl.nil) rfl rfl ?_ | refine lc.ldo 5 (x := Sl.nil) rfl rfl ?_ | refine lc.ld 5 (x := Sl.nil) rfl rfl ?_ | refine lc.ldo 6 (x := Sl.nil) rfl rfl ?_ | refine lc.ld 6 (x := Sl.nil) rfl rfl ?_ | refine lc.new fun _ _ _ _ lc => ?_ | refine Wr_i64 (by omega) (by omega) ?_ | refine If_t rfl ?_ | refine If_f rfl ?_)
      refine place_c (ha.grw lc.grw) iN (by unfold I64; omega) (fun hn => absurd hn (by omega)) (fun _ hz => absurd zA hz) fun _ _ _ _ h4 g4 => ?_
      simp only [Int.toNat_natCast, hpl, plN, plE]
      have lc := lc.keep (Tn.of_grw g4)
      refine If_f (by simp) (If_f rfl (If_i (fun e => ?_) fun e => ?_))
      · simp only [beq_iff_eq] at e
        repeat (first | refine lc.ldo 0 rfl rfl ?_ | refine lc.ld 0 rfl rfl ?_ | refine lc.ldo 1 rfl rfl ?_ | refine lc.ld 1 rfl rfl ?_ | refine lc.ldo 2 rfl rfl ?_ | refine lc.ld 2 rfl rfl ?_ | refine lc.ldo 3 rfl rfl ?_ | refine lc.ld 3 rfl rfl ?_ | refine lc.ldo 4 rfl rfl ?_ | refine lc.ld 4 rfl rfl ?_ | refine lc.ldo 5 rfl rfl ?_ | refine lc.ld 5 rfl rfl ?_ | refine lc.ldo 6 rfl rfl ?_ | refine lc.ld 6 rfl rfl ?_ | (refine lc.sto 0 rfl rfl rfl fun _ _ lc => ?_; simp only [Nat.zero_add, List.set_cons_zero, List.set_cons_succ, List.setIfInBounds_toArray] at lc) | (refine lc.st 0 rfl rfl rfl fun _ _ lc => ?_; simp only [Nat.zero_add, List.set_cons_zero, List.set_cons_succ, List.setIfInBounds_toArray] at lc) | (refine lc.sto 1 rfl rfl rfl fun _ _ lc => ?_; simp only [Nat.zero_add, List.set_cons_zero, List.set_cons_succ, List.setIfInBounds_toArray] at lc) | (refine lc.st 1 rfl rfl rfl fun _ _ lc => ?_; simp only [Nat.zero_add, List.set_cons_zero, List.set_cons_succ, List.setIfInBounds_toArray] at lc) | (refine lc.sto 2 rfl rfl rfl fun _ _ lc => ?_; simp only [Nat.zero_add, List.set_cons_zero, List.set_cons_succ, List.setIfInBounds_toArray] at lc) | (refine lc.st 2 rfl rfl rfl fun _ _ lc => ?_; simp only [Nat.zero_add, List.set_cons_zero, List.set_cons_succ, List.setIfInBounds_toArray] at lc) | (refine lc.sto 3 rfl rfl rfl fun _ _ lc => ?_; simp only [Nat.zero_add, List.set_cons_zero, List.set_cons_succ, List.setIfInBounds_toArray] at lc) | (refine lc.st 3 rfl rfl rfl fun _ _ lc => ?_; simp only [Nat.zero_add, List.set_cons_zero, List.set_cons_succ, List.setIfInBounds_toArray] at lc) | (refine lc.sto 4 rfl rfl rfl fun _ _ lc => ?_; simp only [Nat.zero_add, List.set_cons_zero, List.set_cons_succ, List.setIfInBounds_toArray] at lc) | (refine lc.st 4 rfl rfl rfl fun _ _ lc => ?_; simp only [Nat.zero_add, List.set_cons_zero, List.set_cons_succ, List.setIfInBounds_toArray] at lc) | (refine lc.sto 5 rfl rfl rfl fun _ _ lc => ?_; simp only [Nat.zero_add, List.set_cons_zero, List.set_cons_succ, List.setIfInBounds_toArray] at lc) | (refine lc.st 5 rfl rfl rfl fun _ _ lc => ?_; simp only [Nat.zero_add, List.set_cons_zero, List.set_cons_succ, List.setIfInBounds_toArray] at lc) | (refine lc.sto 6 rfl rfl rfl fun _ _ lc => ?_; simp only [Nat.zero_add, List.set_cons_zero, List.set_cons_succ, List.setIfInBounds_toArray] at lc) | (refine lc.st 6 rfl rfl rfl fun _ _ lc => ?_; simp only [Nat.zero_add, List.set_cons_zero, List.set_cons_succ, List.setIfInBounds_toArray] at lc) | refine lc.ldo 0 (x := Sl.nil) rfl rfl ?_ | refine lc.ld 0 (x := Sl.nil) rfl rfl ?_ | refine lc.ldo 1 (x := Sl.nil) rfl rfl ?_ | refine lc.ld 1 (x := Sl.nil) rfl rfl ?_ | refine lc.ldo 2 (x := Sl.nil) rfl rfl ?_ | refine lc.ld 2 (x := Sl.nil) rfl rfl ?_ | refine lc.ldo 3 (x := Sl.nil) rfl rfl ?_ | refine lc.ld 3 (x := Sl.nil) rfl rfl ?_ | refine lc.ldo 4 (x := Sl.nil) rfl rfl ?_ | refine lc.ld 4 (x := Sl.nil) rfl rfl ?_ | refine lc.ldo 5 (x := Sl.nil) rfl rfl ?_ | refine lc.ld 5 (x := Sl.nil) rfl rfl ?_ | refine lc.ldo 6 (x := Sl.nil) rfl rfl ?_ | refine lc.ld 6 (x := Sl.nil) rfl rfl ?_ | refine lc.new fun _ _ _ _ lc => ?_ | refine Wr_i64 (by omega) (by omega) ?_ | refine If_t rfl ?_ | refine If_f rfl ?_)
        refine next_c (ha.grw lc.grw) iN (fun hz => absurd zA hz) fun _ _ _ => ?_
        rw [Int.toNat_natCast, nextF_at (by omega) d (by omega) 0 (Nat.zero_le _)]
        refine If_f (by simp) (Wr_i64 (by omega) (by omega) (Wr_i64 (by omega) (by omega) ?_))
        exact hN _ _ _ ⟨i + 1, by simp, by omega, by simp [cntF, d], lc⟩ (by omega)
      · refine Wr_i64 (by omega) (by omega) (Wr_i64 (by omega) (by omega) ?_)
        exact hN _ _ _ ⟨i + 1, by simp, by omega, by simp [cntF, d], lc⟩ (by omega)
  · simp only [decide_eq_false_iff_not] at c
    obtain rfl : i = N := by omega
    refine J23_1.of ?_
    unfold JT23_1
    refine lc.new fun b17 h4 p17 f17 lc => lc.new fun b18 h5 p18 f18 lc => ?_
    simp only [List.nil_append, List.cons_append] at lc
    repeat (first | refine lc.ldo 0 rfl rfl ?_ | refine lc.ld 0 rfl rfl ?_ | refine lc.ldo 1 rfl rfl ?_ | refine lc.ld 1 rfl rfl ?_ | refine lc.ldo 2 rfl rfl ?_ | refine lc.ld 2 rfl rfl ?_ | refine lc.ldo 3 rfl rfl ?_ | refine lc.ld 3 rfl rfl ?_ | refine lc.ldo 4 rfl rfl ?_ | refine lc.ld 4 rfl rfl ?_ | refine lc.ldo 5 rfl rfl ?_ | refine lc.ld 5 rfl rfl ?_ | refine lc.ldo 6 rfl rfl ?_ | refine lc.ld 6 rfl rfl ?_ | (refine lc.sto 0 rfl rfl rfl fun _ _ lc => ?_; simp only [Nat.zero_add, List.set_cons_zero, List.set_cons_succ, List.setIfInBounds_toArray] at lc) | (refine lc.st 0 rfl rfl rfl fun _ _ lc => ?_; simp only [Nat.zero_add, List.set_cons_zero, List.set_cons_succ, List.setIfInBounds_toArray] at lc) | (refine lc.sto 1 rfl rfl rfl fun _ _ lc => ?_; simp only [Nat.zero_add, List.set_cons_zero, List.set_cons_succ, List.setIfInBounds_toArray] at lc) | (refine lc.st 1 rfl rfl rfl fun _ _ lc => ?_; simp only [Nat.zero_add, List.set_cons_zero, List.set_cons_succ, List.setIfInBounds_toArray] at lc) | (refine lc.sto 2 rfl rfl rfl fun _ _ lc => ?_; simp only [Nat.zero_add, List.set_cons_zero, List.set_cons_succ, List.setIfInBounds_toArray] at lc) | (refine lc.st 2 rfl rfl rfl fun _ _ lc => ?_; simp only [Nat.zero_add, List.set_cons_zero, List.set_cons_succ, List.setIfInBounds_toArray] at lc) | (refine lc.sto 3 rfl rfl rfl fun _ _ lc => ?_; simp only [Nat.zero_add, List.set_cons_zero, List.set_cons_succ, List.setIfInBounds_toArray] at lc) | (refine lc.st 3 rfl rfl rfl fun _ _ lc => ?_; simp only [Nat.zero_add, List.set_cons_zero, List.set_cons_succ, List.setIfInBounds_toArray] at lc) | (refine lc.sto 4 rfl rfl rfl fun _ _ lc => ?_; simp only [Nat.zero_add, List.set_cons_zero, List.set_cons_succ, List.setIfInBounds_toArray] at lc) | (refine lc.st 4 rfl rfl rfl fun _ _ lc => ?_; simp only [Nat.zero_add, List.set_cons_zero, List.set_cons_succ, List.setIfInBounds_toArray] at lc) | (refine lc.sto 5 rfl rfl rfl fun _ _ lc => ?_; simp only [Nat.zero_add, List.set_cons_zero, List.set_cons_succ, List.setIfInBounds_toArray] at lc) | (refine lc.st 5 rfl rfl rfl fun _ _ lc => ?_; simp only [Nat.zero_add, List.set_cons_zero, List.set_cons_succ, List.setIfInBounds_toArray] at lc) | (refine lc.sto 6 rfl rfl rfl fun _ _ lc => ?_; simp only [Nat.zero_add, List.set_cons_zero, List.set_cons_succ, List.setIfInBounds_toArray] at lc) | (refine lc.st 6 rfl rfl rfl fun _ _ lc => ?_; simp only [Nat.zero_add, List.set_cons_zero, List.set_cons_succ, List.setIfInBounds_toArray] at lc) | refine lc.ldo 0 (x := Sl.nil) rfl rfl ?_ | refine lc.ld 0 (x := Sl.nil) rfl rfl ?_ | refine lc.ldo 1 (x := Sl.nil) rfl rfl ?_ | refine lc.ld 1 (x := Sl.nil) rfl rfl ?_ | refine lc.ldo 2 (x := Sl.nil) rfl rfl ?_ | refine lc.ld 2 (x := Sl.nil) rfl rfl ?_ | refine lc.ldo 3 (x := Sl.nil) rfl rfl ?_ | refine lc.ld 3 (x := Sl.nil) rfl rfl ?_ | refine lc.ldo 4 (x := Sl.nil) rfl rfl ?_ | refine lc.ld 4 (x := Sl.nil) rfl rfl ?_ | refine lc.ldo 5 (x := Sl.nil) rfl rfl ?_ | refine lc.ld 5 (x := Sl.nil) rfl rfl ?_ | refine lc.ldo 6 (x := Sl.nil) rfl rfl ?_ | refine lc.ld 6 (x := Sl.nil) rfl rfl ?_ | refine lc.new fun _ _ _ _ lc => ?_ | refine Wr_i64 (by omega) (by omega) ?_ | refine If_t rfl ?_ | refine If_f rfl ?_)
    have n17 := (lc.blk (i := 3) rfl).lt
    have n18 := (lc.blk (i := 4) rfl).lt
    simp only at n17 n18
    refine bruns_c (ha.grw lc.grw) iN (fun hz => absurd zA hz) fun _ _ _ s bl b5 b3 b4 h8 g8 hbl ow p5 p3 p4 rb => ?_
    refine FnNil_f (If_f rfl ?_)
    rw [Int.toNat_natCast] at ow
    have lc := lc.keep (Tn.of_grw g8)
    have y6 := (lc.blk (i := 0) rfl).lt
    have y8 := (lc.blk (i := 1) rfl).lt
    have y10 := (lc.blk (i := 2) rfl).lt
    have y17 := (lc.blk (i := 3) rfl).lt
    have y18 := (lc.blk (i := 4) rfl).lt
    simp only at y6 y8 y10 y17 y18
    have l5 := rb.1.lt
    have l3 := rb.2.1.lt
    have l4 := rb.2.2.lt
    have lo := ow.lt
    have hbd := runs_bound (bitsF la fr) i 0
    refine R23_3.rule (α := Nat × Nat) (fun y => (y.1 : Int)) (fun y => (y.2 : Int)) (bruns_iter (l := la) (fr := fr) (n := (i : Int)) (s := s) (b5 := b5) (b3 := b3) (b4 := b4) (by omega))
      (fun pre h' => Tn (fun c => c = b17 ∨ c = b18 ∨ h8.size ≤ c) h8 h' ∧ SyH No h h' [⟨b6, #[l.v], 36⟩, ⟨b8, #[.int .i64 (i : Int)], 3⟩, ⟨b10, #[.bool false], 4⟩, ⟨b17, #[.int .i64 ((sumR pre : Nat) : Int)], 3⟩, ⟨b18, #[.int .i64 (lastE (-1) pre)], 3⟩])
      (fun _ _ => False) ⟨Tn.refl _ _, lc⟩ ?_ ?_ (fun pre h1 j => ?_) (fun _ _ _ _ hh => hh) (fun _ _ _ _ _ _ hh => hh) ?_ ?_ (fun _ _ _ _ hh => hh.elim)
    · rintro pre h1 h2 g ⟨j1, j2⟩
      exact ⟨j1.trans' (Tn.of_grw (S := No) g) (fun _ t => t.elim), j2.keep (Tn.of_grw g)⟩
    · rintro lb pre h1 h2 hlb t ⟨j1, j2⟩
      have o := t.only.fr
      refine ⟨j1.trans' o (fun d hd _ => by omega), j2.keepS o (fun z hz => ?_) (fun d hd hlt => by have := lc.fr.1; omega)⟩
      simp only [List.mem_cons, List.not_mem_nil, or_false] at hz
      rcases hz with rfl | rfl | rfl | rfl | rfl <;> simp only <;> omega
    · obtain ⟨j1, _⟩ := j
      rw [Int.toNat_natCast]
      exact RunBlk.pre ⟨j1.blk rb.1 (by omega), j1.blk rb.2.1 (by omega), j1.blk rb.2.2 (by omega)⟩ (Bs.pack (ow.fr j1 (by omega)) (by omega))
    · rintro lb pre y suf h1 hxs hlb _ ⟨j1, j2⟩ N X hN _
      rw [Int.toNat_natCast] at hxs
      have hy := hbd y (by rw [hxs]; simp)
      have hasc := runs_asc (bitsF la fr) i 0 (-1) (.inl (by omega))
      rw [hxs] at hasc
      have hlast := hasc.last
      have hsum : sumR pre + y.2 ≤ i := by
        have e : sumR (runsAt (bitsF la fr) i 0) = sumR pre + (y.2 + sumR suf) := by rw [hxs]; simp [sumR]
        rw [sumR_runs] at e; omega
      unfold RT23_3
      refine ⟨rfl, fun hB tB => ?_⟩
      have o := tB.only.fr
      have lc := j2.keepS o (fun z hz => by
        simp only [List.mem_cons, List.not_mem_nil, or_false] at hz
        rcases hz with rfl | rfl | rfl | rfl | rfl <;> simp only <;> omega) (fun d hd hlt => by have := lc.fr.1; omega)
      have jB := j1.trans' o (fun d hd _ => by omega)
      repeat (first | refine lc.ldo 0 rfl rfl ?_ | refine lc.ld 0 rfl rfl ?_ | refine lc.ldo 1 rfl rfl ?_ | refine lc.ld 1 rfl rfl ?_ | refine lc.ldo 2 rfl rfl ?_ | refine lc.ld 2 rfl rfl ?_ | refine lc.ldo 3 rfl rfl ?_ | refine lc.ld 3 rfl rfl ?_ | refine lc.ldo 4 rfl rfl ?_ | refine lc.ld 4 rfl rfl ?_ | refine lc.ldo 5 rfl rfl ?_ | refine lc.ld 5 rfl rfl ?_ | refine lc.ldo 6 rfl rfl ?_ | refine lc.ld 6 rfl rfl ?_ | (refine lc.sto 0 rfl rfl rfl fun _ _ lc => ?_; simp only [Nat.zero_add, List.set_cons_zero, List.set_cons_succ, List.setIfInBounds_toArray] at lc) | (refine lc.st 0 rfl rfl rfl fun _ _ lc => ?_; simp only [Nat.zero_add, List.set_cons_zero, List.set_cons_succ, List.setIfInBounds_toArray] at lc) | (refine lc.sto 1 rfl rfl rfl fun _ _ lc => ?_; simp only [Nat.zero_add, List.set_cons_zero, List.set_cons_succ, List.setIfInBounds_toArray] at lc) | (refine lc.st 1 rfl rfl rfl fun _ _ lc => ?_; simp only [Nat.zero_add, List.set_cons_zero, List.set_cons_succ, List.setIfInBounds_toArray] at lc) | (refine lc.sto 2 rfl rfl rfl fun _ _ lc => ?_; simp only [Nat.zero_add, List.set_cons_zero, List.set_cons_succ, List.setIfInBounds_toArray] at lc) | (refine lc.st 2 rfl rfl rfl fun _ _ lc => ?_; simp only [Nat.zero_add, List.set_cons_zero, List.set_cons_succ, List.setIfInBounds_toArray] at lc) | (refine lc.sto 3 rfl rfl rfl fun _ _ lc => ?_; simp only [Nat.zero_add, List.set_cons_zero, List.set_cons_succ, List.setIfInBounds_toArray] at lc) | (refine lc.st 3 rfl rfl rfl fun _ _ lc => ?_; simp only [Nat.zero_add, List.set_cons_zero, List.set_cons_succ, List.setIfInBounds_toArray] at lc) | (refine lc.sto 4 rfl rfl rfl fun _ _ lc => ?_; simp only [Nat.zero_add, List.set_cons_zero, List.set_cons_succ, List.setIfInBounds_toArray] at lc) | (refine lc.st 4 rfl rfl rfl fun _ _ lc => ?_; simp only [Nat.zero_add, List.set_cons_zero, List.set_cons_succ, List.setIfInBounds_toArray] at lc) | (refine lc.sto 5 rfl rfl rfl fun _ _ lc => ?_; simp only [Nat.zero_add, List.set_cons_zero, List.set_cons_succ, List.setIfInBounds_toArray] at lc) | (refine lc.st 5 rfl rfl rfl fun _ _ lc => ?_; simp only [Nat.zero_add, List.set_cons_zero, List.set_cons_succ, List.setIfInBounds_toArray] at lc) | (refine lc.sto 6 rfl rfl rfl fun _ _ lc => ?_; simp only [Nat.zero_add, List.set_cons_zero, List.set_cons_succ, List.setIfInBounds_toArray] at lc) | (refine lc.st 6 rfl rfl rfl fun _ _ lc => ?_; simp only [Nat.zero_add, List.set_cons_zero, List.set_cons_succ, List.setIfInBounds_toArray] at lc) | refine lc.ldo 0 (x := Sl.nil) rfl rfl ?_ | refine lc.ld 0 (x := Sl.nil) rfl rfl ?_ | refine lc.ldo 1 (x := Sl.nil) rfl rfl ?_ | refine lc.ld 1 (x := Sl.nil) rfl rfl ?_ | refine lc.ldo 2 (x := Sl.nil) rfl rfl ?_ | refine lc.ld 2 (x := Sl.nil) rfl rfl ?_ | refine lc.ldo 3 (x := Sl.nil) rfl rfl ?_ | refine lc.ld 3 (x := Sl.nil) rfl rfl ?_ | refine lc.ldo 4 (x := Sl.nil) rfl rfl ?_ | refine lc.ld 4 (x := Sl.nil) rfl rfl ?_ | refine lc.ldo 5 (x := Sl.nil) rfl rfl ?_ | refine lc.ld 5 (x := Sl.nil) rfl rfl ?_ | refine lc.ldo 6 (x := Sl.nil) rfl rfl ?_ | refine lc.ld 6 (x := Sl.nil) rfl rfl ?_ | refine lc.new fun _ _ _ _ lc => ?_ | refine Wr_i64 (by omega) (by omega) ?_ | refine If_t rfl ?_ | refine If_f rfl ?_)
      refine If_f (by rw [decide_eq_false_iff_not]; omega) (If_f (by rw [decide_eq_false_iff_not]; omega) (Wr_i64 (by omega) (by omega) ?_))
      repeat (first | refine lc.ldo 0 rfl rfl ?_ | refine lc.ld 0 rfl rfl ?_ | refine lc.ldo 1 rfl rfl ?_ | refine lc.ld 1 rfl rfl ?_ | refine lc.ldo 2 rfl rfl ?_ | refine lc.ld 2 rfl rfl ?_ | refine lc.ldo 3 rfl rfl ?_ | refine lc.ld 3 rfl rfl ?_ | refine lc.ldo 4 rfl rfl ?_ | refine lc.ld 4 rfl rfl ?_ | refine lc.ldo 5 rfl rfl ?_ | refine lc.ld 5 rfl rfl ?_ | refine lc.ldo 6 rfl rfl ?_ | refine lc.ld 6 rfl rfl ?_ | (refine lc.sto 0 rfl rfl rfl fun _ _ lc => ?_; simp only [Nat.zero_add, List.set_cons_zero, List.set_cons_succ, List.setIfInBounds_toArray] at lc) | (refine lc.st 0 rfl rfl rfl fun _ _ lc => ?_; simp only [Nat.zero_add, List.set_cons_zero, List.set_cons_succ, List.setIfInBounds_toArray] at lc) | (refine lc.sto 1 rfl rfl rfl fun _ _ lc => ?_; simp only [Nat.zero_add, List.set_cons_zero, List.set_cons_succ, List.setIfInBounds_toArray] at lc) | (refine lc.st 1 rfl rfl rfl fun _ _ lc => ?_; simp only [Nat.zero_add, List.set_cons_zero, List.set_cons_succ, List.setIfInBounds_toArray] at lc) | (refine lc.sto 2 rfl rfl rfl fun _ _ lc => ?_; simp only [Nat.zero_add, List.set_cons_zero, List.set_cons_succ, List.setIfInBounds_toArray] at lc) | (refine lc.st 2 rfl rfl rfl fun _ _ lc => ?_; simp only [Nat.zero_add, List.set_cons_zero, List.set_cons_succ, List.setIfInBounds_toArray] at lc) | (refine lc.sto 3 rfl rfl rfl fun _ _ lc => ?_; simp only [Nat.zero_add, List.set_cons_zero, List.set_cons_succ, List.setIfInBounds_toArray] at lc) | (refine lc.st 3 rfl rfl rfl fun _ _ lc => ?_; simp only [Nat.zero_add, List.set_cons_zero, List.set_cons_succ, List.setIfInBounds_toArray] at lc) | (refine lc.sto 4 rfl rfl rfl fun _ _ lc => ?_; simp only [Nat.zero_add, List.set_cons_zero, List.set_cons_succ, List.setIfInBounds_toArray] at lc) | (refine lc.st 4 rfl rfl rfl fun _ _ lc => ?_; simp only [Nat.zero_add, List.set_cons_zero, List.set_cons_succ, List.setIfInBounds_toArray] at lc) | (refine lc.sto 5 rfl rfl rfl fun _ _ lc => ?_; simp only [Nat.zero_add, List.set_cons_zero, List.set_cons_succ, List.setIfInBounds_toArray] at lc) | (refine lc.st 5 rfl rfl rfl fun _ _ lc => ?_; simp only [Nat.zero_add, List.set_cons_zero, List.set_cons_succ, List.setIfInBounds_toArray] at lc) | (refine lc.sto 6 rfl rfl rfl fun _ _ lc => ?_; simp only [Nat.zero_add, List.set_cons_zero, List.set_cons_succ, List.setIfInBounds_toArray] at lc) | (refine lc.st 6 rfl rfl rfl fun _ _ lc => ?_; simp only [Nat.zero_add, List.set_cons_zero, List.set_cons_succ, List.setIfInBounds_toArray] at lc) | refine lc.ldo 0 (x := Sl.nil) rfl rfl ?_ | refine lc.ld 0 (x := Sl.nil) rfl rfl ?_ | refine lc.ldo 1 (x := Sl.nil) rfl rfl ?_ | refine lc.ld 1 (x := Sl.nil) rfl rfl ?_ | refine lc.ldo 2 (x := Sl.nil) rfl rfl ?_ | refine lc.ld 2 (x := Sl.nil) rfl rfl ?_ | refine lc.ldo 3 (x := Sl.nil) rfl rfl ?_ | refine lc.ld 3 (x := Sl.nil) rfl rfl ?_ | refine lc.ldo 4 (x := Sl.nil) rfl rfl ?_ | refine lc.ld 4 (x := Sl.nil) rfl rfl ?_ | refine lc.ldo 5 (x := Sl.nil) rfl rfl ?_ | refine lc.ld 5 (x := Sl.nil) rfl rfl ?_ | refine lc.ldo 6 (x := Sl.nil) rfl rfl ?_ | refine lc.ld 6 (x := Sl.nil) rfl rfl ?_ | refine lc.new fun _ _ _ _ lc => ?_ | refine Wr_i64 (by omega) (by omega) ?_ | refine If_t rfl ?_ | refine If_f rfl ?_)
      refine If_f (by rw [decide_eq_false_iff_not]; omega) (J23_4.of ?_)
      unfold JT23_4
      refine L23_5.rule (fun x h' => h' = hB ∧ ∃ j : Nat, x = (j : Int) ∧ y.1 ≤ j ∧ j ≤ y.1 + y.2) (fun x _ => y.1 + y.2 - x.toNat) ⟨rfl, y.1, rfl, Nat.le_refl _, by omega⟩ ?_
      rintro x h' ⟨rfl, j, rfl, hj1, hj2⟩ N2 hN2
      unfold T23_5
      refine Wr_i64 (by omega) (by omega) (If_i (fun d => ?_) fun d => ?_)
      · simp only [decide_eq_true_eq] at d
        repeat (first | refine lc.ldo 0 rfl rfl ?_ | refine lc.ld 0 rfl rfl ?_ | refine lc.ldo 1 rfl rfl ?_ | refine lc.ld 1 rfl rfl ?_ | refine lc.ldo 2 rfl rfl ?_ | refine lc.ld 2 rfl rfl ?_ | refine lc.ldo 3 rfl rfl ?_ | refine lc.ld 3 rfl rfl ?_ | refine lc.ldo 4 rfl rfl ?_ | refine lc.ld 4 rfl rfl ?_ | refine lc.ldo 5 rfl rfl ?_ | refine lc.ld 5 rfl rfl ?_ | refine lc.ldo 6 rfl rfl ?_ | refine lc.ld 6 rfl rfl ?_ | (refine lc.sto 0 rfl rfl rfl fun _ _ lc => ?_; simp only [Nat.zero_add, List.set_cons_zero, List.set_cons_succ, List.setIfInBounds_toArray] at lc) | (refine lc.st 0 rfl rfl rfl fun _ _ lc => ?_; simp only [Nat.zero_add, List.set_cons_zero, List.set_cons_succ, List.setIfInBounds_toArray] at lc) | (refine lc.sto 1 rfl rfl rfl fun _ _ lc => ?_; simp only [Nat.zero_add, List.set_cons_zero, List.set_cons_succ, List.setIfInBounds_toArray] at lc) | (refine lc.st 1 rfl rfl rfl fun _ _ lc => ?_; simp only [Nat.zero_add, List.set_cons_zero, List.set_cons_succ, List.setIfInBounds_toArray] at lc) | (refine lc.sto 2 rfl rfl rfl fun _ _ lc => ?_; simp only [Nat.zero_add, List.set_cons_zero, List.set_cons_succ, List.setIfInBounds_toArray] at lc) | (refine lc.st 2 rfl rfl rfl fun _ _ lc => ?_; simp only [Nat.zero_add, List.set_cons_zero, List.set_cons_succ, List.setIfInBounds_toArray] at lc) | (refine lc.sto 3 rfl rfl rfl fun _ _ lc => ?_; simp only [Nat.zero_add, List.set_cons_zero, List.set_cons_succ, List.setIfInBounds_toArray] at lc) | (refine lc.st 3 rfl rfl rfl fun _ _ lc => ?_; simp only [Nat.zero_add, List.set_cons_zero, List.set_cons_succ, List.setIfInBounds_toArray] at lc) | (refine lc.sto 4 rfl rfl rfl fun _ _ lc => ?_; simp only [Nat.zero_add, List.set_cons_zero, List.set_cons_succ, List.setIfInBounds_toArray] at lc) | (refine lc.st 4 rfl rfl rfl fun _ _ lc => ?_; simp only [Nat.zero_add, List.set_cons_zero, List.set_cons_succ, List.setIfInBounds_toArray] at lc) | (refine lc.sto 5 rfl rfl rfl fun _ _ lc => ?_; simp only [Nat.zero_add, List.set_cons_zero, List.set_cons_succ, List.setIfInBounds_toArray] at lc) | (refine lc.st 5 rfl rfl rfl fun _ _ lc => ?_; simp only [Nat.zero_add, List.set_cons_zero, List.set_cons_succ, List.setIfInBounds_toArray] at lc) | (refine lc.sto 6 rfl rfl rfl fun _ _ lc => ?_; simp only [Nat.zero_add, List.set_cons_zero, List.set_cons_succ, List.setIfInBounds_toArray] at lc) | (refine lc.st 6 rfl rfl rfl fun _ _ lc => ?_; simp only [Nat.zero_add, List.set_cons_zero, List.set_cons_succ, List.setIfInBounds_toArray] at lc) | refine lc.ldo 0 (x := Sl.nil) rfl rfl ?_ | refine lc.ld 0 (x := Sl.nil) rfl rfl ?_ | refine lc.ldo 1 (x := Sl.nil) rfl rfl ?_ | refine lc.ld 1 (x := Sl.nil) rfl rfl ?_ | refine lc.ldo 2 (x := Sl.nil) rfl rfl ?_ | refine lc.ld 2 (x := Sl.nil) rfl rfl ?_ | refine lc.ldo 3 (x := Sl.nil) rfl rfl ?_ | refine lc.ld 3 (x := Sl.nil) rfl rfl ?_ | refine lc.ldo 4 (x := Sl.nil) rfl rfl ?_ | refine lc.ld 4 (x := Sl.nil) rfl rfl ?_ | refine lc.ldo 5 (x := Sl.nil) rfl rfl ?_ | refine lc.ld 5 (x := Sl.nil) rfl rfl ?_ | refine lc.ldo 6 (x := Sl.nil) rfl rfl ?_ | refine lc.ld 6 (x := Sl.nil) rfl rfl ?_ | refine lc.new fun _ _ _ _ lc => ?_ | refine Wr_i64 (by omega) (by omega) ?_ | refine If_t rfl ?_ | refine If_f rfl ?_)
        refine (hl.grw lc.grw).ix (by omega) (by omega) (listGet (by omega)) fun q hq => Ld_i hq ?_
        have hin : inRuns (runsAt (bitsF la fr) i 0) j = true := by
          unfold inRuns; rw [List.any_eq_true]; exact ⟨y, by rw [hxs]; simp, by rw [decide_eq_true_eq]; omega⟩
        rw [runs_in _ _ _ _ (Nat.zero_le _) (by omega)] at hin
        rw [hin]
        refine If_f rfl (Wr_i64 (by omega) (by omega) ?_)
        exact hN2 _ _ ⟨rfl, j + 1, by simp, by omega, by omega⟩ (by omega)
      · simp only [decide_eq_false_iff_not] at d
        refine lc.ld 3 rfl rfl (Wr_i64 (by omega) (by omega) ?_)
        refine lc.st 3 rfl rfl rfl fun h9 f9 lc => Wr_i64 (by omega) (by omega) ?_
        simp only [Nat.zero_add, List.set_cons_zero, List.set_cons_succ, List.setIfInBounds_toArray] at lc
        refine lc.st 4 rfl rfl rfl fun h10 f10 lc => ?_
        simp only [Nat.zero_add, List.set_cons_zero, List.set_cons_succ, List.setIfInBounds_toArray] at lc
        have zB := tB.1
        have z9 := f9.1
        obtain ⟨_, _, _, _, hr⟩ := tB.2.2
        have llb := (Array.getElem?_eq_some_iff.1 hr).1
        refine hN h' h10 tB ((f10.2 lb (by omega) (by omega)).trans (f9.2 lb llb (by omega))) ⟨(jB.trans' f9 (fun d hd _ => .inl hd)).trans' f10 (fun d hd _ => .inr (.inl hd)), ?_⟩
        have e1 : ((sumR (pre ++ [y]) : Nat) : Int) = ((sumR pre : Nat) : Int) + (y.2 : Int) := by rw [sumR_snoc]; omega
        have e2 : lastE (-1) (pre ++ [y]) = (y.1 : Int) + (y.2 : Int) := by rw [lastE_snoc]; omega
        rw [e1, e2]; exact lc
    · rintro h9 ⟨j1, lc⟩
      rw [Int.toNat_natCast, sumR_runs] at lc
      unfold RD23_3
      refine J23_2.of ?_
      unfold JT23_2
      repeat (first | refine lc.ldo 0 rfl rfl ?_ | refine lc.ld 0 rfl rfl ?_ | refine lc.ldo 1 rfl rfl ?_ | refine lc.ld 1 rfl rfl ?_ | refine lc.ldo 2 rfl rfl ?_ | refine lc.ld 2 rfl rfl ?_ | refine lc.ldo 3 rfl rfl ?_ | refine lc.ld 3 rfl rfl ?_ | refine lc.ldo 4 rfl rfl ?_ | refine lc.ld 4 rfl rfl ?_ | refine lc.ldo 5 rfl rfl ?_ | refine lc.ld 5 rfl rfl ?_ | refine lc.ldo 6 rfl rfl ?_ | refine lc.ld 6 rfl rfl ?_ | (refine lc.sto 0 rfl rfl rfl fun _ _ lc => ?_; simp only [Nat.zero_add, List.set_cons_zero, List.set_cons_succ, List.setIfInBounds_toArray] at lc) | (refine lc.st 0 rfl rfl rfl fun _ _ lc => ?_; simp only [Nat.zero_add, List.set_cons_zero, List.set_cons_succ, List.setIfInBounds_toArray] at lc) | (refine lc.sto 1 rfl rfl rfl fun _ _ lc => ?_; simp only [Nat.zero_add, List.set_cons_zero, List.set_cons_succ, List.setIfInBounds_toArray] at lc) | (refine lc.st 1 rfl rfl rfl fun _ _ lc => ?_; simp only [Nat.zero_add, List.set_cons_zero, List.set_cons_succ, List.setIfInBounds_toArray] at lc) | (refine lc.sto 2 rfl rfl rfl fun _ _ lc => ?_; simp only [Nat.zero_add, List.set_cons_zero, List.set_cons_succ, List.setIfInBounds_toArray] at lc) | (refine lc.st 2 rfl rfl rfl fun _ _ lc => ?_; simp only [Nat.zero_add, List.set_cons_zero, List.set_cons_succ, List.setIfInBounds_toArray] at lc) | (refine lc.sto 3 rfl rfl rfl fun _ _ lc => ?_; simp only [Nat.zero_add, List.set_cons_zero, List.set_cons_succ, List.setIfInBounds_toArray] at lc) | (refine lc.st 3 rfl rfl rfl fun _ _ lc => ?_; simp only [Nat.zero_add, List.set_cons_zero, List.set_cons_succ, List.setIfInBounds_toArray] at lc) | (refine lc.sto 4 rfl rfl rfl fun _ _ lc => ?_; simp only [Nat.zero_add, List.set_cons_zero, List.set_cons_succ, List.setIfInBounds_toArray] at lc) | (refine lc.st 4 rfl rfl rfl fun _ _ lc => ?_; simp only [Nat.zero_add, List.set_cons_zero, List.set_cons_succ, List.setIfInBounds_toArray] at lc) | (refine lc.sto 5 rfl rfl rfl fun _ _ lc => ?_; simp only [Nat.zero_add, List.set_cons_zero, List.set_cons_succ, List.setIfInBounds_toArray] at lc) | (refine lc.st 5 rfl rfl rfl fun _ _ lc => ?_; simp only [Nat.zero_add, List.set_cons_zero, List.set_cons_succ, List.setIfInBounds_toArray] at lc) | (refine lc.sto 6 rfl rfl rfl fun _ _ lc => ?_; simp only [Nat.zero_add, List.set_cons_zero, List.set_cons_succ, List.setIfInBounds_toArray] at lc) | (refine lc.st 6 rfl rfl rfl fun _ _ lc => ?_; simp only [Nat.zero_add, List.set_cons_zero, List.set_cons_succ, List.setIfInBounds_toArray] at lc) | refine lc.ldo 0 (x := Sl.nil) rfl rfl ?_ | refine lc.ld 0 (x := Sl.nil) rfl rfl ?_ | refine lc.ldo 1 (x := Sl.nil) rfl rfl ?_ | refine lc.ld 1 (x := Sl.nil) rfl rfl ?_ | refine lc.ldo 2 (x := Sl.nil) rfl rfl ?_ | refine lc.ld 2 (x := Sl.nil) rfl rfl ?_ | refine lc.ldo 3 (x := Sl.nil) rfl rfl ?_ | refine lc.ld 3 (x := Sl.nil) rfl rfl ?_ | refine lc.ldo 4 (x := Sl.nil) rfl rfl ?_ | refine lc.ld 4 (x := Sl.nil) rfl rfl ?_ | refine lc.ldo 5 (x := Sl.nil) rfl rfl ?_ | refine lc.ld 5 (x := Sl.nil) rfl rfl ?_ | refine lc.ldo 6 (x := Sl.nil) rfl rfl ?_ | refine lc.ld 6 (x := Sl.nil) rfl rfl ?_ | refine lc.new fun _ _ _ _ lc => ?_ | refine Wr_i64 (by omega) (by omega) ?_ | refine If_t rfl ?_ | refine If_f rfl ?_)
      refine place_c (ha.grw lc.grw) iN (by unfold I64; omega) (fun hn => absurd hn (by omega)) (fun _ hz => absurd zA hz) fun _ _ _ _ h10 g10 => ?_
      have hpn := placeF_none (f := bitsF la fr) (N := i) 0 (Nat.zero_le _)
      simp only [cntF, Nat.sub_zero] at hpn
      simp only [Int.toNat_natCast, hpn, plN, plE]
      have lc := lc.keep (Tn.of_grw g10)
      refine If_t (by simp) ?_
      repeat (first | refine lc.ldo 0 rfl rfl ?_ | refine lc.ld 0 rfl rfl ?_ | refine lc.ldo 1 rfl rfl ?_ | refine lc.ld 1 rfl rfl ?_ | refine lc.ldo 2 rfl rfl ?_ | refine lc.ld 2 rfl rfl ?_ | refine lc.ldo 3 rfl rfl ?_ | refine lc.ld 3 rfl rfl ?_ | refine lc.ldo 4 rfl rfl ?_ | refine lc.ld 4 rfl rfl ?_ | refine lc.ldo 5 rfl rfl ?_ | refine lc.ld 5 rfl rfl ?_ | refine lc.ldo 6 rfl rfl ?_ | refine lc.ld 6 rfl rfl ?_ | (refine lc.sto 0 rfl rfl rfl fun _ _ lc => ?_; simp only [Nat.zero_add, List.set_cons_zero, List.set_cons_succ, List.setIfInBounds_toArray] at lc) | (refine lc.st 0 rfl rfl rfl fun _ _ lc => ?_; simp only [Nat.zero_add, List.set_cons_zero, List.set_cons_succ, List.setIfInBounds_toArray] at lc) | (refine lc.sto 1 rfl rfl rfl fun _ _ lc => ?_; simp only [Nat.zero_add, List.set_cons_zero, List.set_cons_succ, List.setIfInBounds_toArray] at lc) | (refine lc.st 1 rfl rfl rfl fun _ _ lc => ?_; simp only [Nat.zero_add, List.set_cons_zero, List.set_cons_succ, List.setIfInBounds_toArray] at lc) | (refine lc.sto 2 rfl rfl rfl fun _ _ lc => ?_; simp only [Nat.zero_add, List.set_cons_zero, List.set_cons_succ, List.setIfInBounds_toArray] at lc) | (refine lc.st 2 rfl rfl rfl fun _ _ lc => ?_; simp only [Nat.zero_add, List.set_cons_zero, List.set_cons_succ, List.setIfInBounds_toArray] at lc) | (refine lc.sto 3 rfl rfl rfl fun _ _ lc => ?_; simp only [Nat.zero_add, List.set_cons_zero, List.set_cons_succ, List.setIfInBounds_toArray] at lc) | (refine lc.st 3 rfl rfl rfl fun _ _ lc => ?_; simp only [Nat.zero_add, List.set_cons_zero, List.set_cons_succ, List.setIfInBounds_toArray] at lc) | (refine lc.sto 4 rfl rfl rfl fun _ _ lc => ?_; simp only [Nat.zero_add, List.set_cons_zero, List.set_cons_succ, List.setIfInBounds_toArray] at lc) | (refine lc.st 4 rfl rfl rfl fun _ _ lc => ?_; simp only [Nat.zero_add, List.set_cons_zero, List.set_cons_succ, List.setIfInBounds_toArray] at lc) | (refine lc.sto 5 rfl rfl rfl fun _ _ lc => ?_; simp only [Nat.zero_add, List.set_cons_zero, List.set_cons_succ, List.setIfInBounds_toArray] at lc) | (refine lc.st 5 rfl rfl rfl fun _ _ lc => ?_; simp only [Nat.zero_add, List.set_cons_zero, List.set_cons_succ, List.setIfInBounds_toArray] at lc) | (refine lc.sto 6 rfl rfl rfl fun _ _ lc => ?_; simp only [Nat.zero_add, List.set_cons_zero, List.set_cons_succ, List.setIfInBounds_toArray] at lc) | (refine lc.st 6 rfl rfl rfl fun _ _ lc => ?_; simp only [Nat.zero_add, List.set_cons_zero, List.set_cons_succ, List.setIfInBounds_toArray] at lc) | refine lc.ldo 0 (x := Sl.nil) rfl rfl ?_ | refine lc.ld 0 (x := Sl.nil) rfl rfl ?_ | refine lc.ldo 1 (x := Sl.nil) rfl rfl ?_ | refine lc.ld 1 (x := Sl.nil) rfl rfl ?_ | refine lc.ldo 2 (x := Sl.nil) rfl rfl ?_ | refine lc.ld 2 (x := Sl.nil) rfl rfl ?_ | refine lc.ldo 3 (x := Sl.nil) rfl rfl ?_ | refine lc.ld 3 (x := Sl.nil) rfl rfl ?_ | refine lc.ldo 4 (x := Sl.nil) rfl rfl ?_ | refine lc.ld 4 (x := Sl.nil) rfl rfl ?_ | refine lc.ldo 5 (x := Sl.nil) rfl rfl ?_ | refine lc.ld 5 (x := Sl.nil) rfl rfl ?_ | refine lc.ldo 6 (x := Sl.nil) rfl rfl ?_ | refine lc.ld 6 (x := Sl.nil) rfl rfl ?_ | refine lc.new fun _ _ _ _ lc => ?_ | refine Wr_i64 (by omega) (by omega) ?_ | refine If_t rfl ?_ | refine If_f rfl ?_)
      refine If_t (by simp) (If_t rfl (If_i (fun d => ?_) fun d => ?_))
      · refine lc.st 2 rfl rfl rfl fun h11 f11 lc => ?_
        exact lc.ld 2 rfl rfl (hk _ lc.grw)
      · simp only [gt_iff_lt, decide_eq_false_iff_not] at d
        repeat (first | refine lc.ldo 0 rfl rfl ?_ | refine lc.ld 0 rfl rfl ?_ | refine lc.ldo 1 rfl rfl ?_ | refine lc.ld 1 rfl rfl ?_ | refine lc.ldo 2 rfl rfl ?_ | refine lc.ld 2 rfl rfl ?_ | refine lc.ldo 3 rfl rfl ?_ | refine lc.ld 3 rfl rfl ?_ | refine lc.ldo 4 rfl rfl ?_ | refine lc.ld 4 rfl rfl ?_ | refine lc.ldo 5 rfl rfl ?_ | refine lc.ld 5 rfl rfl ?_ | refine lc.ldo 6 rfl rfl ?_ | refine lc.ld 6 rfl rfl ?_ | (refine lc.sto 0 rfl rfl rfl fun _ _ lc => ?_; simp only [Nat.zero_add, List.set_cons_zero, List.set_cons_succ, List.setIfInBounds_toArray] at lc) | (refine lc.st 0 rfl rfl rfl fun _ _ lc => ?_; simp only [Nat.zero_add, List.set_cons_zero, List.set_cons_succ, List.setIfInBounds_toArray] at lc) | (refine lc.sto 1 rfl rfl rfl fun _ _ lc => ?_; simp only [Nat.zero_add, List.set_cons_zero, List.set_cons_succ, List.setIfInBounds_toArray] at lc) | (refine lc.st 1 rfl rfl rfl fun _ _ lc => ?_; simp only [Nat.zero_add, List.set_cons_zero, List.set_cons_succ, List.setIfInBounds_toArray] at lc) | (refine lc.sto 2 rfl rfl rfl fun _ _ lc => ?_; simp only [Nat.zero_add, List.set_cons_zero, List.set_cons_succ, List.setIfInBounds_toArray] at lc) | (refine lc.st 2 rfl rfl rfl fun _ _ lc => ?_; simp only [Nat.zero_add, List.set_cons_zero, List.set_cons_succ, List.setIfInBounds_toArray] at lc) | (refine lc.sto 3 rfl rfl rfl fun _ _ lc => ?_; simp only [Nat.zero_add, List.set_cons_zero, List.set_cons_succ, List.setIfInBounds_toArray] at lc) | (refine lc.st 3 rfl rfl rfl fun _ _ lc => ?_; simp only [Nat.zero_add, List.set_cons_zero, List.set_cons_succ, List.setIfInBounds_toArray] at lc) | (refine lc.sto 4 rfl rfl rfl fun _ _ lc => ?_; simp only [Nat.zero_add, List.set_cons_zero, List.set_cons_succ, List.setIfInBounds_toArray] at lc) | (refine lc.st 4 rfl rfl rfl fun _ _ lc => ?_; simp only [Nat.zero_add, List.set_cons_zero, List.set_cons_succ, List.setIfInBounds_toArray] at lc) | (refine lc.sto 5 rfl rfl rfl fun _ _ lc => ?_; simp only [Nat.zero_add, List.set_cons_zero, List.set_cons_succ, List.setIfInBounds_toArray] at lc) | (refine lc.st 5 rfl rfl rfl fun _ _ lc => ?_; simp only [Nat.zero_add, List.set_cons_zero, List.set_cons_succ, List.setIfInBounds_toArray] at lc) | (refine lc.sto 6 rfl rfl rfl fun _ _ lc => ?_; simp only [Nat.zero_add, List.set_cons_zero, List.set_cons_succ, List.setIfInBounds_toArray] at lc) | (refine lc.st 6 rfl rfl rfl fun _ _ lc => ?_; simp only [Nat.zero_add, List.set_cons_zero, List.set_cons_succ, List.setIfInBounds_toArray] at lc) | refine lc.ldo 0 (x := Sl.nil) rfl rfl ?_ | refine lc.ld 0 (x := Sl.nil) rfl rfl ?_ | refine lc.ldo 1 (x := Sl.nil) rfl rfl ?_ | refine lc.ld 1 (x := Sl.nil) rfl rfl ?_ | refine lc.ldo 2 (x := Sl.nil) rfl rfl ?_ | refine lc.ld 2 (x := Sl.nil) rfl rfl ?_ | refine lc.ldo 3 (x := Sl.nil) rfl rfl ?_ | refine lc.ld 3 (x := Sl.nil) rfl rfl ?_ | refine lc.ldo 4 (x := Sl.nil) rfl rfl ?_ | refine lc.ld 4 (x := Sl.nil) rfl rfl ?_ | refine lc.ldo 5 (x := Sl.nil) rfl rfl ?_ | refine lc.ld 5 (x := Sl.nil) rfl rfl ?_ | refine lc.ldo 6 (x := Sl.nil) rfl rfl ?_ | refine lc.ld 6 (x := Sl.nil) rfl rfl ?_ | refine lc.new fun _ _ _ _ lc => ?_ | refine Wr_i64 (by omega) (by omega) ?_ | refine If_t rfl ?_ | refine If_f rfl ?_)
        refine next_c (ha.grw lc.grw) iN (fun hz => absurd zA hz) fun _ _ _ => ?_
        rw [Int.toNat_natCast, nextF_none (by omega) 0]
        refine lc.st 2 rfl rfl rfl fun h11 f11 lc => ?_
        exact lc.ld 2 rfl rfl (hk _ lc.grw)
/-- BitsFollow -/
theorem bitsFollow_c {a b : Sl} {fr n early : Int} {la lb : List Nat} {h : Hp} {K : Bool → Hp → Prop} {Kp : List PanicEntry → Hp → Prop} (tb : Tab h) (ha : Bs h a la) (hb : Bs h b lb) (hla : la.length < 2 ^ 34) (hlb : lb.length < 2 ^ 34) (hf : I64 fr) (hn : I64 n) (hk : ∀ h', Grw h h' → K true h') : Fn6 a b fr n early h K Kp := by
  refine Fn6.of ?_
  unfold S6
  have han := ha.n
  refine New_i fun b1 h1 e1 g1 k1 z1 => ?_
  simp only [add_blk]
  refine Ld_blk (x := a) k1 rfl (Ld_blk (x := b) k1 rfl (Ld_blk (x := fr) k1 rfl (Ld_blk (x := n) k1 rfl ?_)))
  have ha := ha.grw g1
  have hb := hb.grw g1
  have tb := tb.grw g1
  have thr : ∀ (e : Int) (s c : Sl) (m : Int) (h' : Hp), (e == (0 : Int)) = decide (0 ≤ fr ∧ 0 ≤ n ∧ n ≤ 8 * (la.length : Int) - fr) → J6_1 a b fr n s e m c K Kp h' →
      If (decide (fr ≥ (0 : Int))) (If (decide (n ≥ (0 : Int))) (Wr .i64 ((8 : Int) * (a.n : Int)) fun t65 => If (decide (fr ≤ t65)) (Wr .i64 ((8 : Int) * (a.n : Int)) fun t72 => Wr .i64 (t72 - fr) fun t74 =>
        If (!((e == (0 : Int)) == (decide (n ≤ t74)))) (K false h') (J6_1 a b fr n s e m c K Kp h')) (If (!((e == (0 : Int)) == false)) (K false h') (J6_1 a b fr n s e m c K Kp h')))
        (If (!((e == (0 : Int)) == false)) (K false h') (J6_1 a b fr n s e m c K Kp h'))) (If (!((e == (0 : Int)) == false)) (K false h') (J6_1 a b fr n s e m c K Kp h')) := by
    intro e s c m h' he hJ
    unfold I64 at hf hn
    rw [he]
    refine If_i (fun c1 => ?_) fun c1 => If_f ?_ hJ
    · simp only [ge_iff_le, decide_eq_true_eq] at c1
      refine If_i (fun c2 => ?_) fun c2 => If_f ?_ hJ
      · simp only [ge_iff_le, decide_eq_true_eq] at c2
        refine Wr_i64 (by omega) (by omega) (If_i (fun c3 => ?_) fun c3 => If_f ?_ hJ)
        · simp only [decide_eq_true_eq] at c3
          refine Wr_i64 (by omega) (by omega) (Wr_i64 (by omega) (by omega) (If_f ?_ hJ))
          have : decide (0 ≤ fr ∧ 0 ≤ n ∧ n ≤ 8 * (la.length : Int) - fr) = decide (n ≤ 8 * (a.n : Int) - fr) := by congr 1; simp only [eq_iff_iff]; omega
          rw [this]; simp
        · simp only [decide_eq_false_iff_not] at c3
          rw [decide_eq_false (by omega)]; rfl
      · simp only [ge_iff_le, decide_eq_false_iff_not] at c2
        rw [decide_eq_false (by omega)]; rfl
    · simp only [ge_iff_le, decide_eq_false_iff_not] at c1
      rw [decide_eq_false (by omega)]; rfl
  by_cases hz : askB la.length fr n = 0
  · obtain ⟨i1, i2, i3⟩ := askB_ok hz
    refine list_c ha hn (fun hz' => absurd hz hz') fun _ _ _ l bl h2 g2 hbl ol => ?_
    refine count_c (ha.grw g2) (tb.grw g2) hn (fun hz' => absurd hz hz') fun _ _ _ h3 g3 => ?_
    refine cut_c ((ha.grw g2).grw g3) hn (fun hz' => absurd hz hz') fun _ _ _ c bc h4 g4 hbc oc => ?_
    have ha := ((ha.grw g2).grw g3).grw g4
    have hb := ((hb.grw g2).grw g3).grw g4
    have tb := ((tb.grw g2).grw g3).grw g4
    have ol := (ol.grw g3).grw g4
    have G := ((g1.trans g2).trans g3).trans g4
    refine If_f rfl (If_f rfl (thr 0 l c _ h4 (by rw [decide_eq_true ⟨i1, i2, i3⟩]; rfl) (J6_1.of ?_)))
    unfold JT6_1
    refine If_f rfl (J6_2.of ?_)
    unfold JT6_2
    obtain ⟨N, rfl⟩ := Int.eq_ofNat_of_zero_le i2
    rw [Int.toNat_natCast] at ol oc ⊢
    have hln := own_n ol
    have hcn : c.n = needN N := by have := oc.2.1; rw [by8, List.length_map, packN_len, bo_len] at this; exact this
    have hc := Bs.pack oc (by omega)
    refine If_f (by rw [hln]; simp) (need_c (by omega) (If_f (by rw [hcn]; simp) ?_))
    refine ones_c ha ol.sv i1 i3 hla fun h5 g5 => If_f rfl (J6_3.of ?_)
    unfold JT6_3
    have hc := hc.grw g5
    refine list_c hc hn (fun hz' => absurd ask_pack hz') fun _ _ _ l2 bl2 h6 g6 _ ol2 => If_f rfl ?_
    rw [Int.toNat_natCast] at ol2
    have ol := (ol.grw g5).grw g6
    refine alikeL ol2.sv ol.sv (by rw [bo_len]; omega) (listF_congr fun i hi => bitsF_pack hi) fun h7 g7 => If_f rfl ?_
    refine make_c (ol.grw g7).sv (by rw [bo_len]; omega) fun m bm h8 g8 _ om => ?_
    refine alikeB (Bs.pack om (by omega)) (((hc.grw g6).grw g7).grw g8) rfl fun h9 g9 => If_f rfl ?_
    have G2 := (((g5.trans g6).trans g7).trans g8).trans g9
    refine morgan_c (ha.grw G2) (hb.grw G2) hla hlb fun h10 g10 => If_t rfl ?_
    exact fixed_c ((tb.grw G2).grw g10) fun h11 g11 => hk h11 (((G.trans G2).trans g10).trans g11)
  · refine list_c ha hn (fun _ => ?_) fun i1 i2 i3 => absurd (askB_zero i1 i2 i3) hz
    refine count_c ha tb hn (fun _ => ?_) fun i1 i2 i3 => absurd (askB_zero i1 i2 i3) hz
    refine cut_c ha hn (fun _ => ?_) fun i1 i2 i3 => absurd (askB_zero i1 i2 i3) hz
    refine If_f (by simp) (If_f (by simp) (thr _ _ _ _ h1 ?_ (J6_1.of ?_)))
    · rw [decide_eq_false (fun hh => hz (askB_zero hh.1 hh.2.1 hh.2.2))]; simpa using hz
    · unfold JT6_1
      refine If_t (by simpa using hz) (If_t rfl (If_t rfl (If_t rfl ?_)))
      exact next_c ha hn (fun _ => hk h1 g1) fun i1 i2 i3 => absurd (askB_zero i1 i2 i3) hz
end Go.Proofs.YtajgmklgfdgnlaaDoor
