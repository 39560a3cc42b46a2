/- The runs of a list of bits; the iterator that gives them. -/
import Derived.Test.YtajgmklgfdgnlaaDoorA
namespace Go.Proofs.YtajgmklgfdgnlaaDoor
open Go Go.Sh
/-- the end of the run that j stands in -/
def endOf (f : Nat → Bool) (N j : Nat) : Nat := if j < N ∧ f j = true then endOf f N (j + 1) else j
termination_by N - j
def runsAt (f : Nat → Bool) (N i : Nat) : List (Nat × Nat) :=
  if i < N then (if f i = true then (i, endOf f N i - i) :: runsAt f N (max (endOf f N i) (i + 1)) else runsAt f N (i + 1)) else []
termination_by N - i
theorem endOf_ge (f : Nat → Bool) (N j : Nat) : j ≤ endOf f N j := by
  rw [endOf]; split
  · have := endOf_ge f N (j + 1); omega
  · exact Nat.le_refl _
termination_by N - j
theorem endOf_le (f : Nat → Bool) (N j : Nat) (h : j ≤ N) : endOf f N j ≤ N := by
  rw [endOf]; split
  · exact endOf_le f N (j + 1) (by omega)
  · exact h
termination_by N - j
theorem endOf_on {f : Nat → Bool} {N j : Nat} (h : j < N) (hf : f j = true) : endOf f N j = endOf f N (j + 1) := by
  rw [endOf, if_pos ⟨h, hf⟩]
theorem endOf_off {f : Nat → Bool} {N j : Nat} (h : ¬ (j < N ∧ f j = true)) : endOf f N j = j := by
  rw [endOf, if_neg h]
theorem endOf_gt {f : Nat → Bool} {N j : Nat} (h : j < N) (hf : f j = true) : j < endOf f N j := by
  rw [endOf_on h hf]; have := endOf_ge f N (j + 1); omega
theorem runsAt_on {f : Nat → Bool} {N i : Nat} (h : i < N) (hf : f i = true) : runsAt f N i = (i, endOf f N i - i) :: runsAt f N (endOf f N i) := by
  rw [runsAt, if_pos h, if_pos hf]
  have := endOf_gt h hf
  rw [Nat.max_eq_left (by omega)]
theorem runsAt_off {f : Nat → Bool} {N i : Nat} (h : i < N) (hf : f i = false) : runsAt f N i = runsAt f N (i + 1) := by
  rw [runsAt, if_pos h, if_neg (by simp [hf])]
theorem runsAt_end {f : Nat → Bool} {N i : Nat} (h : ¬ i < N) : runsAt f N i = [] := by rw [runsAt, if_neg h]
def encR (y : Nat × Nat) : List Value := [.int .i64 (y.1 : Int), .int .i64 (y.2 : Int)]
/-- what the iterator needs of the heap -/
def RunPre (a5 a3 a4 : Addr) (b : Sl) (fr n : Int) (l : List Nat) (h : Hp) : Prop :=
  cell h a5 = some (.int .i64 n) ∧ cell h a3 = some b.v ∧ cell h a4 = some (.int .i64 fr) ∧ Bs h b l
abbrev runF (a5 a3 a4 : Addr) : Value := .func (.func 51) #[] #[.pointer (some a5), .pointer (some a3), .pointer (some a4)]
/-- the bits from a place on -/
def bitsF (l : List Nat) (fr : Int) (i : Nat) : Bool := bitN l (fr.toNat + i)
theorem runs_iter {a5 a3 a4 : Addr} {b : Sl} {fr n : Int} {l : List Nat} (hfr : 0 ≤ fr) (hn : n ≤ 8 * (l.length : Int) - fr) (hlo : 0 ≤ n) :
    Iter Tryd.prog (runF a5 a3 a4) (runsAt (bitsF l fr) n.toNat 0) encR (RunPre a5 a3 a4 b fr n l) := by
  intro lb J Jx h h0 hPre hG hGx Y
  have hok : okFn Tryd.prog 51 = true := by kernel_rfl
  unfold CallF
  simp only [hok, cond_true, List.nil_append, List.cons_append]
  refine CallH.mono (Fn51.of (K := fun h2 => J (runsAt (bitsF l fr) n.toNat 0) h2 ∨ ∃ pre suf, runsAt (bitsF l fr) n.toNat 0 = pre ++ suf ∧ Jx pre h2) (Kp := NoP) ?_) (fun _ _ hh => hh.2) (fun _ _ hh => hh)
  unfold S51
  obtain ⟨N, rfl⟩ := Int.eq_ofNat_of_zero_le hlo
  obtain ⟨F, rfl⟩ := Int.eq_ofNat_of_zero_le hfr
  simp only [Int.toNat_natCast] at *
  refine L51_1.rule (fun x h => ∃ (i : Nat) (pre : List (Nat × Nat)), x = (i : Int) ∧ i ≤ N ∧ runsAt (bitsF l (F : Int)) N 0 = pre ++ runsAt (bitsF l (F : Int)) N i ∧ J pre h) (fun x _ => N - x.toNat) ⟨0, [], rfl, Nat.zero_le _, rfl, h0⟩ ?_
  rintro x h ⟨i, pre, rfl, hi, hx, hJ⟩ N1 hN
  obtain ⟨p1, p2, p3, p4⟩ := hPre _ _ hJ
  have hlen := p4.2.2
  unfold T51_1
  refine Ld_i p1 (If_i (fun hlt => ?_) fun hlt => ?_)
  · simp only [decide_eq_true_eq] at hlt
    refine Ld_i p2 (Ld_i p3 (Wr_i64 (by omega) (by omega) ?_))
    refine bit_c p4 (by omega) (by omega) ?_
    have e1 : bitN l ((F : Int) + (i : Int)).toNat = bitsF l (F : Int) i := by unfold bitsF; congr 1
    rw [e1]
    refine If_i (fun hb => ?_) fun hb => ?_
    · refine Wr_i64 (by omega) (by omega) ?_
      have hb' : bitsF l (F : Int) i = false := by simpa using hb
      exact hN _ _ ⟨i + 1, pre, by simp, by omega, by rw [hx, runsAt_off (by omega) hb'], hJ⟩ (by omega)
    · have hb' : bitsF l (F : Int) i = true := by simpa using hb
      have hgt := endOf_gt (N := N) (by omega) hb'
      refine L51_2.rule (fun y h => ∃ j : Nat, y = (j : Int) ∧ i ≤ j ∧ j ≤ N ∧ endOf (bitsF l (F : Int)) N j = endOf (bitsF l (F : Int)) N i ∧ J pre h) (fun y _ => N - y.toNat) ⟨i, rfl, Nat.le_refl _, hi, rfl, hJ⟩ ?_
      rintro y h' ⟨j, rfl, hij, hjN, hej, hJ'⟩ N2 hN2
      obtain ⟨q1, q2, q3, q4⟩ := hPre _ _ hJ'
      have out : endOf (bitsF l (F : Int)) N i = j → Wr .i64 ((j : Int) - (i : Int)) fun t35 =>
          CallV Tryd.prog (.func (.yield lb) #[] #[]) [(.int .i64 (i : Int)), (.int .i64 t35)] h' (fun r h1 => ∃ t36 : Bool, r = (.bool t36) ∧
            If (!t36) ((J (runsAt (bitsF l (F : Int)) N 0) h1 ∨ ∃ pre suf, runsAt (bitsF l (F : Int)) N 0 = pre ++ suf ∧ Jx pre h1)) (N1 (mk51_1 (.func (.yield lb) #[] #[]) a5 a3 a4 (j : Int)) h1)) NoP := by
        intro he
        refine Wr_i64 (by omega) (by omega) ?_
        have hx2 : runsAt (bitsF l (F : Int)) N 0 = pre ++ (i, j - i) :: runsAt (bitsF l (F : Int)) N j := by rw [hx, runsAt_on (by omega) hb', he]
        have hY := Y pre (i, j - i) _ h' hx2 hJ'
        have e2 : encR (i, j - i) = [(.int .i64 (i : Int)), (.int .i64 ((j : Int) - (i : Int)))] := by unfold encR; simp only [List.cons.injEq, Value.int.injEq, true_and, and_true]; omega
        rw [e2] at hY
        unfold CallV
        simp only [List.nil_append]
        refine YieldH.mono hY ?_ (fun _ _ hh => hh)
        rintro r h1 (⟨rfl, hJ1⟩ | ⟨rfl, hJ1⟩)
        · exact ⟨true, rfl, If_f rfl (hN _ _ ⟨j, pre ++ [(i, j - i)], rfl, hjN, by rw [hx2]; simp, hJ1⟩ (by omega))⟩
        · exact ⟨false, rfl, If_t rfl (.inr ⟨pre ++ [(i, j - i)], runsAt (bitsF l (F : Int)) N j, by rw [hx2]; simp, hJ1⟩)⟩
      unfold T51_2
      refine Ld_i q1 (If_i (fun hlt2 => ?_) fun hlt2 => ?_)
      · simp only [decide_eq_true_eq] at hlt2
        refine Ld_i q2 (Ld_i q3 (Wr_i64 (by omega) (by omega) ?_))
        refine bit_c q4 (by omega) (by omega) ?_
        have e3 : bitN l ((F : Int) + (j : Int)).toNat = bitsF l (F : Int) j := by unfold bitsF; congr 1
        rw [e3]
        refine If_i (fun hc => ?_) fun hc => ?_
        · refine Wr_i64 (by omega) (by omega) ?_
          exact hN2 _ _ ⟨j + 1, by simp, by omega, by omega, by rw [← hej, endOf_on (by omega) hc], hJ'⟩ (by omega)
        · exact out (by rw [← hej, endOf_off (by simp [hc])])
      · simp only [decide_eq_false_iff_not] at hlt2
        exact out (by rw [← hej, endOf_off (by omega)])
  · simp only [decide_eq_false_iff_not] at hlt
    have e9 : runsAt (bitsF l (F : Int)) N i = [] := runsAt_end (by omega)
    rw [e9, List.append_nil] at hx
    exact .inl (hx ▸ hJ)
end Go.Proofs.YtajgmklgfdgnlaaDoor
