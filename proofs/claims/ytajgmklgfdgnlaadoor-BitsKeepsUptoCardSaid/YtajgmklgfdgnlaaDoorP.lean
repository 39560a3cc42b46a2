/- Contracts: Get, Next, both sides; the document's Count, Place. -/
import Derived.Test.YtajgmklgfdgnlaaDoorO
import Derived.Test.YtajgmklgfdgnlaaDoorS2
import Derived.Test.YtajgmklgfdgnlaaDoorS3
import Derived.Test.YtajgmklgfdgnlaaDoorS4
import Derived.Test.YtajgmklgfdgnlaaDoorS5
import Derived.Test.YtajgmklgfdgnlaaDoorS8
namespace Go.Proofs.YtajgmklgfdgnlaaDoor
open Go Go.Sh
theorem get_c {b : Sl} {i : Int} {h : Hp} {K : Bool → Int → Hp → Prop} {Kp : List PanicEntry → Hp → Prop} {l : List Nat} (hb : Bs h b l) (hi : I64 i)
    (hbad : askB l.length i 1 ≠ 0 → K false (askB l.length i 1) h) (hk : 0 ≤ i → i < 8 * (l.length : Int) → K (bitN l i.toNat) 0 h) : Fn29 b i h K Kp := by
  refine Fn29.of ?_
  unfold S29
  have hn := hb.n
  have hlen := hb.2.2
  unfold I64 at hi
  refine If_i (fun h1 => ?_) fun h1 => ?_
  · simp only [decide_eq_true_eq] at h1
    have e : askB l.length i 1 = 1 := by unfold askB; rw [if_pos (.inl h1)]
    rw [e] at hbad; exact hbad (by decide)
  · simp only [decide_eq_false_iff_not] at h1
    obtain ⟨j, rfl⟩ := Int.eq_ofNat_of_zero_le (by omega : 0 ≤ i)
    have e1 : Int.tdiv (j : Int) 8 = ((j / 8 : Nat) : Int) := rfl
    refine Dv_i (by decide) (Wr_i64 (by rw [e1]; omega) (by rw [e1]; omega) ?_)
    rw [e1]
    refine If_i (fun h2 => ?_) fun h2 => ?_
    · simp only [ge_iff_le, decide_eq_true_eq] at h2
      have e : askB l.length (j : Int) 1 = 2 := by
        unfold askB thereB; rw [if_neg (by omega), decide_eq_false (by omega)]; rfl
      rw [e] at hbad; exact hbad (by decide)
    · simp only [ge_iff_le, decide_eq_false_iff_not] at h2
      exact bit_c hb (by omega) (by omega) (hk (by omega) (by omega))
theorem rget_c {b : Sl} {i : Int} {h : Hp} {K : Bool → Int → Hp → Prop} {Kp : List PanicEntry → Hp → Prop} {l : List Nat} (hb : Bs h b l) (hi : I64 i)
    (hbad : askB l.length i 1 ≠ 0 → K false (askB l.length i 1) h) (hk : 0 ≤ i → i < 8 * (l.length : Int) → K (bitN l i.toNat) 0 h) : Fn35 b i h K Kp := by
  refine Fn35.of ?_
  unfold S35
  have hn := hb.n
  have hlen := hb.2.2
  refine rthere_c (by omega) (by unfold I64; omega) ?_
  rw [hn]
  refine If_i (fun h1 => ?_) fun h1 => ?_
  · simp only [bne_iff_ne, ne_eq] at h1
    exact hbad h1
  · simp only [bne_eq_false_iff_eq] at h1
    obtain ⟨i1, i2, i3⟩ := askB_ok h1
    exact rbit_c hb (by omega) (by omega) (hk (by omega) (by omega))
/-- the first of n places that has this, or -1 -/
def nextF (f : Nat → Bool) (on : Bool) (n i : Nat) : Int := if i < n then (if f i = on then (i : Int) else nextF f on n (i + 1)) else -1
termination_by n - i
theorem next_c {b : Sl} {fr n : Int} {on : Bool} {h : Hp} {K : Int → Hp → Prop} {Kp : List PanicEntry → Hp → Prop} {l : List Nat} (hb : Bs h b l) (hn : I64 n)
    (hbad : askB l.length fr n ≠ 0 → K (-1) h) (hk : 0 ≤ fr → 0 ≤ n → n ≤ 8 * (l.length : Int) - fr → K (nextF (bitsF l fr) on n.toNat 0) h) : Fn21 b fr n on h K Kp := by
  refine Fn21.of ?_
  unfold S21
  have hbn := hb.n
  have hlen := hb.2.2
  refine there_c (by omega) hn ?_
  rw [hbn]
  cases ht : thereB l.length fr n
  · refine If_t rfl (hbad ?_)
    unfold askB; rw [ht]; split <;> simp
  · refine If_f rfl ?_
    have hz : askB l.length fr n = 0 := by
      unfold thereB at ht; simp only [decide_eq_true_eq] at ht
      exact askB_zero (by omega) (by omega) (by omega)
    obtain ⟨i1, i2, i3⟩ := askB_ok hz
    obtain ⟨N, rfl⟩ := Int.eq_ofNat_of_zero_le i2
    obtain ⟨F, rfl⟩ := Int.eq_ofNat_of_zero_le i1
    have hk := hk i1 i2 i3
    rw [Int.toNat_natCast] at hk
    refine L21_1.rule (fun x h' => h' = h ∧ ∃ i : Nat, x = (i : Int) ∧ i ≤ N ∧ nextF (bitsF l (F : Int)) on N 0 = nextF (bitsF l (F : Int)) on N i) (fun x _ => N - x.toNat) ⟨rfl, 0, rfl, Nat.zero_le _, rfl⟩ ?_
    rintro x h' ⟨rfl, i, rfl, hi, hx⟩ N1 hN
    rw [nextF.eq_def _ _ _ i] at hx
    unfold T21_1
    refine If_i (fun h1 => ?_) fun h1 => ?_
    · simp only [decide_eq_true_eq] at h1
      rw [if_pos (by omega)] at hx
      refine Wr_i64 (by omega) (by omega) ?_
      refine bit_c hb (by omega) (by omega) ?_
      have e1 : bitN l ((F : Int) + (i : Int)).toNat = bitsF l (F : Int) i := by unfold bitsF; congr 1
      rw [e1]
      refine If_i (fun h2 => ?_) fun h2 => ?_
      · simp only [beq_iff_eq] at h2
        rw [if_pos h2] at hx; rw [← hx]; exact hk
      · simp only [beq_eq_false_iff_ne, ne_eq] at h2
        rw [if_neg h2] at hx
        refine Wr_i64 (by omega) (by omega) ?_
        exact hN _ _ ⟨rfl, i + 1, by simp, by omega, hx⟩ (by omega)
    · simp only [decide_eq_false_iff_not] at h1
      rw [if_neg (by omega)] at hx; rw [← hx]; exact hk
theorem listGet {f : Nat → Bool} {N i : Nat} (hi : i < N) : (bo (listF f N))[((i : Nat) : Int).toNat]? = some (.bool (f i)) := by
  rw [Int.toNat_natCast, bo_get (by rw [bo_len]; exact hi)]; simp [listF]
theorem own_n {h : Hp} {s : Sl} {bl : Nat} {f : Nat → Bool} {N : Nat} (o : Own h s bl (bo (listF f N)) 4) : s.n = N := by have := o.2.1; simpa [bo, listF] using this
theorem rnext_c {b : Sl} {fr n : Int} {on : Bool} {h : Hp} {K : Int → Hp → Prop} {Kp : List PanicEntry → Hp → Prop} {l : List Nat} (hb : Bs h b l) (hf : I64 fr) (hn : I64 n)
    (hbad : askB l.length fr n ≠ 0 → K (-1) h) (hk : 0 ≤ fr → 0 ≤ n → n ≤ 8 * (l.length : Int) - fr → ∀ h', Grw h h' → K (nextF (bitsF l fr) on n.toNat 0) h') : Fn41 b fr n on h K Kp := by
  refine Fn41.of ?_
  unfold S41
  have hbn := hb.n
  have hlen := hb.2.2
  refine rlist_c hb hf hn (fun hz => If_t (by simpa using hz) (hbad hz)) fun i1 i2 i3 s bl h' g hbl o => If_f rfl ?_
  have hk := hk i1 i2 i3 h' g
  obtain ⟨N, rfl⟩ := Int.eq_ofNat_of_zero_le i2
  rw [Int.toNat_natCast] at hk o
  have hsn := own_n o
  refine L41_1.rule (fun x h'' => h'' = h' ∧ ∃ i : Nat, x = (i : Int) ∧ i ≤ N ∧ nextF (bitsF l fr) on N 0 = nextF (bitsF l fr) on N i) (fun x _ => N - x.toNat) ⟨rfl, 0, rfl, Nat.zero_le _, rfl⟩ ?_
  rintro x h'' ⟨rfl, i, rfl, hi, hx⟩ N1 hN
  rw [nextF.eq_def _ _ _ i] at hx
  unfold T41_1
  refine If_i (fun h1 => ?_) fun h1 => ?_
  · simp only [decide_eq_true_eq] at h1
    rw [if_pos (by omega)] at hx
    refine o.sv.ix (by omega) (by omega) (listGet (by omega)) fun a ha => Ld_i ha ?_
    refine If_i (fun h2 => ?_) fun h2 => ?_
    · simp only [beq_iff_eq] at h2
      rw [if_pos h2] at hx; rw [← hx]; exact hk
    · simp only [beq_eq_false_iff_ne, ne_eq] at h2
      rw [if_neg h2] at hx
      refine Wr_i64 (by omega) (by omega) ?_
      exact hN _ _ ⟨rfl, i + 1, by simp, by omega, hx⟩ (by omega)
  · simp only [decide_eq_false_iff_not] at h1
    rw [if_neg (by omega)] at hx; rw [← hx]; exact hk
theorem rcount_c {b : Sl} {fr n : Int} {h : Hp} {K : Int → Int → Hp → Prop} {Kp : List PanicEntry → Hp → Prop} {l : List Nat} (hb : Bs h b l) (hf : I64 fr) (hn : I64 n)
    (hbad : askB l.length fr n ≠ 0 → K 0 (askB l.length fr n) h)
    (hk : 0 ≤ fr → 0 ≤ n → n ≤ 8 * (l.length : Int) - fr → ∀ h', Grw h h' → K ((cntF (bitsF l fr) n.toNat : Nat) : Int) 0 h') : Fn36 b fr n h K Kp := by
  refine Fn36.of ?_
  unfold S36
  have hlen := hb.2.2
  refine rlist_c hb hf hn (fun hz => If_t (by simpa using hz) (hbad hz)) fun i1 i2 i3 s bl h' g hbl o => If_f rfl ?_
  have hk := hk i1 i2 i3 h' g
  obtain ⟨N, rfl⟩ := Int.eq_ofNat_of_zero_le i2
  rw [Int.toNat_natCast] at hk o
  have hsn := own_n o
  refine L36_1.rule (fun y x h'' => h'' = h' ∧ ∃ i : Nat, x = (i : Int) ∧ i ≤ N ∧ y = ((cntF (bitsF l fr) i : Nat) : Int)) (fun _ x _ => N - x.toNat) ⟨rfl, 0, rfl, Nat.zero_le _, rfl⟩ ?_
  rintro y x h'' ⟨rfl, i, rfl, hi, rfl⟩ N1 hN
  have hc := cntF_le (bitsF l fr) i
  unfold T36_1
  refine If_i (fun h1 => ?_) fun h1 => ?_
  · simp only [decide_eq_true_eq] at h1
    refine o.sv.ix (by omega) (by omega) (listGet (by omega)) fun a ha => Ld_i ha ?_
    refine If_i (fun h2 => ?_) fun h2 => ?_
    · refine Wr_i64 (by omega) (by omega) (Wr_i64 (by omega) (by omega) ?_)
      exact hN _ _ _ ⟨rfl, i + 1, by simp, by omega, by simp [cntF, h2]⟩ (by omega)
    · refine Wr_i64 (by omega) (by omega) ?_
      exact hN _ _ _ ⟨rfl, i + 1, by simp, by omega, by simp [cntF, h2]⟩ (by omega)
  · simp only [decide_eq_false_iff_not] at h1
    have : i = N := by omega
    subst this; exact hk
/-- where the k-th stands (0 and 'beyond', if there is none) -/
def placeF (f : Nat → Bool) (n i k : Nat) : Option Nat := if i < n then (if f i = true then (if k = 0 then some i else placeF f n (i + 1) (k - 1)) else placeF f n (i + 1) k) else none
termination_by n - i
theorem rplace_c {b : Sl} {fr n k : Int} {h : Hp} {K : Int → Int → Hp → Prop} {Kp : List PanicEntry → Hp → Prop} {l : List Nat} (hb : Bs h b l) (hf : I64 fr) (hn : I64 n) (hkk : I64 k)
    (hneg : k < 0 → K 0 1 h) (hbad : 0 ≤ k → askB l.length fr n ≠ 0 → K 0 (askB l.length fr n) h)
    (hk : 0 ≤ k → 0 ≤ fr → 0 ≤ n → n ≤ 8 * (l.length : Int) - fr → ∀ h', Grw h h' → K (match placeF (bitsF l fr) n.toNat 0 k.toNat with | some i => (i : Int) | none => 0) (match placeF (bitsF l fr) n.toNat 0 k.toNat with | some _ => 0 | none => 2) h') : Fn42 b fr n k h K Kp := by
  refine Fn42.of ?_
  unfold S42
  have hlen := hb.2.2
  have bad1 : fr < 0 ∨ n < 0 → K 0 1 h := by
    intro hh
    by_cases h0 : k < 0
    · exact hneg h0
    · have e : askB l.length fr n = 1 := by unfold askB; rw [if_pos hh]
      rw [e] at hbad; exact hbad (by omega) (by decide)
  refine If_i (fun h1 => bad1 (.inl (by simpa using h1))) fun h1 => If_i (fun h2 => bad1 (.inr (by simpa using h2))) fun h2 => If_i (fun h3 => hneg (by simpa using h3)) fun h3 => ?_
  simp only [decide_eq_false_iff_not] at h1 h2 h3
  refine J42_1.of ?_
  unfold JT42_1
  refine rlist_c hb hf hn (fun hz => If_t (by simpa using hz) (hbad (by omega) hz)) fun i1 i2 i3 s bl h' g hbl o => If_f rfl ?_
  have hk := hk (by omega) i1 i2 i3 h' g
  obtain ⟨N, rfl⟩ := Int.eq_ofNat_of_zero_le i2
  obtain ⟨Q, rfl⟩ := Int.eq_ofNat_of_zero_le (by omega : 0 ≤ k)
  rw [Int.toNat_natCast] at hk o
  rw [Int.toNat_natCast] at hk
  have hsn := own_n o
  refine L42_2.rule (fun y x h'' => h'' = h' ∧ ∃ i q : Nat, x = (i : Int) ∧ y = (q : Int) ∧ i ≤ N ∧ q ≤ Q ∧ placeF (bitsF l fr) N 0 Q = placeF (bitsF l fr) N i q) (fun _ x _ => N - x.toNat) ⟨rfl, 0, Q, rfl, rfl, Nat.zero_le _, Nat.le_refl _, rfl⟩ ?_
  rintro y x h'' ⟨rfl, i, q, rfl, rfl, hi, hq, hx⟩ N1 hN
  unfold I64 at hkk
  rw [placeF.eq_def _ _ i] at hx
  unfold T42_2
  refine If_i (fun h4 => ?_) fun h4 => ?_
  · simp only [decide_eq_true_eq] at h4
    rw [if_pos (by omega)] at hx
    refine o.sv.ix (by omega) (by omega) (listGet (by omega)) fun a ha => Ld_i ha ?_
    refine If_i (fun h5 => ?_) fun h5 => ?_
    · simp only [Bool.not_eq_true'] at h5
      rw [if_neg (by simp [h5])] at hx
      refine Wr_i64 (by omega) (by omega) ?_
      exact hN _ _ _ ⟨rfl, i + 1, q, by simp, rfl, by omega, hq, hx⟩ (by omega)
    · simp only [Bool.not_eq_false'] at h5
      rw [if_pos h5] at hx
      refine If_i (fun h6 => ?_) fun h6 => ?_
      · simp only [beq_iff_eq] at h6
        rw [if_pos (by omega)] at hx; rw [hx] at hk; exact hk
      · simp only [beq_eq_false_iff_ne, ne_eq] at h6
        rw [if_neg (by omega)] at hx
        refine Wr_i64 (by omega) (by omega) (Wr_i64 (by omega) (by omega) ?_)
        exact hN _ _ _ ⟨rfl, i + 1, q - 1, by simp, by omega, by omega, by omega, hx⟩ (by omega)
  · simp only [decide_eq_false_iff_not] at h4
    rw [if_neg (by omega)] at hx; rw [hx] at hk; exact hk
end Go.Proofs.YtajgmklgfdgnlaaDoor
