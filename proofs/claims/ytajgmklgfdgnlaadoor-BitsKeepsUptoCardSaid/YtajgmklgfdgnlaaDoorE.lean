/- Contracts: the document's There, bit and List; runs. -/
import Derived.Test.YtajgmklgfdgnlaaDoorD
namespace Go.Proofs.YtajgmklgfdgnlaaDoor
open Go Go.Sh
theorem rthere_c {b : Sl} {fr n : Int} {h : Hp} {K : Int → Hp → Prop} {Kp : List PanicEntry → Hp → Prop} (hb : b.n < 2 ^ 36) (hn : I64 n) (hk : K (askB b.n fr n) h) : Fn49 b fr n h K Kp := by
  refine Fn49.of ?_
  unfold S49
  unfold askB at hk
  unfold I64 at hn
  refine If_i (fun h1 => ?_) fun h1 => ?_
  · simp only [decide_eq_true_eq] at h1
    rw [if_pos (.inl h1)] at hk; exact hk
  · simp only [decide_eq_false_iff_not] at h1
    refine If_i (fun h2 => ?_) fun h2 => ?_
    · simp only [decide_eq_true_eq] at h2
      rw [if_pos (.inr h2)] at hk; exact hk
    · simp only [decide_eq_false_iff_not] at h2
      rw [if_neg (by omega)] at hk
      refine J49_1.of ?_
      unfold JT49_1
      refine Wr_i64 (by omega) (by omega) ?_
      refine If_i (fun h3 => ?_) fun h3 => ?_
      · simp only [decide_eq_true_eq] at h3
        have : thereB b.n fr n = false := by unfold thereB; rw [decide_eq_false_iff_not]; omega
        rw [this] at hk; exact hk
      · simp only [decide_eq_false_iff_not] at h3
        refine Wr_i64 (by omega) (by omega) (Wr_i64 (by omega) (by omega) ?_)
        refine If_i (fun h4 => ?_) fun h4 => ?_
        · simp only [decide_eq_true_eq] at h4
          have : thereB b.n fr n = false := by unfold thereB; rw [decide_eq_false_iff_not]; omega
          rw [this] at hk; exact hk
        · simp only [decide_eq_false_iff_not] at h4
          have : thereB b.n fr n = true := by unfold thereB; rw [decide_eq_true_eq]; omega
          rw [this] at hk; exact hk
theorem rbit_c {b : Sl} {i : Int} {h : Hp} {K : Bool → Hp → Prop} {Kp : List PanicEntry → Hp → Prop} {l : List Nat} (hb : Bs h b l) (h0 : 0 ≤ i) (h1 : i < 8 * (l.length : Int)) (hk : K (bitN l i.toNat) h) : Fn50 b i h K Kp := by
  refine Fn50.of ?_
  unfold S50
  have hn := hb.n
  have hlen := hb.2.2
  obtain ⟨j, rfl⟩ := Int.eq_ofNat_of_zero_le h0
  have e1 : Int.tdiv (j : Int) 8 = ((j / 8 : Nat) : Int) := rfl
  have e2 : Int.tmod (j : Int) 8 = ((j % 8 : Nat) : Int) := rfl
  have hj : j / 8 < l.length := by omega
  refine If_f (by simp) ?_
  refine Dv_i (by decide) (Wr_i64 (by rw [e1]; omega) (by rw [e1]; omega) ?_)
  rw [e1]
  refine If_f (by rw [decide_eq_false_iff_not]; omega) ?_
  refine J50_1.of ?_
  unfold JT50_1
  refine Dv_i (by decide) (Wr_i64 (by rw [e1]; omega) (by rw [e1]; omega) ?_)
  rw [e1]
  have hv : (by8 l)[((j / 8 : Nat) : Int).toNat]? = some (.int .u8 ((l[j / 8] : Nat) : Int)) := by rw [Int.toNat_natCast]; simp [by8, List.getElem?_eq_getElem hj]
  have hby : l[j / 8] < 256 := hb.2.1 _ (List.getElem_mem hj)
  refine hb.1.ix (by omega) (by omega) hv fun a ha => Ld_i ha ?_
  refine Wr_i64 (by omega) (by omega) ?_
  refine L50_2.rule (fun x y h' => h' = h ∧ ∃ k : Nat, y = (k : Int) ∧ k ≤ j % 8 ∧ x = ((l[j / 8] / 2 ^ k : Nat) : Int)) (fun _ y _ => 8 - y.toNat) ⟨rfl, 0, rfl, Nat.zero_le _, by simp⟩ ?_
  rintro x y h' ⟨rfl, k, rfl, hk1, rfl⟩ N1 hN
  have hq : l[j / 8] / 2 ^ k ≤ l[j / 8] := Nat.div_le_self _ _
  generalize hqq : l[j / 8] / 2 ^ k = q at *
  unfold T50_2
  refine Dv_i (by decide) ?_
  unfold Lt
  rw [e2]
  have e4 : Int.tdiv (q : Int) 2 = ((q / 2 : Nat) : Int) := rfl
  have e5 : Int.tmod (q : Int) 2 = ((q % 2 : Nat) : Int) := rfl
  refine If_i (fun h2 => ?_) fun h2 => ?_
  · simp only [decide_eq_true_eq] at h2
    refine Dv_i (by decide) (Wr_i64 (by rw [e4]; omega) (by rw [e4]; omega) (Wr_i64 (by omega) (by omega) ?_))
    rw [e4]
    refine hN _ _ _ ⟨rfl, k + 1, by simp, by omega, ?_⟩ (by omega)
    rw [← hqq, Nat.div_div_eq_div_mul, Nat.pow_succ]
  · simp only [decide_eq_false_iff_not] at h2
    refine Dv_i (by decide) ?_
    rw [e5]
    have hk2 : k = j % 8 := by omega
    have : (((q % 2 : Nat) : Int) == 1) = bitN l j := by
      unfold bitN
      rw [Nat.testBit_eq_decide_div_mod_eq]
      have : l.getD (j / 8) 0 = l[j / 8] := by simp [hj]
      rw [this, ← hk2, hqq, Bool.eq_iff_iff]
      simp only [beq_iff_eq, decide_eq_true_eq]
      omega
    show K (((q % 2 : Nat) : Int) == 1) h'
    rw [this]
    simpa using hk
/-- the answer of a call that asks for n bits from a place on: the error, else the list -/
theorem rlist_c {b : Sl} {fr n : Int} {h : Hp} {K : Sl → Int → Hp → Prop} {Kp : List PanicEntry → Hp → Prop} {l : List Nat} (hb : Bs h b l) (hf : I64 fr) (hn : I64 n)
    (hbad : askB l.length fr n ≠ 0 → K ⟨none, 0, 0⟩ (askB l.length fr n) h)
    (hk : 0 ≤ fr → 0 ≤ n → n ≤ 8 * (l.length : Int) - fr → ∀ s bl h', Grw h h' → h.size ≤ bl → Own h' s bl (bo (listF (bitsF l fr) n.toNat)) 4 → K s 0 h') : Fn26 b fr n h K Kp := by
  refine Fn26.of ?_
  unfold S26
  have hbn := hb.n
  have hlen := hb.2.2
  refine rthere_c (by omega) hn ?_
  rw [hbn]
  refine If_i (fun h1 => ?_) fun h1 => ?_
  · simp only [bne_iff_ne, ne_eq] at h1
    exact hbad h1
  · simp only [bne_eq_false_iff_eq] at h1
    have hin : 0 ≤ fr ∧ 0 ≤ n ∧ n ≤ 8 * (l.length : Int) - fr := by
      unfold askB at h1
      split at h1
      · omega
      · split at h1
        · rename_i h2; unfold thereB at h2; simp only [decide_eq_true_eq] at h2; omega
        · omega
    obtain ⟨i1, i2, i3⟩ := hin
    obtain ⟨F, rfl⟩ := Int.eq_ofNat_of_zero_le i1
    obtain ⟨N, rfl⟩ := Int.eq_ofNat_of_zero_le i2
    refine New_i fun b0 h2 eb0 g2 k2 _ => ?_
    refine L26_1.rule (fun s y h' => ∃ (i : Nat) (bl : Nat), y = (i : Int) ∧ i ≤ N ∧ Grw h h' ∧ h.size ≤ bl ∧ Own h' s bl (bo (listF (bitsF l (F : Int)) i)) 4) (fun _ y _ => N - y.toNat)
      ⟨0, b0, rfl, Nat.zero_le _, g2, by omega, rfl, rfl, #[], k2, Nat.le_refl _, rfl, fun i hi => absurd hi (Nat.not_lt_zero _)⟩ ?_
    rintro s y h' ⟨i, bl, rfl, hi, g, hbl, o⟩ N1 hN
    have hsn : s.n = i := by have := o.2.1; simpa [bo, listF] using this
    unfold T26_1
    refine If_i (fun h3 => ?_) fun h3 => ?_
    · simp only [decide_eq_true_eq] at h3
      refine Wr_i64 (by omega) (by omega) ?_
      refine rbit_c (hb.grw g) (by omega) (by omega) ?_
      have e1 : bitN l ((F : Int) + (i : Int)).toNat = bitsF l (F : Int) i := by unfold bitsF; congr 1
      rw [e1]
      refine New_i fun b4 h4 eb4 g4 k4 _ => ?_
      refine Ap_own (g.trans g4) hbl (o.grw g4).ownS rfl rfl (by simp [one]) (rd_blk k4 rfl) (by omega) (by omega) fun s' b' h5 g5 hb5 o5 hs5 _ => ?_
      refine Wr_i64 (by omega) (by omega) ?_
      refine hN _ _ _ ⟨i + 1, b', by simp, by omega, g5, hb5, ?_⟩ (by omega)
      have e2 : bo (listF (bitsF l (F : Int)) (i + 1)) = bo (listF (bitsF l (F : Int)) i) ++ #[Value.bool (bitsF l (F : Int) i)].toList := by simp [bo, listF, List.range_succ]
      rw [e2]; exact o5.own
    · simp only [decide_eq_false_iff_not] at h3
      have : i = N := by omega
      subst this
      exact hk i1 i2 i3 s bl h' g hbl (by simpa using o)
end Go.Proofs.YtajgmklgfdgnlaaDoor
