/- Contracts: runs, List, Cut. -/
import Derived.Test.YtajgmklgfdgnlaaDoorE
import Derived.Test.YtajgmklgfdgnlaaDoorS5
namespace Go.Proofs.YtajgmklgfdgnlaaDoor
open Go Go.Sh
/-- the three variables that an iterator keeps -/
def RunBlk (b5 b3 b4 : Nat) (b : Sl) (fr n : Int) (h : Hp) : Prop := Blk h b5 #[.int .i64 n] 3 ∧ Blk h b3 #[b.v] 22 ∧ Blk h b4 #[.int .i64 fr] 3
theorem RunBlk.grw {b5 b3 b4 : Nat} {b : Sl} {fr n : Int} {h h' : Hp} (r : RunBlk b5 b3 b4 b fr n h) (g : Grw h h') : RunBlk b5 b3 b4 b fr n h' := ⟨r.1.grw g, r.2.1.grw g, r.2.2.grw g⟩
theorem RunBlk.only {b5 b3 b4 c : Nat} {b : Sl} {fr n : Int} {h h' : Hp} (r : RunBlk b5 b3 b4 b fr n h) (o : Only c h h') (h5 : b5 ≠ c) (h3 : b3 ≠ c) (h4 : b4 ≠ c) : RunBlk b5 b3 b4 b fr n h' := ⟨o.blk r.1 h5, o.blk r.2.1 h3, o.blk r.2.2 h4⟩
theorem RunBlk.pre {b5 b3 b4 : Nat} {b : Sl} {fr n : Int} {h : Hp} {l : List Nat} (r : RunBlk b5 b3 b4 b fr n h) (hb : Bs h b l) : RunPre ⟨b5, 0, none⟩ ⟨b3, 0, none⟩ ⟨b4, 0, none⟩ b fr n l h :=
  ⟨by rw [cell_blk r.1]; rfl, by rw [cell_blk r.2.1]; rfl, by rw [cell_blk r.2.2]; rfl, hb⟩
abbrev runG (b5 b3 b4 : Nat) : Value := runF ⟨b5, 0, none⟩ ⟨b3, 0, none⟩ ⟨b4, 0, none⟩
theorem runs_c {b : Sl} {fr n : Int} {h : Hp} {K : Value → Hp → Prop} {Kp : List PanicEntry → Hp → Prop}
    (hk : ∀ b5 b3 b4 h', Grw h h' → h.size ≤ b5 → h.size ≤ b3 → h.size ≤ b4 → RunBlk b5 b3 b4 b fr n h' → K (runG b5 b3 b4) h') : Fn28 b fr n h K Kp := by
  refine Fn28.of ?_
  unfold S28
  refine New_i fun b3 h1 e3 g1 k3 s1 => New_i fun b4 h2 e4 g2 k4 s2 => New_i fun b5 h3 e5 g3 k5 s3 => ?_
  exact hk b5 b3 b4 h3 ((g1.trans g2).trans g3) (by omega) (by omega) (by omega) ⟨k5, (k3.grw g2).grw g3, k4.grw g3⟩
def inRuns (rs : List (Nat × Nat)) (k : Nat) : Bool := rs.any fun r => decide (r.1 ≤ k ∧ k < r.1 + r.2)
def fillF (rs : List (Nat × Nat)) (N : Nat) : List Bool := listF (inRuns rs) N
theorem endOf_in (f : Nat → Bool) (N i : Nat) : ∀ k, i ≤ k → k < endOf f N i → f k = true := by
  intro k hk h
  rw [endOf] at h
  split at h
  · rename_i hc
    by_cases e : k = i
    · subst e; exact hc.2
    · exact endOf_in f N (i + 1) k (by omega) h
  · omega
termination_by N - i
theorem runs_in (f : Nat → Bool) (N i : Nat) : ∀ k, i ≤ k → k < N → inRuns (runsAt f N i) k = f k := by
  intro k hk hN
  cases hf : f i
  · rw [runsAt_off (by omega) hf]
    by_cases e : k = i
    · subst e
      rw [hf, runs_below f N (k + 1) k (by omega)]
    · exact runs_in f N (i + 1) k (by omega) hN
  · rw [runsAt_on (by omega) hf]
    have hgt := endOf_gt (N := N) (by omega) hf
    unfold inRuns
    rw [List.any_cons]
    by_cases e : k < endOf f N i
    · rw [endOf_in f N i k hk e, decide_eq_true (by simp only; omega)]; rfl
    · rw [decide_eq_false (by simp only; omega), Bool.false_or]
      exact runs_in f N (endOf f N i) k (by omega) hN
termination_by N - i
where
  runs_below (f : Nat → Bool) (N i : Nat) : ∀ k, k < i → inRuns (runsAt f N i) k = false := by
    intro k hk
    by_cases hi : i < N
    · cases hf : f i
      · rw [runsAt_off hi hf]; exact runs_below f N (i + 1) k (by omega)
      · rw [runsAt_on hi hf]
        have hgt := endOf_gt hi hf
        unfold inRuns
        rw [List.any_cons, decide_eq_false (by simp only; omega), Bool.false_or]
        exact runs_below f N (endOf f N i) k (by omega)
    · rw [runsAt_end hi]; rfl
  termination_by N - i
theorem runs_bound (f : Nat → Bool) (N i : Nat) : ∀ r ∈ runsAt f N i, r.1 + r.2 ≤ N ∧ 0 < r.2 := by
  intro r hr
  by_cases hi : i < N
  · cases hf : f i
    · rw [runsAt_off hi hf] at hr; exact runs_bound f N (i + 1) r hr
    · rw [runsAt_on hi hf] at hr
      have hgt := endOf_gt hi hf
      have hle := endOf_le f N i (by omega)
      rcases List.mem_cons.1 hr with rfl | hr
      · simp only; omega
      · exact runs_bound f N (endOf f N i) r hr
  · rw [runsAt_end hi] at hr; cases hr
termination_by N - i
theorem fill_runs (f : Nat → Bool) (N : Nat) : fillF (runsAt f N 0) N = listF f N := by
  unfold fillF listF
  apply List.map_congr_left
  intro k hk
  exact runs_in f N 0 k (Nat.zero_le _) (List.mem_range.1 hk)
theorem listF_set {f g : Nat → Bool} {N k : Nat} (hk : k < N) (h : ∀ i, i < N → g i = if i = k then true else f i) : (bo (listF f N)).set k (.bool true) = bo (listF g N) := by
  apply List.ext_getElem?
  intro i
  rw [List.getElem?_set]
  simp only [bo, listF, List.length_map, List.length_range, List.getElem?_map]
  by_cases e : k = i
  · subst e
    rw [if_pos rfl, if_pos hk, List.getElem?_range hk]
    simp [h k hk]
  · rw [if_neg e]
    by_cases hi : i < N
    · rw [List.getElem?_range hi]
      simp [h i hi, Ne.symm e]
    · rw [List.getElem?_eq_none (by simp; omega)]; rfl
theorem list_c {b : Sl} {fr n : Int} {h : Hp} {K : Sl → Int → Hp → Prop} {Kp : List PanicEntry → Hp → Prop} {l : List Nat} (hb : Bs h b l) (hn : I64 n)
    (hbad : askB l.length fr n ≠ 0 → K ⟨none, 0, 0⟩ (askB l.length fr n) h)
    (hk : 0 ≤ fr → 0 ≤ n → n ≤ 8 * (l.length : Int) - fr → ∀ s bl h', Grw h h' → h.size ≤ bl → Own h' s bl (bo (listF (bitsF l fr) n.toNat)) 4 → K s 0 h') : Fn18 b fr n h K Kp := by
  refine Fn18.of ?_
  unfold S18
  have hbn := hb.n
  have hlen := hb.2.2
  refine asked_c (by omega) hn ?_
  rw [hbn]
  refine If_i (fun h1 => ?_) fun h1 => ?_
  · simp only [bne_iff_ne, ne_eq] at h1
    exact hbad h1
  · simp only [bne_eq_false_iff_eq] at h1
    have hin : 0 ≤ fr ∧ 0 ≤ n ∧ n ≤ 8 * (l.length : Int) - fr := by
      unfold askB at h1
      split at h1
      · omega
      · split at h1
        · rename_i h2; unfold thereB at h2; simp only [decide_eq_true_eq] at h2; omega
        · omega
    obtain ⟨i1, i2, i3⟩ := hin
    obtain ⟨N, rfl⟩ := Int.eq_ofNat_of_zero_le i2
    refine MkS_i (by omega) (by omega) (by omega) fun s h2 g2 o2 z2 => ?_
    refine New_i fun b9 h3 e9 g3 k9 z3 => ?_
    refine St_i k9 (by decide) rfl fun h4 o4 k4 => ?_
    have g4 : Grw h2 h4 := o4.grw g3 (by omega)
    have hs9 : b9 < h4.size := k4.lt
    refine runs_c fun b5 b3 b4 hR gR hb5 hb3 hb4 rb => ?_
    have gh : Grw h hR := (g2.trans g4).trans gR
    have hlt5 := rb.1.lt
    have hlt3 := rb.2.1.lt
    have hlt4 := rb.2.2.lt
    have hsz : h.size < hR.size := by have := gR.1; have := g4.1; omega
    have hlt9 : b9 < hR.size := by have := gR.1; omega
    have oR : Own hR s h.size (bo (listF (fun _ => false) N)) 4 := by
      have e : bo (listF (fun _ => false) N) = List.replicate N (Value.bool false) := by
        apply List.ext_getElem
        · simp [bo, listF]
        · intro i h1 h2; simp [bo, listF]
      rw [e]; simpa using (o2.grw g4).grw gR
    have ne9 : h.size ≠ b9 := by omega
    have h49 := o4.1
    refine R18_1.rule (α := Nat × Nat) (fun y => (y.1 : Int)) (fun y => (y.2 : Int)) (runs_iter (b := b) (l := l) i1 i3 i2)
      (fun pre h' => Grw h h' ∧ Own h' s h.size (bo (fillF pre N)) 4 ∧ Blk h' b9 #[s.v] 36 ∧ RunBlk b5 b3 b4 b fr (N : Int) h') ⟨gh, oR, k4.grw gR, rb⟩
      (fun pre h1 h2 g i => ⟨i.1.trans g, i.2.1.grw g, i.2.2.1.grw g, i.2.2.2.grw g⟩)
      (fun lb pre h1 h2 hlb t i => ⟨t.only.grw i.1 (by omega), i.2.1.only t.only (by omega), t.only.blk i.2.2.1 (by omega), i.2.2.2.only t.only (by omega) (by omega) (by omega)⟩)
      (fun pre h1 i => i.2.2.2.pre (hb.grw i.1)) ?_ ?_
    · rintro lb pre ⟨at', many⟩ suf h1 hxs hlb ⟨r, hr⟩ ⟨j1, j2, j3, j4⟩ Nx X hNx
      have hbd := runs_bound (bitsF l fr) ((N : Int).toNat) 0 (at', many) (by rw [hxs]; simp)
      simp only [Int.toNat_natCast] at hbd
      unfold RT18_1
      refine ⟨rfl, fun hB tB => ?_⟩
      simp only
      have oB := tB.only
      refine L18_2.rule (fun x h' => ∃ m : Nat, x = (m : Int) ∧ m ≤ many ∧ Only h.size hB h' ∧ Own h' s h.size (bo (listF (fun k => inRuns pre k || decide (at' ≤ k ∧ k < at' + m)) N)) 4) (fun x _ => many - x.toNat)
        ⟨0, rfl, Nat.zero_le _, Only.refl _ _, ?_⟩ ?_
      · have e : (fun k => inRuns pre k || decide (at' ≤ k ∧ k < at' + 0)) = inRuns pre := by
          funext k; rw [decide_eq_false (by omega), Bool.or_false]
        rw [e]; exact j2.only oB (by omega)
      · rintro x h' ⟨m, rfl, hm, oM, ow⟩ N1 hN
        have hsn : s.n = N := by have := ow.2.1; simpa [bo, listF] using this
        have k9' : Blk h' b9 #[s.v] 36 := oM.blk (oB.blk j3 (by omega)) (by omega)
        unfold T18_2
        refine If_i (fun h5 => ?_) fun h5 => ?_
        · simp only [decide_eq_true_eq] at h5
          refine Ld_blk (x := s) k9' rfl ?_
          refine Wr_i64 (by omega) (by omega) ?_
          refine ow.ixSt (by omega) (by omega) ?_
          refine ow.st (by omega) rfl fun h6 o6 ow6 => ?_
          refine Wr_i64 (by omega) (by omega) ?_
          refine hN _ _ ⟨m + 1, by simp, by omega, oM.trans o6, ?_⟩ (by omega)
          have e7 : ((at' : Int) + (m : Int)).toNat = at' + m := by omega
          rw [e7, listF_set (g := fun k => inRuns pre k || decide (at' ≤ k ∧ k < at' + (m + 1))) (by omega)] at ow6
          · exact ow6
          · intro i hi
            by_cases e : i = at' + m
            · rw [if_pos e, decide_eq_true (by omega), Bool.or_true]
            · rw [if_neg e]
              have : decide (at' ≤ i ∧ i < at' + (m + 1)) = decide (at' ≤ i ∧ i < at' + m) := by congr 1; simp only [eq_iff_iff]; omega
              rw [this]
        · simp only [decide_eq_false_iff_not] at h5
          have : m = many := by omega
          subst this
          refine hNx hB h' tB (oM.2 lb (by omega)) ⟨oM.grw (oB.grw j1 (by omega)) (Nat.le_refl _), ?_, k9', (j4.only oB (by omega) (by omega) (by omega)).only oM (by omega) (by omega) (by omega)⟩
          have e : fillF (pre ++ [(at', m)]) N = listF (fun k => inRuns pre k || decide (at' ≤ k ∧ k < at' + m)) N := by
            unfold fillF; congr 1; funext k; simp [inRuns]
          rw [e]; exact ow
    · rintro h6 ⟨j1, j2, j3, j4⟩
      unfold RD18_1
      refine Ld_blk (x := s) j3 rfl ?_
      rw [Int.toNat_natCast, fill_runs] at j2
      exact hk i1 i2 i3 s _ h6 j1 (Nat.le_refl _) (by rw [Int.toNat_natCast]; exact j2)
end Go.Proofs.YtajgmklgfdgnlaaDoor
