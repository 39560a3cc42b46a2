/- Contracts: Cut, Runs, both sides. -/
import Derived.Test.YtajgmklgfdgnlaaDoorH
namespace Go.Proofs.YtajgmklgfdgnlaaDoor
open Go Go.Sh
theorem askB_ok {len : Nat} {fr n : Int} (h1 : askB len fr n = 0) : 0 ≤ fr ∧ 0 ≤ n ∧ n ≤ 8 * (len : Int) - fr := by
  unfold askB at h1
  split at h1
  · omega
  · split at h1
    · rename_i h2; unfold thereB at h2; simp only [decide_eq_true_eq] at h2; omega
    · omega
theorem askB_zero {len : Nat} {fr n : Int} (h1 : 0 ≤ fr) (h2 : 0 ≤ n) (h3 : n ≤ 8 * (len : Int) - fr) : askB len fr n = 0 := by
  unfold askB thereB
  rw [if_neg (by omega), decide_eq_true (by omega)]; rfl
theorem bo_len (f : Nat → Bool) (n : Nat) : (listF f n).length = n := by simp [listF]
theorem cut_c {b : Sl} {fr n : Int} {h : Hp} {K : Sl → Int → Hp → Prop} {Kp : List PanicEntry → Hp → Prop} {l : List Nat} (hb : Bs h b l) (hn : I64 n)
    (hbad : askB l.length fr n ≠ 0 → K ⟨none, 0, 0⟩ (askB l.length fr n) h)
    (hk : 0 ≤ fr → 0 ≤ n → n ≤ 8 * (l.length : Int) - fr → ∀ s bl h', Grw h h' → h.size ≤ bl → Own h' s bl (by8 (packN (listF (bitsF l fr) n.toNat))) 5 → K s 0 h') : Fn20 b fr n h K Kp := by
  refine Fn20.of ?_
  unfold S20
  have hlen := hb.2.2
  refine list_c hb hn (fun hz => ?_) fun h1 h2 h3 s bl h' g hbl o => ?_
  · exact If_t (by simpa using hz) (hbad hz)
  · refine If_f rfl ?_
    refine make_c o.sv (by rw [bo_len]; omega) fun s2 b2 h2' g2 hb2 o2 => ?_
    exact hk h1 h2 h3 s2 b2 h2' (g.trans g2) (Nat.le_trans g.1 hb2) o2
theorem rcut_c {b : Sl} {fr n : Int} {h : Hp} {K : Sl → Int → Hp → Prop} {Kp : List PanicEntry → Hp → Prop} {l : List Nat} (hb : Bs h b l) (hf : I64 fr) (hn : I64 n)
    (hbad : askB l.length fr n ≠ 0 → K ⟨none, 0, 0⟩ (askB l.length fr n) h)
    (hk : 0 ≤ fr → 0 ≤ n → n ≤ 8 * (l.length : Int) - fr → ∀ s bl h', Grw h h' → h.size ≤ bl → Own h' s bl (by8 (packN (listF (bitsF l fr) n.toNat))) 5 → K s 0 h') : Fn38 b fr n h K Kp := by
  refine Fn38.of ?_
  unfold S38
  have hlen := hb.2.2
  refine rlist_c hb hf hn (fun hz => ?_) fun h1 h2 h3 s bl h' g hbl o => ?_
  · exact If_t (by simpa using hz) (hbad hz)
  · refine If_f rfl ?_
    refine rmake_c o.sv (by rw [bo_len]; omega) fun s2 b2 h2' g2 hb2 o2 => ?_
    exact hk h1 h2 h3 s2 b2 h2' (g.trans g2) (Nat.le_trans g.1 hb2) o2
/-- the iterator that gives nothing -/
theorem none_iter {Pre : Hp → Prop} : Iter Tryd.prog (.func (.func 27) #[] #[]) ([] : List (Nat × Nat)) encR Pre := by
  intro lb J Jx h h0 hPre hG hGx Y
  have hok : okFn Tryd.prog 27 = true := by kernel_rfl
  unfold CallF
  simp only [hok, cond_true, List.nil_append, List.append_nil]
  refine CallH.mono (Fn27.of (K := fun h2 => J [] h2 ∨ ∃ pre suf, ([] : List (Nat × Nat)) = pre ++ suf ∧ Jx pre h2) (Kp := NoP) ?_) (fun _ _ hh => hh.2) (fun _ _ hh => hh)
  unfold S27
  exact .inl h0
/-- bits.Runs: its iterator, which leans on memory of its own -/
theorem bruns_c {b : Sl} {fr n : Int} {h : Hp} {K : Value → Hp → Prop} {Kp : List PanicEntry → Hp → Prop} {l : List Nat} (hb : Bs h b l) (hn : I64 n)
    (hbad : askB l.length fr n ≠ 0 → K (.func (.func 27) #[] #[]) h)
    (hk : 0 ≤ fr → 0 ≤ n → n ≤ 8 * (l.length : Int) - fr → ∀ s bl b5 b3 b4 h', Grw h h' → h.size ≤ bl → Own h' s bl (by8 (packN (listF (bitsF l fr) n.toNat))) 5 → h.size ≤ b5 → h.size ≤ b3 → h.size ≤ b4 → RunBlk b5 b3 b4 s 0 n h' → K (runG b5 b3 b4) h') : Fn8 b fr n h K Kp := by
  refine Fn8.of ?_
  unfold S8
  refine cut_c hb hn (fun hz => ?_) fun h1 h2 h3 s bl h' g hbl o => ?_
  · exact If_t (by simpa using hz) (hbad hz)
  · refine If_f rfl ?_
    refine runs_c fun b5 b3 b4 h'' g2 q5 q3 q4 rb => ?_
    have := g.1
    exact hk h1 h2 h3 s bl b5 b3 b4 h'' (g.trans g2) hbl (o.grw g2) (by omega) (by omega) (by omega) rb
theorem bruns_iter {l : List Nat} {fr n : Int} {s : Sl} {b5 b3 b4 : Nat} (h0 : 0 ≤ n) :
    Iter Tryd.prog (runG b5 b3 b4) (runsAt (bitsF l fr) n.toNat 0) encR (RunPre ⟨b5, 0, none⟩ ⟨b3, 0, none⟩ ⟨b4, 0, none⟩ s 0 n (packN (listF (bitsF l fr) n.toNat))) := by
  have h2 : (packN (listF (bitsF l fr) n.toNat)).length = needN n.toNat := by rw [packN_len, bo_len]
  have := runs_iter (a5 := ⟨b5, 0, none⟩) (a3 := ⟨b3, 0, none⟩) (a4 := ⟨b4, 0, none⟩) (b := s) (fr := 0) (n := n) (l := packN (listF (bitsF l fr) n.toNat)) (Int.le_refl _) (by rw [h2]; unfold needN; omega) h0
  rw [runsAt_congr (fun i hi => bitsF_pack (f := bitsF l fr) hi)] at this
  exact this
/-! ### the document's Runs -/
def flat (rs : List (Nat × Nat)) : List Value := rs.flatMap encR
theorem flat_len (rs : List (Nat × Nat)) : (flat rs).length = 2 * rs.length := by
  induction rs with
  | nil => rfl
  | cons r rs ih => simp only [flat, List.flatMap_cons, List.length_append, List.length_cons] at *; rw [ih]; simp [encR]; omega
theorem flat_append (a b : List (Nat × Nat)) : flat (a ++ b) = flat a ++ flat b := by simp [flat]
theorem flat_get0 {rs : List (Nat × Nat)} {k : Nat} {r : Nat × Nat} (h : rs[k]? = some r) : (flat rs)[2 * k]? = some (.int .i64 (r.1 : Int)) := by
  induction rs generalizing k with
  | nil => simp at h
  | cons x rs ih =>
    cases k with
    | zero => simp only [List.getElem?_cons_zero, Option.some.injEq] at h; subst h; rfl
    | succ k => rw [List.getElem?_cons_succ] at h; exact ih h
theorem flat_get1 {rs : List (Nat × Nat)} {k : Nat} {r : Nat × Nat} (h : rs[k]? = some r) : (flat rs)[2 * k + 1]? = some (.int .i64 (r.2 : Int)) := by
  induction rs generalizing k with
  | nil => simp at h
  | cons x rs ih =>
    cases k with
    | zero => simp only [List.getElem?_cons_zero, Option.some.injEq] at h; subst h; rfl
    | succ k => rw [List.getElem?_cons_succ] at h; exact ih h
theorem flat_bump (rs : List (Nat × Nat)) (r : Nat × Nat) (k : Nat) (hk : rs.length = k + 1) (h : rs[k]? = some r) : (flat rs).set (2 * k + 1) (.int .i64 ((r.2 + 1 : Nat) : Int)) = flat (bump rs) := by
  induction rs generalizing k with
  | nil => simp at h
  | cons x rs ih =>
    cases rs with
    | nil =>
      have : k = 0 := by simpa using hk.symm
      subst this
      simp only [List.getElem?_cons_zero, Option.some.injEq] at h; subst h; rfl
    | cons y t =>
      cases k with
      | zero => simp at hk
      | succ k =>
        rw [List.getElem?_cons_succ] at h
        have := ih k (by simpa using hk) h
        show (encR x ++ flat (y :: t)).set (2 * (k + 1) + 1) _ = encR x ++ flat (bump (y :: t))
        rw [← this, List.set_append_right _ _ (by simp only [encR, List.length_cons, List.length_nil]; omega)]
        congr 1
theorem bump_len (rs : List (Nat × Nat)) : (bump rs).length = rs.length := by
  induction rs with
  | nil => rfl
  | cons x rs ih => cases rs with
    | nil => rfl
    | cons y t => simp only [bump, List.length_cons] at *; omega
theorem runsUp_len (f : Nat → Bool) (i : Nat) : (runsUp f i).length ≤ i := by
  induction i with
  | zero => simp [runsUp]
  | succ i ih =>
    unfold runsUp
    split
    · split
      · rw [bump_len]; omega
      · simp only [List.length_append, List.length_cons, List.length_nil]; omega
    · omega
theorem runsUp_last {f : Nat → Bool} {i : Nat} (h0 : 0 < i) (hf : f (i - 1) = true) : ∃ k r, (runsUp f i).length = k + 1 ∧ (runsUp f i)[k]? = some r ∧ r.2 ≤ i := by
  obtain ⟨i, rfl⟩ : ∃ j, i = j + 1 := ⟨i - 1, by omega⟩
  have hne : (runsUp f (i + 1)).length ≠ 0 := by
    unfold runsUp
    rw [Nat.add_sub_cancel] at hf
    rw [if_pos hf]
    split
    · rename_i h
      rw [bump_len, runsUp_eq]
      have := (runsAt_b (N := i) hf h.2 0 h.1).1
      intro e; exact this (List.eq_nil_of_length_eq_zero e)
    · simp
  obtain ⟨k, hk⟩ : ∃ k, (runsUp f (i + 1)).length = k + 1 := ⟨_, (Nat.succ_pred hne).symm⟩
  have hlt : k < (runsUp f (i + 1)).length := by omega
  refine ⟨k, (runsUp f (i + 1))[k], hk, List.getElem?_eq_getElem hlt, ?_⟩
  have hm : (runsUp f (i + 1))[k] ∈ runsAt f (i + 1) 0 := by rw [← runsUp_eq]; exact List.getElem_mem hlt
  have := runs_bound f (i + 1) 0 _ hm
  omega
theorem rruns_c {b : Sl} {fr n : Int} {h : Hp} {K : Sl → Hp → Prop} {Kp : List PanicEntry → Hp → Prop} {l : List Nat} (hb : Bs h b l) (hf : I64 fr) (hn : I64 n)
    (hbad : askB l.length fr n ≠ 0 → K ⟨none, 0, 0⟩ h)
    (hk : 0 ≤ fr → 0 ≤ n → n ≤ 8 * (l.length : Int) - fr → ∀ s bl h', Grw h h' → h.size ≤ bl → OwnS 2 h' s bl (flat (runsAt (bitsF l fr) n.toNat 0)) 31 → K s h') : Fn7 b fr n h K Kp := by
  refine Fn7.of ?_
  unfold S7
  have hlen := hb.2.2
  refine rlist_c hb hf hn (fun hz => ?_) fun h1 h2 h3 s bl h' g hbl o => ?_
  · exact If_t (by simpa using hz) (hbad hz)
  · refine If_f rfl ?_
    obtain ⟨N, rfl⟩ := Int.eq_ofNat_of_zero_le h2
    rw [Int.toNat_natCast] at o
    have hsn : s.n = N := by have := o.2.1; simpa [bo, listF] using this
    have hget : ∀ i, i < N → (bo (listF (bitsF l fr) N))[i]? = some (.bool (bitsF l fr i)) := by intro i hi; rw [bo_get (by rw [bo_len]; exact hi)]; simp [listF]
    refine New_i fun b0 h2' eb0 g2 k2 _ => ?_
    have gbl : bl < h'.size := by obtain ⟨_, _, cs, hcs, _⟩ := o; exact hcs.lt
    refine L7_1.rule (fun t y h4 => ∃ (i : Nat) (bt : Nat), y = (i : Int) ∧ i ≤ N ∧ Grw h' h4 ∧ h'.size ≤ bt ∧ OwnS 2 h4 t bt (flat (runsUp (bitsF l fr) i)) 31) (fun _ y _ => N - y.toNat)
      ⟨0, b0, rfl, Nat.zero_le _, g2, by omega, rfl, rfl, #[], k2, Nat.le_refl _, rfl, fun i hi => absurd hi (by simp)⟩ ?_
    rintro t y h4 ⟨i, bt, rfl, hi, g4, hbt, ot⟩ N1 hN
    have htn : t.n = (runsUp (bitsF l fr) i).length := by have := ot.2.1; rw [flat_len] at this; omega
    have hrl := runsUp_len (bitsF l fr) i
    have osv := (o.grw g4).sv
    unfold T7_1
    refine If_i (fun h5 => ?_) fun h5 => ?_
    · simp only [decide_eq_true_eq] at h5
      refine osv.ix (by omega) (by omega) (hget i (by omega)) fun a ha => Ld_i ha ?_
      refine If_i (fun h6 => ?_) fun h6 => ?_
      · have h6' : bitsF l fr i = false := by simpa using h6
        refine Wr_i64 (by omega) (by omega) ?_
        refine hN _ _ _ ⟨i + 1, bt, by simp, by omega, g4, hbt, ?_⟩ (by omega)
        unfold runsUp; rw [if_neg (by simp [h6'])]; exact ot
      · have h6' : bitsF l fr i = true := by simpa using h6
        have app : ¬ (0 < i ∧ bitsF l fr (i - 1) = true) → J7_2 s t (i : Int) false N1 K Kp h4 := by
          intro hc
          refine J7_2.of ?_
          unfold JT7_2
          refine If_f rfl ?_
          refine New_i fun b9 h9 eb9 g9 k9 _ => ?_
          refine Ap_own (g4.trans g9) hbt (ot.grw g9) rfl rfl (by simp [one]) (rd_blk k9 rfl) (by omega) (by omega) fun s' b' h10 g10 hb10 o10 _ _ => ?_
          refine Wr_i64 (by omega) (by omega) ?_
          refine hN _ _ _ ⟨i + 1, b', by simp, by omega, g10, hb10, ?_⟩ (by omega)
          unfold runsUp; rw [if_pos h6', if_neg hc, flat_append]; exact o10
        refine If_i (fun h7 => ?_) fun h7 => ?_
        · simp only [decide_eq_true_eq] at h7
          refine Wr_i64 (by omega) (by omega) ?_
          have e7 : ((i : Int) - 1).toNat = i - 1 := by omega
          refine osv.ix (by omega) (by omega) (by rw [e7]; exact hget (i - 1) (by omega)) fun a ha => Ld_i ha ?_
          cases hp : bitsF l fr (i - 1)
          · exact app (fun x => by rw [hp] at x; exact absurd x.2 (by simp))
          · obtain ⟨k, r, hk1, hk2, hk3⟩ := runsUp_last (by omega) hp
            refine J7_2.of ?_
            unfold JT7_2
            refine If_t rfl ?_
            refine Wr_i64 (by omega) (by omega) ?_
            have e8 : ((t.n : Int) - 1).toNat * 2 = 2 * k := by omega
            refine ot.ix (by omega) (by omega) ?_
            rw [e8, add_blk]
            refine ot.ld (by omega) (flat_get1 hk2) ?_
            refine Wr_i64 (by omega) (by omega) ?_
            refine ot.ix (by omega) (by omega) ?_
            rw [e8, add_blk]
            refine ot.st (by omega) rfl fun h9 o9 ot9 => ?_
            refine Wr_i64 (by omega) (by omega) ?_
            refine hN _ _ _ ⟨i + 1, bt, by simp, by omega, o9.grw g4 hbt, hbt, ?_⟩ (by omega)
            have e9 : ((r.2 : Nat) : Int) + 1 = ((r.2 + 1 : Nat) : Int) := by omega
            rw [e9, flat_bump _ r k hk1 hk2] at ot9
            unfold runsUp; rw [if_pos h6', if_pos ⟨by omega, hp⟩]; exact ot9
        · simp only [decide_eq_false_iff_not] at h7
          exact app (fun x => by omega)
    · simp only [decide_eq_false_iff_not] at h5
      have : i = N := by omega
      subst this
      rw [runsUp_eq] at ot
      exact hk h1 h2 h3 t bt h4 (g.trans g4) (Nat.le_trans g.1 hbt) (by rw [Int.toNat_natCast]; exact ot)
end Go.Proofs.YtajgmklgfdgnlaaDoor
