import Derived.Test.YtfomkkdijjfpiaaDoorBackJ2
import Derived.Test.YtfomkkdijjfpiaaDoorShDefer
import Derived.Test.YtfomkkdijjfpiaaDoorBackS4
import Derived.Test.YtfomkkdijjfpiaaDoorBackS10
set_option linter.unusedSimpArgs false
set_option linter.unusedVariables false
/- The package's reader: a field, the whole. -/
namespace Go.Proofs.YtfomkkdijjfpiaaDoor
open Go Go.Sh Go.WideShapes
theorem midD_le {l : List UInt8} {k a w i x c a' : Nat} (h : midD l k a = .ok ((w, i, x, c), a')) (ha : a ≤ l.length) : a' ≤ l.length ∧ c < 256 := by
  unfold midD at h
  split at h
  · cases hn : numD l 2 a with
    | error e => rw [hn] at h; cases h
    | ok y => obtain ⟨y, a1⟩ := y; rw [hn] at h; cases h; exact ⟨(numD_le hn ha).2.1, by omega⟩
  split at h
  · cases hn : numD l 2 a with
    | error e => rw [hn] at h; cases h
    | ok y => obtain ⟨y, a1⟩ := y; rw [hn] at h; cases h; exact ⟨(numD_le hn ha).2.1, by omega⟩
  split at h
  · cases hn : numD l 2 a with
    | error e => rw [hn] at h; cases h
    | ok y =>
      obtain ⟨y, a1⟩ := y
      rw [hn] at h
      simp only at h
      cases hn2 : numD l 1 a1 with
      | error e => rw [hn2] at h; cases h
      | ok z => obtain ⟨z, a2⟩ := z; rw [hn2] at h; cases h; exact ⟨(numD_le hn2 (numD_le hn ha).2.1).2.1, by omega⟩
  split at h
  · cases hn : numD l 1 a with
    | error e => rw [hn] at h; cases h
    | ok y => obtain ⟨y, a1⟩ := y; rw [hn] at h; cases h; exact ⟨(numD_le hn ha).2.1, by have := (numD_le hn ha).2.2; omega⟩
  split at h
  · cases h; exact ⟨ha, by omega⟩
  · cases h; exact ⟨ha, by omega⟩
theorem midM {h0 : Hp} {p : Nat} {s : Sl} {l : List UInt8} {h : Hp} {a nn k b4 b5 : Nat} {x : Int} {nm : ByteArray} {nul : Bool} {K : ByteArray → Bool → Int → Int → Int → Int → Sl → Hp → Prop} {Kp : List PanicEntry → Hp → Prop} (r : Rm h0 p s l h a nn) (k5 : B63 h b5 nm nul k 0 0 0 Sl.nil) (n5 : b5 ≠ p) (l5 : h0.size ≤ b5)
    (he : ∀ e, midD l k a = .error e → ∀ h', Tn (fun d => d = p ∨ d = b5) h h' → Kp (stopV e) h')
    (hk : ∀ w i x' c a', midD l k a = .ok ((w, i, x', c), a') → ∀ h', Tn (fun d => d = p ∨ d = b5) h h' → Rm h0 p s l h' a' nn → B63 h' b5 nm nul k w i x' Sl.nil → J58_3 (some ⟨p, 0, none⟩) x ⟨b4, 0, none⟩ ⟨b5, 0, none⟩ (c : Int) K Kp h') :
    If ((k : Int) == 14) (J58_5 (some ⟨p, 0, none⟩) x ⟨b4, 0, none⟩ ⟨b5, 0, none⟩ 0 k ((k : Int) == 14) K Kp h) (J58_5 (some ⟨p, 0, none⟩) x ⟨b4, 0, none⟩ ⟨b5, 0, none⟩ 0 k ((k : Int) == 16) K Kp h) := by
  have num : ∀ (w a : Nat) (h : Hp) (K : Int → Hp → Prop), Rm h0 p s l h a nn → w ≤ 4 → (∀ e, numD l w a = .error e → Kp (stopV e) h) → (∀ y a', numD l w a = .ok (y, a') → ∀ h', Tn (· = p) h h' → Rm h0 p s l h' a' nn → K y h') → Fn47 (some ⟨p, 0, none⟩) w h K Kp := fun w a h K r hw he hk => number_m r rfl hw he hk
  have f' : ∀ {h h' : Hp}, Tn (· = p) h h' → Tn (fun d => d = p ∨ d = b5) h h' := fun f => f.mono fun d hd _ => .inl hd
  -- how many children, at the end
  have last : ∀ (c0 c : Nat) (w i x' : Int) (h' : Hp), B63 h' b5 nm nul k w i x' Sl.nil → ((k = 15 ∨ k = 16 ∨ k = 19 ∨ k = 20) → c = 1) → (¬ (k = 15 ∨ k = 16 ∨ k = 19 ∨ k = 20) → c = c0) → J58_3 (some ⟨p, 0, none⟩) x ⟨b4, 0, none⟩ ⟨b5, 0, none⟩ (c : Int) K Kp h' → J58_2 (some ⟨p, 0, none⟩) x ⟨b4, 0, none⟩ ⟨b5, 0, none⟩ (c0 : Int) K Kp h' := by
    intro c0 c w i x' h' k5 q1 q2 hj
    refine J58_2.of ?_
    unfold JT58_2
    simp only [add_blk, Nat.reduceAdd]
    refine Ld_blk k5 rfl ?_
    by_cases hk : k = 15 ∨ k = 16 ∨ k = 19 ∨ k = 20
    · obtain rfl := q1 hk
      refine If_i (fun c => If_t c hj) fun c => If_i (fun c => If_t c hj) fun c2 => If_i (fun c => If_t c hj) fun c3 => If_t ?_ hj
      simp only [decide_eq_true_eq, decide_eq_false_iff_not, beq_iff_eq, beq_eq_false_iff_ne, ne_eq, reduceCtorEq, true_iff, false_iff, Bool.not_eq_true', Bool.not_eq_false', bne_iff_ne, bne_eq_false_iff_eq, Bool.not_true, Bool.not_false, Decidable.not_not] at *; omega
    · obtain rfl := q2 hk
      refine If_i (fun c => ?_) fun c => If_i (fun c => ?_) fun c2 => If_i (fun c => ?_) fun c3 => If_i (fun c => ?_) fun c4 => ?_
      all_goals first | exact hj | (simp only [decide_eq_true_eq, decide_eq_false_iff_not, beq_iff_eq, beq_eq_false_iff_ne, ne_eq, reduceCtorEq, true_iff, false_iff, Bool.not_eq_true', Bool.not_eq_false', bne_iff_ne, bne_eq_false_iff_eq, Bool.not_true, Bool.not_false, Decidable.not_not] at *; omega)
  have main : ∀ b : Bool, (b = true ↔ k = 14 ∨ k = 16) → J58_5 (some ⟨p, 0, none⟩) x ⟨b4, 0, none⟩ ⟨b5, 0, none⟩ 0 k b K Kp h := by
    intro b hb
    refine J58_5.of ?_
    unfold JT58_5
    simp only [add_blk, Nat.reduceAdd]
    refine If_i (fun c => ?_) fun c => ?_
    · have hk2 := hb.1 c
      have e : ∀ r : Except Er (Nat × Nat), numD l 2 a = r → midD l k a = (match r with | .error e => .error e | .ok (w, a1) => .ok ((w, 0, 0, if k = 14 then 0 else 1), a1)) := by
        intro r hr
        unfold midD
        rw [hr]
        by_cases h14 : k = 14
        · rw [if_pos h14, if_pos h14] <;> cases r <;> rfl
        · rw [if_neg h14, if_neg h14, if_pos (by omega)] <;> cases r <;> rfl
      refine num 2 a h _ r (by omega) (fun er q => he er (e _ q) h (Tn.refl _ _)) fun w a1 q h1 f1 r1 => ?_
      refine St_i (f1.blk k5 n5) (by simp) rfl fun h2 o2 k5 => ?_
      refine last 0 (if k = 14 then 0 else 1) w 0 0 h2 (by simp at k5; exact k5) (fun q => by split <;> omega) (fun q => by split <;> omega) ?_
      exact hk _ _ _ _ _ (e _ q) h2 ((f' f1).trans' o2.fr fun d hd _ => .inr hd) (r1.fr o2.fr n5 l5) (by simp at k5; exact k5)
    · have hk2 : ¬ (k = 14 ∨ k = 16) := fun q => by rw [hb.2 q] at c; cases c
      refine If_i (fun c => ?_) fun c => ?_
      · simp only [decide_eq_true_eq, decide_eq_false_iff_not, beq_iff_eq, beq_eq_false_iff_ne, ne_eq, reduceCtorEq, true_iff, false_iff, Bool.not_eq_true', Bool.not_eq_false', bne_iff_ne, bne_eq_false_iff_eq, Bool.not_true, Bool.not_false, Decidable.not_not] at c
        have h19 : k = 19 := by omega
        have e : ∀ r : Except Er (Nat × Nat), numD l 2 a = r → midD l k a = (match r with | .error e => .error e | .ok (i, a1) => match numD l 1 a1 with | .error e => .error e | .ok (x, a2) => .ok ((0, i, x, 1), a2)) := by
          intro r hr
          unfold midD
          rw [hr, if_neg (by omega), if_neg (by omega), if_pos h19] <;> cases r <;> rfl
        refine num 2 a h _ r (by omega) (fun er q => he er (e _ q) h (Tn.refl _ _)) fun i a1 q h1 f1 r1 => ?_
        refine St_i (f1.blk k5 n5) (by simp) rfl fun h2 o2 k5 => ?_
        have f2 := (f' f1).trans' o2.fr (fun d hd _ => .inr hd)
        refine num 1 a1 h2 _ (r1.fr o2.fr n5 l5) (by omega) (fun er q2 => he er (by rw [e _ q]; simp only [q2]) h2 f2) fun x' a2 q2 h3 f3 r3 => ?_
        refine St_i (f3.blk k5 n5) (by simp) rfl fun h4 o4 k5 => ?_
        refine last 0 1 0 i x' h4 (by simp at k5; exact k5) (fun _ => rfl) (fun q => by omega) ?_
        exact hk 0 i x' 1 a2 (by rw [e _ q]; simp only [q2]) h4 ((f2.trans (f' f3)).trans' o4.fr fun d hd _ => .inr hd) (r3.fr o4.fr n5 l5) (by simp at k5; exact k5)
      · simp only [decide_eq_true_eq, decide_eq_false_iff_not, beq_iff_eq, beq_eq_false_iff_ne, ne_eq, reduceCtorEq, true_iff, false_iff, Bool.not_eq_true', Bool.not_eq_false', bne_iff_ne, bne_eq_false_iff_eq, Bool.not_true, Bool.not_false, Decidable.not_not] at c
        have two : k = 17 ∨ k = 18 → Fn47 (some ⟨p, 0, none⟩) 1 h (fun t64 h1 => J58_2 (some ⟨p, 0, none⟩) x ⟨b4, 0, none⟩ ⟨b5, 0, none⟩ t64 K Kp h1) Kp := by
          intro h17
          have e : ∀ r : Except Er (Nat × Nat), numD l 1 a = r → midD l k a = (match r with | .error e => .error e | .ok (c, a1) => .ok ((0, 0, 0, c), a1)) := by
            intro r hr
            unfold midD
            rw [hr, if_neg (by omega), if_neg (by omega), if_neg (by omega), if_pos h17] <;> cases r <;> rfl
          refine num 1 a h _ r (by omega) (fun er q => he er (e _ q) h (Tn.refl _ _)) fun c a1 q h1 f1 r1 => ?_
          exact last c c 0 0 0 h1 (f1.blk k5 n5) (fun q => by omega) (fun _ => rfl) (hk _ _ _ _ _ (e _ q) h1 (f' f1) r1 (f1.blk k5 n5))
        have rest : ¬ (k = 17 ∨ k = 18) → J58_2 (some ⟨p, 0, none⟩) x ⟨b4, 0, none⟩ ⟨b5, 0, none⟩ 0 K Kp h := by
          intro h17
          have e : midD l k a = .ok ((0, 0, 0, if k = 15 ∨ k = 20 then 1 else 0), a) := by
            unfold midD
            rw [if_neg (by omega), if_neg (by omega), if_neg (by omega), if_neg h17]
            split <;> rfl
          exact last 0 (if k = 15 ∨ k = 20 then 1 else 0) 0 0 0 h k5 (fun q => if_pos (by omega)) (fun q => if_neg (by omega)) (hk _ _ _ _ _ e h (Tn.refl _ _) r k5)
        refine If_i (fun c2 => If_t c2 (two ?_)) fun c2 => If_i (fun c3 => two ?_) fun c3 => rest ?_
        all_goals simp only [decide_eq_true_eq, decide_eq_false_iff_not, beq_iff_eq, beq_eq_false_iff_ne, ne_eq, reduceCtorEq, true_iff, false_iff, Bool.not_eq_true', Bool.not_eq_false', bne_iff_ne, bne_eq_false_iff_eq, Bool.not_true, Bool.not_false, Decidable.not_not] at *
        all_goals omega
  refine If_i (fun c => main _ ?_) fun c => main _ ?_
  all_goals simp only [decide_eq_true_eq, decide_eq_false_iff_not, beq_iff_eq, beq_eq_false_iff_ne, ne_eq, reduceCtorEq, true_iff, false_iff, Bool.not_eq_true', Bool.not_eq_false', bne_iff_ne, bne_eq_false_iff_eq, Bool.not_true, Bool.not_false, Decidable.not_not] at *
  all_goals omega
theorem field_m {h0 : Hp} {p : Nat} {s : Sl} {l : List UInt8} : ∀ fuel : Nat, FieldM h0 p s l fuel := by
  intro fuel
  induction fuel with
  | zero =>
    intro h a n x K Kp r hn hfu hx he hk
    refine Fn58.of ?_
    unfold S58
    refine New_i fun b4 h1 e1 g1 k4 _ => ?_
    have r1 := r.grw g1
    simp only [NN_some, add_blk, Nat.zero_add]
    refine Ld_blk r1.blk rfl (Wr_i64 (by omega) (by omega) (St_i r1.blk (by simp) rfl fun h2 o2 k2 => ?_))
    have f2 : Tn (· = p) h h2 := (Tn.of_grw g1 : Tn (· = p) h h1).trans o2.fr
    have hz := he (50, a) (by unfold fieldD; rfl) h2 f2
    refine Ld_blk k2 rfl (If_i (fun c => Ld_blk k2 rfl hz) fun c => If_t (by simp only [decide_eq_true_eq, decide_eq_false_iff_not, beq_iff_eq, beq_eq_false_iff_ne, ne_eq, reduceCtorEq, true_iff, false_iff, Bool.not_eq_true', Bool.not_eq_false', bne_iff_ne, bne_eq_false_iff_eq, Bool.not_true, Bool.not_false, Decidable.not_not]; omega) (Ld_blk k2 rfl hz))
  | succ fuel IH =>
    intro h a n x K Kp r hn hfu hx he hk
    refine Fn58.of ?_
    unfold S58
    refine New_i fun b4 h1 e1 g1 k4 _ => ?_
    have r1 := r.grw g1
    simp only [NN_some, add_blk, Nat.zero_add]
    have n4 : b4 ≠ p := by have := r.blk.lt; omega
    have l4 : h0.size ≤ b4 := by have := r.g.1; omega
    refine Ld_blk r1.blk rfl (Wr_i64 (by omega) (by omega) (St_i r1.blk (by simp) rfl fun h2 o2 k2 => ?_))
    have f2 : Tn (· = p) h h2 := (Tn.of_grw g1 : Tn (· = p) h h1).trans o2.fr
    have k4 := o2.blk k4 n4
    have k2 : Blk h2 p #[Sl.v s, .int .i64 a, .int .i64 ((n + 1 : Nat) : Int)] 73 := by simpa using k2
    refine Ld_blk k2 rfl (If_i (fun c => Ld_blk k2 rfl ?_) fun c => If_f (by simp only [decide_eq_true_eq, decide_eq_false_iff_not, beq_iff_eq, beq_eq_false_iff_ne, ne_eq, reduceCtorEq, true_iff, false_iff, Bool.not_eq_true', Bool.not_eq_false', bne_iff_ne, bne_eq_false_iff_eq, Bool.not_true, Bool.not_false, Decidable.not_not]; omega) ?_)
    · simp only [decide_eq_true_eq, decide_eq_false_iff_not, beq_iff_eq, beq_eq_false_iff_ne, ne_eq, reduceCtorEq, true_iff, false_iff, Bool.not_eq_true', Bool.not_eq_false', bne_iff_ne, bne_eq_false_iff_eq, Bool.not_true, Bool.not_false, Decidable.not_not] at c
      exact he (50, a) (by unfold fieldD; exact if_pos (by omega)) h2 f2
    simp only [decide_eq_true_eq, decide_eq_false_iff_not, beq_iff_eq, beq_eq_false_iff_ne, ne_eq, reduceCtorEq, true_iff, false_iff, Bool.not_eq_true', Bool.not_eq_false', bne_iff_ne, bne_eq_false_iff_eq, Bool.not_true, Bool.not_false, Decidable.not_not] at c
    have r2 : Rm h0 p s l h2 a (n + 1) := ⟨k2, Tn.old r.hp r.g f2, r.hp, r.sv, r.hl, r.ha⟩
    have eq : fieldD l (fuel + 1) a n = match textD l 1 a with
      | .error e => .error e
      | .ok (nm, a1) => match amongD l 0 1 a1 with
        | .error e => .error e
        | .ok (nul, a2) => match amongD l 1 20 a2 with
          | .error e => .error e
          | .ok (k, a3) => match midD l k a3 with
            | .error e => .error e
            | .ok ((w, i, x, c), a4) => match repD (fieldD l fuel) c a4 (n + 1) with
              | .error e => .error e
              | .ok (cs, a5, n5) => .ok (.mk nm (nul == 1) k w i x cs, a5, n5) := by
      unfold fieldD; exact if_neg (by omega)
    rw [eq] at he hk
    clear eq
    refine J58_1.of ?_
    unfold JT58_1
    refine text_m (w := 1) r2 rfl (by omega) (fun e q h3 f3 => he e (by rw [q]) h3 (f2.trans f3)) fun nm a1 q1 h3 f3 r3 => ?_
    rw [q1] at he hk
    simp only at he hk
    have lc := SyH.start No h3
    refine lc.new fun b5 _ hb5 _ lc => ?_
    refine lc.st 0 rfl rfl rfl fun _ _ lc => ?_; simp only [Nat.zero_add, List.set_cons_zero, List.set_cons_succ, List.setIfInBounds_toArray] at lc; refine lc.sto 0 rfl rfl rfl fun _ _ lc => ?_; simp only [Nat.zero_add, List.set_cons_zero, List.set_cons_succ, List.setIfInBounds_toArray] at lc; refine lc.sto 0 rfl rfl rfl fun _ _ lc => ?_; simp only [Nat.zero_add, List.set_cons_zero, List.set_cons_succ, List.setIfInBounds_toArray] at lc; refine lc.sto 0 rfl rfl rfl fun _ _ lc => ?_; simp only [Nat.zero_add, List.set_cons_zero, List.set_cons_succ, List.setIfInBounds_toArray] at lc; refine lc.sto 0 rfl rfl rfl fun _ _ lc => ?_; simp only [Nat.zero_add, List.set_cons_zero, List.set_cons_succ, List.setIfInBounds_toArray] at lc; refine lc.sto 0 rfl rfl rfl fun _ _ lc => ?_; simp only [Nat.zero_add, List.set_cons_zero, List.set_cons_succ, List.setIfInBounds_toArray] at lc; refine lc.sto 0 rfl rfl rfl fun _ _ lc => ?_; simp only [Nat.zero_add, List.set_cons_zero, List.set_cons_succ, List.setIfInBounds_toArray] at lc
    rename_i h4 _
    have k5 : B63 h4 b5 nm false 0 0 0 0 Sl.nil := lc.blk (i := 0) rfl
    have g4 := lc.grw
    clear lc
    have hs13 : h.size ≤ h3.size := (f2.trans f3).1
    have n5 : b5 ≠ p := by have := r3.blk.lt; omega
    have n45 : b4 ≠ b5 := by have := (f3.blk k4 n4).lt; omega
    have l5 : h0.size ≤ b5 := by have := r.g.1; omega
    have r4 := r3.grw g4
    have k4 := (f3.blk k4 n4).grw g4
    have f4 : Tn (fun d => d = p ∨ d = b4 ∨ d = b5) h h4 := ((f2.trans f3).mono fun d hd _ => .inl hd).trans' (Tn.of_grw (S := No) g4) fun _ q => q.elim
    simp only [add_blk, Nat.reduceAdd]
    refine among_m (lo := 0) (hi := 1) r4 rfl rfl (fun e q h5 f5 => he e (by rw [q]) h5 ((f4.trans' f5 fun d hd _ => .inl hd).mono fun d hd hlt => by omega)) fun nul a2 q2 h5 f5 r5 => ?_
    rw [q2] at he hk
    simp only at he hk
    refine St_i (f5.blk k5 n5) (by simp) rfl fun h6 o6 k5 => ?_
    have k5 : B63 h6 b5 nm ((nul : Int) == 1) 0 0 0 0 Sl.nil := by simp at k5; exact k5
    have k4 := o6.blk (f5.blk k4 n4) n45
    have r6 := r5.fr o6.fr n5 l5
    have f6 : Tn (fun d => d = p ∨ d = b4 ∨ d = b5) h h6 := (f4.trans' f5 fun d hd _ => .inl hd).trans' o6.fr fun d hd _ => .inr (.inr hd)
    refine among_m (lo := 1) (hi := 20) r6 rfl rfl (fun e q h7 f7 => he e (by rw [q]) h7 ((f6.trans' f7 fun d hd _ => .inl hd).mono fun d hd hlt => by omega)) fun k a3 q3 h7 f7 r7 => ?_
    rw [q3] at he hk
    simp only at he hk
    refine St_i (f7.blk k5 n5) (by simp) rfl fun h8 o8 k5 => ?_
    have k5 : B63 h8 b5 nm ((nul : Int) == 1) k 0 0 0 Sl.nil := by simp at k5; exact k5
    have k4 := o8.blk (f7.blk k4 n4) n45
    have r8 := r7.fr o8.fr n5 l5
    have f8 : Tn (fun d => d = p ∨ d = b4 ∨ d = b5) h h8 := (f6.trans' f7 fun d hd _ => .inl hd).trans' o8.fr fun d hd _ => .inr (.inr hd)
    refine Ld_blk k5 rfl ?_
    refine midM r8 k5 n5 l5 (fun e q h9 f9 => he e (by rw [q]) h9 ((f8.trans' f9 fun d hd _ => by omega).mono fun d hd hlt => by omega)) fun w i x' c a4 q4 h9 f9 r9 k5 => ?_
    rw [q4] at he hk
    simp only at he hk
    have k4 := f9.blk k4 (by omega)
    have f9' : Tn (fun d => d = p ∨ d = b4 ∨ d = b5) h h9 := f8.trans' f9 fun d hd _ => by omega
    refine childM IH (by omega) r9 (by omega) (by omega) (midD_le q4 r8.ha).2 rfl k4 k5 n45 n4 n5 l4 l5 (fun e q h10 f10 => he e (by rw [q]) h10 ((f9'.trans f10).mono fun d hd hlt => by omega)) fun cs a5 n5' q5 t h10 f10 r10 hn10 hfs => ?_
    have e2 : ((nul : Int) == 1) = (nul == 1) := by
      rw [Bool.eq_iff_iff, beq_iff_eq, beq_iff_eq]; omega
    rw [e2]
    refine hk (.mk nm (nul == 1) k w i x' cs) a5 n5' (by rw [q5]) t h10 ((f9'.trans f10).mono fun d hd hlt => by omega) r10 hn10 (FsD.fr (S := No) (Tn.refl _ _) (fun d hd => ⟨fun q => q, by have := hd.1; have := f9'.1; exact ⟨by omega, hd.2⟩⟩) cs hfs)
end Go.Proofs.YtfomkkdijjfpiaaDoor
/- The package's reader: a schema. -/
namespace Go.Proofs.YtfomkkdijjfpiaaDoor
open Go Go.Sh Go.WideShapes
abbrev B25 (h : Hp) (b : Nat) (s1 s2 : Sl) : Prop := Blk h b #[Sl.v s1, Sl.v s2] 25
def mdsV (ms : List Md) : List Value := (ms.map mdRow).flatten
theorem mdsV_snoc (ms : List Md) (m : Md) : mdsV (ms ++ [m]) = mdsV ms ++ mdRow m := by simp [mdsV]
theorem mdsV_len (ms : List Md) : (mdsV ms).length = ms.length * 2 := by
  have := flat_len (n := 2) (rows := ms.map mdRow) fun r hr => by obtain ⟨m, _, rfl⟩ := List.mem_map.1 hr; rfl
  simpa [mdsV] using this
/-- a thing of rows is appended -/
theorem Rm.tn {h0 : Hp} {p : Nat} {s : Sl} {l : List UInt8} {h h' : Hp} {a n : Nat} {S : Nat → Prop} (r : Rm h0 p s l h a n) (f : Tn S h h') (h1 : ¬ S p) (h2 : ∀ d, S d → h0.size ≤ d) : Rm h0 p s l h' a n :=
  ⟨f.blk r.blk h1, ⟨Nat.le_trans r.g.1 f.1, fun c hc => (f.2 c (Nat.lt_of_lt_of_le hc r.g.1) (fun q => by have := h2 c q; omega)).trans (r.g.2 c hc)⟩, r.hp, r.sv, r.hl, r.ha⟩
theorem fldsM {h0 : Hp} {p : Nat} {s : Sl} {l : List UInt8} {h : Hp} {a n c b2 b3 : Nat} {y : Int} {K : Sl → Sl → Hp → Prop} {Kp : List PanicEntry → Hp → Prop} (r : Rm h0 p s l h a n) (hn : n ≤ 256) (hc : c < 65536) (hy : y = c) (k2 : B25 h b2 Sl.nil Sl.nil) (k3 : B25 h b3 Sl.nil Sl.nil) (n23 : b2 ≠ b3) (n2 : b2 ≠ p) (n3 : b3 ≠ p) (l3 : h0.size ≤ b3)
    (he : ∀ e, repD (fieldD l 64) c a n = .error e → ∀ h', Tn (fun d => d = p ∨ d = b3) h h' → Kp (stopV e) h')
    (hk : ∀ fs a' n', repD (fieldD l 64) c a n = .ok (fs, a', n') → ∀ t h', Tn (fun d => d = p ∨ d = b3) h h' → Rm h0 p s l h' a' n' → n' ≤ 256 → FsD (In h.size h'.size) h' t fs → B25 h' b3 t Sl.nil → B25 h' b2 Sl.nil Sl.nil → J46_1 (some ⟨p, 0, none⟩) ⟨b2, 0, none⟩ ⟨b3, 0, none⟩ K Kp h') : L46_3 (some ⟨p, 0, none⟩) ⟨b2, 0, none⟩ ⟨b3, 0, none⟩ y K Kp 0 h := by
  subst hy
  have i2 := k2.lt
  have i3 := k3.lt
  have ip := r.blk.lt
  refine L46_3.rule (fun z h1 => ∃ (i : Nat) (xs : List Fld) (sl : Sl) (a' n' : Nat) (D : Nat → Prop), z = i ∧ i ≤ c ∧ xs.length = i ∧ Tn (fun d => d = p ∨ d = b3) h h1 ∧ Rm h0 p s l h1 a' n' ∧ n' ≤ 256 ∧ B25 h1 b3 sl Sl.nil ∧ B25 h1 b2 Sl.nil Sl.nil ∧
    Acc D h.size h1 sl xs ∧ (∀ d, D d → h.size ≤ d ∧ d < h1.size) ∧ repD (fieldD l 64) c a n = preD xs (repD (fieldD l 64) (c - i) a' n')) (fun z _ => c - z.toNat)
    ⟨0, [], Sl.nil, a, n, No, rfl, by omega, rfl, Tn.refl _ _, r, hn, k3, k2, Acc.nil, fun _ q => q.elim, repD_start⟩ ?_
  rintro z h1 ⟨i, xs, sl, a1, n1, D, rfl, hi, hxs, f1, r1, hn1, k3, k2, A, hD, eq⟩ N1 hN
  unfold T46_3
  refine If_i (fun c1 => ?_) fun c1 => ?_
  · simp only [decide_eq_true_eq, decide_eq_false_iff_not, beq_iff_eq, beq_eq_false_iff_ne, ne_eq, reduceCtorEq, true_iff, false_iff, Bool.not_eq_true', Bool.not_eq_false', bne_iff_ne, bne_eq_false_iff_eq, Bool.not_true, Bool.not_false, Decidable.not_not] at c1
    refine Ld_blk k3 rfl ?_
    refine field_m 64 r1 hn1 (by omega) (by omega) (fun e q h2 f2 => he e (repD_err (by omega) eq q) h2 (f1.trans (f2.mono fun d hd _ => .inl hd))) fun f a2 m2 q t h2 f2 r2 hn2 hf => ?_
    have k3' := f2.blk k3 n3
    refine Keep_i k3 k3' rfl ?_
    refine New_i fun bx h3 ex g3 kx _ => ?_
    refine Keep_i k3' (k3'.grw g3) rfl ?_
    have hD2 : ∀ d, (D d ∨ In h1.size h2.size d) → h.size ≤ d ∧ d < h2.size := fun d hd => by
      rcases hd with hd | hd
      · have := hD d hd; have := f2.1; omega
      · have := f1.1; exact ⟨by have := hd.1; omega, hd.2⟩
    have A2 : Acc (fun d => D d ∨ In h1.size h2.size d) h.size h2 sl xs := A.fr f2 (fun d hd e => by have := hD d hd; omega) (fun d h1 _ e => by omega) (fun d hd => .inl hd) (fun d hd => by rcases hd with hd | hd; exact .inl hd; exact .inr hd.1)
    have A3 : Acc (fun d => D d ∨ In h1.size h2.size d) h.size h3 sl xs := A2.fr (S := No) (Tn.of_grw g3) (fun _ _ q => q) (fun _ _ _ q => q) (fun _ q => q) (fun _ q => .inl q)
    have hf3 : FsD (fun d => D d ∨ In h1.size h2.size d) h3 t f.cs := FsD.fr (S := No) (Tn.of_grw g3) (fun d hd => ⟨fun q => q, .inr hd⟩) f.cs hf
    refine Acc.ap A3 hf3 (fun d hd => Nat.lt_of_lt_of_le (hD2 d hd).2 g3.1) (by have := f1.1; have := f2.1; have := g3.1; omega) kx (by omega) fun s' h4 f4 A4 => ?_
    have k3 := f4.blk (k3'.grw g3) (fun q => by have := q.2; omega)
    have k2 := f4.blk ((f2.blk k2 n2).grw g3) (fun q => by have := q.2; omega)
    refine St_i k3 (by simp) rfl fun h5 o5 k3 => ?_
    have f15 : Tn (fun d => d = p ∨ d = b3) h h5 := (((f1.trans (f2.mono fun d hd _ => .inl hd)).trans' (Tn.of_grw (S := No) g3) (fun _ q => q.elim)).trans' f4 (fun d hd hlt => by have := hd.2; omega)).trans' o5.fr fun d hd _ => .inr hd
    have r4 : Rm h0 p s l h4 a2 m2 := (r2.grw g3).tn f4 (fun q => by have := q.2; omega) (fun d q => by have := q.2; have := r.g.1; omega)
    refine Wr_i64 (by omega) (by omega) (hN _ _ ⟨i + 1, xs ++ [f], s', a2, m2, _, by simp, by omega, by simp [hxs], f15, r4.fr o5.fr n3 l3, hn2, by simpa using k3, o5.blk k2 n23, A4.fr o5.fr (fun d hd e => by have := hD2 d hd; omega) (fun d h1 _ e => by omega) (fun _ q => q) (fun _ q => .inl q), fun d hd => ?_, repD_snoc (by omega) eq q⟩ (by omega))
    have := hD2 d hd
    have := g3.1; have := f4.1; have := o5.1
    omega
  · simp only [decide_eq_true_eq, decide_eq_false_iff_not, beq_iff_eq, beq_eq_false_iff_ne, ne_eq, reduceCtorEq, true_iff, false_iff, Bool.not_eq_true', Bool.not_eq_false', bne_iff_ne, bne_eq_false_iff_eq, Bool.not_true, Bool.not_false, Decidable.not_not] at c1
    have : i = c := by omega
    subst this
    exact hk xs a1 n1 (repD_end eq) sl h1 f1 r1 hn1 (A.fsd (fun d hd => hD d hd) (fun d h1 h2 => ⟨h1, h2⟩)) k3 k2
theorem notesM {h0 : Hp} {p : Nat} {s : Sl} {l : List UInt8} {h : Hp} {a n c b2 b3 : Nat} {y : Int} {s1 : Sl} {K : Sl → Sl → Hp → Prop} {Kp : List PanicEntry → Hp → Prop} (r : Rm h0 p s l h a n) (hc : c < 65536) (hy : y = c) (k2 : B25 h b2 Sl.nil Sl.nil) (k3 : B25 h b3 s1 Sl.nil) (n23 : b2 ≠ b3) (n2 : b2 ≠ p) (n3 : b3 ≠ p) (l2 : h0.size ≤ b2) (l3 : h0.size ≤ b3)
    (he : ∀ e, repD (noteD l) c a n = .error e → ∀ h', Tn (fun d => d = p ∨ d = b3) h h' → Kp (stopV e) h')
    (hk : ∀ ms a' n', repD (noteD l) c a n = .ok (ms, a', n') → ∀ t h', Tn (fun d => d = p ∨ d = b3 ∨ d = b2) h h' → Rm h0 p s l h' a' n' → Sh h.size h'.size 2 h' t (mdsV ms) 66 → K s1 t h') : L46_2 (some ⟨p, 0, none⟩) ⟨b2, 0, none⟩ ⟨b3, 0, none⟩ y K Kp 0 h := by
  subst hy
  have i2 := k2.lt
  have i3 := k3.lt
  have ip := r.blk.lt
  refine L46_2.rule (fun z h1 => ∃ (i : Nat) (xs : List Md) (sl : Sl) (a' n' : Nat), z = i ∧ i ≤ c ∧ xs.length = i ∧ Tn (fun d => d = p ∨ d = b3) h h1 ∧ Rm h0 p s l h1 a' n' ∧ B25 h1 b3 s1 sl ∧ B25 h1 b2 Sl.nil Sl.nil ∧ Sh h.size h1.size 2 h1 sl (mdsV xs) 66 ∧
    repD (noteD l) c a n = preD xs (repD (noteD l) (c - i) a' n')) (fun z _ => c - z.toNat)
    ⟨0, [], Sl.nil, a, n, rfl, by omega, rfl, Tn.refl _ _, r, k3, k2, Sh.nil _ _ _ _ _, repD_start⟩ ?_
  rintro z h1 ⟨i, xs, sl, a1, n1, rfl, hi, hxs, f1, r1, k3, k2, o1, eq⟩ N1 hN
  unfold T46_2
  simp only [add_blk, Nat.reduceAdd]
  refine If_i (fun c1 => ?_) fun c1 => ?_
  · simp only [decide_eq_true_eq, decide_eq_false_iff_not, beq_iff_eq, beq_eq_false_iff_ne, ne_eq, reduceCtorEq, true_iff, false_iff, Bool.not_eq_true', Bool.not_eq_false', bne_iff_ne, bne_eq_false_iff_eq, Bool.not_true, Bool.not_false, Decidable.not_not] at c1
    have herr : ∀ e, noteD l a1 n1 = .error e → ∀ h2, Tn (· = p) h1 h2 → Kp (stopV e) h2 := fun e q h2 f2 => he e (repD_err (by omega) eq q) h2 (f1.trans (f2.mono fun d hd _ => .inl hd))
    refine text_m (w := 2) r1 rfl (by omega) (fun e q h2 f2 => herr e (by unfold noteD; rw [q]) h2 f2) fun x a2 q h2 f2 r2 => ?_
    have k3' := f2.blk k3 n3
    refine Ld_blk k3' rfl ?_
    refine text_m (w := 2) r2 rfl (by omega) (fun e q3 h3 f3 => herr e (by unfold noteD; rw [q]; simp only [q3]) h3 (f2.trans f3)) fun x3 a3 q3 h3 f3 r3 => ?_
    have k3'' := f3.blk k3' n3
    refine Keep_i k3' k3'' rfl (New_i fun bx h4 ex g4 kx _ => Keep_i k3'' (k3''.grw g4) rfl ?_)
    have o4 := (((o1.fr (f2.trans f3) fun b hb _ e => by omega).grw g4).wide (lo' := h.size) (hi' := h4.size) (Nat.le_refl _) (by have := f2.1; have := f3.1; have := g4.1; omega))
    have hln := o4.n
    rw [mdsV_len] at hln
    refine Ap_sh o4 (by have := f1.1; have := f2.1; have := f3.1; have := g4.1; omega) rfl (new := mdRow (x, x3)) rfl (by simp [mdRow, one]) (rd_blk kx rfl) (by omega) (by omega) fun s' h5 f5 at5 o5 hn5 => ?_
    have hb5 : ∀ d, sl.at d → h.size ≤ d := fun d hd => (o4.at hd).1
    have k3 := f5.blk (k3''.grw g4) (fun q => by have := hb5 _ q; omega)
    have k2 := f5.blk ((f3.blk (f2.blk k2 n2) n2).grw g4) (fun q => by have := hb5 _ q; omega)
    refine St_i k3 (by simp) rfl fun h6 o6 k3 => ?_
    have f16 : Tn (fun d => d = p ∨ d = b3) h h6 := (((f1.trans ((f2.trans f3).mono fun d hd _ => .inl hd)).trans' (Tn.of_grw (S := No) g4) (fun _ q => q.elim)).trans' f5 (fun d hd hlt => by have := hb5 d hd; omega)).trans' o6.fr fun d hd _ => .inr hd
    have r5 : Rm h0 p s l h5 a3 n1 := (r3.grw g4).tn f5 (fun q => by have := hb5 _ q; omega) (fun d q => by have := hb5 d q; have := r.g.1; omega)
    refine Wr_i64 (by omega) (by omega) (hN _ _ ⟨i + 1, xs ++ [(x, x3)], s', a3, n1, by simp, by omega, by simp [hxs], f16, r5.fr o6.fr n3 l3, by simpa using k3, o6.blk k2 n23, ?_, repD_snoc (by omega) eq (by unfold noteD; rw [q]; simp only [q3])⟩ (by omega))
    rw [mdsV_snoc]
    exact (o5.fr o6.fr fun b hb _ e => by omega).wide (Nat.le_refl _) (by rw [o6.1]; exact Nat.le_refl _)
  · simp only [decide_eq_true_eq, decide_eq_false_iff_not, beq_iff_eq, beq_eq_false_iff_ne, ne_eq, reduceCtorEq, true_iff, false_iff, Bool.not_eq_true', Bool.not_eq_false', bne_iff_ne, bne_eq_false_iff_eq, Bool.not_true, Bool.not_false, Decidable.not_not] at c1
    have : i = c := by omega
    subst this
    refine Ld_blk k3 rfl (Ld_blk k3 rfl (St_i k2 (by simp) rfl fun h2 o2 k2 => St_i k2 (by simp) rfl fun h3 o3 k2 => ?_))
    have k2 : B25 h3 b2 s1 sl := by simp at k2; exact k2
    have o := o2.trans o3
    refine Ld_blk k2 rfl (Ld_blk k2 rfl ?_)
    refine hk xs a1 n1 (repD_end eq) sl h3 ((f1.mono fun d hd _ => by omega).trans' o.fr fun d hd _ => .inr (.inr hd)) (r1.fr o.fr n2 l2) ((o1.fr o.fr fun b hb _ e => by omega).wide (Nat.le_refl _) (by rw [o.1]; exact Nat.le_refl _))
theorem schema_m {h0 : Hp} {p : Nat} {s : Sl} {l : List UInt8} {h : Hp} {a n : Nat} {K : Sl → Sl → Hp → Prop} {Kp : List PanicEntry → Hp → Prop} (r : Rm h0 p s l h a n) (hn : n ≤ 256)
    (he : ∀ e, schemaD l a n = .error e → ∀ h', Tn (· = p) h h' → Kp (stopV e) h')
    (hk : ∀ fs ms a' n', schemaD l a n = .ok ((fs, ms), a', n') → ∀ t1 t2 h', Tn (· = p) h h' → Rm h0 p s l h' a' n' → FsD (In h.size h'.size) h' t1 fs → Sh h.size h'.size 2 h' t2 (mdsV ms) 66 → K t1 t2 h') : Fn46 (some ⟨p, 0, none⟩) h K Kp := by
  refine Fn46.of ?_
  unfold S46
  refine New_i fun b2 h1 e1 g1 k2 _ => New_i fun b3 h2 e2 g2 k3 _ => ?_
  have ip := r.blk.lt
  have k2 : B25 h2 b2 Sl.nil Sl.nil := k2.grw g2
  have k3 : B25 h2 b3 Sl.nil Sl.nil := k3
  have g12 := Grw.trans g1 g2
  have n23 : b2 ≠ b3 := by have := g1.1; have := k2.lt; intro e; subst e; omega
  have l2 : h.size ≤ b2 := by omega
  have l3 : h.size ≤ b3 := by have := g1.1; omega
  have lh := r.g.1
  refine number_m (w := 2) (r.grw g12) rfl (by omega) (fun e q => he e (by unfold schemaD; rw [q]) h2 (Tn.of_grw g12)) fun c a1 q1 h3 f3 r3 => ?_
  have f3' : Tn (· = p) h h3 := (Tn.of_grw g12 : Tn (· = p) h h2).trans f3
  have hc := (numD_le q1 r.ha).2.2
  refine fldsM r3 hn hc rfl (f3.blk k2 (by omega)) (f3.blk k3 (by omega)) n23 (by omega) (by omega) (by omega) (fun e q h4 f4 => he e (by unfold schemaD; rw [q1]; simp only [q]) h4 (f3'.trans' f4 fun d hd hlt => by omega)) fun fs a2 n2 q2 t h4 f4 r4 hn2 hf k3 k2 => ?_
  have f4' : Tn (· = p) h h4 := f3'.trans' f4 fun d hd hlt => by omega
  refine J46_1.of ?_
  unfold JT46_1
  refine number_m (w := 2) r4 rfl (by omega) (fun e q => he e (by unfold schemaD; rw [q1]; simp only [q2, q]) h4 f4') fun c2 a3 q3 h5 f5 r5 => ?_
  have hc2 := (numD_le q3 r4.ha).2.2
  have hf5 : FsD (In h3.size h4.size) h5 t fs := FsD.fr f5 (fun d hd => ⟨fun e => by have := hd.1; have := f3'.1; omega, hd⟩) fs hf
  refine notesM r5 hc2 rfl (f5.blk k2 (by omega)) (f5.blk k3 (by omega)) n23 (by omega) (by omega) (by omega) (by omega) (fun e q h6 f6 => he e (by unfold schemaD; rw [q1]; simp only [q2, q3, q]) h6 ((f4'.trans f5).trans' f6 fun d hd hlt => by omega)) fun ms a4 n4 q4 t2 h6 f6 r6 o6 => ?_
  refine hk fs ms a4 n4 (by unfold schemaD; rw [q1]; simp only [q2, q3, q4]) t t2 h6 ((f4'.trans f5).trans' f6 fun d hd hlt => by omega) r6 (FsD.fr f6 (fun d hd => ⟨fun e => ?_, ?_⟩) fs hf5) (o6.wide (by have := f4'.1; have := f5.1; omega) (Nat.le_refl _))
  · have := hd.1; have := f3.1; have := g2.1; have := k2.lt; have := k3.lt
    have h1s : b2 < h2.size := by have := g2.1; omega
    have h2s : b3 < h2.size := by omega
    omega
  · have := hd.1; have := f3'.1; exact ⟨by omega, by have := hd.2; have := f5.1; have := f6.1; omega⟩
end Go.Proofs.YtfomkkdijjfpiaaDoor
/- The package's reader: a head. -/
namespace Go.Proofs.YtfomkkdijjfpiaaDoor
open Go Go.Sh Go.WideShapes
def ndsV (ms : List Nd) : List Value := (ms.map ndRow).flatten
theorem ndsV_snoc (ms : List Nd) (m : Nd) : ndsV (ms ++ [m]) = ndsV ms ++ ndRow m := by simp [ndsV]
theorem ndsV_len (ms : List Nd) : (ndsV ms).length = ms.length * 2 := by
  have := flat_len (n := 2) (rows := ms.map ndRow) fun r hr => by obtain ⟨m, _, rfl⟩ := List.mem_map.1 hr; rfl
  simpa [ndsV] using this
def bfsV (ms : List Bf) : List Value := (ms.map bfRow).flatten
theorem bfsV_snoc (ms : List Bf) (m : Bf) : bfsV (ms ++ [m]) = bfsV ms ++ bfRow m := by simp [bfsV]
theorem bfsV_len (ms : List Bf) : (bfsV ms).length = ms.length * 3 := by
  have := flat_len (n := 3) (rows := ms.map bfRow) fun r hr => by obtain ⟨m, _, rfl⟩ := List.mem_map.1 hr; rfl
  simpa [bfsV] using this
/-- the lists of a head that was read: in blocks of a stretch -/
structure HdD (lo hi : Nat) (h : Hp) (H : Hd) (s1 s2 s7 s8 : Sl) : Prop where
  fs : FsD (In lo hi) h s1 H.fs
  ms : Sh lo hi 2 h s2 (mdsV H.ms) 66
  nodes : Sh lo hi 2 h s7 (ndsV H.nodes) 55
  bufs : Sh lo hi 3 h s8 (bfsV H.bufs) 57
theorem HdD.h {lo hi : Nat} {h : Hp} {H : Hd} {s1 s2 s7 s8 : Sl} (d : HdD lo hi h H s1 s2 s7 s8) : HdH h H s1 s2 s7 s8 :=
  ⟨FsD.h _ d.fs, Sh.rsh (rows := H.ms.map mdRow) d.ms (by omega) (fun r hr => by obtain ⟨m, _, rfl⟩ := List.mem_map.1 hr; rfl), Sh.rsh (rows := H.nodes.map ndRow) d.nodes (by omega) (fun r hr => by obtain ⟨m, _, rfl⟩ := List.mem_map.1 hr; rfl), Sh.rsh (rows := H.bufs.map bfRow) d.bufs (by omega) (fun r hr => by obtain ⟨m, _, rfl⟩ := List.mem_map.1 hr; rfl)⟩
theorem HdD.fr {lo hi lo' hi' : Nat} {h h' : Hp} {H : Hd} {s1 s2 s7 s8 : Sl} {S : Nat → Prop} (d : HdD lo hi h H s1 s2 s7 s8) (f : Tn S h h') (hS : ∀ b, lo ≤ b → b < hi → ¬ S b) (h1 : lo' ≤ lo) (h2 : hi ≤ hi') : HdD lo' hi' h' H s1 s2 s7 s8 :=
  ⟨FsD.fr f (fun b hb => ⟨hS b hb.1 hb.2, by have := hb.1; have := hb.2; constructor <;> omega⟩) _ d.fs, (d.ms.fr f hS).wide h1 h2, (d.nodes.fr f hS).wide h1 h2, (d.bufs.fr f hS).wide h1 h2⟩
/-- nine cells are copied and handed over -/
theorem copy9 {h : Hp} {b2 : Nat} {cs : Array Value} {k id rows press : Int} {s1 s2 s7 s8 : Sl} {de : Bool} {K : Int → Sl → Sl → Int → Bool → Int → Int → Sl → Sl → Hp → Prop} (k2 : Blk h b2 cs 29) (hc : cs.size = 9) (hk : ∀ h', Only b2 h h' → K k s1 s2 id de rows press s7 s8 h') :
    St h ⟨b2, 0, none⟩ (.int .i64 k) fun h1 => St h1 ⟨b2, 1, none⟩ (Sl.v s1) fun h2 => St h2 ⟨b2, 2, none⟩ (Sl.v s2) fun h3 => St h3 ⟨b2, 3, none⟩ (.int .i64 id) fun h4 => St h4 ⟨b2, 4, none⟩ (.bool de) fun h5 => St h5 ⟨b2, 5, none⟩ (.int .i64 rows) fun h6 => St h6 ⟨b2, 6, none⟩ (.int .i64 press) fun h7 => St h7 ⟨b2, 7, none⟩ (Sl.v s7) fun h8 => St h8 ⟨b2, 8, none⟩ (Sl.v s8) fun h9 =>
      Ld h9 ⟨b2, 0, none⟩ (Value.int .i64) fun r0 => Ld h9 ⟨b2, 1, none⟩ (Sl.v) fun r1 => Ld h9 ⟨b2, 2, none⟩ (Sl.v) fun r2 => Ld h9 ⟨b2, 3, none⟩ (Value.int .i64) fun r3 => Ld h9 ⟨b2, 4, none⟩ (Value.bool) fun r4 => Ld h9 ⟨b2, 5, none⟩ (Value.int .i64) fun r5 => Ld h9 ⟨b2, 6, none⟩ (Value.int .i64) fun r6 => Ld h9 ⟨b2, 7, none⟩ (Sl.v) fun r7 => Ld h9 ⟨b2, 8, none⟩ (Sl.v) fun r8 => K r0 r1 r2 r3 r4 r5 r6 r7 r8 h9 := by
  obtain ⟨v0, v1, v2, v3, v4, v5, v6, v7, v8, e⟩ := len9 (l := cs.toList) (by simpa using hc)
  obtain rfl : cs = #[v0, v1, v2, v3, v4, v5, v6, v7, v8] := by cases cs; simp_all
  refine St_i k2 (by simp) rfl fun h1 o1 k2 => St_i k2 (by simp) rfl fun h2 o2 k2 => St_i k2 (by simp) rfl fun h3 o3 k2 => St_i k2 (by simp) rfl fun h4 o4 k2 => St_i k2 (by simp) rfl fun h5 o5 k2 => St_i k2 (by simp) rfl fun h6 o6 k2 => St_i k2 (by simp) rfl fun h7 o7 k2 => St_i k2 (by simp) rfl fun h8 o8 k2 => St_i k2 (by simp) rfl fun h9 o9 k2 => ?_
  have k2 : B9 h9 b2 k s1 s2 id de rows press s7 s8 := by simp at k2; exact k2
  refine Ld_blk k2 rfl (Ld_blk k2 rfl (Ld_blk k2 rfl (Ld_blk k2 rfl (Ld_blk k2 rfl (Ld_blk k2 rfl (Ld_blk k2 rfl (Ld_blk k2 rfl (Ld_blk k2 rfl ?_))))))))
  exact hk h9 ((((((((o1.trans o2).trans o3).trans o4).trans o5).trans o6).trans o7).trans o8).trans o9)
theorem slotsM {h0 : Hp} {p : Nat} {s : Sl} {l : List UInt8} {h : Hp} {a n c b2 b3 : Nat} {y : Int} {k id rows press : Int} {s1 s2 s7 : Sl} {de : Bool} {cs : Array Value} {K : Int → Sl → Sl → Int → Bool → Int → Int → Sl → Sl → Hp → Prop} {Kp : List PanicEntry → Hp → Prop} (r : Rm h0 p s l h a n) (hc : c < 65536) (hy : y = c)
    (k2 : Blk h b2 cs 29) (hcs : cs.size = 9) (k3 : B9 h b3 k s1 s2 id de rows press s7 Sl.nil) (n23 : b2 ≠ b3) (n2 : b2 ≠ p) (n3 : b3 ≠ p) (l2 : h0.size ≤ b2) (l3 : h0.size ≤ b3)
    (he : ∀ e, repD (slotD l) c a n = .error e → ∀ h', Tn (fun d => d = p ∨ d = b3) h h' → Kp (stopV e) h')
    (hk : ∀ ms a' n', repD (slotD l) c a n = .ok (ms, a', n') → ∀ t h', Tn (fun d => d = p ∨ d = b3 ∨ d = b2) h h' → Rm h0 p s l h' a' n' → Sh h.size h'.size 3 h' t (bfsV ms) 57 → K k s1 s2 id de rows press s7 t h') : L30_3 (some ⟨p, 0, none⟩) ⟨b2, 0, none⟩ ⟨b3, 0, none⟩ y K Kp 0 h := by
  subst hy
  have i2 := k2.lt
  have i3 := k3.lt
  have ip := r.blk.lt
  refine L30_3.rule (fun z h1 => ∃ (i : Nat) (xs : List Bf) (sl : Sl) (a' n' : Nat), z = i ∧ i ≤ c ∧ xs.length = i ∧ Tn (fun d => d = p ∨ d = b3) h h1 ∧ Rm h0 p s l h1 a' n' ∧ B9 h1 b3 k s1 s2 id de rows press s7 sl ∧ Blk h1 b2 cs 29 ∧ Sh h.size h1.size 3 h1 sl (bfsV xs) 57 ∧
    repD (slotD l) c a n = preD xs (repD (slotD l) (c - i) a' n')) (fun z _ => c - z.toNat)
    ⟨0, [], Sl.nil, a, n, rfl, by omega, rfl, Tn.refl _ _, r, k3, k2, Sh.nil _ _ _ _ _, repD_start⟩ ?_
  rintro z h1 ⟨i, xs, sl, a1, n1, rfl, hi, hxs, f1, r1, k3, k2, o1, eq⟩ N1 hN
  unfold T30_3
  simp only [add_blk, Nat.reduceAdd]
  refine If_i (fun c1 => ?_) fun c1 => ?_
  · simp only [decide_eq_true_eq, decide_eq_false_iff_not, beq_iff_eq, beq_eq_false_iff_ne, ne_eq, reduceCtorEq, true_iff, false_iff, Bool.not_eq_true', Bool.not_eq_false', bne_iff_ne, bne_eq_false_iff_eq, Bool.not_true, Bool.not_false, Decidable.not_not] at c1
    have herr : ∀ e, slotD l a1 n1 = .error e → ∀ h2, Tn (· = p) h1 h2 → Kp (stopV e) h2 := fun e q h2 f2 => he e (repD_err (by omega) eq q) h2 (f1.trans (f2.mono fun d hd _ => .inl hd))
    refine number_m (w := 4) r1 rfl (by omega) (fun e q => herr e (by unfold slotD; rw [q]) h1 (Tn.refl _ _)) fun x a2 q h2 f2 r2 => ?_
    refine number_m (w := 4) r2 rfl (by omega) (fun e q3 => herr e (by unfold slotD; rw [q]; simp only [q3]) h2 f2) fun x3 a3 q3 h3 f3 r3 => ?_
    have k3' := (f2.trans f3).blk k3 n3
    refine Ld_blk k3' rfl ?_
    refine number_m (w := 4) r3 rfl (by omega) (fun e q4 => herr e (by unfold slotD; rw [q]; simp only [q3, q4]) h3 (f2.trans f3)) fun x4 a4 q4 h4 f4 r4 => ?_
    have k3'' := f4.blk k3' n3
    have f24 := (f2.trans f3).trans f4
    refine Keep_i k3' k3'' rfl (New_i fun bx h5 ex g5 kx _ => Keep_i k3'' (k3''.grw g5) rfl ?_)
    have o4 := (((o1.fr f24 fun b hb _ e => by omega).grw g5).wide (lo' := h.size) (hi' := h5.size) (Nat.le_refl _) (by have := f24.1; have := g5.1; omega))
    have hln := o4.n
    rw [bfsV_len] at hln
    refine Ap_sh o4 (by have := f1.1; have := f24.1; have := g5.1; omega) rfl (new := bfRow ((x : Int), (x3 : Int), (x4 : Int))) rfl (by simp [bfRow, one]) (rd_blk kx rfl) (by omega) (by omega) fun s' h6 f6 at6 o6 hn6 => ?_
    have hb6 : ∀ d, sl.at d → h.size ≤ d := fun d hd => (o4.at hd).1
    have k3 := f6.blk (k3''.grw g5) (fun q => by have := hb6 _ q; omega)
    have k2 := f6.blk ((f24.blk k2 n2).grw g5) (fun q => by have := hb6 _ q; omega)
    refine St_i k3 (by simp [vals9]) rfl fun h7 o7 k3 => ?_
    have k3 : B9 h7 b3 k s1 s2 id de rows press s7 s' := by simp [vals9] at k3; exact k3
    have f17 : Tn (fun d => d = p ∨ d = b3) h h7 := (((f1.trans (f24.mono fun d hd _ => .inl hd)).trans' (Tn.of_grw (S := No) g5) (fun _ q => q.elim)).trans' f6 (fun d hd hlt => by have := hb6 d hd; omega)).trans' o7.fr fun d hd _ => .inr hd
    have r6 : Rm h0 p s l h6 a4 n1 := (r4.grw g5).tn f6 (fun q => by have := hb6 _ q; omega) (fun d q => by have := hb6 d q; have := r.g.1; omega)
    refine Wr_i64 (by omega) (by omega) (hN _ _ ⟨i + 1, xs ++ [((x : Int), (x3 : Int), (x4 : Int))], s', a4, n1, by simp, by omega, by simp [hxs], f17, r6.fr o7.fr n3 l3, k3, o7.blk k2 n23, ?_, repD_snoc (by omega) eq (by unfold slotD; rw [q]; simp only [q3, q4])⟩ (by omega))
    rw [bfsV_snoc]
    exact (o6.fr o7.fr fun b hb _ e => by omega).wide (Nat.le_refl _) (by rw [o7.1]; exact Nat.le_refl _)
  · simp only [decide_eq_true_eq, decide_eq_false_iff_not, beq_iff_eq, beq_eq_false_iff_ne, ne_eq, reduceCtorEq, true_iff, false_iff, Bool.not_eq_true', Bool.not_eq_false', bne_iff_ne, bne_eq_false_iff_eq, Bool.not_true, Bool.not_false, Decidable.not_not] at c1
    have : i = c := by omega
    subst this
    refine Ld_blk k3 rfl (Ld_blk k3 rfl (Ld_blk k3 rfl (Ld_blk k3 rfl (Ld_blk k3 rfl (Ld_blk k3 rfl (Ld_blk k3 rfl (Ld_blk k3 rfl (Ld_blk k3 rfl ?_))))))))
    refine copy9 k2 hcs fun h3 o => ?_
    refine hk xs a1 n1 (repD_end eq) sl h3 ((f1.mono fun d hd _ => by omega).trans' o.fr fun d hd _ => .inr (.inr hd)) (r1.fr o.fr n2 l2) ((o1.fr o.fr fun b hb _ e => by omega).wide (Nat.le_refl _) (by rw [o.1]; exact Nat.le_refl _))
theorem nodesM {h0 : Hp} {p : Nat} {s : Sl} {l : List UInt8} {h : Hp} {a n c b2 b3 : Nat} {y : Int} {k id rows press : Int} {s1 s2 : Sl} {de : Bool} {cs : Array Value} {K : Int → Sl → Sl → Int → Bool → Int → Int → Sl → Sl → Hp → Prop} {Kp : List PanicEntry → Hp → Prop} (r : Rm h0 p s l h a n) (hc : c < 65536) (hy : y = c)
    (k2 : Blk h b2 cs 29) (k3 : B9 h b3 k s1 s2 id de rows press Sl.nil Sl.nil) (n23 : b2 ≠ b3) (n2 : b2 ≠ p) (n3 : b3 ≠ p) (l3 : h0.size ≤ b3)
    (he : ∀ e, repD (nodeD l) c a n = .error e → ∀ h', Tn (fun d => d = p ∨ d = b3) h h' → Kp (stopV e) h')
    (hk : ∀ ms a' n', repD (nodeD l) c a n = .ok (ms, a', n') → ∀ t h', Tn (fun d => d = p ∨ d = b3) h h' → Rm h0 p s l h' a' n' → Sh h.size h'.size 2 h' t (ndsV ms) 55 → B9 h' b3 k s1 s2 id de rows press t Sl.nil → Blk h' b2 cs 29 → J30_2 (some ⟨p, 0, none⟩) ⟨b2, 0, none⟩ ⟨b3, 0, none⟩ K Kp h') : L30_4 (some ⟨p, 0, none⟩) ⟨b2, 0, none⟩ ⟨b3, 0, none⟩ y K Kp 0 h := by
  subst hy
  have i2 := k2.lt
  have i3 := k3.lt
  have ip := r.blk.lt
  refine L30_4.rule (fun z h1 => ∃ (i : Nat) (xs : List Nd) (sl : Sl) (a' n' : Nat), z = i ∧ i ≤ c ∧ xs.length = i ∧ Tn (fun d => d = p ∨ d = b3) h h1 ∧ Rm h0 p s l h1 a' n' ∧ B9 h1 b3 k s1 s2 id de rows press sl Sl.nil ∧ Blk h1 b2 cs 29 ∧ Sh h.size h1.size 2 h1 sl (ndsV xs) 55 ∧
    repD (nodeD l) c a n = preD xs (repD (nodeD l) (c - i) a' n')) (fun z _ => c - z.toNat)
    ⟨0, [], Sl.nil, a, n, rfl, by omega, rfl, Tn.refl _ _, r, k3, k2, Sh.nil _ _ _ _ _, repD_start⟩ ?_
  rintro z h1 ⟨i, xs, sl, a1, n1, rfl, hi, hxs, f1, r1, k3, k2, o1, eq⟩ N1 hN
  unfold T30_4
  simp only [add_blk, Nat.reduceAdd]
  refine If_i (fun c1 => ?_) fun c1 => ?_
  · simp only [decide_eq_true_eq, decide_eq_false_iff_not, beq_iff_eq, beq_eq_false_iff_ne, ne_eq, reduceCtorEq, true_iff, false_iff, Bool.not_eq_true', Bool.not_eq_false', bne_iff_ne, bne_eq_false_iff_eq, Bool.not_true, Bool.not_false, Decidable.not_not] at c1
    have herr : ∀ e, nodeD l a1 n1 = .error e → ∀ h2, Tn (· = p) h1 h2 → Kp (stopV e) h2 := fun e q h2 f2 => he e (repD_err (by omega) eq q) h2 (f1.trans (f2.mono fun d hd _ => .inl hd))
    refine number_m (w := 4) r1 rfl (by omega) (fun e q => herr e (by unfold nodeD; rw [q]) h1 (Tn.refl _ _)) fun x a2 q h2 f2 r2 => ?_
    have k3' := f2.blk k3 n3
    refine Ld_blk k3' rfl ?_
    refine number_m (w := 4) r2 rfl (by omega) (fun e q3 => herr e (by unfold nodeD; rw [q]; simp only [q3]) h2 f2) fun x4 a4 q4 h4 f4 r4 => ?_
    have k3'' := f4.blk k3' n3
    have f24 := f2.trans f4
    refine Keep_i k3' k3'' rfl (New_i fun bx h5 ex g5 kx _ => Keep_i k3'' (k3''.grw g5) rfl ?_)
    have o4 := (((o1.fr f24 fun b hb _ e => by omega).grw g5).wide (lo' := h.size) (hi' := h5.size) (Nat.le_refl _) (by have := f24.1; have := g5.1; omega))
    have hln := o4.n
    rw [ndsV_len] at hln
    refine Ap_sh o4 (by have := f1.1; have := f24.1; have := g5.1; omega) rfl (new := ndRow ((x : Int), (x4 : Int))) rfl (by simp [ndRow, one]) (rd_blk kx rfl) (by omega) (by omega) fun s' h6 f6 at6 o6 hn6 => ?_
    have hb6 : ∀ d, sl.at d → h.size ≤ d := fun d hd => (o4.at hd).1
    have k3 := f6.blk (k3''.grw g5) (fun q => by have := hb6 _ q; omega)
    have k2 := f6.blk ((f24.blk k2 n2).grw g5) (fun q => by have := hb6 _ q; omega)
    refine St_i k3 (by simp [vals9]) rfl fun h7 o7 k3 => ?_
    have k3 : B9 h7 b3 k s1 s2 id de rows press s' Sl.nil := by simp [vals9] at k3; exact k3
    have f17 : Tn (fun d => d = p ∨ d = b3) h h7 := (((f1.trans (f24.mono fun d hd _ => .inl hd)).trans' (Tn.of_grw (S := No) g5) (fun _ q => q.elim)).trans' f6 (fun d hd hlt => by have := hb6 d hd; omega)).trans' o7.fr fun d hd _ => .inr hd
    have r6 : Rm h0 p s l h6 a4 n1 := (r4.grw g5).tn f6 (fun q => by have := hb6 _ q; omega) (fun d q => by have := hb6 d q; have := r.g.1; omega)
    refine Wr_i64 (by omega) (by omega) (hN _ _ ⟨i + 1, xs ++ [((x : Int), (x4 : Int))], s', a4, n1, by simp, by omega, by simp [hxs], f17, r6.fr o7.fr n3 l3, k3, o7.blk k2 n23, ?_, repD_snoc (by omega) eq (by unfold nodeD; rw [q]; simp only [q4])⟩ (by omega))
    rw [ndsV_snoc]
    exact (o6.fr o7.fr fun b hb _ e => by omega).wide (Nat.le_refl _) (by rw [o7.1]; exact Nat.le_refl _)
  · simp only [decide_eq_true_eq, decide_eq_false_iff_not, beq_iff_eq, beq_eq_false_iff_ne, ne_eq, reduceCtorEq, true_iff, false_iff, Bool.not_eq_true', Bool.not_eq_false', bne_iff_ne, bne_eq_false_iff_eq, Bool.not_true, Bool.not_false, Decidable.not_not] at c1
    have : i = c := by omega
    subst this
    exact hk xs a1 n1 (repD_end eq) sl h1 f1 r1 o1 k3 k2
end Go.Proofs.YtfomkkdijjfpiaaDoor
/- The package's reader: a head, the whole. -/
namespace Go.Proofs.YtfomkkdijjfpiaaDoor
open Go Go.Sh Go.WideShapes
theorem body_m {h0 : Hp} {p : Nat} {s : Sl} {l : List UInt8} {h : Hp} {a n b2 b3 : Nat} {k id : Int} {de : Bool} {cs : Array Value} {K : Int → Sl → Sl → Int → Bool → Int → Int → Sl → Sl → Hp → Prop} {Kp : List PanicEntry → Hp → Prop} (r : Rm h0 p s l h a n)
    (k2 : Blk h b2 cs 29) (hcs : cs.size = 9) (k3 : B9 h b3 k Sl.nil Sl.nil id de 0 0 Sl.nil Sl.nil) (n23 : b2 ≠ b3) (n2 : b2 ≠ p) (n3 : b3 ≠ p) (l2 : h0.size ≤ b2) (l3 : h0.size ≤ b3)
    (he : ∀ e, bodyD l k id de a n = .error e → ∀ h', Tn (fun d => d = p ∨ d = b3 ∨ d = b2) h h' → Kp (stopV e) h')
    (hk : ∀ H a' n', bodyD l k id de a n = .ok (H, a', n') → ∀ s1 s2 s7 s8 h', Tn (fun d => d = p ∨ d = b3 ∨ d = b2) h h' → Rm h0 p s l h' a' n' → HdD h.size h'.size h' H s1 s2 s7 s8 → K H.k s1 s2 H.id H.de H.rows H.press s7 s8 h') : J30_1 (some ⟨p, 0, none⟩) ⟨b2, 0, none⟩ ⟨b3, 0, none⟩ K Kp h := by
  have i2 := k2.lt
  have i3 := k3.lt
  have ip := r.blk.lt
  refine J30_1.of ?_
  unfold JT30_1
  simp only [add_blk, Nat.reduceAdd]
  refine number_m (w := 4) r rfl (by omega) (fun e q => he e (by unfold bodyD; rw [q]) h (Tn.refl _ _)) fun rows a1 q1 h1 f1 r1 => ?_
  refine St_i (f1.blk k3 n3) (by simp [vals9]) rfl fun h2 o2 k3 => ?_
  have k3 : B9 h2 b3 k Sl.nil Sl.nil id de rows 0 Sl.nil Sl.nil := by simp [vals9] at k3; exact k3
  have f2 : Tn (fun d => d = p ∨ d = b3 ∨ d = b2) h h2 := (f1.mono fun d hd _ => .inl hd).trans' o2.fr fun d hd _ => .inr (.inl hd)
  have r2 := r1.fr o2.fr n3 l3
  refine number_m (w := 1) r2 rfl (by omega) (fun e q => he e (by unfold bodyD; rw [q1]; simp only [q]) h2 f2) fun press a2 q2 h3 f3 r3 => ?_
  refine St_i (f3.blk k3 n3) (by simp [vals9]) rfl fun h4 o4 k3 => ?_
  have k3 : B9 h4 b3 k Sl.nil Sl.nil id de rows press Sl.nil Sl.nil := by simp [vals9] at k3; exact k3
  have f4 : Tn (fun d => d = p ∨ d = b3 ∨ d = b2) h h4 := (f2.trans (f3.mono fun d hd _ => .inl hd)).trans' o4.fr fun d hd _ => .inr (.inl hd)
  have r4 := r3.fr o4.fr n3 l3
  refine number_m (w := 2) r4 rfl (by omega) (fun e q => he e (by unfold bodyD; rw [q1]; simp only [q2, q]) h4 f4) fun c a3 q3 h5 f5 r5 => ?_
  have f5' : Tn (fun d => d = p ∨ d = b3 ∨ d = b2) h h5 := f4.trans (f5.mono fun d hd _ => .inl hd)
  have k2 := f5.blk (o4.blk (f3.blk (o2.blk (f1.blk k2 n2) n23) n2) n23) n2
  have k3 := f5.blk k3 n3
  have s5 := f5'.1
  refine nodesM r5 (numD_le q3 r4.ha).2.2 rfl k2 k3 n23 n2 n3 l3 (fun e q h6 f6 => he e (by unfold bodyD; rw [q1]; simp only [q2, q3, q]) h6 (f5'.trans (f6.mono fun d hd _ => by omega))) fun nodes a4 n4 q4 t h6 f6 r6 o6 k3 k2 => ?_
  have f6' : Tn (fun d => d = p ∨ d = b3 ∨ d = b2) h h6 := f5'.trans (f6.mono fun d hd _ => by omega)
  refine J30_2.of ?_
  unfold JT30_2
  refine number_m (w := 2) r6 rfl (by omega) (fun e q => he e (by unfold bodyD; rw [q1]; simp only [q2, q3, q4, q]) h6 f6') fun c2 a5 q5 h7 f7 r7 => ?_
  have f7' : Tn (fun d => d = p ∨ d = b3 ∨ d = b2) h h7 := f6'.trans (f7.mono fun d hd _ => .inl hd)
  have s6 := f6.1
  have s7 := f7.1
  refine slotsM r7 (numD_le q5 r6.ha).2.2 rfl (f7.blk k2 n2) hcs (f7.blk k3 n3) n23 n2 n3 l2 l3 (fun e q h8 f8 => he e (by unfold bodyD; rw [q1]; simp only [q2, q3, q4, q5, q]) h8 (f7'.trans (f8.mono fun d hd _ => by omega))) fun bufs a6 n6 q6 t8 h8 f8 r8 o8 => ?_
  have o7 : Sh h5.size h6.size 2 h7 t (ndsV nodes) 55 := o6.fr f7 fun b hb _ e => by omega
  have o8' : Sh h5.size h6.size 2 h8 t (ndsV nodes) 55 := o7.fr f8 fun b hb _ e => by omega
  refine hk ⟨k, [], [], id, de, rows, press, nodes, bufs⟩ a6 n6 (by unfold bodyD; rw [q1]; simp only [q2, q3, q4, q5, q6]) Sl.nil Sl.nil t t8 h8 (f7'.trans f8) r8 ⟨by unfold FsD; exact ⟨rfl, Nat.le_refl _⟩, Sh.nil _ _ _ _ _, o8'.wide (by omega) (by have := f8.1; omega), o8.wide (by omega) (Nat.le_refl _)⟩
theorem head_m {h0 : Hp} {p : Nat} {s : Sl} {l : List UInt8} {h : Hp} {K : Int → Sl → Sl → Int → Bool → Int → Int → Sl → Sl → Hp → Prop} {Kp : List PanicEntry → Hp → Prop} (r : Rm h0 p s l h 0 0)
    (he : ∀ e, headD l = .error e → ∀ h', Tn (· = p) h h' → Kp (stopV e) h')
    (hk : ∀ H a' n', headD l = .ok (H, a', n') → ∀ s1 s2 s7 s8 h', Tn (· = p) h h' → Rm h0 p s l h' a' n' → HdD h.size h'.size h' H s1 s2 s7 s8 → K H.k s1 s2 H.id H.de H.rows H.press s7 s8 h') : Fn30 (some ⟨p, 0, none⟩) h K Kp := by
  have ip := r.blk.lt
  have lh := r.g.1
  refine Fn30.of ?_
  unfold S30
  refine New_i fun b2 h1 e1 g1 k2 _ => ?_
  have f1 : Tn (· = p) h h1 := Tn.of_grw g1
  refine among_m (lo := 1) (hi := 3) (r.grw g1) rfl rfl (fun e q h2 f2 => he e (by unfold headD; rw [q]) h2 (f1.trans f2)) fun k a1 q1 h2 f2 r2 => ?_
  have n2 : b2 ≠ p := by omega
  have k2 := f2.blk k2 n2
  have f2 := f1.trans f2
  have s2 := f2.1
  have lc := SyH.start No h2
  refine lc.new fun b3 _ hb3 _ lc => ?_
  refine lc.st 0 rfl rfl rfl fun _ _ lc => ?_; simp only [Nat.zero_add, List.set_cons_zero, List.set_cons_succ, List.setIfInBounds_toArray] at lc; refine lc.sto 0 rfl rfl rfl fun _ _ lc => ?_; simp only [Nat.zero_add, List.set_cons_zero, List.set_cons_succ, List.setIfInBounds_toArray] at lc; refine lc.sto 0 rfl rfl rfl fun _ _ lc => ?_; simp only [Nat.zero_add, List.set_cons_zero, List.set_cons_succ, List.setIfInBounds_toArray] at lc; refine lc.sto 0 rfl rfl rfl fun _ _ lc => ?_; simp only [Nat.zero_add, List.set_cons_zero, List.set_cons_succ, List.setIfInBounds_toArray] at lc; refine lc.sto 0 rfl rfl rfl fun _ _ lc => ?_; simp only [Nat.zero_add, List.set_cons_zero, List.set_cons_succ, List.setIfInBounds_toArray] at lc; refine lc.sto 0 rfl rfl rfl fun _ _ lc => ?_; simp only [Nat.zero_add, List.set_cons_zero, List.set_cons_succ, List.setIfInBounds_toArray] at lc; refine lc.sto 0 rfl rfl rfl fun _ _ lc => ?_; simp only [Nat.zero_add, List.set_cons_zero, List.set_cons_succ, List.setIfInBounds_toArray] at lc; refine lc.sto 0 rfl rfl rfl fun _ _ lc => ?_; simp only [Nat.zero_add, List.set_cons_zero, List.set_cons_succ, List.setIfInBounds_toArray] at lc; refine lc.sto 0 rfl rfl rfl fun _ _ lc => ?_; simp only [Nat.zero_add, List.set_cons_zero, List.set_cons_succ, List.setIfInBounds_toArray] at lc
  rename_i h3 _
  have k3 : B9 h3 b3 k Sl.nil Sl.nil 0 false 0 0 Sl.nil Sl.nil := lc.blk (i := 0) rfl
  have g3 := lc.grw
  have ib3 := k3.lt
  clear lc
  have n3 : b3 ≠ p := by omega
  have n23 : b2 ≠ b3 := by have := k2.lt; omega
  have k2 := k2.grw g3
  have r3 := r2.grw g3
  have f3 : Tn (· = p) h h3 := f2.trans (Tn.of_grw g3)
  have hkk : 1 ≤ k ∧ k ≤ 3 := (amongD_le q1 r.ha).2.2
  refine among_m (lo := 1) (hi := 1) r3 rfl rfl (fun e q h4 f4 => he e (by unfold headD; rw [q1]; simp only [q]) h4 (f3.trans f4)) fun z2 a2 q2 h4 f4 r4 => ?_
  refine among_m (lo := 0) (hi := 0) r4 rfl rfl (fun e q h5 f5 => he e (by unfold headD; rw [q1]; simp only [q2, q]) h5 ((f3.trans f4).trans f5)) fun z3 a3 q3 h5 f5 r5 => ?_
  refine among_m (lo := 0) (hi := 0) r5 rfl rfl (fun e q h6 f6 => he e (by unfold headD; rw [q1]; simp only [q2, q3, q]) h6 (((f3.trans f4).trans f5).trans f6)) fun z4 a4 q4 h6 f6 r6 => ?_
  have f36 := (f4.trans f5).trans f6
  have k2 := f36.blk k2 n2
  have k3 := f36.blk k3 n3
  have f6 := f3.trans f36
  have s36 := f36.1
  have s3 := f3.1
  have i2 : h.size ≤ b2 := by omega
  have i3 : h.size ≤ b3 := by omega
  have tn : ∀ {h'}, Tn (fun d => d = p ∨ d = b3 ∨ d = b2) h6 h' → Tn (· = p) h h' := fun f => f6.trans' f fun d hd hlt => by omega
  have eq : headD l = restD l k a4 := by unfold headD; rw [q1]; simp only [q2, q3, q4]
  simp only [add_blk, Nat.reduceAdd]
  refine Ld_blk k3 rfl (If_i (fun c => ?_) fun c => ?_)
  · simp only [decide_eq_true_eq, decide_eq_false_iff_not, beq_iff_eq, beq_eq_false_iff_ne, ne_eq, reduceCtorEq, true_iff, false_iff, Bool.not_eq_true', Bool.not_eq_false', bne_iff_ne, bne_eq_false_iff_eq, Bool.not_true, Bool.not_false, Decidable.not_not] at c
    have hk1 : k = 1 := by omega
    subst hk1
    refine schema_m r6 (by omega) (fun e q h7 f7 => he e (by rw [eq]; unfold restD; rw [if_pos rfl, q]) h7 (f6.trans f7)) fun fs ms a5 n5 q5 t1 t2 h7 f7 r7 hf ho => ?_
    refine St_i (f7.blk k3 n3) (by simp [vals9]) rfl fun h8 o8 k3 => St_i k3 (by simp [vals9]) rfl fun h9 o9 k3 => ?_
    have k3 : B9 h9 b3 1 t1 t2 0 false 0 0 Sl.nil Sl.nil := by simp [vals9] at k3; exact k3
    have o89 := o8.trans o9
    have k2 := o89.blk (f7.blk k2 n2) n23
    refine Ld_blk k3 rfl (Ld_blk k3 rfl (Ld_blk k3 rfl (Ld_blk k3 rfl (Ld_blk k3 rfl (Ld_blk k3 rfl (Ld_blk k3 rfl (Ld_blk k3 rfl (Ld_blk k3 rfl ?_))))))))
    refine copy9 k2 rfl fun h10 o10 => ?_
    have fall : Tn (fun d => d = b3 ∨ d = b2) h7 h10 := (o89.fr.mono fun d hd _ => .inl hd).trans' o10.fr fun d hd _ => .inr hd
    have D7 : HdD h6.size h7.size h7 ⟨1, fs, ms, 0, false, 0, 0, [], []⟩ t1 t2 Sl.nil Sl.nil := ⟨hf, ho, Sh.nil _ _ _ _ _, Sh.nil _ _ _ _ _⟩
    refine hk ⟨1, fs, ms, 0, false, 0, 0, [], []⟩ a5 n5 (by rw [eq]; unfold restD; rw [if_pos rfl, q5]) t1 t2 Sl.nil Sl.nil h10 (tn ((f7.mono fun d hd _ => .inl hd).trans' fall fun d hd _ => by omega)) (r7.tn fall (by omega) (fun d hd => by omega)) (D7.fr fall (fun b h1 h2 e => ?_) (by omega) fall.1)
    omega
  · simp only [decide_eq_true_eq, decide_eq_false_iff_not, beq_iff_eq, beq_eq_false_iff_ne, ne_eq, reduceCtorEq, true_iff, false_iff, Bool.not_eq_true', Bool.not_eq_false', bne_iff_ne, bne_eq_false_iff_eq, Bool.not_true, Bool.not_false, Decidable.not_not] at c
    refine Ld_blk k3 rfl (If_i (fun c2 => ?_) fun c2 => ?_)
    · simp only [decide_eq_true_eq, decide_eq_false_iff_not, beq_iff_eq, beq_eq_false_iff_ne, ne_eq, reduceCtorEq, true_iff, false_iff, Bool.not_eq_true', Bool.not_eq_false', bne_iff_ne, bne_eq_false_iff_eq, Bool.not_true, Bool.not_false, Decidable.not_not] at c2
      have hk2 : k = 2 := by omega
      subst hk2
      refine number_m (w := 2) r6 rfl (by omega) (fun e q => he e (by rw [eq]; unfold restD; rw [if_neg (by omega), if_pos rfl, q]) h6 f6) fun id a5 q5 h7 f7 r7 => ?_
      refine St_i (f7.blk k3 n3) (by simp [vals9]) rfl fun h8 o8 k3 => ?_
      have k3 : B9 h8 b3 2 Sl.nil Sl.nil id false 0 0 Sl.nil Sl.nil := by simp [vals9] at k3; exact k3
      have r8 := r7.fr o8.fr n3 (by omega)
      have f8 : Tn (fun d => d = p ∨ d = b3 ∨ d = b2) h6 h8 := (f7.mono fun d hd _ => .inl hd).trans' o8.fr fun d hd _ => .inr (.inl hd)
      have k2 := o8.blk (f7.blk k2 n2) n23
      refine among_m (lo := 0) (hi := 1) r8 rfl rfl (fun e q h9 f9 => he e (by rw [eq]; unfold restD; rw [if_neg (by omega), if_pos rfl, q5]; simp only [q]) h9 (tn (f8.trans (f9.mono fun d hd _ => .inl hd)))) fun de a6 q6 h9 f9 r9 => ?_
      refine St_i (f9.blk k3 n3) (by simp [vals9]) rfl fun h10 o10 k3 => ?_
      have k3 : B9 h10 b3 2 Sl.nil Sl.nil id ((de : Int) == 1) 0 0 Sl.nil Sl.nil := by simp [vals9] at k3; exact k3
      have e2 : ((de : Int) == 1) = (de == 1) := by
        rw [Bool.eq_iff_iff, beq_iff_eq, beq_iff_eq]; omega
      rw [e2] at k3
      have f10 : Tn (fun d => d = p ∨ d = b3 ∨ d = b2) h6 h10 := (f8.trans (f9.mono fun d hd _ => .inl hd)).trans' o10.fr fun d hd _ => .inr (.inl hd)
      have s10 := f10.1
      have er : restD l 2 a4 = bodyD l 2 id (de == 1) a6 0 := by unfold restD; rw [if_neg (by omega), if_pos rfl, q5]; simp only [q6]
      refine body_m (r9.fr o10.fr n3 (by omega)) (o10.blk (f9.blk k2 n2) n23) rfl k3 n23 n2 n3 (by omega) (by omega) (fun e q h11 f11 => he e (by rw [eq, er, q]) h11 (tn (f10.trans f11))) fun H a7 n7 q7 s1 s2' s7 s8 h11 f11 r11 D11 => ?_
      exact hk H a7 n7 (by rw [eq, er, q7]) s1 s2' s7 s8 h11 (tn (f10.trans f11)) r11 (D11.fr (S := No) (Tn.refl _ _) (fun _ _ _ q => q) (by omega) (Nat.le_refl _))
    · simp only [decide_eq_true_eq, decide_eq_false_iff_not, beq_iff_eq, beq_eq_false_iff_ne, ne_eq, reduceCtorEq, true_iff, false_iff, Bool.not_eq_true', Bool.not_eq_false', bne_iff_ne, bne_eq_false_iff_eq, Bool.not_true, Bool.not_false, Decidable.not_not] at c2
      have hk3 : k = 3 := by omega
      subst hk3
      have er : restD l 3 a4 = bodyD l 3 0 false a4 0 := by unfold restD; rw [if_neg (by omega), if_neg (by omega)]
      refine body_m r6 k2 rfl k3 n23 n2 n3 (by omega) (by omega) (fun e q h11 f11 => he e (by rw [eq, er]; exact q) h11 (tn f11)) fun H a7 n7 q7 s1 s2' s7 s8 h11 f11 r11 D11 => ?_
      exact hk H a7 n7 (by rw [eq, er]; exact q7) s1 s2' s7 s8 h11 (tn f11) r11 (D11.fr (S := No) (Tn.refl _ _) (fun _ _ _ q => q) (by omega) (Nat.le_refl _))
end Go.Proofs.YtfomkkdijjfpiaaDoor
/- meta.Get and its deferred closure: the texts. -/
namespace Go.Proofs.YtfomkkdijjfpiaaDoor
open Go Go.Sh Go.WideShapes
set_option maxRecDepth 100000
abbrev K12 := Int → Sl → Sl → Int → Bool → Int → Int → Sl → Sl → Int → Sl → Int → Hp → Prop
noncomputable def code12 : Code := Tryd.f12.body.getD .skip
noncomputable def code29 : Code := Tryd.f29.body.getD .skip
def opc (c : Code) (i : Nat) : Oper := (regOps (sub [0] c)).getD i default
def callOf (o : Oper) : Call := match o.op with | .call c => c | .defer c => c | _ => default
def kv12 (K : Int → Sl → Sl → Int → Bool → Int → Int → Sl → Sl → Int → Sl → Int → Hp → Prop) : Value → Hp → Prop := fun v h => match v with | .tuple us => (let vs := us.toList; match (vs.getD 0 undef) with | .agg cs0 => (match (cs0.toList.getD 0 undef) with | .int _ r0_0 => (match (cs0.toList.getD 1 undef) with | .slice r0_1a r0_1n r0_1c => (let r0_1 : Sl := ⟨r0_1a, r0_1n, r0_1c⟩; match (cs0.toList.getD 2 undef) with | .slice r0_2a r0_2n r0_2c => (let r0_2 : Sl := ⟨r0_2a, r0_2n, r0_2c⟩; match (cs0.toList.getD 3 undef) with | .int _ r0_3 => (match (cs0.toList.getD 4 undef) with | .bool r0_4 => (match (cs0.toList.getD 5 undef) with | .int _ r0_5 => (match (cs0.toList.getD 6 undef) with | .int _ r0_6 => (match (cs0.toList.getD 7 undef) with | .slice r0_7a r0_7n r0_7c => (let r0_7 : Sl := ⟨r0_7a, r0_7n, r0_7c⟩; match (cs0.toList.getD 8 undef) with | .slice r0_8a r0_8n r0_8c => (let r0_8 : Sl := ⟨r0_8a, r0_8n, r0_8c⟩; match (vs.getD 1 undef) with | .agg cs1 => (match (cs1.toList.getD 0 undef) with | .int _ r1_0 => (match (cs1.toList.getD 1 undef) with | .slice r1_1a r1_1n r1_1c => (let r1_1 : Sl := ⟨r1_1a, r1_1n, r1_1c⟩; match (cs1.toList.getD 2 undef) with | .int _ r1_2 => (K r0_0 r0_1 r0_2 r0_3 r0_4 r0_5 r0_6 r0_7 r0_8 r1_0 r1_1 r1_2 h) | _ => False) | _ => False) | _ => False) | _ => False) | _ => False) | _ => False) | _ => False) | _ => False) | _ => False) | _ => False) | _ => False) | _ => False) | _ => False) | _ => False) | _ => False
def zs12 : List Value := [(.agg #[(.int .i64 0), (.slice none 0 0), (.slice none 0 0), (.int .i64 0), (.bool false), (.int .i64 0), (.int .i64 0), (.slice none 0 0), (.slice none 0 0)]), (.agg #[(.int .i64 0), (.slice none 0 0), (.int .i64 0)])]
def ord29 : List (Nat × OT × List Nat) := [(5, OT.l [0, 1, 2, 3, 4, 5, 6, 7] .fin, [0, 0, 2, 0, 8, 30, 1, 127])]
/-- nine cells are stored -/
def St9 (h : Hp) (a : Addr) (k : Int) (s1 s2 : Sl) (id : Int) (de : Bool) (rows press : Int) (s7 s8 : Sl) (K : Hp → Prop) : Prop :=
  St h a (.int .i64 k) fun h => St h (a.add 1) (Sl.v s1) fun h => St h (a.add 2) (Sl.v s2) fun h => St h (a.add 3) (.int .i64 id) fun h => St h (a.add 4) (.bool de) fun h => St h (a.add 5) (.int .i64 rows) fun h => St h (a.add 6) (.int .i64 press) fun h => St h (a.add 7) (Sl.v s7) fun h => St h (a.add 8) (Sl.v s8) K
def Ld9 (h : Hp) (a : Addr) (K : Int → Sl → Sl → Int → Bool → Int → Int → Sl → Sl → Prop) : Prop :=
  Ld h a (Value.int .i64) fun r0 => Ld h (a.add 1) (Sl.v) fun r1 => Ld h (a.add 2) (Sl.v) fun r2 => Ld h (a.add 3) (Value.int .i64) fun r3 => Ld h (a.add 4) (Value.bool) fun r4 => Ld h (a.add 5) (Value.int .i64) fun r5 => Ld h (a.add 6) (Value.int .i64) fun r6 => Ld h (a.add 7) (Sl.v) fun r7 => Ld h (a.add 8) (Sl.v) fun r8 => K r0 r1 r2 r3 r4 r5 r6 r7 r8
def St3 (h : Hp) (a : Addr) (e : Int) (s : Sl) (at' : Int) (K : Hp → Prop) : Prop :=
  St h a (.int .i64 e) fun h => St h (a.add 1) (Sl.v s) fun h => St h (a.add 2) (.int .i64 at') K
def Ld3 (h : Hp) (a : Addr) (K : Int → Sl → Int → Prop) : Prop :=
  Ld h a (Value.int .i64) fun r0 => Ld h (a.add 1) (Sl.v) fun r1 => Ld h (a.add 2) (Value.int .i64) fun r2 => K r0 r1 r2
/-- the closure behind a fault -/
def S29p (e : Er) (c0 c1 : Addr) (h : Hp) (K : Hp → Prop) : Prop :=
  New h #[(.int .i64 0), (.int .i64 0)] 69 fun a3 h => St h a3 (.int .i64 e.1) fun h => St h (a3.add 1) (.int .i64 e.2) fun h => Ld h a3 (Value.int .i64) fun x => Ld h (a3.add 1) (Value.int .i64) fun y =>
    St9 h c0 0 Sl.nil Sl.nil 0 false 0 0 Sl.nil Sl.nil fun h' => Keep h h' (a3.add 1) 1 (Keep h h' a3 1 (St3 h' c1 x Sl.nil y K))
theorem D29n {c0 c1 : Addr} {h : Hp} {K : Hp → Prop} (H : K h) : ∀ w, hpz w = h → DefRun Tryd.prog 29 [.pointer (some c0), .pointer (some c1)] .returning w fun u2 w' => u2 = .returning ∧ Same w w' ∧ K (hpz w') :=
  def_recover (P := Tryd.prog) (ann := []) (D := DrawSem Tryd.prog ord29) (drawOk _) (fn := Tryd.f29) (id := 0) (r1 := opc code29 0) (r2 := opc code29 1) (call := callOf (opc code29 0)) (rest := sub [1] code29) (tr := 5) (t2 := 2) (caps := [.pointer (some c0), .pointer (some c1)]) (K := K) (u := .returning) (u' := .returning) (rv := .nilIface)
    Tryd.func29 (by kernel_rfl) (by kernel_rfl) (by kernel_rfl) (by kernel_rfl) (by kernel_rfl) (by kernel_rfl) (by kernel_rfl) (by kernel_rfl) (by kernel_rfl) (by kernel_rfl) (by kernel_rfl) (.inl ⟨rfl, rfl, rfl⟩) (by kernel_rfl) (cast (by kernel_rfl) H)
theorem D29p {e : Er} {c0 c1 : Addr} {h : Hp} {K : Hp → Prop} (H : S29p e c0 c1 h K) : ∀ w, hpz w = h → DefRun Tryd.prog 29 [.pointer (some c0), .pointer (some c1)] (.panicking (stopV e)) w fun u2 w' => u2 = .panicking [{ v := (.iface 69 (.agg #[(.int .i64 e.1), (.int .i64 e.2)])), recovered := true }] ∧ Same w w' ∧ K (hpz w') :=
  def_recover (P := Tryd.prog) (ann := []) (D := DrawSem Tryd.prog ord29) (drawOk _) (fn := Tryd.f29) (id := 0) (r1 := opc code29 0) (r2 := opc code29 1) (call := callOf (opc code29 0)) (rest := sub [1] code29) (tr := 5) (t2 := 2) (caps := [.pointer (some c0), .pointer (some c1)]) (K := K) (u := .panicking (stopV e)) (u' := .panicking [{ v := (.iface 69 (.agg #[(.int .i64 e.1), (.int .i64 e.2)])), recovered := true }]) (rv := (.iface 69 (.agg #[(.int .i64 e.1), (.int .i64 e.2)])))
    Tryd.func29 (by kernel_rfl) (by kernel_rfl) (by kernel_rfl) (by kernel_rfl) (by kernel_rfl) (by kernel_rfl) (by kernel_rfl) (by kernel_rfl) (by kernel_rfl) (by kernel_rfl) (by kernel_rfl) (.inr ⟨rfl, rfl⟩) (by kernel_rfl) (cast (by kernel_rfl) H)
/-- the results are read at the end -/
def R12 (a2 a3 : Addr) (K : K12) (h : Hp) : Prop := Ld9 h a2 fun r0 r1 r2 r3 r4 r5 r6 r7 r8 => Ld3 h a3 fun q0 q1 q2 => K r0 r1 r2 r3 r4 r5 r6 r7 r8 q0 q1 q2 h
/-- behind the defer -/
def S12c (s : Sl) (a2 a3 : Addr) (h : Hp) (K : K12) (Kp : List PanicEntry → Hp → Prop) : Prop :=
  New h #[Sl.v s, .int .i64 0, .int .i64 0] 73 fun a4 h => Fn30 (some a4) h (fun r0 r1 r2 r3 r4 r5 r6 r7 r8 h => St9 h a2 r0 r1 r2 r3 r4 r5 r6 r7 r8 fun h =>
    Ld h (a4.add 1) (Value.int .i64) fun t14 => If (decide (t14 < (s.n : Int))) (Ld h (a4.add 1) (Value.int .i64) fun t21 => Kp [{ v := .iface 69 (.agg #[.int .i64 52, .int .i64 t21]), recovered := false }] h)
      (Ld9 h a2 fun r0 r1 r2 r3 r4 r5 r6 r7 r8 => Fn21 r0 r1 r2 r3 r4 r5 r6 r7 r8 h (fun t25 h => If (!t25) (Kp [{ v := .iface 69 (.agg #[.int .i64 50, .int .i64 0]), recovered := false }] h)
        (Ld9 h a2 fun r0 r1 r2 r3 r4 r5 r6 r7 r8 => St9 h a2 r0 r1 r2 r3 r4 r5 r6 r7 r8 fun h => St3 h a3 0 Sl.nil 0 fun h => R12 a2 a3 K h)) Kp)) Kp
noncomputable def fr12 (s : Sl) (a2 a3 : Addr) : Fr := ((([Sl.v s].map some ++ List.replicate (Tryd.f12.ntmps - [Sl.v s].length) none).set 2 (some (.pointer (some a2)))).set 3 (some (.pointer (some a3))))
/-- **GET**: its text, the deferred closure told by what it does. -/
theorem Fn12.of {s : Sl} {h : Hp} {K : K12} {Kp : List PanicEntry → Hp → Prop}
    (H : New h #[.int .i64 0, Sl.v Sl.nil, Sl.v Sl.nil, .int .i64 0, .bool false, .int .i64 0, .int .i64 0, Sl.v Sl.nil, Sl.v Sl.nil] 29 fun a2 h => New h #[.int .i64 0, Sl.v Sl.nil, .int .i64 0] 39 fun a3 h =>
      S12c s a2 a3 h K fun ch h => ∃ e : Er, ch = stopV e ∧ S29p e a2 a3 h fun h => R12 a2 a3 K h) : Fn12 s h K Kp := by
  have := fn_defer (P := Tryd.prog) (ann := []) (D := DrawSem Tryd.prog []) (drawOk _) (f := 12) (g := 29) (fn := Tryd.f12) (c1 := sub [0] code12) (c2 := sub [1, 1] code12) (id := 1) (o1 := opc (sub [1] code12) 0) (o2 := opc (sub [1] code12) 1) (tc := 5) (capOps := #[.tmp 2, .tmp 3]) (call := callOf (opc (sub [1] code12) 1)) [2, 3]
    (zs := zs12) (args := [Sl.v s]) (h := h) (Kv := kv12 K) (Kp := Kp) Tryd.func12 (by kernel_rfl) (by kernel_rfl) (by kernel_rfl) (by kernel_rfl) (by kernel_rfl) (by kernel_rfl) (by kernel_rfl) (by kernel_rfl) (by kernel_rfl) (by kernel_rfl) (by kernel_rfl) (by kernel_rfl) ?_
  · exact cast (by kernel_rfl) this
  · have X : ∀ a2 a3 h, (S12c s a2 a3 h K fun ch h => ∃ e : Er, ch = stopV e ∧ S29p e a2 a3 h fun h => R12 a2 a3 K h) → ∃ (caps : List Value) (KpX : List PanicEntry → Hp → Prop), Nat.blt 5 (fr12 s a2 a3).length = true ∧ evs (ev (fr12 s a2 a3)) [.tmp 2, .tmp 3] = some caps ∧
          sem Tryd.prog [] (DrawSem Tryd.prog []) none (sub [1, 1] code12) (retQ Tryd.prog Tryd.f12.results.toList zs12 (kv12 K)) KpX ((fr12 s a2 a3).set 5 (some (.func (.func 29) #[] caps.toArray))) h ∧
          (∀ w, DefRun Tryd.prog 29 caps .returning w fun u' w' => u' = .returning ∧ Same w w' ∧ hpz w' = hpz w) ∧
          (∀ ch w, KpX ch (hpz w) → DefRun Tryd.prog 29 caps (.panicking ch) w fun u' w' => settle u' = .returning ∧ Same w w' ∧ retV Tryd.prog Tryd.f12.results.toList (keepT [2, 3] ((fr12 s a2 a3).set 5 (some (.func (.func 29) #[] caps.toArray)))) (hpz w') fun vs => resUn zs12 (oneOr vs) fun v => kv12 K v (hpz w')) := by
      intro a2 a3 h hh
      refine ⟨[.pointer (some a2), .pointer (some a3)], fun ch h => ∃ e : Er, ch = stopV e ∧ S29p e a2 a3 h fun h => R12 a2 a3 K h, by kernel_rfl, by kernel_rfl, cast (by kernel_rfl) hh, fun w => ?_, ?_⟩
      · exact D29n (K := fun h' => h' = hpz w) rfl w rfl
      · rintro ch w ⟨e, rfl, q⟩
        refine (D29p q w rfl).mono ?_
        rintro e' u' w' ⟨hv, rfl, hs, r⟩
        exact ⟨hv, by kernel_rfl, hs, cast (by kernel_rfl) r⟩
    have Y : New h #[.int .i64 0, Sl.v Sl.nil, Sl.v Sl.nil, .int .i64 0, .bool false, .int .i64 0, .int .i64 0, Sl.v Sl.nil, Sl.v Sl.nil] 29 fun a2 h => New h #[.int .i64 0, Sl.v Sl.nil, .int .i64 0] 39 fun a3 h =>
        ∃ (caps : List Value) (KpX : List PanicEntry → Hp → Prop), Nat.blt 5 (fr12 s a2 a3).length = true ∧ evs (ev (fr12 s a2 a3)) [.tmp 2, .tmp 3] = some caps ∧
          sem Tryd.prog [] (DrawSem Tryd.prog []) none (sub [1, 1] code12) (retQ Tryd.prog Tryd.f12.results.toList zs12 (kv12 K)) KpX ((fr12 s a2 a3).set 5 (some (.func (.func 29) #[] caps.toArray))) h ∧
          (∀ w, DefRun Tryd.prog 29 caps .returning w fun u' w' => u' = .returning ∧ Same w w' ∧ hpz w' = hpz w) ∧
          (∀ ch w, KpX ch (hpz w) → DefRun Tryd.prog 29 caps (.panicking ch) w fun u' w' => settle u' = .returning ∧ Same w w' ∧ retV Tryd.prog Tryd.f12.results.toList (keepT [2, 3] ((fr12 s a2 a3).set 5 (some (.func (.func 29) #[] caps.toArray)))) (hpz w') fun vs => resUn zs12 (oneOr vs) fun v => kv12 K v (hpz w')) := X _ _ _ H
    exact cast (by kernel_rfl) Y
end Go.Proofs.YtfomkkdijjfpiaaDoor
/- meta.Get answers as the plain decoder. -/
namespace Go.Proofs.YtfomkkdijjfpiaaDoor
open Go Go.Sh Go.WideShapes
theorem numD_lt {l : List UInt8} {w a x a' : Nat} (h : numD l w a = .ok (x, a')) : x < 256 ^ w := by
  unfold numD takeD at h
  split at h <;> try cases h
  rename_i q
  split at q <;> cases q
  have := leN_lt (List.take w (List.drop a l))
  exact Nat.lt_of_lt_of_le this (Nat.pow_le_pow_right (by omega) (by simp; omega))
theorem textD_lt {l : List UInt8} {w a a' : Nat} {x : ByteArray} (h : textD l w a = .ok (x, a')) : x.size < 256 ^ w := by
  unfold textD at h
  split at h <;> try cases h
  rename_i n a1 q
  have hn := numD_lt q
  unfold takeD at h
  split at h <;> try cases h
  rename_i y a2 q2
  split at q2 <;> cases q2
  have : (bs ((l.drop a1).take n)).size = ((l.drop a1).take n).length := by simp [bs, ByteArray.size]
  rw [this]
  simp; omega
theorem repD_all {α : Type} {P : α → Prop} {f : Nat → Nat → Except Er (α × Nat × Nat)} (hf : ∀ a n x a' n', f a n = .ok (x, a', n') → P x) : ∀ {c a n : Nat} {xs : List α} {a' n' : Nat}, repD f c a n = .ok (xs, a', n') → xs.length = c ∧ ∀ x ∈ xs, P x
  | 0, a, n, xs, a', n', h => by unfold repD at h; cases h; exact ⟨rfl, by simp⟩
  | c + 1, a, n, xs, a', n', h => by
    unfold repD at h
    cases hq : f a n with
    | error e => rw [hq] at h; cases h
    | ok y =>
      obtain ⟨x, a1, n1⟩ := y
      rw [hq] at h
      simp only at h
      cases hr : repD f c a1 n1 with
      | error e => rw [hr] at h; cases h
      | ok z =>
        obtain ⟨ys, a2, n2⟩ := z
        rw [hr] at h
        cases h
        obtain ⟨h1, h2⟩ := repD_all hf hr
        exact ⟨by simp [h1], fun y hy => by
          rcases List.mem_cons.1 hy with rfl | hy
          · exact hf _ _ _ _ _ hq
          · exact h2 y hy⟩
theorem midD_lt {l : List UInt8} {k a : Nat} {m : Nat × Nat × Nat × Nat} {a' : Nat} (h : midD l k a = .ok (m, a')) : m.2.2.2 < 256 := by
  unfold midD at h
  split at h
  · split at h <;> cases h; exact (by decide : 0 < 256)
  split at h
  · split at h <;> cases h; exact (by decide : 1 < 256)
  split at h
  · split at h <;> try cases h
    split at h <;> cases h; exact (by decide : 1 < 256)
  split at h
  · split at h <;> cases h
    rename_i q; exact numD_lt q
  split at h <;> cases h <;> decide
theorem smls.mem : ∀ {fs : List Fld}, (∀ f ∈ fs, f.sml) → smls fs
  | [], _ => by unfold smls; trivial
  | f :: fs, h => by unfold smls; exact ⟨h f (by simp), smls.mem fun g hg => h g (by simp [hg])⟩
theorem fieldD_sml {l : List UInt8} : ∀ (fuel a n : Nat) (f : Fld) (a' n' : Nat), fieldD l fuel a n = .ok (f, a', n') → f.sml
  | 0, a, n, f, a', n', h => by unfold fieldD at h; cases h
  | fuel + 1, a, n, f, a', n', h => by
    unfold fieldD at h
    split at h <;> try cases h
    split at h <;> try cases h
    rename_i nm a1 q1
    split at h <;> try cases h
    split at h <;> try cases h
    split at h <;> try cases h
    rename_i w i x c a4 q4
    split at h <;> try cases h
    rename_i cs a5 n5 q5
    have h1 := textD_lt q1
    have h2 := midD_lt q4
    obtain ⟨h3, h4⟩ := repD_all (fun a n x a' n' => fieldD_sml fuel a n x a' n') q5
    unfold Fld.sml
    simp only at h2
    have : M63 = 9223372036854775807 := rfl
    exact ⟨by omega, by omega, smls.mem h4⟩
theorem schemaD_sml {l : List UInt8} {a n : Nat} {x : List Fld × List Md} {a' n' : Nat} (h : schemaD l a n = .ok (x, a', n')) : smls x.1 := by
  unfold schemaD at h
  split at h <;> try cases h
  split at h <;> try cases h
  rename_i q
  split at h <;> try cases h
  split at h <;> try cases h
  exact smls.mem (repD_all (fun a n x a' n' => fieldD_sml 64 a n x a' n') q).2
theorem bodyD_fs {l : List UInt8} {k id : Int} {de : Bool} {a n : Nat} {H : Hd} {a' n' : Nat} (h : bodyD l k id de a n = .ok (H, a', n')) : H.fs = [] := by
  unfold bodyD at h
  split at h <;> try cases h
  split at h <;> try cases h
  split at h <;> try cases h
  split at h <;> try cases h
  split at h <;> try cases h
  split at h <;> try cases h
  rfl
theorem headD_sml {l : List UInt8} {H : Hd} {a' n' : Nat} (h : headD l = .ok (H, a', n')) : smls H.fs := by
  unfold headD at h
  split at h <;> try cases h
  split at h <;> try cases h
  split at h <;> try cases h
  split at h <;> try cases h
  unfold restD at h
  have nl : ∀ {H : Hd}, H.fs = [] → smls H.fs := fun e => by rw [e]; unfold smls; trivial
  split at h
  · split at h <;> try cases h
    rename_i q; exact schemaD_sml q
  split at h
  · split at h <;> try cases h
    split at h <;> try cases h
    exact nl (bodyD_fs h)
  · exact nl (bodyD_fs h)
theorem getD_headD {l : List UInt8} {H : Hd} (h : getD l = .ok H) : HdOk H ∧ smls H.fs ∧ ∃ n', headD l = .ok (H, l.length, n') ∨ ∃ a, l.length < a ∧ headD l = .ok (H, a, n') := by
  unfold getD at h
  split at h <;> try cases h
  rename_i H' a n q
  split at h <;> try cases h
  split at h <;> cases h
  rename_i c hok
  refine ⟨hok, headD_sml q, n, ?_⟩
  by_cases e : a = l.length
  · subst e; exact .inl q
  · exact .inr ⟨a, by omega, q⟩
theorem Sv.rd {h : Hp} {s : Sl} {vs : List Value} (sv : Sv h s vs) : rd h s.a (s.n * 1) vs := by
  obtain ⟨h1, h2, h3⟩ := sv
  unfold Sh.rd
  cases hs : s.a with
  | none =>
    cases vs with
    | nil => rfl
    | cons x xs =>
      obtain ⟨a, ha, _⟩ := h3 (s.n - 1) (by simp at h1; omega)
      rw [hs] at ha; cases ha
  | some a =>
    refine ⟨by omega, fun i v hv => ?_⟩
    have : i < vs.length := (List.getElem?_eq_some_iff.1 hv).1
    obtain ⟨a', ha, hc⟩ := h3 (s.n - 1) (by omega)
    rw [hs] at ha; cases ha
    exact hc i v hv
/-- bytes are copied to new memory -/
theorem Ap_copy {h : Hp} {t : Sl} {x : List UInt8} {K : Sl → Hp → Prop} (hv : Sv h t (bv x)) (hx : x.length < 2 ^ 40) (hk : ∀ t1 h1, Grw h h1 → Sh h.size h1.size 1 h1 t1 (bv x) 5 → K t1 h1) : Ap h 5 #[(.int .u8 (0 : Int))] 1 1 (⟨none, 0, 0⟩ : Sl) t.n (rd h t.a (t.n * 1)) K := by
  have hn := hv.1
  have hn2 := hn
  rw [bv_len] at hn2
  refine Ap_sh (lo := h.size) (s := ⟨none, 0, 0⟩) (vs := []) (Sh.nil _ _ _ _ _) (Nat.le_refl _) rfl (new := bv x) (by omega) (fun v hv => ?_) (Sv.rd hv) (by simp only; omega) (by simp only; omega) fun s' h' f at' o _ => ?_
  · obtain ⟨b, _, rfl⟩ := List.mem_map.1 hv; rfl
  · exact hk s' h' (f.mono fun d hd _ => absurd hd (Sl.at_nil d)).grw (by simpa using o)
end Go.Proofs.YtfomkkdijjfpiaaDoor
/- Decoders put together: what they read is what is written; beginnings are short; faults have places. -/
namespace Go.Proofs.YtfomkkdijjfpiaaDoor
open Go Go.Sh Go.WideShapes
abbrev Dec (α : Type) := List UInt8 → Nat → Nat → Except Er (α × Nat × Nat)
def bindD {α β : Type} (D1 : Dec α) (D2 : α → Dec β) : Dec β := fun l a n => match D1 l a n with | .error e => .error e | .ok (x, a1, n1) => D2 x l a1 n1
def pureD {α : Type} (x : α) : Dec α := fun _ a n => .ok (x, a, n)
def up {α : Type} (D : List UInt8 → Nat → Except Er (α × Nat)) : Dec α := fun l a n => match D l a with | .error e => .error e | .ok (x, a1) => .ok (x, a1, n)
def repC {α : Type} (F : Dec α) (c : Nat) : Dec (List α) := fun l a n => repD (F l) c a n
/-- a fault has a number, and a place within -/
def ErrOk (l : List UInt8) (e : Er) : Prop := e.1 ≠ 0 ∧ 0 ≤ e.2 ∧ e.2 ≤ l.length
structure OkAt {α : Type} (D : Dec α) (S : α → List UInt8 → Prop) (l : List UInt8) (a n : Nat) (x : α) (a' n' : Nat) : Prop where
  seg : ∃ w, S x w ∧ a' = a + w.length ∧ l.drop a = w ++ l.drop a'
  le : a' ≤ l.length
  pre : ∀ m, a ≤ m → m < a' → ∃ y : Int, D (l.take m) a n = .error (51, y) ∧ 0 ≤ y ∧ y ≤ m
  same : ∀ m, a' ≤ m → D (l.take m) a n = .ok (x, a', n')
def Good {α : Type} (D : Dec α) (S : α → List UInt8 → Prop) : Prop := ∀ l a n, a ≤ l.length → (∀ e, D l a n = .error e → ErrOk l e) ∧ ∀ x a' n', D l a n = .ok (x, a', n') → OkAt D S l a n x a' n'
theorem Good.mono {α : Type} {D : Dec α} {S S' : α → List UInt8 → Prop} (g : Good D S) (h : ∀ x w, S x w → S' x w) : Good D S' := fun l a n ha =>
  ⟨(g l a n ha).1, fun x a' n' q => by
    obtain ⟨⟨w, hw, e1, e2⟩, h2, h3, h4⟩ := (g l a n ha).2 x a' n' q
    exact ⟨⟨w, h x w hw, e1, e2⟩, h2, h3, h4⟩⟩
theorem Good.bind {α β : Type} {D1 : Dec α} {D2 : α → Dec β} {S1 : α → List UInt8 → Prop} {S2 : α → β → List UInt8 → Prop} (g1 : Good D1 S1) (g2 : ∀ x w, S1 x w → Good (D2 x) (S2 x)) : Good (bindD D1 D2) (fun z w => ∃ x w1 w2, S1 x w1 ∧ S2 x z w2 ∧ w = w1 ++ w2) := by
  intro l a n ha
  obtain ⟨ge, gk⟩ := g1 l a n ha
  unfold bindD
  cases q1 : D1 l a n with
  | error e => exact ⟨fun e' q => by cases q; exact ge e q1, fun x a' n' q => by cases q⟩
  | ok y =>
    obtain ⟨x, a1, n1⟩ := y
    obtain ⟨⟨w1, hw1, e1, d1⟩, le1, pre1, same1⟩ := gk x a1 n1 q1
    obtain ⟨he, hk⟩ := g2 x w1 hw1 l a1 n1 le1
    refine ⟨fun e q => he e q, fun z a' n' q => ?_⟩
    obtain ⟨⟨w2, hw2, e2, d2⟩, le2, pre2, same2⟩ := hk z a' n' q
    refine ⟨⟨w1 ++ w2, ⟨x, w1, w2, hw1, hw2, rfl⟩, by rw [List.length_append]; omega, by rw [List.append_assoc, ← d2]; exact d1⟩, le2, fun m hm hlt => ?_, fun m hm => ?_⟩
    · by_cases h : m < a1
      · obtain ⟨y, hy, h0, hy2⟩ := pre1 m hm h
        exact ⟨y, by simp only [hy], h0, hy2⟩
      · have := same1 m (by omega)
        obtain ⟨y, hy, h0, hy2⟩ := pre2 m (by omega) hlt
        exact ⟨y, by simp only [this, hy], h0, hy2⟩
    · have := same1 m (by omega)
      simp only [this, same2 m hm]
theorem Good.pure {α : Type} (x : α) : Good (pureD x) (fun z w => z = x ∧ w = []) := fun l a n ha =>
  ⟨fun e q => by simp [pureD] at q, fun z a' n' q => by
    simp only [pureD, Except.ok.injEq, Prod.mk.injEq] at q
    obtain ⟨rfl, rfl, rfl⟩ := q
    exact ⟨⟨[], ⟨rfl, rfl⟩, by simp, by simp⟩, ha, fun m h1 h2 => by omega, fun m _ => rfl⟩⟩
theorem take_drop_take (l : List UInt8) (a n m : Nat) (h : a + n ≤ m) : (List.drop a (l.take m)).take n = (l.drop a).take n := by
  apply List.ext_getElem?
  intro i
  simp only [List.getElem?_take, List.getElem?_drop]
  split
  · rename_i hi
    rw [if_pos (by omega)]
  · rfl
theorem good_take (n : Nat) : Good (up fun l a => takeD l n a) (fun x w => w = x ∧ x.length = n) := by
  intro l a k ha
  have hup : ∀ l, up (fun l a => takeD l n a) l a k = match takeD l n a with | .error e => .error e | .ok (x, a1) => .ok (x, a1, k) := fun l => by unfold up; simp only; cases takeD l n a <;> rfl
  refine ⟨fun e q => ?_, fun x a' n' q => ?_⟩
  · rw [hup] at q
    unfold takeD at q
    split at q <;> cases q
    rename_i q; split at q <;> cases q
    exact ⟨by show (51 : Int) ≠ 0; decide, by simp, by simpa using ha⟩
  · rw [hup] at q
    unfold takeD at q
    split at q <;> cases q
    rename_i q; split at q <;> cases q
    rename_i c
    refine ⟨⟨_, ⟨rfl, by simp; omega⟩, by simp; omega, by rw [List.drop_drop.symm, List.take_append_drop]⟩, by omega, fun m h1 h2 => ?_, fun m h1 => ?_⟩
    · refine ⟨a, ?_, by omega, by omega⟩
      rw [hup]; unfold takeD
      rw [if_neg (by simp; omega)]
    · rw [hup]; unfold takeD
      rw [if_pos (by simp; omega), take_drop_take _ _ _ _ h1]
theorem b8_toNat (b : UInt8) (r : Int) : b8 ((b.toNat : Int) + 256 * r) = b := by
  unfold b8
  have hb := b.toNat_lt
  have e : ((b.toNat : Int) + 256 * r) % 256 = b.toNat := by omega
  rw [e]
  simp
theorem num_leN : ∀ x : List UInt8, num (leN x : Int) x.length = x
  | [] => rfl
  | b :: bs => by
    have e : ((leN (b :: bs) : Nat) : Int) = (b.toNat : Int) + 256 * (leN bs : Int) := by simp [leN]
    have hb := b.toNat_lt
    rw [List.length_cons, num, e, b8_toNat]
    have e2 : Int.fdiv ((b.toNat : Int) + 256 * (leN bs : Int)) 256 = (leN bs : Int) := by
      rw [Int.fdiv_eq_ediv_of_nonneg _ (by omega)]; omega
    rw [e2, num_leN bs]
theorem leN_num : ∀ (k : Nat) (x : Nat), x < 256 ^ k → leN (num (x : Int) k) = x
  | 0, x, h => by simp at h; subst h; rfl
  | k + 1, x, h => by
    have e2 : Int.fdiv (x : Int) 256 = ((x / 256 : Nat) : Int) := by
      rw [Int.fdiv_eq_ediv_of_nonneg _ (by omega)]; omega
    rw [num, e2, leN, leN_num k (x / 256) (by rw [Nat.pow_succ] at h; omega)]
    have : (b8 (x : Int)).toNat = x % 256 := by
      unfold b8
      rw [UInt8.toNat_ofNat']
      omega
    rw [this]; omega
theorem up_num (w : Nat) : (up fun l a => numD l w a) = bindD (up fun l a => takeD l w a) fun x => pureD (leN x) := by
  funext l a n
  simp only [up, bindD, pureD, numD]
  cases takeD l w a <;> rfl
theorem up_text (w : Nat) : (up fun l a => textD l w a) = bindD (up fun l a => numD l w a) fun c => bindD (up fun l a => takeD l c a) fun x => pureD (bs x) := by
  funext l a n
  simp only [up, bindD, pureD, textD]
  cases numD l w a with
  | error e => rfl
  | ok y => obtain ⟨c, a1⟩ := y; simp only; cases takeD l c a1 <;> rfl
theorem good_num (w : Nat) : Good (up fun l a => numD l w a) (fun x v => v = num (x : Int) w) := by
  rw [up_num]
  refine (Good.bind (good_take w) fun x _ _ => Good.pure (leN x)).mono ?_
  rintro z v ⟨x, w1, w2, ⟨rfl, hx⟩, ⟨rfl, rfl⟩, rfl⟩
  rw [← hx, num_leN, List.append_nil]
theorem bs_toList (x : List UInt8) : (bs x).data.toList = x := rfl
theorem good_text (w : Nat) : Good (up fun l a => textD l w a) (fun s v => v = num (s.size : Int) w ++ s.data.toList) := by
  rw [up_text]
  refine (Good.bind (good_num w) fun c _ _ => Good.bind (good_take c) fun x _ _ => Good.pure (bs x)).mono ?_
  rintro z v ⟨c, w1, w2, rfl, ⟨x, w3, w4, ⟨rfl, hx⟩, ⟨rfl, rfl⟩, rfl⟩, rfl⟩
  rw [List.append_nil, bs_toList]
  have : (bs w3).size = c := by rw [← hx]; rfl
  rw [this]
/-- a check behind what was read -/
theorem good_among (lo hi : Nat) : Good (up fun l a => amongD l lo hi a) (fun x v => v = num (x : Int) 1 ∧ lo ≤ x ∧ x ≤ hi) := by
  intro l a k ha
  obtain ⟨ge, gk⟩ := good_num 1 l a k ha
  unfold up at ge gk ⊢
  simp only at ge gk ⊢
  refine ⟨fun e q => ?_, fun x a' n' q => ?_⟩
  · cases hq : numD l 1 a with
    | error e' => simp only [amongD, hq] at q; cases q; exact ge _ (by rw [hq])
    | ok y =>
      obtain ⟨z, a1⟩ := y
      simp only [amongD, hq] at q
      split at q
      · rename_i q2; split at q2 <;> cases q2
        cases q
        exact ⟨by show (8 : Int) ≠ 0; decide, by simp, by simpa using ha⟩
      · cases q
  · cases hq : numD l 1 a with
    | error e' => simp only [amongD, hq] at q; cases q
    | ok y =>
      obtain ⟨z, a1⟩ := y
      simp only [amongD, hq] at q
      split at q
      · cases q
      rename_i q2; split at q2 <;> cases q2
      rename_i c
      cases q
      obtain ⟨⟨w, hw, e1, e2⟩, h2, h3, h4⟩ := gk _ _ _ (by rw [hq])
      refine ⟨⟨w, ⟨hw, c.1, c.2⟩, e1, e2⟩, h2, fun m hm hlt => ?_, fun m hm => ?_⟩
      · obtain ⟨y, hy, h0, hy2⟩ := h3 m hm hlt
        refine ⟨y, ?_, h0, hy2⟩
        cases hq2 : numD (l.take m) 1 a with
        | error e' => rw [hq2] at hy; simp only [amongD, hq2]; exact hy
        | ok y => rw [hq2] at hy; cases hy
      · have := h4 m hm
        cases hq2 : numD (l.take m) 1 a with
        | error e' => rw [hq2] at this; cases this
        | ok y => rw [hq2] at this; cases this; simp only [amongD, hq2, if_pos c]
theorem repC_succ {α : Type} (F : Dec α) (c : Nat) : repC F (c + 1) = bindD F fun x => bindD (repC F c) fun xs => pureD (x :: xs) := by
  funext l a n
  simp only [repC, bindD, pureD, repD]
  cases F l a n with
  | error e => rfl
  | ok y => obtain ⟨x, a1, n1⟩ := y; simp only; cases repD (F l) c a1 n1 <;> rfl
theorem good_rep {α : Type} {F : Dec α} {E : α → List UInt8} (g : Good F fun x v => v = E x) : ∀ c, Good (repC F c) (fun xs v => v = (xs.map E).flatten ∧ xs.length = c)
  | 0 => (Good.pure ([] : List α)).mono fun x w h => by obtain ⟨rfl, rfl⟩ := h; exact ⟨rfl, rfl⟩
  | c + 1 => by
    rw [repC_succ]
    refine (Good.bind g fun x _ _ => Good.bind (good_rep g c) fun xs _ _ => Good.pure (x :: xs)).mono ?_
    rintro z v ⟨x, w1, w2, rfl, ⟨xs, w3, w4, ⟨rfl, hl⟩, ⟨rfl, rfl⟩, rfl⟩, rfl⟩
    exact ⟨by simp, by simp [hl]⟩
end Go.Proofs.YtfomkkdijjfpiaaDoor
/- The decoder of heads, put together; what it reads is what is written. -/
namespace Go.Proofs.YtfomkkdijjfpiaaDoor
open Go Go.Sh Go.WideShapes
def numC (w : Nat) : Dec Nat := up fun l a => numD l w a
def amongC (lo hi : Nat) : Dec Nat := up fun l a => amongD l lo hi a
def textC (w : Nat) : Dec ByteArray := up fun l a => textD l w a
def midC (k : Nat) : Dec (Nat × Nat × Nat × Nat) := up fun l a => midD l k a
def fieldC (fuel : Nat) : Dec Fld := fun l a n => fieldD l fuel a n
def noteC : Dec Md := fun l a n => noteD l a n
def nodeC : Dec Nd := fun l a n => nodeD l a n
def slotC : Dec Bf := fun l a n => slotD l a n
def schemaC : Dec (List Fld × List Md) := fun l a n => schemaD l a n
def bodyC (k id : Int) (de : Bool) : Dec Hd := fun l a n => bodyD l k id de a n
theorem fieldC_l (fuel : Nat) (l : List UInt8) : fieldC fuel l = fieldD l fuel := rfl
theorem noteC_l (l : List UInt8) : noteC l = noteD l := rfl
theorem nodeC_l (l : List UInt8) : nodeC l = nodeD l := rfl
theorem slotC_l (l : List UInt8) : slotC l = slotD l := rfl
def fieldB (fuel : Nat) : Dec Fld := bindD (textC 1) fun nm => bindD (amongC 0 1) fun nul => bindD (amongC 1 20) fun k => bindD (midC k) fun m => bindD (repC (fieldC fuel) m.2.2.2) fun cs => pureD (.mk nm (nul == 1) k m.1 m.2.1 m.2.2.1 cs)
theorem fieldC_succ (fuel : Nat) : fieldC (fuel + 1) = fun l a n => if n + 1 > 256 then .error (50, (a : Int)) else fieldB fuel l a (n + 1) := by
  funext l a n
  rw [fieldC_l]
  simp only [fieldD]
  split
  · rfl
  simp only [fieldB, bindD, textC, amongC, midC, up, repC, pureD]
  cases textD l 1 a with
  | error e => rfl
  | ok y =>
    obtain ⟨x, a1⟩ := y
    simp only
    cases amongD l 0 1 a1 with
    | error e => rfl
    | ok y =>
      obtain ⟨x, a2⟩ := y
      simp only
      cases amongD l 1 20 a2 with
      | error e => rfl
      | ok y =>
        obtain ⟨k, a3⟩ := y
        simp only
        cases midD l k a3 with
        | error e => rfl
        | ok y =>
          obtain ⟨⟨w, i, x, c⟩, a4⟩ := y
          simp only [fieldC_l]
          cases repD (fieldD l fuel) c a4 (n + 1) with
          | error e => rfl
          | ok y => rfl
theorem noteC_eq : noteC = bindD (textC 2) fun x => bindD (textC 2) fun y => pureD (x, y) := by
  funext l a n
  simp only [noteC, noteD, bindD, textC, up, pureD]
  cases textD l 2 a with
  | error e => rfl
  | ok y => obtain ⟨x, a1⟩ := y; simp only; cases textD l 2 a1 <;> rfl
theorem nodeC_eq : nodeC = bindD (numC 4) fun x => bindD (numC 4) fun y => pureD ((x : Int), (y : Int)) := by
  funext l a n
  simp only [nodeC, nodeD, bindD, numC, up, pureD]
  cases numD l 4 a with
  | error e => rfl
  | ok y => obtain ⟨x, a1⟩ := y; simp only; cases numD l 4 a1 <;> rfl
theorem slotC_eq : slotC = bindD (numC 4) fun x => bindD (numC 4) fun y => bindD (numC 4) fun z => pureD ((x : Int), (y : Int), (z : Int)) := by
  funext l a n
  simp only [slotC, slotD, bindD, numC, up, pureD]
  cases numD l 4 a with
  | error e => rfl
  | ok y =>
    obtain ⟨x, a1⟩ := y; simp only
    cases numD l 4 a1 with
    | error e => rfl
    | ok y => obtain ⟨x, a1⟩ := y; simp only; cases numD l 4 a1 <;> rfl
theorem schemaC_eq : schemaC = bindD (numC 2) fun c => bindD (repC (fieldC 64) c) fun fs => bindD (numC 2) fun c2 => bindD (repC noteC c2) fun ms => pureD (fs, ms) := by
  funext l a n
  simp only [schemaC, schemaD, bindD, numC, up, pureD, repC, fieldC_l, noteC_l]
  cases numD l 2 a with
  | error e => rfl
  | ok y =>
    obtain ⟨x, a1⟩ := y; simp only
    cases repD (fieldD l 64) x a1 n with
    | error e => rfl
    | ok y =>
      obtain ⟨x, a1, n1⟩ := y; simp only
      cases numD l 2 a1 with
      | error e => rfl
      | ok y =>
        obtain ⟨x, a1⟩ := y; simp only
        cases repD (noteD l) x a1 n1 <;> rfl
theorem bodyC_eq (k id : Int) (de : Bool) : bodyC k id de = bindD (numC 4) fun rows => bindD (numC 1) fun press => bindD (numC 2) fun c => bindD (repC nodeC c) fun nodes => bindD (numC 2) fun c2 => bindD (repC slotC c2) fun bufs => pureD ⟨k, [], [], id, de, rows, press, nodes, bufs⟩ := by
  funext l a n
  simp only [bodyC, bodyD, bindD, numC, up, pureD, repC, nodeC_l, slotC_l]
  cases numD l 4 a with
  | error e => rfl
  | ok y =>
    obtain ⟨x, a1⟩ := y; simp only
    cases numD l 1 a1 with
    | error e => rfl
    | ok y =>
      obtain ⟨x, a1⟩ := y; simp only
      cases numD l 2 a1 with
      | error e => rfl
      | ok y =>
        obtain ⟨x, a1⟩ := y; simp only
        cases repD (nodeD l) x a1 n with
        | error e => rfl
        | ok y =>
          obtain ⟨x, a1, n1⟩ := y; simp only
          cases numD l 2 a1 with
          | error e => rfl
          | ok y =>
            obtain ⟨x, a1⟩ := y; simp only
            cases repD (slotD l) x a1 n1 <;> rfl
def restC (k : Nat) : Dec Hd :=
  if k = 1 then bindD schemaC fun x => pureD ⟨1, x.1, x.2, 0, false, 0, 0, [], []⟩
  else if k = 2 then bindD (numC 2) fun id => bindD (amongC 0 1) fun de => bodyC 2 id (de == 1)
  else bodyC 3 0 false
def headC : Dec Hd := bindD (amongC 1 3) fun k => bindD (amongC 1 1) fun _ => bindD (amongC 0 0) fun _ => bindD (amongC 0 0) fun _ => restC k
theorem headC_eq (l : List UInt8) : headD l = headC l 0 0 := by
  simp only [headD, headC, bindD, amongC, up]
  cases amongD l 1 3 0 with
  | error e => rfl
  | ok y =>
    obtain ⟨k, a1⟩ := y; simp only
    cases amongD l 1 1 a1 with
    | error e => rfl
    | ok y =>
      obtain ⟨x, a1⟩ := y; simp only
      cases amongD l 0 0 a1 with
      | error e => rfl
      | ok y =>
        obtain ⟨x, a1⟩ := y; simp only
        cases amongD l 0 0 a1 with
        | error e => rfl
        | ok y =>
          obtain ⟨x, a1⟩ := y
          simp only [restD, restC]
          split
          · simp only [bindD, schemaC, pureD]
            cases schemaD l a1 0 <;> rfl
          split
          · simp only [bindD, numC, amongC, up, bodyC]
            cases numD l 2 a1 with
            | error e => rfl
            | ok y =>
              obtain ⟨x, a1⟩ := y; simp only
              cases amongD l 0 1 a1 <;> rfl
          · rfl
theorem good_guard {α : Type} {D : Dec α} {S : α → List UInt8 → Prop} (g : Good D S) : Good (fun l a n => if n + 1 > 256 then .error (50, (a : Int)) else D l a (n + 1)) S := by
  intro l a n ha
  by_cases h : n + 1 > 256
  · simp only [if_pos h]
    exact ⟨fun e q => by cases q; exact ⟨by show (50 : Int) ≠ 0; decide, by simp, by simpa using ha⟩, fun x a' n' q => by cases q⟩
  · obtain ⟨ge, gk⟩ := g l a (n + 1) ha
    simp only [if_neg h]
    refine ⟨ge, fun x a' n' q => ?_⟩
    obtain ⟨h1, h2, h3, h4⟩ := gk x a' n' q
    exact ⟨h1, h2, fun m hm hlt => by simp only [if_neg h]; exact h3 m hm hlt, fun m hm => by simp only [if_neg h]; exact h4 m hm⟩
def midB (k : Nat) (m : Nat × Nat × Nat × Nat) : List UInt8 := if k = 14 ∨ k = 16 then num (m.1 : Int) 2 else if k = 19 then num (m.2.1 : Int) 2 ++ num (m.2.2.1 : Int) 1 else if k = 17 ∨ k = 18 then num (m.2.2.2 : Int) 1 else []
theorem good_mid (k : Nat) : Good (midC k) (fun m v => v = midB k m) := by
  by_cases h1 : k = 14 ∨ k = 16
  · have e : midC k = bindD (numC 2) fun w => pureD (w, 0, 0, if k = 14 then 0 else 1) := by
      funext l a n
      simp only [midC, midD, bindD, numC, up, pureD]
      rcases h1 with rfl | rfl
      · rw [if_pos rfl, if_pos rfl]; cases numD l 2 a <;> rfl
      · rw [if_neg (by decide), if_pos rfl, if_neg (by decide)]; cases numD l 2 a <;> rfl
    rw [e]
    refine (Good.bind (good_num 2) fun w _ _ => Good.pure _).mono ?_
    rintro z v ⟨w, w1, w2, rfl, ⟨rfl, rfl⟩, rfl⟩
    unfold midB; rw [if_pos h1, List.append_nil]
  by_cases h2 : k = 19
  · have e : midC k = bindD (numC 2) fun i => bindD (numC 1) fun x => pureD (0, i, x, 1) := by
      funext l a n
      simp only [midC, midD, bindD, numC, up, pureD]
      subst h2
      rw [if_neg (by decide), if_neg (by decide), if_pos rfl]
      cases numD l 2 a with
      | error e => rfl
      | ok y => obtain ⟨y, a1⟩ := y; simp only; cases numD l 1 a1 <;> rfl
    rw [e]
    refine (Good.bind (good_num 2) fun i _ _ => Good.bind (good_num 1) fun x _ _ => Good.pure _).mono ?_
    rintro z v ⟨w, w1, w2, rfl, ⟨x, w3, w4, rfl, ⟨rfl, rfl⟩, rfl⟩, rfl⟩
    unfold midB; rw [if_neg h1, if_pos h2, List.append_nil]
  by_cases h3 : k = 17 ∨ k = 18
  · have e : midC k = bindD (numC 1) fun c => pureD (0, 0, 0, c) := by
      funext l a n
      simp only [midC, midD, bindD, numC, up, pureD]
      rw [if_neg (by omega), if_neg (by omega), if_neg h2, if_pos h3]; cases numD l 1 a <;> rfl
    rw [e]
    refine (Good.bind (good_num 1) fun w _ _ => Good.pure _).mono ?_
    rintro z v ⟨w, w1, w2, rfl, ⟨rfl, rfl⟩, rfl⟩
    unfold midB; rw [if_neg h1, if_neg h2, if_pos h3, List.append_nil]
  · have e : midC k = pureD (0, 0, 0, if k = 15 ∨ k = 20 then 1 else 0) := by
      funext l a n
      simp only [midC, midD, up, pureD]
      rw [if_neg (by omega), if_neg (by omega), if_neg h2, if_neg h3]
      by_cases h4 : k = 15 ∨ k = 20
      · rw [if_pos h4, if_pos h4]
      · rw [if_neg h4, if_neg h4]
    rw [e]
    refine (Good.pure _).mono ?_
    rintro z v ⟨rfl, rfl⟩
    unfold midB; rw [if_neg h1, if_neg h2, if_neg h3]
theorem encs_flat (fs : List Fld) : encs fs = (fs.map Fld.enc).flatten := by
  induction fs with
  | nil => rfl
  | cons f fs ih => rw [encs, ih]; rfl
theorem flag_num {nul : Nat} (h : 0 ≤ nul ∧ nul ≤ 1) : num (if (nul == 1) = true then 1 else 0 : Int) 1 = num (nul : Int) 1 := by
  rcases (by omega : nul = 0 ∨ nul = 1) with rfl | rfl <;> rfl
theorem good_field : ∀ fuel, Good (fieldC fuel) (fun f v => v = f.enc)
  | 0 => fun l a n ha => ⟨fun e q => by cases q; exact ⟨by show (50 : Int) ≠ 0; decide, by simp, by simpa using ha⟩, fun x a' n' q => by cases q⟩
  | fuel + 1 => by
    rw [fieldC_succ]
    refine good_guard ?_
    unfold fieldB
    refine (Good.bind (good_text 1) fun nm _ _ => Good.bind (good_among 0 1) fun nul _ _ => Good.bind (good_among 1 20) fun k _ _ => Good.bind (good_mid k) fun m _ _ => Good.bind (good_rep (good_field fuel) m.2.2.2) fun cs _ _ => Good.pure _).mono ?_
    rintro f v ⟨nm, w1, v1, rfl, ⟨nul, w2, v2, ⟨rfl, hn⟩, ⟨k, w3, v3, ⟨rfl, hk⟩, ⟨m, w4, v4, rfl, ⟨cs, w5, v5, ⟨rfl, hc⟩, ⟨rfl, rfl⟩, rfl⟩, rfl⟩, rfl⟩, rfl⟩, rfl⟩
    unfold Fld.enc
    rw [flag_num hn, encs_flat]
    have e : (if (k : Int) = 14 ∨ (k : Int) = 16 then num (m.1 : Int) 2 else if (k : Int) = 19 then num (m.2.1 : Int) 2 ++ num (m.2.2.1 : Int) 1 else if (k : Int) = 17 ∨ (k : Int) = 18 then num (cs.length : Int) 1 else []) = midB k m := by
      unfold midB
      rw [hc]
      by_cases h1 : k = 14 ∨ k = 16
      · rw [if_pos h1, if_pos (by omega)]
      rw [if_neg h1, if_neg (by omega)]
      by_cases h2 : k = 19
      · rw [if_pos h2, if_pos (by omega)]
      rw [if_neg h2, if_neg (by omega)]
      by_cases h3 : k = 17 ∨ k = 18
      · rw [if_pos h3, if_pos (by omega)]
      rw [if_neg h3, if_neg (by omega)]
    rw [e]
    simp only [List.append_assoc, List.append_nil]
theorem good_note : Good noteC (fun m v => v = mdEnc m) := by
  rw [noteC_eq]
  refine (Good.bind (good_text 2) fun x _ _ => Good.bind (good_text 2) fun y _ _ => Good.pure _).mono ?_
  rintro z v ⟨x, w1, v1, rfl, ⟨y, w2, v2, rfl, ⟨rfl, rfl⟩, rfl⟩, rfl⟩
  simp only [mdEnc, text2, List.append_nil]
theorem good_node : Good nodeC (fun m v => v = ndEnc m) := by
  rw [nodeC_eq]
  refine (Good.bind (good_num 4) fun x _ _ => Good.bind (good_num 4) fun y _ _ => Good.pure _).mono ?_
  rintro z v ⟨x, w1, v1, rfl, ⟨y, w2, v2, rfl, ⟨rfl, rfl⟩, rfl⟩, rfl⟩
  simp only [ndEnc, List.append_nil]
theorem good_slot : Good slotC (fun m v => v = bfEnc m) := by
  rw [slotC_eq]
  refine (Good.bind (good_num 4) fun x _ _ => Good.bind (good_num 4) fun y _ _ => Good.bind (good_num 4) fun z _ _ => Good.pure _).mono ?_
  rintro z v ⟨x, w1, v1, rfl, ⟨y, w2, v2, rfl, ⟨z, w3, v3, rfl, ⟨rfl, rfl⟩, rfl⟩, rfl⟩, rfl⟩
  simp only [bfEnc, List.append_nil]
theorem good_schema : Good schemaC (fun x v => v = schemaEnc x.1 x.2) := by
  rw [schemaC_eq]
  refine (Good.bind (good_num 2) fun c _ _ => Good.bind (good_rep (good_field 64) c) fun fs _ _ => Good.bind (good_num 2) fun c2 _ _ => Good.bind (good_rep good_note c2) fun ms _ _ => Good.pure _).mono ?_
  rintro z v ⟨c, w1, v1, rfl, ⟨fs, w2, v2, ⟨rfl, hf⟩, ⟨c2, w3, v3, rfl, ⟨ms, w4, v4, ⟨rfl, hm⟩, ⟨rfl, rfl⟩, rfl⟩, rfl⟩, rfl⟩, rfl⟩
  simp only [schemaEnc, mdsEnc, encs_flat, List.append_nil, hf, hm]
theorem good_body (k id : Int) (de : Bool) : Good (bodyC k id de) (fun H v => ∃ rows press nodes bufs, H = ⟨k, [], [], id, de, rows, press, nodes, bufs⟩ ∧ v = tailEnc rows press nodes bufs) := by
  rw [bodyC_eq]
  refine (Good.bind (good_num 4) fun rows _ _ => Good.bind (good_num 1) fun press _ _ => Good.bind (good_num 2) fun c _ _ => Good.bind (good_rep good_node c) fun nodes _ _ => Good.bind (good_num 2) fun c2 _ _ => Good.bind (good_rep good_slot c2) fun bufs _ _ => Good.pure _).mono ?_
  rintro z v ⟨rows, w1, v1, rfl, ⟨press, w2, v2, rfl, ⟨c, w3, v3, rfl, ⟨nodes, w4, v4, ⟨rfl, hn⟩, ⟨c2, w5, v5, rfl, ⟨bufs, w6, v6, ⟨rfl, hb⟩, ⟨rfl, rfl⟩, rfl⟩, rfl⟩, rfl⟩, rfl⟩, rfl⟩, rfl⟩
  exact ⟨rows, press, nodes, bufs, rfl, by simp only [tailEnc, ndsEnc, bfsEnc, List.append_nil, hn, hb]⟩
theorem good_rest (k : Nat) (hk : 1 ≤ k ∧ k ≤ 3) : Good (restC k) (fun H v => num (k : Int) 1 ++ (num 1 1 ++ (num 0 2 ++ v)) = H.enc) := by
  unfold restC
  by_cases h1 : k = 1
  · rw [if_pos h1]
    subst h1
    refine (Good.bind good_schema fun x _ _ => Good.pure _).mono ?_
    rintro z v ⟨x, w1, v1, rfl, ⟨rfl, rfl⟩, rfl⟩
    simp only [Hd.enc, if_pos, List.append_nil]; rfl
  rw [if_neg h1]
  by_cases h2 : k = 2
  · rw [if_pos h2]
    subst h2
    refine (Good.bind (good_num 2) fun id _ _ => Good.bind (good_among 0 1) fun de _ _ => good_body 2 id (de == 1)).mono ?_
    rintro z v ⟨id, w1, v1, rfl, ⟨de, w2, v2, ⟨rfl, hd⟩, ⟨rows, press, nodes, bufs, rfl, rfl⟩, rfl⟩, rfl⟩
    simp only [Hd.enc]
    rw [flag_num hd, if_neg (by decide), if_pos trivial]
    simp only [List.append_assoc]; rfl
  · rw [if_neg h2]
    have h3 : k = 3 := by omega
    subst h3
    refine (good_body 3 0 false).mono ?_
    rintro z v ⟨rows, press, nodes, bufs, rfl, rfl⟩
    simp only [Hd.enc]
    rw [if_neg (by decide), if_neg (by decide)]
    simp only [List.nil_append]; rfl
theorem good_head : Good headC (fun H v => v = H.enc) := by
  unfold headC
  intro l a n ha
  have g : Good headC (fun H v => v = H.enc) := by
    unfold headC
    refine (Good.bind (good_among 1 3) fun k w hk => Good.bind (good_among 1 1) fun _ _ _ => Good.bind (good_among 0 0) fun _ _ _ => Good.bind (good_among 0 0) fun _ _ _ => good_rest k hk.2).mono ?_
    rintro H v ⟨k, w1, v1, ⟨rfl, hk⟩, ⟨x, w2, v2, ⟨rfl, hx⟩, ⟨y, w3, v3, ⟨rfl, hy⟩, ⟨z, w4, v4, ⟨rfl, hz⟩, hr, rfl⟩, rfl⟩, rfl⟩, rfl⟩
    rw [← hr]
    obtain rfl : x = 1 := by omega
    obtain rfl : y = 0 := by omega
    obtain rfl : z = 0 := by omega
    rfl
  exact g l a n ha
end Go.Proofs.YtfomkkdijjfpiaaDoor
/- What is written is read back; heads and their bytes. -/
namespace Go.Proofs.YtfomkkdijjfpiaaDoor
open Go Go.Sh Go.WideShapes
/-- where w stands, x is read -/
def Cmp {α : Type} (D : Dec α) (n : Nat) (x : α) (w : List UInt8) (n' : Nat) : Prop := ∀ l a r, l.drop a = w ++ r → a ≤ l.length → D l a n = .ok (x, a + w.length, n')
theorem drop_next {l w r : List UInt8} {a : Nat} (h : l.drop a = w ++ r) : l.drop (a + w.length) = r := by
  rw [← List.drop_drop, h, List.drop_left]
theorem drop_le {l w r : List UInt8} {a : Nat} (h : l.drop a = w ++ r) (ha : a ≤ l.length) : a + w.length ≤ l.length := by
  have := congrArg List.length h
  simp at this; omega
theorem Cmp.bind {α β : Type} {D1 : Dec α} {D2 : α → Dec β} {n n1 n2 : Nat} {x : α} {z : β} {w1 w2 w : List UInt8} (h1 : Cmp D1 n x w1 n1) (h2 : Cmp (D2 x) n1 z w2 n2) (hw : w = w1 ++ w2) : Cmp (bindD D1 D2) n z w n2 := by
  subst hw
  intro l a r h ha
  rw [List.append_assoc] at h
  unfold bindD
  rw [h1 l a _ h ha]
  simp only
  rw [h2 l _ r (drop_next h) (drop_le h ha), List.length_append, Nat.add_assoc]
theorem Cmp.pure {α : Type} {n : Nat} {x : α} : Cmp (pureD x) n x [] n := fun l a r _ _ => rfl
theorem Cmp.bindp {α β : Type} {D1 : Dec α} {f : α → β} {n n1 : Nat} {x : α} {w : List UInt8} (h1 : Cmp D1 n x w n1) : Cmp (bindD D1 fun x => pureD (f x)) n (f x) w n1 := h1.bind Cmp.pure (by simp)
theorem cmp_take (w : List UInt8) (n : Nat) : Cmp (up fun l a => takeD l w.length a) n w w n := by
  intro l a r h ha
  have hle := drop_le h ha
  unfold up
  simp only
  unfold takeD
  rw [if_pos (by omega), h, List.take_left]
theorem cmp_num {w x : Nat} (n : Nat) (hx : x < 256 ^ w) : Cmp (numC w) n x (num (x : Int) w) n := by
  unfold numC
  rw [up_num]
  have h := cmp_take (num (x : Int) w) n
  rw [num_len] at h
  have := Cmp.bindp (f := leN) h
  rwa [leN_num w x hx] at this
theorem cmp_among {lo hi x : Nat} (n : Nat) (hx : lo ≤ x ∧ x ≤ hi) (h8 : x < 256) : Cmp (amongC lo hi) n x (num (x : Int) 1) n := by
  intro l a r h ha
  have := cmp_num (w := 1) n h8 l a r h ha
  unfold numC up at this
  unfold amongC up
  simp only at this ⊢
  cases hq : numD l 1 a with
  | error e => rw [hq] at this; cases this
  | ok y =>
    obtain ⟨z, a1⟩ := y
    rw [hq] at this
    simp only [Except.ok.injEq, Prod.mk.injEq] at this
    obtain ⟨rfl, rfl, _⟩ := this
    simp only [amongD, hq, if_pos hx]
theorem bs_data (s : ByteArray) : bs s.data.toList = s := by cases s; rfl
theorem cmp_text {w : Nat} {s : ByteArray} (n : Nat) (hs : s.size < 256 ^ w) : Cmp (textC w) n s (num (s.size : Int) w ++ s.data.toList) n := by
  unfold textC
  rw [up_text]
  have h := cmp_take s.data.toList n
  have := Cmp.bindp (f := bs) h
  rw [bs_data] at this
  exact (cmp_num n hs).bind this rfl
theorem cmp_rep {α : Type} {F : Dec α} {E : α → List UInt8} {n : Nat} : ∀ {xs : List α}, (∀ x ∈ xs, Cmp F n x (E x) n) → Cmp (repC F xs.length) n xs (xs.map E).flatten n
  | [], _ => fun l a r _ _ => rfl
  | x :: xs, h => by
    rw [List.length_cons, repC_succ]
    exact (h x (by simp)).bind ((cmp_rep fun y hy => h y (by simp [hy])).bindp (f := fun xs => x :: xs)) (by simp)
theorem cmp_flds {fuel d : Nat} {ins : Bool} {fs : List Fld} (IH : ∀ f ∈ fs, ∀ (n : Nat) (ids : List Int), AllR n ids (f.places d [] ins) → Cmp (fieldC fuel) n f f.enc (n + (f.places d [] ins).length)) : ∀ {n : Nat} {ids : List Int}, AllR n ids (placesU d ins fs) → Cmp (repC (fieldC fuel) fs.length) n fs (encs fs) (n + (placesU d ins fs).length) := by
  induction fs with
  | nil => intro n ids _; exact fun l a r _ _ => rfl
  | cons f fs ih =>
    intro n ids h
    simp only [placesU, AllR_append] at h
    rw [List.length_cons, repC_succ]
    have h1 := IH f (by simp) n ids h.1
    have h2 := ih (fun g hg => IH g (by simp [hg])) h.2
    simp only [encs, placesU, List.length_append]
    rw [← Nat.add_assoc]
    exact h1.bind (h2.bindp (f := fun xs => f :: xs)) rfl
theorem cmp_mid {k w id ix n : Nat} {c : Nat} (hs : Shaped k w id ix c) : Cmp (midC k) n (w, id, ix, c) (midB k (w, id, ix, c)) n := by
  unfold Shaped at hs
  by_cases h1 : k = 14 ∨ k = 16
  · have e : midC k = bindD (numC 2) fun w => pureD (w, 0, 0, if k = 14 then 0 else 1) := by
      funext l a n
      simp only [midC, midD, bindD, numC, up, pureD]
      rcases h1 with rfl | rfl
      · rw [if_pos rfl, if_pos rfl]; cases numD l 2 a <;> rfl
      · rw [if_neg (by decide), if_pos rfl, if_neg (by decide)]; cases numD l 2 a <;> rfl
    rw [e]
    unfold midB; rw [if_pos h1]
    have h := Cmp.bindp (f := fun w => (w, 0, 0, if k = 14 then 0 else 1)) (cmp_num (w := 2) (x := w) n (by omega))
    obtain rfl : id = 0 := by omega
    obtain rfl : ix = 0 := by omega
    obtain rfl : c = if k = 14 then 0 else 1 := by split <;> omega
    exact h
  by_cases h2 : k = 19
  · have e : midC k = bindD (numC 2) fun i => bindD (numC 1) fun x => pureD (0, i, x, 1) := by
      funext l a n
      simp only [midC, midD, bindD, numC, up, pureD]
      subst h2
      rw [if_neg (by decide), if_neg (by decide), if_pos rfl]
      cases numD l 2 a with
      | error e => rfl
      | ok y => obtain ⟨y, a1⟩ := y; simp only; cases numD l 1 a1 <;> rfl
    rw [e]
    unfold midB; rw [if_neg h1, if_pos h2]
    obtain rfl : w = 0 := by omega
    obtain rfl : c = 1 := by omega
    exact (cmp_num (w := 2) (x := id) n (by omega)).bind (Cmp.bindp (f := fun x => (0, id, x, 1)) (cmp_num (w := 1) (x := ix) n (by omega))) rfl
  obtain rfl : id = 0 := by omega
  obtain rfl : ix = 0 := by omega
  obtain rfl : w = 0 := by omega
  by_cases h3 : k = 17 ∨ k = 18
  · have e : midC k = bindD (numC 1) fun c => pureD (0, 0, 0, c) := by
      funext l a n
      simp only [midC, midD, bindD, numC, up, pureD]
      rw [if_neg (by omega), if_neg (by omega), if_neg h2, if_pos h3]; cases numD l 1 a <;> rfl
    rw [e]
    unfold midB; rw [if_neg h1, if_neg h2, if_pos h3]
    exact Cmp.bindp (f := fun c => (0, 0, 0, c)) (cmp_num (w := 1) (x := c) n (by omega))
  · have e : midC k = pureD (0, 0, 0, if k = 15 ∨ k = 20 then 1 else 0) := by
      funext l a n
      simp only [midC, midD, up, pureD]
      rw [if_neg (by omega), if_neg (by omega), if_neg h2, if_neg h3]
      by_cases h4 : k = 15 ∨ k = 20
      · rw [if_pos h4, if_pos h4]
      · rw [if_neg h4, if_neg h4]
    rw [e]
    unfold midB; rw [if_neg h1, if_neg h2, if_neg h3]
    obtain rfl : c = if k = 15 ∨ k = 20 then 1 else 0 := by split <;> omega
    exact Cmp.pure
theorem cmp_field : ∀ (f : Fld) (d fuel : Nat) (ins : Bool) (n : Nat) (ids : List Int), d + fuel = 65 → AllR n ids (f.places d [] ins) → Cmp (fieldC fuel) n f f.enc (n + (f.places d [] ins).length)
  | .mk nm nul k w id ix cs, d, fuel, ins, n, ids, hd, h => by
    have IH : ∀ f ∈ cs, ∀ (n : Nat) (ids : List Int), AllR n ids (f.places (d + 1) [] (ins || k == 19)) → Cmp (fieldC (fuel - 1)) n f f.enc (n + (f.places (d + 1) [] (ins || k == 19)).length) := fun f hf n ids h => by
      by_cases hf0 : fuel = 0
      · exfalso
        obtain ⟨nm', nul', k', w', id', ix', cs'⟩ := f
        unfold Fld.places at h
        have := h.1.1
        simp only at this; omega
      · exact cmp_field f (d + 1) (fuel - 1) (ins || k == 19) n ids (by omega) h
    have hd2 : d ≤ 64 := by unfold Fld.places at h; exact h.1.1
    obtain ⟨fu, rfl⟩ : ∃ fu, fuel = fu + 1 := ⟨fuel - 1, by omega⟩
    rw [places_cons hd2] at h ⊢
    have h1 := h.1
    have h2 := (AllR_0.1 h.2).2
    have hn : n < 256 := h1.2.1
    have hnm := h1.2.2.1.2.1
    have hsh := h1.2.2.2.2.1
    simp only [Fld.name] at hnm
    simp only [Fld.k, Fld.w, Fld.id, Fld.ix, Fld.cs] at hsh
    have hcs := cmp_flds IH h2
    have hsh' := hsh
    unfold Shaped at hsh
    obtain ⟨k, rfl⟩ := Int.eq_ofNat_of_zero_le (by omega : 0 ≤ k)
    obtain ⟨w, rfl⟩ := Int.eq_ofNat_of_zero_le (by omega : 0 ≤ w)
    obtain ⟨id, rfl⟩ := Int.eq_ofNat_of_zero_le (by omega : 0 ≤ id)
    obtain ⟨ix, rfl⟩ := Int.eq_ofNat_of_zero_le (by omega : 0 ≤ ix)
    have hm := cmp_mid (n := n + 1) hsh'
    rw [fieldC_succ]
    have hB : Cmp (fieldB fu) (n + 1) (.mk nm nul k w id ix cs) (Fld.enc (.mk nm nul k w id ix cs)) (n + 1 + (placesU (d + 1) (ins || (k : Int) == 19) cs).length) := by
      unfold fieldB
      have hnul : ((if nul = true then 1 else 0 : Nat) == 1) = nul := by cases nul <;> rfl
      have c5 := hcs.bindp (f := fun cs => Fld.mk nm ((if nul = true then 1 else 0 : Nat) == 1) k w id ix cs)
      rw [Nat.add_sub_cancel] at c5
      have c4 := Cmp.bind (D2 := fun m => bindD (repC (fieldC fu) m.2.2.2) fun cs => pureD (Fld.mk nm ((if nul = true then 1 else 0 : Nat) == 1) k m.1 m.2.1 m.2.2.1 cs)) hm c5 rfl
      have c3 := Cmp.bind (D2 := fun k => bindD (midC k) fun m => bindD (repC (fieldC fu) m.2.2.2) fun cs => pureD (Fld.mk nm ((if nul = true then 1 else 0 : Nat) == 1) k m.1 m.2.1 m.2.2.1 cs)) (cmp_among (lo := 1) (hi := 20) (x := k) (n + 1) (by omega) (by omega)) c4 rfl
      have c2 := Cmp.bind (D2 := fun nul => bindD (amongC 1 20) fun k => bindD (midC k) fun m => bindD (repC (fieldC fu) m.2.2.2) fun cs => pureD (Fld.mk nm (nul == 1) k m.1 m.2.1 m.2.2.1 cs)) (cmp_among (lo := 0) (hi := 1) (x := if nul = true then 1 else 0) (n + 1) (by split <;> omega) (by split <;> omega)) c3 rfl
      have c1 := Cmp.bind (D2 := fun nm => bindD (amongC 0 1) fun nul => bindD (amongC 1 20) fun k => bindD (midC k) fun m => bindD (repC (fieldC fu) m.2.2.2) fun cs => pureD (Fld.mk nm (nul == 1) k m.1 m.2.1 m.2.2.1 cs)) (cmp_text (w := 1) (s := nm) (n + 1) (by omega)) c2 rfl
      rw [hnul] at c1
      have ew : Fld.enc (.mk nm nul k w id ix cs) = num (nm.size : Int) 1 ++ nm.data.toList ++ (num ((if nul = true then 1 else 0 : Nat) : Int) 1 ++ (num (k : Int) 1 ++ (midB k (w, id, ix, cs.length) ++ encs cs))) := by
        unfold Fld.enc
        have e : (if (k : Int) = 14 ∨ (k : Int) = 16 then num (w : Int) 2 else if (k : Int) = 19 then num (id : Int) 2 ++ num (ix : Int) 1 else if (k : Int) = 17 ∨ (k : Int) = 18 then num (cs.length : Int) 1 else []) = midB k (w, id, ix, cs.length) := by
          unfold midB
          by_cases h1 : k = 14 ∨ k = 16
          · rw [if_pos h1, if_pos (by omega)]
          rw [if_neg h1, if_neg (by omega)]
          by_cases h2 : k = 19
          · rw [if_pos h2, if_pos (by omega)]
          rw [if_neg h2, if_neg (by omega)]
          by_cases h3 : k = 17 ∨ k = 18
          · rw [if_pos h3, if_pos (by omega)]
          rw [if_neg h3, if_neg (by omega)]
        rw [e]
        have e2 : (if nul = true then 1 else 0 : Int) = ((if nul = true then 1 else 0 : Nat) : Int) := by cases nul <;> rfl
        rw [e2]
        simp only [List.append_assoc]
      rw [ew]
      exact c1
    intro l a r hr ha
    simp only [if_neg (by omega : ¬ n + 1 > 256)]
    rw [hB l a r hr ha, List.length_cons, L_len]
    congr 3
    omega
theorem cmp_note {m : Md} (n : Nat) (h : MdOk m) : Cmp noteC n m (mdEnc m) n := by
  unfold MdOk at h
  rw [noteC_eq]
  exact (cmp_text (w := 2) (s := m.1) n (by omega)).bind (Cmp.bindp (f := fun y => (m.1, y)) (cmp_text (w := 2) (s := m.2) n (by omega))) (by simp only [mdEnc, text2])
theorem cmp_node {m : Nd} (n : Nat) (h : NdOk m) : Cmp nodeC n m (ndEnc m) n := by
  unfold NdOk at h
  obtain ⟨x, y⟩ := m
  simp only at h
  obtain ⟨x, rfl⟩ := Int.eq_ofNat_of_zero_le (by omega : 0 ≤ x)
  obtain ⟨y, rfl⟩ := Int.eq_ofNat_of_zero_le (by omega : 0 ≤ y)
  rw [nodeC_eq]
  exact (cmp_num (w := 4) (x := x) n (by omega)).bind (Cmp.bindp (f := fun y : Nat => ((x : Int), (y : Int))) (cmp_num (w := 4) (x := y) n (by omega))) rfl
theorem cmp_slot {m : Bf} (n : Nat) (h : BfOk m) : Cmp slotC n m (bfEnc m) n := by
  unfold BfOk at h
  obtain ⟨x, y, z⟩ := m
  simp only at h
  obtain ⟨x, rfl⟩ := Int.eq_ofNat_of_zero_le (by omega : 0 ≤ x)
  obtain ⟨y, rfl⟩ := Int.eq_ofNat_of_zero_le (by omega : 0 ≤ y)
  obtain ⟨z, rfl⟩ := Int.eq_ofNat_of_zero_le (by omega : 0 ≤ z)
  rw [slotC_eq]
  exact (cmp_num (w := 4) (x := x) n (by omega)).bind ((cmp_num (w := 4) (x := y) n (by omega)).bind (Cmp.bindp (f := fun z : Nat => ((x : Int), (y : Int), (z : Int))) (cmp_num (w := 4) (x := z) n (by omega))) rfl) rfl
theorem all_mem {α : Type} {P : α → Prop} {xs : List α} (h : ∀ (j : Nat) x, xs[j]? = some x → P x) : ∀ x ∈ xs, P x := fun x hx => by
  obtain ⟨j, hj⟩ := List.mem_iff_getElem?.1 hx
  exact h j x hj
theorem cmp_schema {fs : List Fld} {ms : List Md} (h : SchOk fs ms) : ∃ n', Cmp schemaC 0 (fs, ms) (schemaEnc fs ms) n' := by
  obtain ⟨h1, h2, h3, _, h5⟩ := h
  rw [schemaC_eq]
  have c2 := cmp_flds (fuel := 64) (fun f _ n ids q => cmp_field f 1 64 false n ids rfl q) h5
  have c4 := cmp_rep (E := mdEnc) (n := 0 + (placesU 1 false fs).length) (xs := ms) fun m hm => cmp_note _ (all_mem h3 m hm)
  exact ⟨_, (cmp_num (w := 2) (x := fs.length) 0 (by omega)).bind (c2.bind ((cmp_num (w := 2) (x := ms.length) _ (by omega)).bind (Cmp.bindp (f := fun ms => (fs, ms)) c4) rfl) rfl) rfl⟩
theorem cmp_body {k id : Int} {de : Bool} {rows press : Int} {nodes : List Nd} {bufs : List Bf} (h1 : 0 ≤ rows ∧ rows ≤ 4096) (h2 : 0 ≤ press ∧ press ≤ 2) (h3 : nodes.length ≤ 512) (h4 : bufs.length ≤ 1536) (h5 : ∀ (j : Nat) x, nodes[j]? = some x → NdOk x) (h6 : ∀ (j : Nat) x, bufs[j]? = some x → BfOk x) :
    Cmp (bodyC k id de) 0 ⟨k, [], [], id, de, rows, press, nodes, bufs⟩ (tailEnc rows press nodes bufs) 0 := by
  obtain ⟨rows, rfl⟩ := Int.eq_ofNat_of_zero_le h1.1
  obtain ⟨press, rfl⟩ := Int.eq_ofNat_of_zero_le h2.1
  rw [bodyC_eq]
  have c4 := cmp_rep (E := ndEnc) (n := 0) (xs := nodes) fun m hm => cmp_node _ (all_mem h5 m hm)
  have c6 := cmp_rep (E := bfEnc) (n := 0) (xs := bufs) fun m hm => cmp_slot _ (all_mem h6 m hm)
  exact (cmp_num (w := 4) (x := rows) 0 (by omega)).bind ((cmp_num (w := 1) (x := press) 0 (by omega)).bind ((cmp_num (w := 2) (x := nodes.length) 0 (by omega)).bind (c4.bind ((cmp_num (w := 2) (x := bufs.length) 0 (by omega)).bind (Cmp.bindp (f := fun bufs : List Bf => (⟨k, [], [], id, de, rows, press, nodes, bufs⟩ : Hd)) c6) rfl) rfl) rfl) rfl) rfl
theorem cmp_head {H : Hd} (h : HdOk H) : ∃ n', Cmp headC 0 H H.enc n' := by
  obtain ⟨k, fs, ms, id, de, rows, press, nodes, bufs⟩ := H
  unfold HdOk at h
  simp only at h
  have top : ∀ (k : Nat) (H : Hd) (w : List UInt8) (n' : Nat), 1 ≤ k ∧ k ≤ 3 → Cmp (restC k) 0 H w n' → Cmp headC 0 H (num (k : Int) 1 ++ (num 1 1 ++ (num 0 2 ++ w))) n' := fun k H w n' hk c => by
    unfold headC
    exact (cmp_among 0 hk (by omega)).bind ((cmp_among (x := 1) 0 ⟨by omega, by omega⟩ (by omega)).bind ((cmp_among (x := 0) 0 ⟨by omega, by omega⟩ (by omega)).bind ((cmp_among (x := 0) 0 ⟨by omega, by omega⟩ (by omega)).bind c rfl) rfl) rfl) rfl
  rcases h with ⟨h1, h2, h3, h4, h5, h6, h7, h8⟩ | ⟨h1, h2, h3, h4, h5, h6, h7, h8, h9, h10, h11⟩
  · have e6 := List.eq_nil_of_length_eq_zero h6
    have e7 := List.eq_nil_of_length_eq_zero h7
    subst e6 e7 h1 h2 h3 h4 h5
    obtain ⟨n', c⟩ := cmp_schema h8
    refine ⟨n', ?_⟩
    have := top 1 ⟨1, fs, ms, 0, false, 0, 0, [], []⟩ (schemaEnc fs ms) n' (by omega) (by
      unfold restC; rw [if_pos rfl]; exact Cmp.bindp (f := fun x : List Fld × List Md => (⟨1, x.1, x.2, 0, false, 0, 0, [], []⟩ : Hd)) c)
    simp only [Hd.enc]
    rw [if_pos trivial]
    exact this
  · have e2 := List.eq_nil_of_length_eq_zero h2
    have e3 := List.eq_nil_of_length_eq_zero h3
    subst e2 e3
    rcases h1 with ⟨rfl, i1, i2⟩ | ⟨rfl, rfl, rfl⟩
    · obtain ⟨id, rfl⟩ := Int.eq_ofNat_of_zero_le i1
      refine ⟨0, ?_⟩
      have hde : ((if de = true then 1 else 0 : Nat) == 1) = de := by cases de <;> rfl
      have cb := cmp_body (k := 2) (id := id) (de := ((if de = true then 1 else 0 : Nat) == 1)) ⟨h4, h5⟩ ⟨h6, h7⟩ h8 h9 h10 h11
      have c6 := Cmp.bind (D2 := fun de : Nat => bodyC 2 id (de == 1)) (cmp_among (lo := 0) (hi := 1) (x := if de = true then 1 else 0) 0 (by split <;> omega) (by split <;> omega)) cb rfl
      have c5 := Cmp.bind (D2 := fun id : Nat => bindD (amongC 0 1) fun de => bodyC 2 id (de == 1)) (cmp_num (w := 2) (x := id) 0 (by omega)) c6 rfl
      rw [hde] at c5
      have := top 2 _ _ 0 (by omega) (by unfold restC; rw [if_neg (by decide), if_pos rfl]; exact c5)
      simp only [Hd.enc]
      rw [if_neg (by decide), if_pos trivial]
      have e2 : (if de = true then 1 else 0 : Int) = ((if de = true then 1 else 0 : Nat) : Int) := by cases de <;> rfl
      rw [e2]
      simp only [List.append_assoc]
      exact this
    · refine ⟨0, ?_⟩
      have cb := cmp_body (k := 3) (id := 0) (de := false) ⟨h4, h5⟩ ⟨h6, h7⟩ h8 h9 h10 h11
      have := top 3 _ _ 0 (by omega) (by unfold restC; rw [if_neg (by decide), if_neg (by decide)]; exact cb)
      simp only [Hd.enc]
      rw [if_neg (by decide), if_neg (by decide), List.nil_append]
      exact this
/-! ### what the laws need -/
theorem once_ok {l : List UInt8} {H : Hd} (h : getD l = .ok H) : HdOk H ∧ H.enc = l := by
  unfold getD at h
  rw [headC_eq] at h
  cases hq : headC l 0 0 with
  | error e => rw [hq] at h; cases h
  | ok y =>
    obtain ⟨G, a, n⟩ := y
    rw [hq] at h
    simp only at h
    split at h; · cases h
    split at h <;> cases h
    rename_i hlt hok
    obtain ⟨⟨w, rfl, e1, e2⟩, h2, _, _⟩ := (good_head l 0 0 (Nat.zero_le _)).2 _ _ _ hq
    refine ⟨hok, ?_⟩
    obtain rfl : a = l.length := by omega
    simp only [List.drop_zero, List.drop_length, List.append_nil] at e2
    exact e2.symm
theorem once_err {l : List UInt8} {e : Er} (h : getD l = .error e) : ErrOk l e := by
  unfold getD at h
  rw [headC_eq] at h
  cases hq : headC l 0 0 with
  | error e' => rw [hq] at h; cases h; exact (good_head l 0 0 (Nat.zero_le _)).1 e hq
  | ok y =>
    obtain ⟨G, a, n⟩ := y
    rw [hq] at h
    simp only at h
    split at h
    · cases h
      exact ⟨by show (52 : Int) ≠ 0; decide, by simp, by simp; omega⟩
    · split at h <;> cases h
      exact ⟨by show (50 : Int) ≠ 0; decide, by simp, by simp⟩
theorem head_back {H : Hd} (h : HdOk H) (more : List UInt8) : ∃ n', headC (H.enc ++ more) 0 0 = .ok (H, H.enc.length, n') := by
  obtain ⟨n', c⟩ := cmp_head h
  exact ⟨n', by have := c (H.enc ++ more) 0 more (by simp) (Nat.zero_le _); simpa using this⟩
theorem back_ok {H : Hd} (h : HdOk H) : getD H.enc = .ok H := by
  obtain ⟨n', e⟩ := head_back h []
  rw [List.append_nil] at e
  unfold getD
  rw [headC_eq, e]
  simp only
  rw [if_neg (by omega), if_pos h]
theorem back_more {H : Hd} (h : HdOk H) {more : List UInt8} (hm : more ≠ []) : getD (H.enc ++ more) = .error (52, (H.enc.length : Int)) := by
  obtain ⟨n', e⟩ := head_back h more
  unfold getD
  rw [headC_eq, e]
  simp only
  have := List.length_pos_iff.2 hm
  rw [if_pos (by simp; omega)]
theorem back_pre {H : Hd} (h : HdOk H) {m : Nat} (hm : m < H.enc.length) : ∃ y : Int, getD (H.enc.take m) = .error (51, y) ∧ 0 ≤ y ∧ y ≤ m := by
  obtain ⟨n', e⟩ := head_back h []
  rw [List.append_nil] at e
  obtain ⟨_, _, pre, _⟩ := (good_head H.enc 0 0 (Nat.zero_le _)).2 _ _ _ e
  obtain ⟨y, hy, h0, h1⟩ := pre m (Nat.zero_le _) hm
  refine ⟨y, ?_, h0, h1⟩
  unfold getD
  rw [headC_eq, hy]
end Go.Proofs.YtfomkkdijjfpiaaDoor
/- meta.Get answers as the plain decoder: the walk. -/
namespace Go.Proofs.YtfomkkdijjfpiaaDoor
open Go Go.Sh Go.WideShapes
abbrev B3 (h : Hp) (b : Nat) (e : Int) (s : Sl) (y : Int) : Prop := Blk h b #[.int .i64 e, Sl.v s, .int .i64 y] 39
theorem St9_i {h : Hp} {b : Nat} {cs : Array Value} {k id rows press : Int} {s1 s2 s7 s8 : Sl} {de : Bool} {K : Hp → Prop} (k2 : Blk h b cs 29) (hc : cs.size = 9) (hk : ∀ h', Only b h h' → B9 h' b k s1 s2 id de rows press s7 s8 → K h') : St9 h ⟨b, 0, none⟩ k s1 s2 id de rows press s7 s8 K := by
  obtain ⟨v0, v1, v2, v3, v4, v5, v6, v7, v8, e⟩ := len9 (l := cs.toList) (by simpa using hc)
  obtain rfl : cs = #[v0, v1, v2, v3, v4, v5, v6, v7, v8] := by cases cs; simp_all
  unfold St9
  simp only [add_blk, Nat.reduceAdd]
  refine St_i k2 (by simp) rfl fun h1 o1 k2 => St_i k2 (by simp) rfl fun h2 o2 k2 => St_i k2 (by simp) rfl fun h3 o3 k2 => St_i k2 (by simp) rfl fun h4 o4 k2 => St_i k2 (by simp) rfl fun h5 o5 k2 => St_i k2 (by simp) rfl fun h6 o6 k2 => St_i k2 (by simp) rfl fun h7 o7 k2 => St_i k2 (by simp) rfl fun h8 o8 k2 => St_i k2 (by simp) rfl fun h9 o9 k2 => ?_
  exact hk h9 ((((((((o1.trans o2).trans o3).trans o4).trans o5).trans o6).trans o7).trans o8).trans o9) (by simp at k2; exact k2)
theorem Ld9_i {h : Hp} {b : Nat} {k id rows press : Int} {s1 s2 s7 s8 : Sl} {de : Bool} {K : Int → Sl → Sl → Int → Bool → Int → Int → Sl → Sl → Prop} (k2 : B9 h b k s1 s2 id de rows press s7 s8) (hk : K k s1 s2 id de rows press s7 s8) : Ld9 h ⟨b, 0, none⟩ K := by
  unfold Ld9
  simp only [add_blk, Nat.reduceAdd]
  exact Ld_blk k2 rfl (Ld_blk k2 rfl (Ld_blk k2 rfl (Ld_blk k2 rfl (Ld_blk k2 rfl (Ld_blk k2 rfl (Ld_blk k2 rfl (Ld_blk k2 rfl (Ld_blk k2 rfl hk))))))))
theorem St3_i {h : Hp} {b : Nat} {cs : Array Value} {e y : Int} {s : Sl} {K : Hp → Prop} (k2 : Blk h b cs 39) (hc : cs.size = 3) (hk : ∀ h', Only b h h' → B3 h' b e s y → K h') : St3 h ⟨b, 0, none⟩ e s y K := by
  obtain ⟨v0, v1, v2, e⟩ := len3 (l := cs.toList) (by simpa using hc)
  obtain rfl : cs = #[v0, v1, v2] := by cases cs; simp_all
  unfold St3
  simp only [add_blk, Nat.reduceAdd]
  refine St_i k2 (by simp) rfl fun h1 o1 k2 => St_i k2 (by simp) rfl fun h2 o2 k2 => St_i k2 (by simp) rfl fun h3 o3 k2 => ?_
  exact hk h3 ((o1.trans o2).trans o3) (by simp at k2; exact k2)
theorem Ld3_i {h : Hp} {b : Nat} {e y : Int} {s : Sl} {K : Int → Sl → Int → Prop} (k2 : B3 h b e s y) (hk : K e s y) : Ld3 h ⟨b, 0, none⟩ K := by
  unfold Ld3
  simp only [add_blk, Nat.reduceAdd]
  exact Ld_blk k2 rfl (Ld_blk k2 rfl (Ld_blk k2 rfl hk))
section
variable {h : Hp} {b : Nat} {cs : Array Value} {k id rows press : Int} {s1 s2 s7 s8 : Sl} {de : Bool} {e y : Int} {s : Sl}
theorem St9_s {K : Hp → Prop} (k2 : Blk h b cs 29) (hc : cs.size = 9) (hk : ∀ h', Only b h h' → B9 h' b k s1 s2 id de rows press s7 s8 → K h') :
    St h ⟨b, 0, none⟩ (.int .i64 k) fun h => St h ⟨b, 1, none⟩ (Sl.v s1) fun h => St h ⟨b, 2, none⟩ (Sl.v s2) fun h => St h ⟨b, 3, none⟩ (.int .i64 id) fun h => St h ⟨b, 4, none⟩ (.bool de) fun h => St h ⟨b, 5, none⟩ (.int .i64 rows) fun h => St h ⟨b, 6, none⟩ (.int .i64 press) fun h => St h ⟨b, 7, none⟩ (Sl.v s7) fun h => St h ⟨b, 8, none⟩ (Sl.v s8) K := by
  have := St9_i (K := K) k2 hc hk
  unfold St9 at this
  simp only [add_blk, Nat.reduceAdd] at this
  exact this
theorem Ld9_s {K : Int → Sl → Sl → Int → Bool → Int → Int → Sl → Sl → Prop} (k2 : B9 h b k s1 s2 id de rows press s7 s8) (hk : K k s1 s2 id de rows press s7 s8) :
    Ld h ⟨b, 0, none⟩ (Value.int .i64) fun r0 => Ld h ⟨b, 1, none⟩ (Sl.v) fun r1 => Ld h ⟨b, 2, none⟩ (Sl.v) fun r2 => Ld h ⟨b, 3, none⟩ (Value.int .i64) fun r3 => Ld h ⟨b, 4, none⟩ (Value.bool) fun r4 => Ld h ⟨b, 5, none⟩ (Value.int .i64) fun r5 => Ld h ⟨b, 6, none⟩ (Value.int .i64) fun r6 => Ld h ⟨b, 7, none⟩ (Sl.v) fun r7 => Ld h ⟨b, 8, none⟩ (Sl.v) fun r8 => K r0 r1 r2 r3 r4 r5 r6 r7 r8 := by
  have := Ld9_i (K := K) k2 hk
  unfold Ld9 at this
  simp only [add_blk, Nat.reduceAdd] at this
  exact this
theorem St3_s {K : Hp → Prop} (k2 : Blk h b cs 39) (hc : cs.size = 3) (hk : ∀ h', Only b h h' → B3 h' b e s y → K h') : St h ⟨b, 0, none⟩ (.int .i64 e) fun h => St h ⟨b, 1, none⟩ (Sl.v s) fun h => St h ⟨b, 2, none⟩ (.int .i64 y) K := by
  have := St3_i (K := K) k2 hc hk
  unfold St3 at this
  simp only [add_blk, Nat.reduceAdd] at this
  exact this
theorem Ld3_s {K : Int → Sl → Int → Prop} (k2 : B3 h b e s y) (hk : K e s y) : Ld h ⟨b, 0, none⟩ (Value.int .i64) fun r0 => Ld h ⟨b, 1, none⟩ (Sl.v) fun r1 => Ld h ⟨b, 2, none⟩ (Value.int .i64) fun r2 => K r0 r1 r2 := by
  have := Ld3_i (K := K) k2 hk
  unfold Ld3 at this
  simp only [add_blk, Nat.reduceAdd] at this
  exact this
end
/-- behind a fault -/
theorem fault_m {e : Er} {h0 h : Hp} {b2 b3 : Nat} {cs cs' : Array Value} {K : K12} (k2 : Blk h b2 cs 29) (hc : cs.size = 9) (k3 : Blk h b3 cs' 39) (hc' : cs'.size = 3) (n2 : h0.size ≤ b2) (n3 : h0.size ≤ b3) (g : Grw h0 h)
    (hk : ∀ h', Grw h0 h' → K 0 Sl.nil Sl.nil 0 false 0 0 Sl.nil Sl.nil e.1 Sl.nil e.2 h') : S29p e ⟨b2, 0, none⟩ ⟨b3, 0, none⟩ h fun h => R12 ⟨b2, 0, none⟩ ⟨b3, 0, none⟩ K h := by
  have n23 : b2 ≠ b3 := fun q => by
    subst q
    have e := k2.symm.trans k3
    simp at e
  have i2 := k2.lt
  have i3 := k3.lt
  unfold S29p
  refine New_i fun b4 h1 e4 g1 k4 _ => ?_
  have k2 := k2.grw g1
  have k3 := k3.grw g1
  simp only [add_blk, Nat.reduceAdd]
  refine St_i k4 (by simp) rfl fun h2 o2 k4 => St_i k4 (by simp) rfl fun h3 o3 k4 => ?_
  have k4 : Blk h3 b4 #[.int .i64 e.1, .int .i64 e.2] 69 := by simpa using k4
  have o := o2.trans o3
  have k2 := o.blk k2 (by omega)
  have k3 := o.blk k3 (by omega)
  have g3 := o.grw (Grw.trans g g1) (by have := g.1; omega)
  refine Ld_blk k4 rfl (Ld_blk k4 rfl (St9_i k2 hc fun h5 o5 k2 => ?_))
  have k4' := o5.blk k4 (by omega)
  refine Keep_i k4 k4' rfl (Keep_i k4 k4' rfl (St3_i (o5.blk k3 (by omega)) hc' fun h6 o6 k3 => ?_))
  have k2 := o6.blk k2 n23
  unfold R12
  exact Ld9_i k2 (Ld3_i k3 (hk h6 (o6.grw (o5.grw g3 n2) n3)))
theorem get_m {h : Hp} {s : Sl} {l : List UInt8} {K : K12} {Kp : List PanicEntry → Hp → Prop} (tb : KTab h) (sv : Sv h s (bv l)) (hl : l.length ≤ 9223372036854775807)
    (he : ∀ e, getD l = .error e → ∀ h', Grw h h' → K 0 Sl.nil Sl.nil 0 false 0 0 Sl.nil Sl.nil e.1 Sl.nil e.2 h')
    (hk : ∀ H, getD l = .ok H → ∀ s1 s2 s7 s8 h', Grw h h' → HdD h.size h'.size h' H s1 s2 s7 s8 → K H.k s1 s2 H.id H.de H.rows H.press s7 s8 0 Sl.nil 0 h') : Fn12 s h K Kp := by
  have hn := sv.1
  rw [bv_len] at hn
  refine Fn12.of ?_
  refine New_i fun b2 h1 e2 g1 k2 _ => New_i fun b3 h2 e3 g2 k3 _ => ?_
  have k2 := k2.grw g2
  have g12 := Grw.trans g1 g2
  have i2 := k2.lt
  have i3 := k3.lt
  have s1 := g1.1
  have s2 := g2.1
  unfold S12c
  refine New_i fun b4 h3 e4 g3 k4 _ => ?_
  have k2 := k2.grw g3
  have k3 := k3.grw g3
  have g13 := Grw.trans g12 g3
  have R3 : Rm h b4 s l h3 0 0 := ⟨k4, g13, by omega, sv, hl, Nat.zero_le _⟩
  refine head_m R3 (fun e q h4 f4 => ?_) fun H a n q t1 t2 t7 t8 h4 f4 r4 D => ?_
  · exact ⟨e, rfl, fault_m (h0 := h) (f4.blk k2 (by omega)) rfl (f4.blk k3 (by omega)) rfl (by omega) (by omega) (Tn.old (by omega) g13 f4) fun h' g => he e (by unfold getD; rw [q]) h' g⟩
  · have k2 := f4.blk k2 (by omega)
    have k3 := f4.blk k3 (by omega)
    refine St9_i k2 rfl fun h5 o5 k2 => ?_
    have k3 := o5.blk k3 (by omega)
    have r5 := r4.fr o5.fr (by omega) (by omega)
    have g5 := r5.g
    have ha := r5.ha
    have D := D.fr o5.fr (fun b h1 h2 e => by omega) (Nat.le_refl _) (Nat.le_refl _)
    simp only [add_blk, Nat.reduceAdd]
    refine Ld_blk r5.blk rfl (If_i (fun c => ?_) fun c => ?_)
    · simp only [decide_eq_true_eq, decide_eq_false_iff_not, beq_iff_eq, beq_eq_false_iff_ne, ne_eq, reduceCtorEq, true_iff, false_iff, Bool.not_eq_true', Bool.not_eq_false', bne_iff_ne, bne_eq_false_iff_eq, Bool.not_true, Bool.not_false, Decidable.not_not] at c
      refine Ld_blk r5.blk rfl ⟨(52, a), rfl, fault_m (h0 := h) k2 rfl k3 rfl (by omega) (by omega) g5 fun h' g => he (52, a) (by unfold getD; rw [q]; simp only; rw [if_pos (by omega)]) h' g⟩
    · simp only [decide_eq_true_eq, decide_eq_false_iff_not, beq_iff_eq, beq_eq_false_iff_ne, ne_eq, reduceCtorEq, true_iff, false_iff, Bool.not_eq_true', Bool.not_eq_false', bne_iff_ne, bne_eq_false_iff_eq, Bool.not_true, Bool.not_false, Decidable.not_not] at c
      refine Ld9_i k2 ?_
      have may : ∃ m : Bool, (m = true ↔ HdOk H) := by
        by_cases q : HdOk H
        · exact ⟨true, by simp [q]⟩
        · exact ⟨false, by simp [q]⟩
      obtain ⟨m, hm⟩ := may
      refine may_c hm (headD_sml q) (tb.grw g5) (Grw.refl _) D.h fun h6 g6 => ?_
      have k2 := k2.grw g6
      have k3 := k3.grw g6
      have g6' := Grw.trans g5 g6
      cases m with
      | false =>
        refine ⟨(50, 0), rfl, fault_m (h0 := h) k2 rfl k3 rfl (by omega) (by omega) g6' fun h' g => he (50, 0) ?_ h' g⟩
        unfold getD; rw [q]; simp only
        rw [if_neg (by omega), if_neg (fun x => by have := hm.2 x; simp at this)]
      | true =>
        refine Ld9_i k2 (St9_i k2 rfl fun h7 o7 k2 => ?_)
        have k3 := o7.blk k3 (by omega)
        refine St3_i k3 rfl fun h8 o8 k3 => ?_
        have k2 := o8.blk k2 (by omega)
        unfold R12
        refine Ld9_i k2 (Ld3_i k3 (hk H ?_ t1 t2 t7 t8 h8 (o8.grw (o7.grw g6' (by omega)) (by omega)) ?_))
        · unfold getD; rw [q]; simp only
          rw [if_neg (by omega), if_pos (hm.1 rfl)]
        · have D6 := D.fr (S := No) (Tn.of_grw g6) (fun _ _ _ q => q) (Nat.le_refl _) (Nat.le_refl _)
          have D7 := D6.fr o7.fr (fun b h1 h2 e => by omega) (Nat.le_refl _) (Nat.le_refl _)
          have f1 := f4.1
          have z5 := o5.1
          have z6 := g6.1
          have z7 := o7.1
          have z8 := o8.1
          exact D7.fr o8.fr (fun b h1 h2 e => by omega) (by omega) (by omega)
end Go.Proofs.YtfomkkdijjfpiaaDoor
/- Equal heads are told equal. -/
namespace Go.Proofs.YtfomkkdijjfpiaaDoor
open Go Go.Sh Go.WideShapes
theorem Keep_cs {h h' : Hp} {a : Addr} {n : Nat} {X : Prop} {vs : List Value} (k : Cs h a vs) (k' : Cs h' a vs) (hn : vs.length = n) (hx : X) : Keep h h' a n X :=
  ⟨fun j hj => by
    have hj' : vs[j]? = some vs[j] := List.getElem?_eq_getElem (by omega)
    rw [k j _ hj', k' j _ hj'], hx⟩
theorem fault_same {e y : Int} {s t : Sl} {h : Hp} {K : Bool → Hp → Prop} {Kp : List PanicEntry → Hp → Prop} (hs : s.n = 0) (ht : t.n = 0) (hk : ∀ h', Grw h h' → K true h') : Fn14 e s y e t y h K Kp := by
  refine Fn14.of ?_
  unfold S14
  refine New_i fun b2 h1 e1 g1 k2 _ => New_i fun b3 h2 e2 g2 k3 _ => ?_
  have k2 := k2.grw g2
  simp only [add_blk, Nat.reduceAdd]
  refine Ld_blk k2 rfl (Ld_blk k3 rfl (If_f (by simp) (Ld_blk k2 rfl (Ld_blk k3 rfl ?_))))
  refine J14_3.of ?_
  unfold JT14_3
  simp only [add_blk, Nat.reduceAdd]
  refine If_f (by simp) (Ld_blk k2 rfl (Ld_blk k3 rfl (If_f (by simp [hs, ht]) ?_)))
  refine J14_1.of ?_
  unfold JT14_1
  refine L14_2.rule (fun x h' => x = 0 ∧ h' = h2) (fun _ _ => 0) ⟨rfl, rfl⟩ ?_
  rintro x h' ⟨rfl, rfl⟩ N1 hN
  unfold T14_2
  simp only [add_blk, Nat.reduceAdd]
  exact Ld_blk k2 rfl (If_f (by simp [hs]) (hk _ (Grw.trans g1 g2)))
/-- equal fields are told equal -/
def SameF : Fld → Prop
  | .mk _ _ _ _ _ _ cs => cs.length ≤ 9223372036854775807 → smls cs → ∀ {h0 h : Hp} {a b : Sl} {K : Bool → Hp → Prop} {Kp : List PanicEntry → Hp → Prop}, Grw h0 h → FsH h0 a cs → FsH h0 b cs → (∀ h', Grw h h' → K true h') → Fn36 a b h K Kp
theorem same_row {n : ByteArray} {nul : Bool} {k w id ix : Int} {u v x0 x1 : Sl} {i : Nat} {p q : Nat} {h : Hp} {N1 : Fr → Hp → Prop} {K : Bool → Hp → Prop} {Kp : List PanicEntry → Hp → Prop}
    (kp : Blk h p #[.string n, .bool nul, .int .i64 k, .int .i64 w, .int .i64 id, .int .i64 ix, Sl.v u] 63) (kq : Blk h q #[.string n, .bool nul, .int .i64 k, .int .i64 w, .int .i64 id, .int .i64 ix, Sl.v v] 63) (hi : (i : Int) < 9223372036854775807)
    (ih : ∀ (K : Bool → Hp → Prop), (∀ h', Grw h h' → K true h') → Fn36 u v h K Kp) (hN : ∀ h', Grw h h' → N1 (mk36_1 x0 x1 ((i + 1 : Nat) : Int)) h') : J36_2 x0 x1 (i : Int) ⟨p, 0, none⟩ ⟨q, 0, none⟩ N1 K Kp h := by
  refine J36_2.of ?_
  unfold JT36_2
  simp only [add_blk, Nat.reduceAdd]
  refine Ld_blk kp rfl (Ld_blk kq rfl (If_f (by simp) (Ld_blk kp rfl (Ld_blk kq rfl ?_))))
  refine J36_4.of ?_
  unfold JT36_4
  simp only [add_blk, Nat.reduceAdd]
  refine If_f (by simp) (Ld_blk kp rfl (Ld_blk kq rfl ?_))
  refine J36_5.of ?_
  unfold JT36_5
  simp only [add_blk, Nat.reduceAdd]
  refine If_f (by simp) (Ld_blk kp rfl (Ld_blk kq rfl ?_))
  refine J36_6.of ?_
  unfold JT36_6
  simp only [add_blk, Nat.reduceAdd]
  refine If_f (by simp) (Ld_blk kp rfl (Ld_blk kq rfl ?_))
  refine J36_7.of ?_
  unfold JT36_7
  simp only [add_blk, Nat.reduceAdd]
  refine If_f (by simp) (Ld_blk kp rfl (Ld_blk kq rfl (If_f (by simp) ?_)))
  refine J36_3.of ?_
  unfold JT36_3
  simp only [add_blk, Nat.reduceAdd]
  refine Ld_blk kp rfl (Ld_blk kq rfl (ih _ fun h' g => If_f rfl (Wr_i64 (by omega) (by omega) ?_)))
  have e : (i : Int) + 1 = ((i + 1 : Nat) : Int) := by omega
  rw [e]; exact hN h' g
theorem St7_i {h : Hp} {b : Nat} {cs : Array Value} {n : ByteArray} {nul : Bool} {k w id ix : Int} {u : Sl} {K : Hp → Prop} (k5 : Blk h b cs 63) (hc : cs.size = 7)
    (hk : ∀ h', Only b h h' → Blk h' b #[.string n, .bool nul, .int .i64 k, .int .i64 w, .int .i64 id, .int .i64 ix, Sl.v u] 63 → K h') :
    St h ⟨b, 0, none⟩ (.string n) fun h3 => St h3 ((⟨b, 0, none⟩ : Addr).add 1) (.bool nul) fun h4 => St h4 ((⟨b, 0, none⟩ : Addr).add 2) (.int .i64 k) fun h5 => St h5 ((⟨b, 0, none⟩ : Addr).add 3) (.int .i64 w) fun h6 =>
      St h6 ((⟨b, 0, none⟩ : Addr).add 4) (.int .i64 id) fun h7 => St h7 ((⟨b, 0, none⟩ : Addr).add 5) (.int .i64 ix) fun h8 => St h8 ((⟨b, 0, none⟩ : Addr).add 6) (Sl.v u) K := by
  obtain ⟨v0, v1, v2, v3, v4, v5, v6, e⟩ := len7 (l := cs.toList) (by simpa using hc)
  obtain rfl : cs = #[v0, v1, v2, v3, v4, v5, v6] := by cases cs; simp_all
  simp only [add_blk, Nat.reduceAdd]
  refine St_i k5 (by simp) rfl fun h2 o2 k5 => St_i k5 (by simp) rfl fun h3 o3 k5 => St_i k5 (by simp) rfl fun h4 o4 k5 => St_i k5 (by simp) rfl fun h5 o5 k5 => St_i k5 (by simp) rfl fun h6 o6 k5 => St_i k5 (by simp) rfl fun h7 o7 k5 => St_i k5 (by simp) rfl fun h8 o8 k5 => ?_
  exact hk h8 ((((((o2.trans o3).trans o4).trans o5).trans o6).trans o7).trans o8) (by simp at k5; exact k5)
theorem two_a {n n' : ByteArray} {nul nul' : Bool} {k w id ix k' w' id' ix' : Int} {u v : Sl} {h : Hp} {pa pb : Addr} {C : Addr → Addr → Hp → Prop} (hc : Cs h pa (vals7 n nul k w id ix u)) (hd : Cs h pb (vals7 n' nul' k' w' id' ix' v))
    (fin : ∀ (p q : Nat) h2, Grw h h2 → Blk h2 p #[.string n, .bool nul, .int .i64 k, .int .i64 w, .int .i64 id, .int .i64 ix, Sl.v u] 63 → Blk h2 q #[.string n', .bool nul', .int .i64 k', .int .i64 w', .int .i64 id', .int .i64 ix', Sl.v v] 63 → C ⟨p, 0, none⟩ ⟨q, 0, none⟩ h2) :
      New h #[(.string (bs [])), (.bool false), (.int .i64 (0 : Int)), (.int .i64 (0 : Int)), (.int .i64 (0 : Int)), (.int .i64 (0 : Int)), (.slice none 0 0)] 63 fun a6 h1 =>
      Keep h h1 pb 7 <|
      Keep h h1 pa 7 <|
      New h1 #[(.string (bs [])), (.bool false), (.int .i64 (0 : Int)), (.int .i64 (0 : Int)), (.int .i64 (0 : Int)), (.int .i64 (0 : Int)), (.slice none 0 0)] 63 fun a7 h2 =>
      Keep h1 h2 pb 7 <|
      Keep h1 h2 pa 7 <|
      St h2 a6 (.string n) fun h3 =>
      St h3 (a6.add 1) (.bool nul) fun h4 =>
      St h4 (a6.add 2) (.int .i64 k) fun h5 =>
      St h5 (a6.add 3) (.int .i64 w) fun h6 =>
      St h6 (a6.add 4) (.int .i64 id) fun h7 =>
      St h7 (a6.add 5) (.int .i64 ix) fun h8 =>
      St h8 (a6.add 6) (Sl.v u) fun h9 =>
      Keep h2 h9 pb 7 <|
      St h9 a7 (.string n') fun h10 =>
      St h10 (a7.add 1) (.bool nul') fun h11 =>
      St h11 (a7.add 2) (.int .i64 k') fun h12 =>
      St h12 (a7.add 3) (.int .i64 w') fun h13 =>
      St h13 (a7.add 4) (.int .i64 id') fun h14 =>
      St h14 (a7.add 5) (.int .i64 ix') fun h15 =>
      St h15 (a7.add 6) (Sl.v v) fun h16 => C a6 a7 h16 := by
  refine New_i fun b1 h1 e1 g1 k1 _ => ?_
  have hda := hd.grw g1
  have hca := hc.grw g1
  refine Keep_cs hd hda rfl (Keep_cs hc hca rfl ?_)
  refine New_i fun b2 h2 e2 g2 k2 _ => ?_
  have hdb := hda.grw g2
  refine Keep_cs hda hdb rfl (Keep_cs hca (hca.grw g2) rfl ?_)
  have k1 := k1.grw g2
  have i1 := k1.lt
  have z1 := g1.1
  have g12 := Grw.trans g1 g2
  refine St7_i k1 rfl fun h3 o3 k3 => ?_
  have g3 := o3.grw g12 (by omega)
  refine Keep_cs hdb (hd.grw g3) rfl ?_
  refine St7_i (o3.blk k2 (by omega)) rfl fun h4 o4 k4 => ?_
  exact fin _ _ _ (o4.grw g3 (by omega)) (o4.blk k3 (by omega)) k4
theorem two_b {n n' : ByteArray} {nul nul' : Bool} {k w id ix k' w' id' ix' : Int} {u v : Sl} {h : Hp} {pa pb : Addr} {C : Addr → Addr → Hp → Prop} (hc : Cs h pa (vals7 n nul k w id ix u)) (hd : Cs h pb (vals7 n' nul' k' w' id' ix' v))
    (fin : ∀ (p q : Nat) h2, Grw h h2 → Blk h2 p #[.string n, .bool nul, .int .i64 k, .int .i64 w, .int .i64 id, .int .i64 ix, Sl.v u] 63 → Blk h2 q #[.string n', .bool nul', .int .i64 k', .int .i64 w', .int .i64 id', .int .i64 ix', Sl.v v] 63 → C ⟨p, 0, none⟩ ⟨q, 0, none⟩ h2) :
      New h #[(.string (bs [])), (.bool false), (.int .i64 (0 : Int)), (.int .i64 (0 : Int)), (.int .i64 (0 : Int)), (.int .i64 (0 : Int)), (.slice none 0 0)] 63 fun a7 h1 =>
      Keep h h1 pb 7 <|
      Keep h h1 pa 7 <|
      New h1 #[(.string (bs [])), (.bool false), (.int .i64 (0 : Int)), (.int .i64 (0 : Int)), (.int .i64 (0 : Int)), (.int .i64 (0 : Int)), (.slice none 0 0)] 63 fun a6 h2 =>
      Keep h1 h2 pb 7 <|
      Keep h1 h2 pa 7 <|
      St h2 a6 (.string n) fun h3 =>
      St h3 (a6.add 1) (.bool nul) fun h4 =>
      St h4 (a6.add 2) (.int .i64 k) fun h5 =>
      St h5 (a6.add 3) (.int .i64 w) fun h6 =>
      St h6 (a6.add 4) (.int .i64 id) fun h7 =>
      St h7 (a6.add 5) (.int .i64 ix) fun h8 =>
      St h8 (a6.add 6) (Sl.v u) fun h9 =>
      Keep h2 h9 pb 7 <|
      St h9 a7 (.string n') fun h10 =>
      St h10 (a7.add 1) (.bool nul') fun h11 =>
      St h11 (a7.add 2) (.int .i64 k') fun h12 =>
      St h12 (a7.add 3) (.int .i64 w') fun h13 =>
      St h13 (a7.add 4) (.int .i64 id') fun h14 =>
      St h14 (a7.add 5) (.int .i64 ix') fun h15 =>
      St h15 (a7.add 6) (Sl.v v) fun h16 => C a6 a7 h16 := by
  refine New_i fun b1 h1 e1 g1 k1 _ => ?_
  have hda := hd.grw g1
  have hca := hc.grw g1
  refine Keep_cs hd hda rfl (Keep_cs hc hca rfl ?_)
  refine New_i fun b2 h2 e2 g2 k2 _ => ?_
  have hdb := hda.grw g2
  refine Keep_cs hda hdb rfl (Keep_cs hca (hca.grw g2) rfl ?_)
  have k1 := k1.grw g2
  have i1 := k1.lt
  have z1 := g1.1
  have g12 := Grw.trans g1 g2
  refine St7_i k2 rfl fun h3 o3 k3 => ?_
  have g3 := o3.grw g12 (by omega)
  refine Keep_cs hdb (hd.grw g3) rfl ?_
  refine St7_i (o3.blk k1 (by omega)) rfl fun h4 o4 k4 => ?_
  exact fin _ _ _ (o4.grw g3 (by omega)) (o4.blk k3 (by omega)) k4
theorem same_fs {cs : List Fld} (IH : ∀ f ∈ cs, SameF f) (hl : cs.length ≤ 9223372036854775807) (hs : smls cs) {h0 h : Hp} {a b : Sl} {K : Bool → Hp → Prop} {Kp : List PanicEntry → Hp → Prop} (g : Grw h0 h) (ha : FsH h0 a cs) (hb : FsH h0 b cs) (hk : ∀ h', Grw h h' → K true h') : Fn36 a b h K Kp := by
  have na := ha.n
  have nb := hb.n
  refine Fn36.of ?_
  unfold S36
  refine If_f (by simp [na.1, nb.1]) ?_
  refine L36_1.rule (fun x h' => ∃ i : Nat, x = i ∧ i ≤ cs.length ∧ Grw h h') (fun x _ => cs.length - x.toNat) ⟨0, rfl, by omega, Grw.refl _⟩ ?_
  rintro x h1 ⟨i, rfl, hi, g1⟩ N1 hN
  unfold T36_1
  refine If_i (fun c => ?_) fun c => ?_
  · simp only [decide_eq_true_eq, decide_eq_false_iff_not, beq_iff_eq, beq_eq_false_iff_ne, ne_eq, reduceCtorEq, true_iff, false_iff, Bool.not_eq_true', Bool.not_eq_false', bne_iff_ne, bne_eq_false_iff_eq, Bool.not_true, Bool.not_false, Decidable.not_not] at c
    have hi' : i < cs.length := by omega
    have hj : cs[i]? = some cs[i] := List.getElem?_eq_getElem hi'
    have hmem : cs[i] ∈ cs := List.getElem_mem hi'
    generalize cs[i] = f at hj hmem
    have IHf := IH f hmem
    have hsf := hs.get f hmem
    have g2 := Grw.trans g g1
    refine ha.ix rfl hj fun pa fa => ?_
    obtain ⟨n, nul, k, wd, id, ix, ds⟩ := f
    unfold Fld.sml at hsf
    have IHf := @IHf hsf.2.1 hsf.2.2
    unfold FldH at fa
    obtain ⟨u, hc, hu⟩ := fa
    have hc1 := hc.grw g2
    have c0 := hc1 0 _ rfl; have c1 := hc1 1 _ rfl; have c2 := hc1 2 _ rfl; have c3 := hc1 3 _ rfl; have c4 := hc1 4 _ rfl; have c5 := hc1 5 _ rfl; have c6 := hc1 6 _ rfl
    rw [add_zero'] at c0
    refine ⟨_, c0, _, c1, _, c2, _, c3, _, c4, _, c5, _, c6, ?_⟩
    refine hb.ix rfl hj fun pb fb => ?_
    unfold FldH at fb
    obtain ⟨v, hd, hv⟩ := fb
    have hd1 := hd.grw g2
    have d0 := hd1 0 _ rfl; have d1 := hd1 1 _ rfl; have d2 := hd1 2 _ rfl; have d3 := hd1 3 _ rfl; have d4 := hd1 4 _ rfl; have d5 := hd1 5 _ rfl; have d6 := hd1 6 _ rfl
    rw [add_zero'] at d0
    refine ⟨_, d0, _, d1, _, d2, _, d3, _, d4, _, d5, _, d6, ?_⟩
    have fin : ∀ (p q : Nat) h2, Grw h1 h2 → Blk h2 p #[.string n, .bool nul, .int .i64 k, .int .i64 wd, .int .i64 id, .int .i64 ix, Sl.v u] 63 → Blk h2 q #[.string n, .bool nul, .int .i64 k, .int .i64 wd, .int .i64 id, .int .i64 ix, Sl.v v] 63 → J36_2 a b (i : Int) ⟨p, 0, none⟩ ⟨q, 0, none⟩ N1 K Kp h2 := fun p q h2 g3 kp kq =>
      same_row kp kq (by omega) (fun K hK => IHf (Grw.trans g2 g3) hu hv hK) fun h' g' => hN _ _ ⟨i + 1, rfl, by omega, Grw.trans g1 (Grw.trans g3 g')⟩ (by omega)
    exact ⟨two_a hc1 hd1 fin, two_b hc1 hd1 fin⟩
  · simp only [decide_eq_true_eq, decide_eq_false_iff_not, beq_iff_eq, beq_eq_false_iff_ne, ne_eq, reduceCtorEq, true_iff, false_iff, Bool.not_eq_true', Bool.not_eq_false', bne_iff_ne, bne_eq_false_iff_eq, Bool.not_true, Bool.not_false, Decidable.not_not] at c
    exact hk _ g1
theorem same_f : ∀ f : Fld, SameF f
  | .mk _ _ _ _ _ _ cs => fun hl hs _ _ _ _ _ _ g ha hb hk => same_fs (fun f _ => same_f f) hl hs g ha hb hk
structure Hd.sz (H : Hd) : Prop where
  fs : H.fs.length ≤ 9223372036854775807
  sm : smls H.fs
  ms : H.ms.length ≤ 9223372036854775807
  nodes : H.nodes.length ≤ 9223372036854775807
  bufs : H.bufs.length ≤ 9223372036854775807
theorem HdH.grw {h h' : Hp} {H : Hd} {s1 s2 s7 s8 : Sl} (hh : HdH h H s1 s2 s7 s8) (g : Grw h h') : HdH h' H s1 s2 s7 s8 := ⟨FsH.grw g _ hh.fs, hh.ms.grw g, hh.nodes.grw g, hh.bufs.grw g⟩
theorem ba_refl (a : ByteArray) : (a == a) = true := by
  cases a with | mk d =>
  show (d == d) = true
  exact beq_self_eq_true d
theorem head_same {H : Hd} (sz : H.sz) {h0 h : Hp} {s1 s2 s7 s8 t1 t2 t7 t8 : Sl} {K : Bool → Hp → Prop} {Kp : List PanicEntry → Hp → Prop} (g : Grw h0 h) (ha : HdH h0 H s1 s2 s7 s8) (hb : HdH h0 H t1 t2 t7 t8) (hk : ∀ h', Grw h h' → K true h') :
    Fn15 H.k s1 s2 H.id H.de H.rows H.press s7 s8 H.k t1 t2 H.id H.de H.rows H.press t7 t8 h K Kp := by
  have a2 : s2.n = H.ms.length := by simpa using ha.ms.1
  have b2 : t2.n = H.ms.length := by simpa using hb.ms.1
  have a7 : s7.n = H.nodes.length := by simpa using ha.nodes.1
  have b7 : t7.n = H.nodes.length := by simpa using hb.nodes.1
  have a8 : s8.n = H.bufs.length := by simpa using ha.bufs.1
  have b8 : t8.n = H.bufs.length := by simpa using hb.bufs.1
  have z2 := sz.ms
  have z7 := sz.nodes
  have z8 := sz.bufs
  refine Fn15.of ?_
  unfold S15
  refine New_i fun x h1 e1 g1 kx _ => New_i fun y h2 e2 g2 ky _ => ?_
  have kx := kx.grw g2
  have g02 := Grw.trans g (Grw.trans g1 g2)
  have ha := ha.grw g02
  have hb := hb.grw g02
  have hk : ∀ h', Grw h2 h' → K true h' := fun h' g' => hk h' (Grw.trans (Grw.trans g1 g2) g')
  simp only [add_blk, Nat.reduceAdd]
  refine Ld_blk kx rfl (Ld_blk ky rfl (If_f (by simp) (Ld_blk kx rfl (Ld_blk ky rfl ?_))))
  refine J15_10.of ?_
  unfold JT15_10
  simp only [add_blk, Nat.reduceAdd]
  refine If_f (by simp) (Ld_blk kx rfl (Ld_blk ky rfl ?_))
  refine J15_11.of ?_
  unfold JT15_11
  simp only [add_blk, Nat.reduceAdd]
  refine If_f (by simp) (Ld_blk kx rfl (Ld_blk ky rfl ?_))
  refine J15_12.of ?_
  unfold JT15_12
  simp only [add_blk, Nat.reduceAdd]
  refine If_f (by simp) (Ld_blk kx rfl (Ld_blk ky rfl (If_f (by simp) ?_)))
  refine J15_1.of ?_
  unfold JT15_1
  simp only [add_blk, Nat.reduceAdd]
  refine Ld_blk kx rfl (Ld_blk ky rfl (If_f (by simp [a2, b2]) (Ld_blk kx rfl (Ld_blk ky rfl ?_))))
  refine J15_9.of ?_
  unfold JT15_9
  simp only [add_blk, Nat.reduceAdd]
  refine If_f (by simp [a7, b7]) (Ld_blk kx rfl (Ld_blk ky rfl (If_f (by simp [a8, b8]) ?_)))
  refine J15_2.of ?_
  unfold JT15_2
  refine L15_8.rule (fun z h' => h2 = h' ∧ ∃ i : Nat, z = i ∧ i ≤ H.ms.length) (fun z _ => H.ms.length - z.toNat) ⟨rfl, 0, rfl, by omega⟩ ?_
  rintro z h' ⟨rfl, i, rfl, hi⟩ N1 hN
  unfold T15_8
  simp only [add_blk, Nat.reduceAdd]
  refine Ld_blk kx rfl (If_i (fun c => ?_) fun c => ?_)
  · simp only [decide_eq_true_eq, decide_eq_false_iff_not, beq_iff_eq, beq_eq_false_iff_ne, ne_eq, reduceCtorEq, true_iff, false_iff, Bool.not_eq_true', Bool.not_eq_false', bne_iff_ne, bne_eq_false_iff_eq, Bool.not_true, Bool.not_false, Decidable.not_not] at c
    have hj : H.ms[i]? = some H.ms[i] := List.getElem?_eq_getElem (by omega)
    generalize H.ms[i] = r at hj
    refine Ld_blk kx rfl (ha.ms.ix rfl hj fun a ca => ?_)
    refine ⟨_, Cs.c0 ca, _, ca 1 _ rfl, Ld_blk ky rfl (hb.ms.ix rfl hj fun b cb => ?_)⟩
    refine ⟨_, Cs.c0 cb, _, cb 1 _ rfl, If_f (by simp [ba_refl]) (Wr_i64 (by omega) (by omega) (hN _ _ ⟨rfl, i + 1, by omega, by omega⟩ (by omega)))⟩
  clear hi c hN N1
  refine J15_3.of ?_
  unfold JT15_3
  refine L15_7.rule (fun z h' => h2 = h' ∧ ∃ i : Nat, z = i ∧ i ≤ H.nodes.length) (fun z _ => H.nodes.length - z.toNat) ⟨rfl, 0, rfl, by omega⟩ ?_
  rintro z h' ⟨rfl, i, rfl, hi⟩ N1 hN
  unfold T15_7
  simp only [add_blk, Nat.reduceAdd]
  refine Ld_blk kx rfl (If_i (fun c => ?_) fun c => ?_)
  · simp only [decide_eq_true_eq, decide_eq_false_iff_not, beq_iff_eq, beq_eq_false_iff_ne, ne_eq, reduceCtorEq, true_iff, false_iff, Bool.not_eq_true', Bool.not_eq_false', bne_iff_ne, bne_eq_false_iff_eq, Bool.not_true, Bool.not_false, Decidable.not_not] at c
    have hj : H.nodes[i]? = some H.nodes[i] := List.getElem?_eq_getElem (by omega)
    generalize H.nodes[i] = r at hj
    refine Ld_blk kx rfl (ha.nodes.ix rfl hj fun a ca => ?_)
    refine ⟨_, Cs.c0 ca, _, ca 1 _ rfl, Ld_blk ky rfl (hb.nodes.ix rfl hj fun b cb => ?_)⟩
    refine ⟨_, Cs.c0 cb, _, cb 1 _ rfl, If_f (by simp) (Wr_i64 (by omega) (by omega) (hN _ _ ⟨rfl, i + 1, by omega, by omega⟩ (by omega)))⟩
  clear hi c hN N1
  refine J15_4.of ?_
  unfold JT15_4
  refine L15_6.rule (fun z h' => h2 = h' ∧ ∃ i : Nat, z = i ∧ i ≤ H.bufs.length) (fun z _ => H.bufs.length - z.toNat) ⟨rfl, 0, rfl, by omega⟩ ?_
  rintro z h' ⟨rfl, i, rfl, hi⟩ N1 hN
  unfold T15_6
  simp only [add_blk, Nat.reduceAdd]
  refine Ld_blk kx rfl (If_i (fun c => ?_) fun c => ?_)
  · simp only [decide_eq_true_eq, decide_eq_false_iff_not, beq_iff_eq, beq_eq_false_iff_ne, ne_eq, reduceCtorEq, true_iff, false_iff, Bool.not_eq_true', Bool.not_eq_false', bne_iff_ne, bne_eq_false_iff_eq, Bool.not_true, Bool.not_false, Decidable.not_not] at c
    have hj : H.bufs[i]? = some H.bufs[i] := List.getElem?_eq_getElem (by omega)
    generalize H.bufs[i] = r at hj
    refine Ld_blk kx rfl (ha.bufs.ix rfl hj fun a ca => ?_)
    refine ⟨_, Cs.c0 ca, _, ca 1 _ rfl, _, ca 2 _ rfl, Ld_blk ky rfl (hb.bufs.ix rfl hj fun b cb => ?_)⟩
    refine ⟨_, Cs.c0 cb, _, cb 1 _ rfl, _, cb 2 _ rfl, If_f (by simp) (Wr_i64 (by omega) (by omega) (hN _ _ ⟨rfl, i + 1, by omega, by omega⟩ (by omega)))⟩
  refine J15_5.of ?_
  unfold JT15_5
  simp only [add_blk, Nat.reduceAdd]
  exact Ld_blk kx rfl (Ld_blk ky rfl (same_fs (fun f _ => same_f f) sz.fs sz.sm (Grw.refl _) ha.fs hb.fs fun h' g' => hk h' g'))
end Go.Proofs.YtfomkkdijjfpiaaDoor
/- What Get answers, in one word. -/
namespace Go.Proofs.YtfomkkdijjfpiaaDoor
open Go Go.Sh Go.WideShapes
/-- the zero head -/
def HdZ : Hd := ⟨0, [], [], 0, false, 0, 0, [], []⟩
theorem HdZ_D {lo hi : Nat} {h : Hp} : HdD lo hi h HdZ Sl.nil Sl.nil Sl.nil Sl.nil := ⟨by unfold HdZ FsD; exact ⟨rfl, Nat.le_refl _⟩, Sh.nil _ _ _ _ _, Sh.nil _ _ _ _ _, Sh.nil _ _ _ _ _⟩
theorem HdZ_sz : HdZ.sz := ⟨by decide, by unfold HdZ smls; trivial, by decide, by decide, by decide⟩
theorem HdOk.sz {H : Hd} (h : HdOk H) (hs : smls H.fs) : H.sz := by
  rcases h with ⟨_, _, _, _, _, h1, h2, h3, h4, _⟩ | ⟨_, h1, h2, _, _, _, _, h3, h4, _⟩
  · exact ⟨by omega, hs, by omega, by omega, by omega⟩
  · exact ⟨by omega, hs, by omega, by omega, by omega⟩
/-- what Get answers: the head, the number of the fault, its place -/
def GetR (l : List UInt8) (H : Hd) (e y : Int) : Prop := match getD l with
  | .error er => H = HdZ ∧ e = er.1 ∧ y = er.2
  | .ok G => H = G ∧ e = 0 ∧ y = 0
theorem GetR.err {l : List UInt8} {er : Er} (q : getD l = .error er) : GetR l HdZ er.1 er.2 := by unfold GetR; rw [q]; exact ⟨rfl, rfl, rfl⟩
theorem GetR.okk {l : List UInt8} {H : Hd} (q : getD l = .ok H) : GetR l H 0 0 := by unfold GetR; rw [q]; exact ⟨rfl, rfl, rfl⟩
theorem GetR.eq {l : List UInt8} {H G : Hd} {e y e' y' : Int} (a : GetR l H e y) (b : GetR l G e' y') : H = G ∧ e = e' ∧ y = y' := by
  unfold GetR at a b
  cases hq : getD l with
  | error er => rw [hq] at a b; obtain ⟨rfl, rfl, rfl⟩ := a; obtain ⟨rfl, rfl, rfl⟩ := b; exact ⟨rfl, rfl, rfl⟩
  | ok X => rw [hq] at a b; obtain ⟨rfl, rfl, rfl⟩ := a; obtain ⟨rfl, rfl, rfl⟩ := b; exact ⟨rfl, rfl, rfl⟩
theorem GetR.sz {l : List UInt8} {H : Hd} {e y : Int} (a : GetR l H e y) : H.sz := by
  unfold GetR at a
  cases hq : getD l with
  | error er => rw [hq] at a; obtain ⟨rfl, _⟩ := a; exact HdZ_sz
  | ok X => rw [hq] at a; obtain ⟨rfl, _⟩ := a; exact (getD_headD hq).1.sz (getD_headD hq).2.1
theorem get_r {h : Hp} {s : Sl} {l : List UInt8} {K : K12} {Kp : List PanicEntry → Hp → Prop} (tb : KTab h) (sv : Sv h s (bv l)) (hl : l.length ≤ 9223372036854775807)
    (hk : ∀ H e y, GetR l H e y → ∀ s1 s2 s7 s8 h', Grw h h' → HdD h.size h'.size h' H s1 s2 s7 s8 → K H.k s1 s2 H.id H.de H.rows H.press s7 s8 e Sl.nil y h') : Fn12 s h K Kp :=
  get_m tb sv hl (fun e q h' g => hk HdZ e.1 e.2 (.err q) Sl.nil Sl.nil Sl.nil Sl.nil h' g HdZ_D) fun H q s1 s2 s7 s8 h' g D => hk H 0 0 (.okk q) s1 s2 s7 s8 h' g D
end Go.Proofs.YtfomkkdijjfpiaaDoor
/- The law MetaOnce. -/
namespace Go.Proofs.YtfomkkdijjfpiaaDoor
open Go Go.Sh Go.WideShapes
theorem law6 {l : List UInt8} {h : Hp} {s : Sl} {K : Bool → Hp → Prop} {Kp : List PanicEntry → Hp → Prop} (tb : KTab h) (sv : Sv h s (bv l)) (hl : l.length ≤ 9223372036854775807) (hk : ∀ h', Grw h h' → K true h') : Fn6 s h K Kp := by
  have hn := sv.1
  rw [bv_len] at hn
  refine Fn6.of ?_
  unfold S6
  refine get_r tb sv hl fun H e y q s1 s2 s7 s8 h1 g1 D1 => ?_
  refine New_i fun b3 h2 e3 g2 k3 _ => New_i fun b4 h3 e4 g3 k4 _ => ?_
  have k3 := k3.grw g3
  have i3 := k3.lt
  have z2 := g2.1
  refine St9_i k3 rfl fun h4 o4 k3 => St3_i (o4.blk k4 (by omega)) rfl fun h5 o5 k4 => ?_
  have k3 := o5.blk k3 (by omega)
  have g15 : Grw h1 h5 := o5.grw (o4.grw (Grw.trans g2 g3) (by omega)) (by omega)
  have g05 := Grw.trans g1 g15
  have D5 := D1.h.grw g15
  simp only [add_blk, Nat.reduceAdd]
  unfold GetR at q
  refine Ld_blk k4 rfl ?_
  cases hq : getD l with
  | error er =>
    rw [hq] at q
    obtain ⟨rfl, rfl, rfl⟩ := q
    obtain ⟨e1, e2, e3⟩ := once_err hq
    refine If_t (by simp [e1]) (Ld9_s k3 (head_same (H := HdZ) (t1 := Sl.nil) (t2 := Sl.nil) (t7 := Sl.nil) (t8 := Sl.nil) HdZ_sz (Grw.refl _) D5 (HdZ_D (lo := 0) (hi := 0)).h fun h6 g6 => If_t rfl ?_))
    have k4 := k4.grw g6
    refine Ld_blk k4 rfl ?_
    refine J6_3.of ?_
    unfold JT6_3
    simp only [add_blk, Nat.reduceAdd]
    refine If_t (by simp [Sl.nil]) (Ld_blk k4 rfl ?_)
    refine J6_4.of ?_
    unfold JT6_4
    simp only [add_blk, Nat.reduceAdd]
    refine If_t (by simpa using e2) (Ld_blk k4 rfl ?_)
    refine J6_5.of ?_
    unfold JT6_5
    refine If_t (by simp only [decide_eq_true_eq, decide_eq_false_iff_not, beq_iff_eq, beq_eq_false_iff_ne, ne_eq, reduceCtorEq, true_iff, false_iff, Bool.not_eq_true', Bool.not_eq_false', bne_iff_ne, bne_eq_false_iff_eq, Bool.not_true, Bool.not_false, Decidable.not_not]; omega) (fixed_c (tb.grw (Grw.trans g05 g6)) fun h7 g7 => hk h7 (Grw.trans g05 (Grw.trans g6 g7)))
  | ok G =>
    rw [hq] at q
    obtain ⟨rfl, rfl, rfl⟩ := q
    obtain ⟨hok, henc⟩ := once_ok hq
    refine If_f (by simp) ?_
    refine J6_1.of ?_
    unfold JT6_1
    simp only [add_blk, Nat.reduceAdd]
    refine Ld9_s k3 (put_all (getD_headD hq).2.1 (tb.grw g05) D5 (fun x => (x hok).elim) fun _ t h6 g6 o6 => If_t rfl ?_)
    have g06 := Grw.trans g05 g6
    refine sameBytes_c (la := H.enc) (lb := l) o6.sv (sv.grw g06) (by rw [henc]; exact hl) fun r hr => ?_
    rw [hr.2 henc]
    refine J6_2.of ?_
    unfold JT6_2
    exact If_t rfl (fixed_c (tb.grw g06) fun h7 g7 => hk h7 (Grw.trans g06 g7))
end Go.Proofs.YtfomkkdijjfpiaaDoor
/- The law MetaBack. -/
namespace Go.Proofs.YtfomkkdijjfpiaaDoor
open Go Go.Sh Go.WideShapes
/-- a beginning of a slice -/
theorem Sv.cut0 {h : Hp} {s : Sl} {l : List UInt8} (sv : Sv h s (bv l)) {hi : Nat} (h2 : hi ≤ l.length) {y : Int} (hy : y = hi) {K : Sl → Prop} (hk : ∀ t : Sl, Sv h t (bv (l.take hi)) → K t) : Slc s 1 none (some y) none K := by
  have := Sv.cut sv (lo := 0) (hi := hi) (x := 0) (y := y) (Nat.zero_le _) h2 rfl hy (K := K) fun t _ hv => hk t (by simpa using hv)
  unfold Slc at this ⊢
  simpa using this
theorem back_end {H : Hd} (hok : HdOk H) {h : Hp} {t sm : Sl} {lm : List UInt8} {K : Bool → Hp → Prop} {Kp : List PanicEntry → Hp → Prop} (tb : KTab h) (sv : Sv h t (bv H.enc)) (sw : Sv h sm (bv lm)) (hm : lm.length ≤ 2 ^ 47) (hk : ∀ h', Grw h h' → K true h') : J5_3 sm t K Kp h := by
  have he := (Hd.nn_ok hok).2
  have hn := sw.1
  rw [bv_len] at hn
  have ht := sv.1
  rw [bv_len] at ht
  refine J5_3.of ?_
  unfold JT5_3
  refine Ap_copy sv (by omega) fun t1 h1 g1 o1 => ?_
  have n1 := o1.n
  rw [bv_len] at n1
  refine Ap_sh o1 g1.1 rfl (new := bv lm) (by rw [bv_len]; omega) (fun v hv => ?_) (Sv.rd (sw.grw g1)) (by omega) (by omega) fun t2 h2 f2 _ o2 _ => ?_
  · obtain ⟨b, _, rfl⟩ := List.mem_map.1 hv; rfl
  have g2 : Grw h h2 := ⟨Nat.le_trans g1.1 f2.1, fun c hc => (f2.2 c (Nat.lt_of_lt_of_le hc g1.1) (fun q => by have := (o1.at q).1; omega)).trans (g1.2 c hc)⟩
  have sv2 : Sv h2 t2 (bv (H.enc ++ lm)) := by have := o2.sv; rwa [← bv_append] at this
  refine get_r (tb.grw g2) sv2 (by simp; omega) fun G e y q s1 s2 s7 s8 h3 g3 D3 => ?_
  refine New_i fun b13 h4 e13 g4 k13 _ => New_i fun b14 h5 e14 g5 k14 _ => ?_
  have k13 := k13.grw g5
  have i13 := k13.lt
  have z4 := g4.1
  refine St9_i k13 rfl fun h6 o6 k13 => St3_i (o6.blk k14 (by omega)) rfl fun h7 o7 k14 => ?_
  have k13 := o7.blk k13 (by omega)
  have g37 : Grw h3 h7 := o7.grw (o6.grw (Grw.trans g4 g5) (by omega)) (by omega)
  have g07 := Grw.trans g2 (Grw.trans g3 g37)
  have D7 := D3.h.grw g37
  simp only [add_blk, Nat.reduceAdd]
  refine If_i (fun c => ?_) fun c => ?_
  · simp only [decide_eq_true_eq, decide_eq_false_iff_not, beq_iff_eq, beq_eq_false_iff_ne, ne_eq, reduceCtorEq, true_iff, false_iff, Bool.not_eq_true', Bool.not_eq_false', bne_iff_ne, bne_eq_false_iff_eq, Bool.not_true, Bool.not_false, Decidable.not_not] at c
    have hne : lm ≠ [] := fun e => by subst e; simp at hn; omega
    obtain ⟨rfl, rfl, rfl⟩ := q.eq (.err (back_more hok hne))
    refine Ld_blk k14 rfl (If_f (by simp) (Ld_blk k14 rfl (If_f (by simp [ht]) ?_)))
    refine Ld9_s k13 (head_same (H := HdZ) (t1 := Sl.nil) (t2 := Sl.nil) (t7 := Sl.nil) (t8 := Sl.nil) HdZ_sz (Grw.refl _) D7 (HdZ_D (lo := 0) (hi := 0)).h fun h8 g8 => If_f rfl ?_)
    exact fixed_c (tb.grw (Grw.trans g07 g8)) fun h9 g9 => hk h9 (Grw.trans g07 (Grw.trans g8 g9))
  · exact fixed_c (tb.grw g07) fun h9 g9 => hk h9 (Grw.trans g07 g9)
theorem back_loop {H : Hd} (hok : HdOk H) {h : Hp} {t sm : Sl} {lm : List UInt8} {K : Bool → Hp → Prop} {Kp : List PanicEntry → Hp → Prop} (tb : KTab h) (sv : Sv h t (bv H.enc)) (sw : Sv h sm (bv lm)) (hm : lm.length ≤ 2 ^ 47) (hk : ∀ h', Grw h h' → K true h') : J5_2 sm t K Kp h := by
  have he := (Hd.nn_ok hok).2
  have ht := sv.1
  rw [bv_len] at ht
  refine J5_2.of ?_
  unfold JT5_2
  refine L5_4.rule (fun x h' => ∃ i : Nat, x = i ∧ i ≤ H.enc.length ∧ Grw h h') (fun x _ => H.enc.length - x.toNat) ⟨0, rfl, Nat.zero_le _, Grw.refl _⟩ ?_
  rintro x h1 ⟨i, rfl, hi, g1⟩ N1 hN
  unfold T5_4
  refine If_i (fun c => ?_) fun c => ?_
  · simp only [decide_eq_true_eq, decide_eq_false_iff_not, beq_iff_eq, beq_eq_false_iff_ne, ne_eq, reduceCtorEq, true_iff, false_iff, Bool.not_eq_true', Bool.not_eq_false', bne_iff_ne, bne_eq_false_iff_eq, Bool.not_true, Bool.not_false, Decidable.not_not] at c
    have hlt : i < H.enc.length := by omega
    refine Sv.cut0 (sv.grw g1) hi rfl fun t1 sv1 => ?_
    refine get_r (tb.grw g1) sv1 (by simp; omega) fun G e y q s1 s2 s7 s8 h3 g3 D3 => ?_
    obtain ⟨y', hy, y0, y1⟩ := back_pre hok hlt
    obtain ⟨rfl, rfl, rfl⟩ := q.eq (.err hy)
    refine New_i fun b10 h4 e10 g4 k10 _ => New_i fun b11 h5 e11 g5 k11 _ => ?_
    have k10 := k10.grw g5
    have i10 := k10.lt
    have z4 := g4.1
    refine St9_i k10 rfl fun h6 o6 k10 => St3_i (o6.blk k11 (by omega)) rfl fun h7 o7 k11 => ?_
    have k10 := o7.blk k10 (by omega)
    have g37 : Grw h3 h7 := o7.grw (o6.grw (Grw.trans g4 g5) (by omega)) (by omega)
    have g07 := Grw.trans g1 (Grw.trans g3 g37)
    have D7 := D3.h.grw g37
    simp only [add_blk, Nat.reduceAdd]
    refine Ld_blk k11 rfl (If_f (by simp) (Ld_blk k11 rfl ?_))
    refine J5_5.of ?_
    unfold JT5_5
    simp only [add_blk, Nat.reduceAdd]
    refine If_f (by simp only [decide_eq_true_eq, decide_eq_false_iff_not, beq_iff_eq, beq_eq_false_iff_ne, ne_eq, reduceCtorEq, true_iff, false_iff, Bool.not_eq_true', Bool.not_eq_false', bne_iff_ne, bne_eq_false_iff_eq, Bool.not_true, Bool.not_false, Decidable.not_not]; omega) (Ld_blk k11 rfl ?_)
    refine J5_6.of ?_
    unfold JT5_6
    simp only [add_blk, Nat.reduceAdd]
    refine If_f (by simp only [decide_eq_true_eq, decide_eq_false_iff_not, beq_iff_eq, beq_eq_false_iff_ne, ne_eq, reduceCtorEq, true_iff, false_iff, Bool.not_eq_true', Bool.not_eq_false', bne_iff_ne, bne_eq_false_iff_eq, Bool.not_true, Bool.not_false, Decidable.not_not]; omega) (Ld9_s k10 ?_)
    refine head_same (H := HdZ) (t1 := Sl.nil) (t2 := Sl.nil) (t7 := Sl.nil) (t8 := Sl.nil) HdZ_sz (Grw.refl _) D7 (HdZ_D (lo := 0) (hi := 0)).h fun h8 g8 => If_f rfl (Wr_i64 (by omega) (by omega) ?_)
    exact hN _ _ ⟨i + 1, by omega, by omega, Grw.trans g07 g8⟩ (by omega)
  · exact back_end hok (tb.grw g1) (sv.grw g1) (sw.grw g1) hm fun h' g' => hk h' (Grw.trans g1 g')
theorem law5 {H : Hd} (hsm : smls H.fs) {h : Hp} {s1 s2 s7 s8 sm : Sl} {lm : List UInt8} {K : Bool → Hp → Prop} {Kp : List PanicEntry → Hp → Prop} (tb : KTab h) (hh : HdH h H s1 s2 s7 s8) (sw : Sv h sm (bv lm)) (hm : lm.length ≤ 2 ^ 47) (hk : ∀ h', Grw h h' → K true h') : Fn5 H.k s1 s2 H.id H.de H.rows H.press s7 s8 sm h K Kp := by
  refine Fn5.of ?_
  unfold S5
  refine New_i fun b2 h1 e2 g1 k2 _ => Ld9_i k2 ?_
  refine put_all hsm (tb.grw g1) (hh.grw g1) (fun hno h2 g2 => ?_) fun hok t h2 g2 o2 => ?_
  · refine If_t rfl (If_t rfl ?_)
    refine J5_1.of ?_
    unfold JT5_1
    have g02 := Grw.trans g1 g2
    exact If_t rfl (fixed_c (tb.grw g02) fun h3 g3 => hk h3 (Grw.trans g02 g3))
  · have g02 := Grw.trans g1 g2
    have he := (Hd.nn_ok hok).2
    refine If_f rfl (get_r (tb.grw g02) o2.sv (by omega) fun G e y q u1 u2 u7 u8 h3 g3 D3 => ?_)
    obtain ⟨rfl, rfl, rfl⟩ := q.eq (.okk (back_ok hok))
    refine New_i fun b7 h4 e7 g4 k7 _ => New_i fun b8 h5 e8 g5 k8 _ => ?_
    have k7 := k7.grw g5
    have i7 := k7.lt
    have z4 := g4.1
    refine St9_i k7 rfl fun h6 o6 k7 => St3_i (o6.blk k8 (by omega)) rfl fun h7 o7 k8 => ?_
    have k7 := o7.blk k7 (by omega)
    have g37 : Grw h3 h7 := o7.grw (o6.grw (Grw.trans g4 g5) (by omega)) (by omega)
    have g27 := Grw.trans g3 g37
    have g07 := Grw.trans g02 g27
    refine Ld_blk k8 rfl (If_f rfl (Ld9_i k7 (Ld9_i ((k2.grw g2).grw g27) ?_)))
    refine head_same (hok.sz hsm) (Grw.refl _) (D3.h.grw g37) (hh.grw g07) fun h8 g8 => ?_
    have g08 := Grw.trans g07 g8
    have sv8 := o2.sv.grw (Grw.trans g27 g8)
    have ht := sv8.1
    rw [bv_len] at ht
    refine J5_7.of ?_
    unfold JT5_7
    refine If_f rfl (If_f (by simp only [decide_eq_true_eq, decide_eq_false_iff_not, beq_iff_eq, beq_eq_false_iff_ne, ne_eq, reduceCtorEq, true_iff, false_iff, Bool.not_eq_true', Bool.not_eq_false', bne_iff_ne, bne_eq_false_iff_eq, Bool.not_true, Bool.not_false, Decidable.not_not]; omega) ?_)
    exact back_loop hok (tb.grw g08) sv8 (sw.grw g08) hm fun h' g' => hk h' (Grw.trans g08 g')
end Go.Proofs.YtfomkkdijjfpiaaDoor
