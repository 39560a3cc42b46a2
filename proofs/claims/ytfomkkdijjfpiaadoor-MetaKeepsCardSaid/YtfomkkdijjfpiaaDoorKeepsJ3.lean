import Derived.Test.YtfomkkdijjfpiaaDoorKeepsJ2
import Derived.Test.YtfomkkdijjfpiaaDoorShDefer
import Derived.Test.YtfomkkdijjfpiaaDoorKeepsS14
import Derived.Test.YtfomkkdijjfpiaaDoorKeepsS12
import Derived.Test.YtfomkkdijjfpiaaDoorKeepsS4
import Derived.Test.YtfomkkdijjfpiaaDoorKeepsS10
import Derived.Test.YtfomkkdijjfpiaaDoorKeepsS11
set_option linter.unusedSimpArgs false
set_option linter.unusedVariables false
/- The package's reader: a field, the whole. -/
namespace Go.Proofs.YtfomkkdijjfpiaaDoor
open Go Go.Sh Go.WideShapes
theorem midD_le {l : List UInt8} {k a w i x c a' : Nat} (h : midD l k a = .ok ((w, i, x, c), a')) (ha : a ≤ l.length) : a' ≤ l.length ∧ c < 256 := by
  unfold midD at h
  split at h
  · cases hn : numD l 2 a with
    | error e => rw [hn] at h; cases h
    | ok y => obtain ⟨y, a1⟩ := y; rw [hn] at h; cases h; exact ⟨(numD_le hn ha).2.1, by omega⟩
  split at h
  · cases hn : numD l 2 a with
    | error e => rw [hn] at h; cases h
    | ok y => obtain ⟨y, a1⟩ := y; rw [hn] at h; cases h; exact ⟨(numD_le hn ha).2.1, by omega⟩
  split at h
  · cases hn : numD l 2 a with
    | error e => rw [hn] at h; cases h
    | ok y =>
      obtain ⟨y, a1⟩ := y
      rw [hn] at h
      simp only at h
      cases hn2 : numD l 1 a1 with
      | error e => rw [hn2] at h; cases h
      | ok z => obtain ⟨z, a2⟩ := z; rw [hn2] at h; cases h; exact ⟨(numD_le hn2 (numD_le hn ha).2.1).2.1, by omega⟩
  split at h
  · cases hn : numD l 1 a with
    | error e => rw [hn] at h; cases h
    | ok y => obtain ⟨y, a1⟩ := y; rw [hn] at h; cases h; exact ⟨(numD_le hn ha).2.1, by have := (numD_le hn ha).2.2; omega⟩
  split at h
  · cases h; exact ⟨ha, by omega⟩
  · cases h; exact ⟨ha, by omega⟩
theorem midM {h0 : Hp} {p : Nat} {s : Sl} {l : List UInt8} {h : Hp} {a nn k b4 b5 : Nat} {x : Int} {nm : ByteArray} {nul : Bool} {K : ByteArray → Bool → Int → Int → Int → Int → Sl → HP} {Kp : PK} (r : Rm h0 p s l h a nn) (k5 : B63 h b5 nm nul k 0 0 0 Sl.nil) (n5 : b5 ≠ p) (l5 : h0.size ≤ b5)
    (he : ∀ e, midD l k a = .error e → ∀ h', Tn (fun d => d = p ∨ d = b5) h h' → Kp (stopV e) h')
    (hk : ∀ w i x' c a', midD l k a = .ok ((w, i, x', c), a') → ∀ h', Tn (fun d => d = p ∨ d = b5) h h' → Rm h0 p s l h' a' nn → B63 h' b5 nm nul k w i x' Sl.nil → J58_3 (some ⟨p, 0, none⟩) x ⟨b4, 0, none⟩ ⟨b5, 0, none⟩ (c : Int) K Kp h') :
    If ((k : Int) == 14) (J58_5 (some ⟨p, 0, none⟩) x ⟨b4, 0, none⟩ ⟨b5, 0, none⟩ 0 k ((k : Int) == 14) K Kp h) (J58_5 (some ⟨p, 0, none⟩) x ⟨b4, 0, none⟩ ⟨b5, 0, none⟩ 0 k ((k : Int) == 16) K Kp h) := by
  have num : ∀ (w a : Nat) (h : Hp) (K : Int → HP), Rm h0 p s l h a nn → w ≤ 4 → (∀ e, numD l w a = .error e → Kp (stopV e) h) → (∀ y a', numD l w a = .ok (y, a') → ∀ h', Tn (· = p) h h' → Rm h0 p s l h' a' nn → K y h') → Fn47 (some ⟨p, 0, none⟩) w h K Kp := fun w a h K r hw he hk => number_m r rfl hw he hk
  have f' : ∀ {h h' : Hp}, Tn (· = p) h h' → Tn (fun d => d = p ∨ d = b5) h h' := fun f => f.mono fun d hd _ => .inl hd
  -- how many children, at the end
  have last : ∀ (c0 c : Nat) (w i x' : Int) (h' : Hp), B63 h' b5 nm nul k w i x' Sl.nil → ((k = 15 ∨ k = 16 ∨ k = 19 ∨ k = 20) → c = 1) → (¬ (k = 15 ∨ k = 16 ∨ k = 19 ∨ k = 20) → c = c0) → J58_3 (some ⟨p, 0, none⟩) x ⟨b4, 0, none⟩ ⟨b5, 0, none⟩ (c : Int) K Kp h' → J58_2 (some ⟨p, 0, none⟩) x ⟨b4, 0, none⟩ ⟨b5, 0, none⟩ (c0 : Int) K Kp h' := by
    intro c0 c w i x' h' k5 q1 q2 hj
    refine J58_2.of ?_
    unfold JT58_2
    simp only [add_blk, Nat.reduceAdd]
    refine Ld_blk k5 rfl ?_
    by_cases hk : k = 15 ∨ k = 16 ∨ k = 19 ∨ k = 20
    · obtain rfl := q1 hk
      refine If_i (fun c => If_t c hj) fun c => If_i (fun c => If_t c hj) fun c2 => If_i (fun c => If_t c hj) fun c3 => If_t ?_ hj
      simp only [decide_eq_true_eq, decide_eq_false_iff_not, beq_iff_eq, beq_eq_false_iff_ne, ne_eq, reduceCtorEq, true_iff, false_iff, Bool.not_eq_true', Bool.not_eq_false', bne_iff_ne, bne_eq_false_iff_eq, Bool.not_true, Bool.not_false, Decidable.not_not] at *; omega
    · obtain rfl := q2 hk
      refine If_i (fun c => ?_) fun c => If_i (fun c => ?_) fun c2 => If_i (fun c => ?_) fun c3 => If_i (fun c => ?_) fun c4 => ?_
      all_goals first | exact hj | (simp only [decide_eq_true_eq, decide_eq_false_iff_not, beq_iff_eq, beq_eq_false_iff_ne, ne_eq, reduceCtorEq, true_iff, false_iff, Bool.not_eq_true', Bool.not_eq_false', bne_iff_ne, bne_eq_false_iff_eq, Bool.not_true, Bool.not_false, Decidable.not_not] at *; omega)
  have main : ∀ b : Bool, (b = true ↔ k = 14 ∨ k = 16) → J58_5 (some ⟨p, 0, none⟩) x ⟨b4, 0, none⟩ ⟨b5, 0, none⟩ 0 k b K Kp h := by
    intro b hb
    refine J58_5.of ?_
    unfold JT58_5
    simp only [add_blk, Nat.reduceAdd]
    refine If_i (fun c => ?_) fun c => ?_
    · have hk2 := hb.1 c
      have e : ∀ r : Except Er (Nat × Nat), numD l 2 a = r → midD l k a = (match r with | .error e => .error e | .ok (w, a1) => .ok ((w, 0, 0, if k = 14 then 0 else 1), a1)) := by
        intro r hr
        unfold midD
        rw [hr]
        by_cases h14 : k = 14
        · rw [if_pos h14, if_pos h14] <;> cases r <;> rfl
        · rw [if_neg h14, if_neg h14, if_pos (by omega)] <;> cases r <;> rfl
      refine num 2 a h _ r (by omega) (fun er q => he er (e _ q) h (Tn.refl _ _)) fun w a1 q h1 f1 r1 => ?_
      refine St_i (f1.blk k5 n5) (by simp) rfl fun h2 o2 k5 => ?_
      refine last 0 (if k = 14 then 0 else 1) w 0 0 h2 (by simp at k5; exact k5) (fun q => by split <;> omega) (fun q => by split <;> omega) ?_
      exact hk _ _ _ _ _ (e _ q) h2 ((f' f1).trans' o2.fr fun d hd _ => .inr hd) (r1.fr o2.fr n5 l5) (by simp at k5; exact k5)
    · have hk2 : ¬ (k = 14 ∨ k = 16) := fun q => by rw [hb.2 q] at c; cases c
      refine If_i (fun c => ?_) fun c => ?_
      · simp only [decide_eq_true_eq, decide_eq_false_iff_not, beq_iff_eq, beq_eq_false_iff_ne, ne_eq, reduceCtorEq, true_iff, false_iff, Bool.not_eq_true', Bool.not_eq_false', bne_iff_ne, bne_eq_false_iff_eq, Bool.not_true, Bool.not_false, Decidable.not_not] at c
        have h19 : k = 19 := by omega
        have e : ∀ r : Except Er (Nat × Nat), numD l 2 a = r → midD l k a = (match r with | .error e => .error e | .ok (i, a1) => match numD l 1 a1 with | .error e => .error e | .ok (x, a2) => .ok ((0, i, x, 1), a2)) := by
          intro r hr
          unfold midD
          rw [hr, if_neg (by omega), if_neg (by omega), if_pos h19] <;> cases r <;> rfl
        refine num 2 a h _ r (by omega) (fun er q => he er (e _ q) h (Tn.refl _ _)) fun i a1 q h1 f1 r1 => ?_
        refine St_i (f1.blk k5 n5) (by simp) rfl fun h2 o2 k5 => ?_
        have f2 := (f' f1).trans' o2.fr (fun d hd _ => .inr hd)
        refine num 1 a1 h2 _ (r1.fr o2.fr n5 l5) (by omega) (fun er q2 => he er (by rw [e _ q]; simp only [q2]) h2 f2) fun x' a2 q2 h3 f3 r3 => ?_
        refine St_i (f3.blk k5 n5) (by simp) rfl fun h4 o4 k5 => ?_
        refine last 0 1 0 i x' h4 (by simp at k5; exact k5) (fun _ => rfl) (fun q => by omega) ?_
        exact hk 0 i x' 1 a2 (by rw [e _ q]; simp only [q2]) h4 ((f2.trans (f' f3)).trans' o4.fr fun d hd _ => .inr hd) (r3.fr o4.fr n5 l5) (by simp at k5; exact k5)
      · simp only [decide_eq_true_eq, decide_eq_false_iff_not, beq_iff_eq, beq_eq_false_iff_ne, ne_eq, reduceCtorEq, true_iff, false_iff, Bool.not_eq_true', Bool.not_eq_false', bne_iff_ne, bne_eq_false_iff_eq, Bool.not_true, Bool.not_false, Decidable.not_not] at c
        have two : k = 17 ∨ k = 18 → Fn47 (some ⟨p, 0, none⟩) 1 h (fun t64 h1 => J58_2 (some ⟨p, 0, none⟩) x ⟨b4, 0, none⟩ ⟨b5, 0, none⟩ t64 K Kp h1) Kp := by
          intro h17
          have e : ∀ r : Except Er (Nat × Nat), numD l 1 a = r → midD l k a = (match r with | .error e => .error e | .ok (c, a1) => .ok ((0, 0, 0, c), a1)) := by
            intro r hr
            unfold midD
            rw [hr, if_neg (by omega), if_neg (by omega), if_neg (by omega), if_pos h17] <;> cases r <;> rfl
          refine num 1 a h _ r (by omega) (fun er q => he er (e _ q) h (Tn.refl _ _)) fun c a1 q h1 f1 r1 => ?_
          exact last c c 0 0 0 h1 (f1.blk k5 n5) (fun q => by omega) (fun _ => rfl) (hk _ _ _ _ _ (e _ q) h1 (f' f1) r1 (f1.blk k5 n5))
        have rest : ¬ (k = 17 ∨ k = 18) → J58_2 (some ⟨p, 0, none⟩) x ⟨b4, 0, none⟩ ⟨b5, 0, none⟩ 0 K Kp h := by
          intro h17
          have e : midD l k a = .ok ((0, 0, 0, if k = 15 ∨ k = 20 then 1 else 0), a) := by
            unfold midD
            rw [if_neg (by omega), if_neg (by omega), if_neg (by omega), if_neg h17]
            split <;> rfl
          exact last 0 (if k = 15 ∨ k = 20 then 1 else 0) 0 0 0 h k5 (fun q => if_pos (by omega)) (fun q => if_neg (by omega)) (hk _ _ _ _ _ e h (Tn.refl _ _) r k5)
        refine If_i (fun c2 => If_t c2 (two ?_)) fun c2 => If_i (fun c3 => two ?_) fun c3 => rest ?_
        all_goals simp only [decide_eq_true_eq, decide_eq_false_iff_not, beq_iff_eq, beq_eq_false_iff_ne, ne_eq, reduceCtorEq, true_iff, false_iff, Bool.not_eq_true', Bool.not_eq_false', bne_iff_ne, bne_eq_false_iff_eq, Bool.not_true, Bool.not_false, Decidable.not_not] at *
        all_goals omega
  refine If_i (fun c => main _ ?_) fun c => main _ ?_
  all_goals simp only [decide_eq_true_eq, decide_eq_false_iff_not, beq_iff_eq, beq_eq_false_iff_ne, ne_eq, reduceCtorEq, true_iff, false_iff, Bool.not_eq_true', Bool.not_eq_false', bne_iff_ne, bne_eq_false_iff_eq, Bool.not_true, Bool.not_false, Decidable.not_not] at *
  all_goals omega
theorem field_m {h0 : Hp} {p : Nat} {s : Sl} {l : List UInt8} : ∀ fuel : Nat, FieldM h0 p s l fuel := by
  intro fuel
  induction fuel with
  | zero =>
    intro h a n x K Kp r hn hfu hx he hk
    refine Fn58.of ?_
    unfold S58
    refine New_i fun b4 h1 e1 g1 k4 _ => ?_
    have r1 := r.grw g1
    simp only [NN_some, add_blk, Nat.zero_add]
    refine Ld_blk r1.blk rfl (Wr_i64 (by omega) (by omega) (St_i r1.blk (by simp) rfl fun h2 o2 k2 => ?_))
    have f2 : Tn (· = p) h h2 := (Tn.of_grw g1 : Tn (· = p) h h1).trans o2.fr
    have hz := he (50, a) (by unfold fieldD; rfl) h2 f2
    refine Ld_blk k2 rfl (If_i (fun c => Ld_blk k2 rfl hz) fun c => If_t (by simp only [decide_eq_true_eq, decide_eq_false_iff_not, beq_iff_eq, beq_eq_false_iff_ne, ne_eq, reduceCtorEq, true_iff, false_iff, Bool.not_eq_true', Bool.not_eq_false', bne_iff_ne, bne_eq_false_iff_eq, Bool.not_true, Bool.not_false, Decidable.not_not]; omega) (Ld_blk k2 rfl hz))
  | succ fuel IH =>
    intro h a n x K Kp r hn hfu hx he hk
    refine Fn58.of ?_
    unfold S58
    refine New_i fun b4 h1 e1 g1 k4 _ => ?_
    have r1 := r.grw g1
    simp only [NN_some, add_blk, Nat.zero_add]
    have n4 : b4 ≠ p := by have := r.blk.lt; omega
    have l4 : h0.size ≤ b4 := by have := r.g.1; omega
    refine Ld_blk r1.blk rfl (Wr_i64 (by omega) (by omega) (St_i r1.blk (by simp) rfl fun h2 o2 k2 => ?_))
    have f2 : Tn (· = p) h h2 := (Tn.of_grw g1 : Tn (· = p) h h1).trans o2.fr
    have k4 := o2.blk k4 n4
    have k2 : Blk h2 p #[Sl.v s, .int .i64 a, .int .i64 ((n + 1 : Nat) : Int)] 73 := by simpa using k2
    refine Ld_blk k2 rfl (If_i (fun c => Ld_blk k2 rfl ?_) fun c => If_f (by simp only [decide_eq_true_eq, decide_eq_false_iff_not, beq_iff_eq, beq_eq_false_iff_ne, ne_eq, reduceCtorEq, true_iff, false_iff, Bool.not_eq_true', Bool.not_eq_false', bne_iff_ne, bne_eq_false_iff_eq, Bool.not_true, Bool.not_false, Decidable.not_not]; omega) ?_)
    · simp only [decide_eq_true_eq, decide_eq_false_iff_not, beq_iff_eq, beq_eq_false_iff_ne, ne_eq, reduceCtorEq, true_iff, false_iff, Bool.not_eq_true', Bool.not_eq_false', bne_iff_ne, bne_eq_false_iff_eq, Bool.not_true, Bool.not_false, Decidable.not_not] at c
      exact he (50, a) (by unfold fieldD; exact if_pos (by omega)) h2 f2
    simp only [decide_eq_true_eq, decide_eq_false_iff_not, beq_iff_eq, beq_eq_false_iff_ne, ne_eq, reduceCtorEq, true_iff, false_iff, Bool.not_eq_true', Bool.not_eq_false', bne_iff_ne, bne_eq_false_iff_eq, Bool.not_true, Bool.not_false, Decidable.not_not] at c
    have r2 : Rm h0 p s l h2 a (n + 1) := ⟨k2, Tn.old r.hp r.g f2, r.hp, r.sv, r.hl, r.ha⟩
    have eq : fieldD l (fuel + 1) a n = match textD l 1 a with
      | .error e => .error e
      | .ok (nm, a1) => match amongD l 0 1 a1 with
        | .error e => .error e
        | .ok (nul, a2) => match amongD l 1 20 a2 with
          | .error e => .error e
          | .ok (k, a3) => match midD l k a3 with
            | .error e => .error e
            | .ok ((w, i, x, c), a4) => match repD (fieldD l fuel) c a4 (n + 1) with
              | .error e => .error e
              | .ok (cs, a5, n5) => .ok (.mk nm (nul == 1) k w i x cs, a5, n5) := by
      unfold fieldD; exact if_neg (by omega)
    rw [eq] at he hk
    clear eq
    refine J58_1.of ?_
    unfold JT58_1
    refine text_m (w := 1) r2 rfl (by omega) (fun e q h3 f3 => he e (by rw [q]) h3 (f2.trans f3)) fun nm a1 q1 h3 f3 r3 => ?_
    rw [q1] at he hk
    simp only at he hk
    have lc := SyH.start No h3
    refine lc.new fun b5 _ hb5 _ lc => ?_
    refine lc.st 0 rfl rfl rfl fun _ _ lc => ?_; simp only [Nat.zero_add, List.set_cons_zero, List.set_cons_succ, List.setIfInBounds_toArray] at lc; refine lc.sto 0 rfl rfl rfl fun _ _ lc => ?_; simp only [Nat.zero_add, List.set_cons_zero, List.set_cons_succ, List.setIfInBounds_toArray] at lc; refine lc.sto 0 rfl rfl rfl fun _ _ lc => ?_; simp only [Nat.zero_add, List.set_cons_zero, List.set_cons_succ, List.setIfInBounds_toArray] at lc; refine lc.sto 0 rfl rfl rfl fun _ _ lc => ?_; simp only [Nat.zero_add, List.set_cons_zero, List.set_cons_succ, List.setIfInBounds_toArray] at lc; refine lc.sto 0 rfl rfl rfl fun _ _ lc => ?_; simp only [Nat.zero_add, List.set_cons_zero, List.set_cons_succ, List.setIfInBounds_toArray] at lc; refine lc.sto 0 rfl rfl rfl fun _ _ lc => ?_; simp only [Nat.zero_add, List.set_cons_zero, List.set_cons_succ, List.setIfInBounds_toArray] at lc; refine lc.sto 0 rfl rfl rfl fun _ _ lc => ?_; simp only [Nat.zero_add, List.set_cons_zero, List.set_cons_succ, List.setIfInBounds_toArray] at lc
    rename_i h4 _
    have k5 : B63 h4 b5 nm false 0 0 0 0 Sl.nil := lc.blk (i := 0) rfl
    have g4 := lc.grw
    clear lc
    have hs13 : h.size ≤ h3.size := (f2.trans f3).1
    have n5 : b5 ≠ p := by have := r3.blk.lt; omega
    have n45 : b4 ≠ b5 := by have := (f3.blk k4 n4).lt; omega
    have l5 : h0.size ≤ b5 := by have := r.g.1; omega
    have r4 := r3.grw g4
    have k4 := (f3.blk k4 n4).grw g4
    have f4 : Tn (fun d => d = p ∨ d = b4 ∨ d = b5) h h4 := ((f2.trans f3).mono fun d hd _ => .inl hd).trans' (Tn.of_grw (S := No) g4) fun _ q => q.elim
    simp only [add_blk, Nat.reduceAdd]
    refine among_m (lo := 0) (hi := 1) r4 rfl rfl (fun e q h5 f5 => he e (by rw [q]) h5 ((f4.trans' f5 fun d hd _ => .inl hd).mono fun d hd hlt => by omega)) fun nul a2 q2 h5 f5 r5 => ?_
    rw [q2] at he hk
    simp only at he hk
    refine St_i (f5.blk k5 n5) (by simp) rfl fun h6 o6 k5 => ?_
    have k5 : B63 h6 b5 nm ((nul : Int) == 1) 0 0 0 0 Sl.nil := by simp at k5; exact k5
    have k4 := o6.blk (f5.blk k4 n4) n45
    have r6 := r5.fr o6.fr n5 l5
    have f6 : Tn (fun d => d = p ∨ d = b4 ∨ d = b5) h h6 := (f4.trans' f5 fun d hd _ => .inl hd).trans' o6.fr fun d hd _ => .inr (.inr hd)
    refine among_m (lo := 1) (hi := 20) r6 rfl rfl (fun e q h7 f7 => he e (by rw [q]) h7 ((f6.trans' f7 fun d hd _ => .inl hd).mono fun d hd hlt => by omega)) fun k a3 q3 h7 f7 r7 => ?_
    rw [q3] at he hk
    simp only at he hk
    refine St_i (f7.blk k5 n5) (by simp) rfl fun h8 o8 k5 => ?_
    have k5 : B63 h8 b5 nm ((nul : Int) == 1) k 0 0 0 Sl.nil := by simp at k5; exact k5
    have k4 := o8.blk (f7.blk k4 n4) n45
    have r8 := r7.fr o8.fr n5 l5
    have f8 : Tn (fun d => d = p ∨ d = b4 ∨ d = b5) h h8 := (f6.trans' f7 fun d hd _ => .inl hd).trans' o8.fr fun d hd _ => .inr (.inr hd)
    refine Ld_blk k5 rfl ?_
    refine midM r8 k5 n5 l5 (fun e q h9 f9 => he e (by rw [q]) h9 ((f8.trans' f9 fun d hd _ => by omega).mono fun d hd hlt => by omega)) fun w i x' c a4 q4 h9 f9 r9 k5 => ?_
    rw [q4] at he hk
    simp only at he hk
    have k4 := f9.blk k4 (by omega)
    have f9' : Tn (fun d => d = p ∨ d = b4 ∨ d = b5) h h9 := f8.trans' f9 fun d hd _ => by omega
    refine childM IH (by omega) r9 (by omega) (by omega) (midD_le q4 r8.ha).2 rfl k4 k5 n45 n4 n5 l4 l5 (fun e q h10 f10 => he e (by rw [q]) h10 ((f9'.trans f10).mono fun d hd hlt => by omega)) fun cs a5 n5' q5 t h10 f10 r10 hn10 hfs => ?_
    have e2 : ((nul : Int) == 1) = (nul == 1) := by
      rw [Bool.eq_iff_iff, beq_iff_eq, beq_iff_eq]; omega
    rw [e2]
    refine hk (.mk nm (nul == 1) k w i x' cs) a5 n5' (by rw [q5]) t h10 ((f9'.trans f10).mono fun d hd hlt => by omega) r10 hn10 (FsD.fr (S := No) (Tn.refl _ _) (fun d hd => ⟨fun q => q, by have := hd.1; have := f9'.1; exact ⟨by omega, hd.2⟩⟩) cs hfs)
end Go.Proofs.YtfomkkdijjfpiaaDoor
/- The package's reader: a schema. -/
namespace Go.Proofs.YtfomkkdijjfpiaaDoor
open Go Go.Sh Go.WideShapes
abbrev B25 (h : Hp) (b : Nat) (s1 s2 : Sl) : Prop := Blk h b #[Sl.v s1, Sl.v s2] 25
def mdsV (ms : List Md) : List Value := (ms.map mdRow).flatten
theorem mdsV_snoc (ms : List Md) (m : Md) : mdsV (ms ++ [m]) = mdsV ms ++ mdRow m := by simp [mdsV]
theorem mdsV_len (ms : List Md) : (mdsV ms).length = ms.length * 2 := by
  have := flat_len (n := 2) (rows := ms.map mdRow) fun r hr => by obtain ⟨m, _, rfl⟩ := List.mem_map.1 hr; rfl
  simpa [mdsV] using this
/-- a thing of rows is appended -/
theorem Rm.tn {h0 : Hp} {p : Nat} {s : Sl} {l : List UInt8} {h h' : Hp} {a n : Nat} {S : Nat → Prop} (r : Rm h0 p s l h a n) (f : Tn S h h') (h1 : ¬ S p) (h2 : ∀ d, S d → h0.size ≤ d) : Rm h0 p s l h' a n :=
  ⟨f.blk r.blk h1, ⟨Nat.le_trans r.g.1 f.1, fun c hc => (f.2 c (Nat.lt_of_lt_of_le hc r.g.1) (fun q => by have := h2 c q; omega)).trans (r.g.2 c hc)⟩, r.hp, r.sv, r.hl, r.ha⟩
theorem fldsM {h0 : Hp} {p : Nat} {s : Sl} {l : List UInt8} {h : Hp} {a n c b2 b3 : Nat} {y : Int} {K : Sl → Sl → HP} {Kp : PK} (r : Rm h0 p s l h a n) (hn : n ≤ 256) (hc : c < 65536) (hy : y = c) (k2 : B25 h b2 Sl.nil Sl.nil) (k3 : B25 h b3 Sl.nil Sl.nil) (n23 : b2 ≠ b3) (n2 : b2 ≠ p) (n3 : b3 ≠ p) (l3 : h0.size ≤ b3)
    (he : ∀ e, repD (fieldD l 64) c a n = .error e → ∀ h', Tn (fun d => d = p ∨ d = b3) h h' → Kp (stopV e) h')
    (hk : ∀ fs a' n', repD (fieldD l 64) c a n = .ok (fs, a', n') → ∀ t h', Tn (fun d => d = p ∨ d = b3) h h' → Rm h0 p s l h' a' n' → n' ≤ 256 → FsD (In h.size h'.size) h' t fs → B25 h' b3 t Sl.nil → B25 h' b2 Sl.nil Sl.nil → J46_1 (some ⟨p, 0, none⟩) ⟨b2, 0, none⟩ ⟨b3, 0, none⟩ K Kp h') : L46_3 (some ⟨p, 0, none⟩) ⟨b2, 0, none⟩ ⟨b3, 0, none⟩ y K Kp 0 h := by
  subst hy
  have i2 := k2.lt
  have i3 := k3.lt
  have ip := r.blk.lt
  refine L46_3.rule (fun z h1 => ∃ (i : Nat) (xs : List Fld) (sl : Sl) (a' n' : Nat) (D : Nat → Prop), z = i ∧ i ≤ c ∧ xs.length = i ∧ Tn (fun d => d = p ∨ d = b3) h h1 ∧ Rm h0 p s l h1 a' n' ∧ n' ≤ 256 ∧ B25 h1 b3 sl Sl.nil ∧ B25 h1 b2 Sl.nil Sl.nil ∧
    Acc D h.size h1 sl xs ∧ (∀ d, D d → h.size ≤ d ∧ d < h1.size) ∧ repD (fieldD l 64) c a n = preD xs (repD (fieldD l 64) (c - i) a' n')) (fun z _ => c - z.toNat)
    ⟨0, [], Sl.nil, a, n, No, rfl, by omega, rfl, Tn.refl _ _, r, hn, k3, k2, Acc.nil, fun _ q => q.elim, repD_start⟩ ?_
  rintro z h1 ⟨i, xs, sl, a1, n1, D, rfl, hi, hxs, f1, r1, hn1, k3, k2, A, hD, eq⟩ N1 hN
  unfold T46_3
  refine If_i (fun c1 => ?_) fun c1 => ?_
  · simp only [decide_eq_true_eq, decide_eq_false_iff_not, beq_iff_eq, beq_eq_false_iff_ne, ne_eq, reduceCtorEq, true_iff, false_iff, Bool.not_eq_true', Bool.not_eq_false', bne_iff_ne, bne_eq_false_iff_eq, Bool.not_true, Bool.not_false, Decidable.not_not] at c1
    refine Ld_blk k3 rfl ?_
    refine field_m 64 r1 hn1 (by omega) (by omega) (fun e q h2 f2 => he e (repD_err (by omega) eq q) h2 (f1.trans (f2.mono fun d hd _ => .inl hd))) fun f a2 m2 q t h2 f2 r2 hn2 hf => ?_
    have k3' := f2.blk k3 n3
    refine Keep_i k3 k3' rfl ?_
    refine New_i fun bx h3 ex g3 kx _ => ?_
    refine Keep_i k3' (k3'.grw g3) rfl ?_
    have hD2 : ∀ d, (D d ∨ In h1.size h2.size d) → h.size ≤ d ∧ d < h2.size := fun d hd => by
      rcases hd with hd | hd
      · have := hD d hd; have := f2.1; omega
      · have := f1.1; exact ⟨by have := hd.1; omega, hd.2⟩
    have A2 : Acc D h.size h2 sl xs := A.fr f2 (fun d hd e => by have := hD d hd; omega) (fun d h1 _ e => by omega) (fun _ q => q) (fun _ q => .inl q)
    have A3 : Acc D h.size h3 sl xs := A2.fr (S := No) (Tn.of_grw g3) (fun _ _ q => q) (fun _ _ _ q => q) (fun _ q => q) (fun _ q => .inl q)
    have hf3 : FsD (In h1.size h2.size) h3 t f.cs := FsD.fr (S := No) (Tn.of_grw g3) (fun d hd => ⟨fun q => q, hd⟩) f.cs hf
    refine Acc.ap A3 hf3 (fun d hd => Nat.lt_of_lt_of_le (hD2 d hd).2 g3.1) (fun d hd => ⟨fun q => by have := hD d q; have := hd.1; omega, fun q => by have := (A.at q).2; have := hd.1; omega⟩) (by have := f1.1; have := f2.1; have := g3.1; omega) kx (by omega) fun s' h4 f4 A4 => ?_
    have k3 := f4.blk (k3'.grw g3) (fun q => by have := q.2; omega)
    have k2 := f4.blk ((f2.blk k2 n2).grw g3) (fun q => by have := q.2; omega)
    refine St_i k3 (by simp) rfl fun h5 o5 k3 => ?_
    have f15 : Tn (fun d => d = p ∨ d = b3) h h5 := (((f1.trans (f2.mono fun d hd _ => .inl hd)).trans' (Tn.of_grw (S := No) g3) (fun _ q => q.elim)).trans' f4 (fun d hd hlt => by have := hd.2; omega)).trans' o5.fr fun d hd _ => .inr hd
    have r4 : Rm h0 p s l h4 a2 m2 := (r2.grw g3).tn f4 (fun q => by have := q.2; omega) (fun d q => by have := q.2; have := r.g.1; omega)
    refine Wr_i64 (by omega) (by omega) (hN _ _ ⟨i + 1, xs ++ [f], s', a2, m2, _, by simp, by omega, by simp [hxs], f15, r4.fr o5.fr n3 l3, hn2, by simpa using k3, o5.blk k2 n23, A4.fr o5.fr (fun d hd e => by have := hD2 d hd; omega) (fun d h1 _ e => by omega) (fun _ q => q) (fun _ q => .inl q), fun d hd => ?_, repD_snoc (by omega) eq q⟩ (by omega))
    have := hD2 d hd
    have := g3.1; have := f4.1; have := o5.1
    omega
  · simp only [decide_eq_true_eq, decide_eq_false_iff_not, beq_iff_eq, beq_eq_false_iff_ne, ne_eq, reduceCtorEq, true_iff, false_iff, Bool.not_eq_true', Bool.not_eq_false', bne_iff_ne, bne_eq_false_iff_eq, Bool.not_true, Bool.not_false, Decidable.not_not] at c1
    have : i = c := by omega
    subst this
    exact hk xs a1 n1 (repD_end eq) sl h1 f1 r1 hn1 (A.fsd (fun d hd => hD d hd) (fun d h1 h2 => ⟨h1, h2⟩)) k3 k2
theorem notesM {h0 : Hp} {p : Nat} {s : Sl} {l : List UInt8} {h : Hp} {a n c b2 b3 : Nat} {y : Int} {s1 : Sl} {K : Sl → Sl → HP} {Kp : PK} (r : Rm h0 p s l h a n) (hc : c < 65536) (hy : y = c) (k2 : B25 h b2 Sl.nil Sl.nil) (k3 : B25 h b3 s1 Sl.nil) (n23 : b2 ≠ b3) (n2 : b2 ≠ p) (n3 : b3 ≠ p) (l2 : h0.size ≤ b2) (l3 : h0.size ≤ b3)
    (he : ∀ e, repD (noteD l) c a n = .error e → ∀ h', Tn (fun d => d = p ∨ d = b3) h h' → Kp (stopV e) h')
    (hk : ∀ ms a' n', repD (noteD l) c a n = .ok (ms, a', n') → ∀ t h', Tn (fun d => d = p ∨ d = b3 ∨ d = b2) h h' → Rm h0 p s l h' a' n' → Sh h.size h'.size 2 h' t (mdsV ms) 66 → K s1 t h') : L46_2 (some ⟨p, 0, none⟩) ⟨b2, 0, none⟩ ⟨b3, 0, none⟩ y K Kp 0 h := by
  subst hy
  have i2 := k2.lt
  have i3 := k3.lt
  have ip := r.blk.lt
  refine L46_2.rule (fun z h1 => ∃ (i : Nat) (xs : List Md) (sl : Sl) (a' n' : Nat), z = i ∧ i ≤ c ∧ xs.length = i ∧ Tn (fun d => d = p ∨ d = b3) h h1 ∧ Rm h0 p s l h1 a' n' ∧ B25 h1 b3 s1 sl ∧ B25 h1 b2 Sl.nil Sl.nil ∧ Sh h.size h1.size 2 h1 sl (mdsV xs) 66 ∧
    repD (noteD l) c a n = preD xs (repD (noteD l) (c - i) a' n')) (fun z _ => c - z.toNat)
    ⟨0, [], Sl.nil, a, n, rfl, by omega, rfl, Tn.refl _ _, r, k3, k2, Sh.nil _ _ _ _ _, repD_start⟩ ?_
  rintro z h1 ⟨i, xs, sl, a1, n1, rfl, hi, hxs, f1, r1, k3, k2, o1, eq⟩ N1 hN
  unfold T46_2
  simp only [add_blk, Nat.reduceAdd]
  refine If_i (fun c1 => ?_) fun c1 => ?_
  · simp only [decide_eq_true_eq, decide_eq_false_iff_not, beq_iff_eq, beq_eq_false_iff_ne, ne_eq, reduceCtorEq, true_iff, false_iff, Bool.not_eq_true', Bool.not_eq_false', bne_iff_ne, bne_eq_false_iff_eq, Bool.not_true, Bool.not_false, Decidable.not_not] at c1
    have herr : ∀ e, noteD l a1 n1 = .error e → ∀ h2, Tn (· = p) h1 h2 → Kp (stopV e) h2 := fun e q h2 f2 => he e (repD_err (by omega) eq q) h2 (f1.trans (f2.mono fun d hd _ => .inl hd))
    refine text_m (w := 2) r1 rfl (by omega) (fun e q h2 f2 => herr e (by unfold noteD; rw [q]) h2 f2) fun x a2 q h2 f2 r2 => ?_
    have k3' := f2.blk k3 n3
    refine Ld_blk k3' rfl ?_
    refine text_m (w := 2) r2 rfl (by omega) (fun e q3 h3 f3 => herr e (by unfold noteD; rw [q]; simp only [q3]) h3 (f2.trans f3)) fun x3 a3 q3 h3 f3 r3 => ?_
    have k3'' := f3.blk k3' n3
    refine Keep_i k3' k3'' rfl (New_i fun bx h4 ex g4 kx _ => Keep_i k3'' (k3''.grw g4) rfl ?_)
    have o4 := (((o1.fr (f2.trans f3) fun b hb _ e => by omega).grw g4).wide (lo' := h.size) (hi' := h4.size) (Nat.le_refl _) (by have := f2.1; have := f3.1; have := g4.1; omega))
    have hln := o4.n
    rw [mdsV_len] at hln
    refine Ap_sh o4 (by have := f1.1; have := f2.1; have := f3.1; have := g4.1; omega) rfl (new := mdRow (x, x3)) rfl (by simp [mdRow, one]) (rd_blk kx rfl) (by omega) (by omega) fun s' h5 f5 at5 o5 hn5 => ?_
    have hb5 : ∀ d, sl.at d → h.size ≤ d := fun d hd => (o4.at hd).1
    have k3 := f5.blk (k3''.grw g4) (fun q => by have := hb5 _ q; omega)
    have k2 := f5.blk ((f3.blk (f2.blk k2 n2) n2).grw g4) (fun q => by have := hb5 _ q; omega)
    refine St_i k3 (by simp) rfl fun h6 o6 k3 => ?_
    have f16 : Tn (fun d => d = p ∨ d = b3) h h6 := (((f1.trans ((f2.trans f3).mono fun d hd _ => .inl hd)).trans' (Tn.of_grw (S := No) g4) (fun _ q => q.elim)).trans' f5 (fun d hd hlt => by have := hb5 d hd; omega)).trans' o6.fr fun d hd _ => .inr hd
    have r5 : Rm h0 p s l h5 a3 n1 := (r3.grw g4).tn f5 (fun q => by have := hb5 _ q; omega) (fun d q => by have := hb5 d q; have := r.g.1; omega)
    refine Wr_i64 (by omega) (by omega) (hN _ _ ⟨i + 1, xs ++ [(x, x3)], s', a3, n1, by simp, by omega, by simp [hxs], f16, r5.fr o6.fr n3 l3, by simpa using k3, o6.blk k2 n23, ?_, repD_snoc (by omega) eq (by unfold noteD; rw [q]; simp only [q3])⟩ (by omega))
    rw [mdsV_snoc]
    exact (o5.fr o6.fr fun b hb _ e => by omega).wide (Nat.le_refl _) (by rw [o6.1]; exact Nat.le_refl _)
  · simp only [decide_eq_true_eq, decide_eq_false_iff_not, beq_iff_eq, beq_eq_false_iff_ne, ne_eq, reduceCtorEq, true_iff, false_iff, Bool.not_eq_true', Bool.not_eq_false', bne_iff_ne, bne_eq_false_iff_eq, Bool.not_true, Bool.not_false, Decidable.not_not] at c1
    have : i = c := by omega
    subst this
    refine Ld_blk k3 rfl (Ld_blk k3 rfl (St_i k2 (by simp) rfl fun h2 o2 k2 => St_i k2 (by simp) rfl fun h3 o3 k2 => ?_))
    have k2 : B25 h3 b2 s1 sl := by simp at k2; exact k2
    have o := o2.trans o3
    refine Ld_blk k2 rfl (Ld_blk k2 rfl ?_)
    refine hk xs a1 n1 (repD_end eq) sl h3 ((f1.mono fun d hd _ => by omega).trans' o.fr fun d hd _ => .inr (.inr hd)) (r1.fr o.fr n2 l2) ((o1.fr o.fr fun b hb _ e => by omega).wide (Nat.le_refl _) (by rw [o.1]; exact Nat.le_refl _))
theorem schema_m {h0 : Hp} {p : Nat} {s : Sl} {l : List UInt8} {h : Hp} {a n : Nat} {K : Sl → Sl → HP} {Kp : PK} (r : Rm h0 p s l h a n) (hn : n ≤ 256)
    (he : ∀ e, schemaD l a n = .error e → ∀ h', Tn (· = p) h h' → Kp (stopV e) h')
    (hk : ∀ fs ms a' n', schemaD l a n = .ok ((fs, ms), a', n') → ∀ t1 t2 h', Tn (· = p) h h' → Rm h0 p s l h' a' n' → FsD (In h.size h'.size) h' t1 fs → Sh h.size h'.size 2 h' t2 (mdsV ms) 66 → K t1 t2 h') : Fn46 (some ⟨p, 0, none⟩) h K Kp := by
  refine Fn46.of ?_
  unfold S46
  refine New_i fun b2 h1 e1 g1 k2 _ => New_i fun b3 h2 e2 g2 k3 _ => ?_
  have ip := r.blk.lt
  have k2 : B25 h2 b2 Sl.nil Sl.nil := k2.grw g2
  have k3 : B25 h2 b3 Sl.nil Sl.nil := k3
  have g12 := Grw.trans g1 g2
  have n23 : b2 ≠ b3 := by have := g1.1; have := k2.lt; intro e; subst e; omega
  have l2 : h.size ≤ b2 := by omega
  have l3 : h.size ≤ b3 := by have := g1.1; omega
  have lh := r.g.1
  refine number_m (w := 2) (r.grw g12) rfl (by omega) (fun e q => he e (by unfold schemaD; rw [q]) h2 (Tn.of_grw g12)) fun c a1 q1 h3 f3 r3 => ?_
  have f3' : Tn (· = p) h h3 := (Tn.of_grw g12 : Tn (· = p) h h2).trans f3
  have hc := (numD_le q1 r.ha).2.2
  refine fldsM r3 hn hc rfl (f3.blk k2 (by omega)) (f3.blk k3 (by omega)) n23 (by omega) (by omega) (by omega) (fun e q h4 f4 => he e (by unfold schemaD; rw [q1]; simp only [q]) h4 (f3'.trans' f4 fun d hd hlt => by omega)) fun fs a2 n2 q2 t h4 f4 r4 hn2 hf k3 k2 => ?_
  have f4' : Tn (· = p) h h4 := f3'.trans' f4 fun d hd hlt => by omega
  refine J46_1.of ?_
  unfold JT46_1
  refine number_m (w := 2) r4 rfl (by omega) (fun e q => he e (by unfold schemaD; rw [q1]; simp only [q2, q]) h4 f4') fun c2 a3 q3 h5 f5 r5 => ?_
  have hc2 := (numD_le q3 r4.ha).2.2
  have hf5 : FsD (In h3.size h4.size) h5 t fs := FsD.fr f5 (fun d hd => ⟨fun e => by have := hd.1; have := f3'.1; omega, hd⟩) fs hf
  refine notesM r5 hc2 rfl (f5.blk k2 (by omega)) (f5.blk k3 (by omega)) n23 (by omega) (by omega) (by omega) (by omega) (fun e q h6 f6 => he e (by unfold schemaD; rw [q1]; simp only [q2, q3, q]) h6 ((f4'.trans f5).trans' f6 fun d hd hlt => by omega)) fun ms a4 n4 q4 t2 h6 f6 r6 o6 => ?_
  refine hk fs ms a4 n4 (by unfold schemaD; rw [q1]; simp only [q2, q3, q4]) t t2 h6 ((f4'.trans f5).trans' f6 fun d hd hlt => by omega) r6 (FsD.fr f6 (fun d hd => ⟨fun e => ?_, ?_⟩) fs hf5) (o6.wide (by have := f4'.1; have := f5.1; omega) (Nat.le_refl _))
  · have := hd.1; have := f3.1; have := g2.1; have := k2.lt; have := k3.lt
    have h1s : b2 < h2.size := by have := g2.1; omega
    have h2s : b3 < h2.size := by omega
    omega
  · have := hd.1; have := f3'.1; exact ⟨by omega, by have := hd.2; have := f5.1; have := f6.1; omega⟩
end Go.Proofs.YtfomkkdijjfpiaaDoor
/- The package's reader: a head. -/
namespace Go.Proofs.YtfomkkdijjfpiaaDoor
open Go Go.Sh Go.WideShapes
def ndsV (ms : List Nd) : List Value := (ms.map ndRow).flatten
theorem ndsV_snoc (ms : List Nd) (m : Nd) : ndsV (ms ++ [m]) = ndsV ms ++ ndRow m := by simp [ndsV]
theorem ndsV_len (ms : List Nd) : (ndsV ms).length = ms.length * 2 := by
  have := flat_len (n := 2) (rows := ms.map ndRow) fun r hr => by obtain ⟨m, _, rfl⟩ := List.mem_map.1 hr; rfl
  simpa [ndsV] using this
def bfsV (ms : List Bf) : List Value := (ms.map bfRow).flatten
theorem bfsV_snoc (ms : List Bf) (m : Bf) : bfsV (ms ++ [m]) = bfsV ms ++ bfRow m := by simp [bfsV]
theorem bfsV_len (ms : List Bf) : (bfsV ms).length = ms.length * 3 := by
  have := flat_len (n := 3) (rows := ms.map bfRow) fun r hr => by obtain ⟨m, _, rfl⟩ := List.mem_map.1 hr; rfl
  simpa [bfsV] using this
/-- the lists of a head that was read: in blocks of a stretch -/
structure HdD (lo hi : Nat) (h : Hp) (H : Hd) (s1 s2 s7 s8 : Sl) : Prop where
  fs : FsD (In lo hi) h s1 H.fs
  ms : Sh lo hi 2 h s2 (mdsV H.ms) 66
  nodes : Sh lo hi 2 h s7 (ndsV H.nodes) 55
  bufs : Sh lo hi 3 h s8 (bfsV H.bufs) 57
theorem HdD.h {lo hi : Nat} {h : Hp} {H : Hd} {s1 s2 s7 s8 : Sl} (d : HdD lo hi h H s1 s2 s7 s8) : HdH h H s1 s2 s7 s8 :=
  ⟨FsD.h _ d.fs, Sh.rsh (rows := H.ms.map mdRow) d.ms (by omega) (fun r hr => by obtain ⟨m, _, rfl⟩ := List.mem_map.1 hr; rfl), Sh.rsh (rows := H.nodes.map ndRow) d.nodes (by omega) (fun r hr => by obtain ⟨m, _, rfl⟩ := List.mem_map.1 hr; rfl), Sh.rsh (rows := H.bufs.map bfRow) d.bufs (by omega) (fun r hr => by obtain ⟨m, _, rfl⟩ := List.mem_map.1 hr; rfl)⟩
theorem HdD.fr {lo hi lo' hi' : Nat} {h h' : Hp} {H : Hd} {s1 s2 s7 s8 : Sl} {S : Nat → Prop} (d : HdD lo hi h H s1 s2 s7 s8) (f : Tn S h h') (hS : ∀ b, lo ≤ b → b < hi → ¬ S b) (h1 : lo' ≤ lo) (h2 : hi ≤ hi') : HdD lo' hi' h' H s1 s2 s7 s8 :=
  ⟨FsD.fr f (fun b hb => ⟨hS b hb.1 hb.2, by have := hb.1; have := hb.2; constructor <;> omega⟩) _ d.fs, (d.ms.fr f hS).wide h1 h2, (d.nodes.fr f hS).wide h1 h2, (d.bufs.fr f hS).wide h1 h2⟩
/-- nine cells are copied and handed over -/
theorem copy9 {h : Hp} {b2 : Nat} {cs : Array Value} {k id rows press : Int} {s1 s2 s7 s8 : Sl} {de : Bool} {K : Int → Sl → Sl → Int → Bool → Int → Int → Sl → Sl → HP} (k2 : Blk h b2 cs 29) (hc : cs.size = 9) (hk : ∀ h', Only b2 h h' → K k s1 s2 id de rows press s7 s8 h') :
    St h ⟨b2, 0, none⟩ (.int .i64 k) fun h1 => St h1 ⟨b2, 1, none⟩ (Sl.v s1) fun h2 => St h2 ⟨b2, 2, none⟩ (Sl.v s2) fun h3 => St h3 ⟨b2, 3, none⟩ (.int .i64 id) fun h4 => St h4 ⟨b2, 4, none⟩ (.bool de) fun h5 => St h5 ⟨b2, 5, none⟩ (.int .i64 rows) fun h6 => St h6 ⟨b2, 6, none⟩ (.int .i64 press) fun h7 => St h7 ⟨b2, 7, none⟩ (Sl.v s7) fun h8 => St h8 ⟨b2, 8, none⟩ (Sl.v s8) fun h9 =>
      Ld h9 ⟨b2, 0, none⟩ (Value.int .i64) fun r0 => Ld h9 ⟨b2, 1, none⟩ (Sl.v) fun r1 => Ld h9 ⟨b2, 2, none⟩ (Sl.v) fun r2 => Ld h9 ⟨b2, 3, none⟩ (Value.int .i64) fun r3 => Ld h9 ⟨b2, 4, none⟩ (Value.bool) fun r4 => Ld h9 ⟨b2, 5, none⟩ (Value.int .i64) fun r5 => Ld h9 ⟨b2, 6, none⟩ (Value.int .i64) fun r6 => Ld h9 ⟨b2, 7, none⟩ (Sl.v) fun r7 => Ld h9 ⟨b2, 8, none⟩ (Sl.v) fun r8 => K r0 r1 r2 r3 r4 r5 r6 r7 r8 h9 := by
  obtain ⟨v0, v1, v2, v3, v4, v5, v6, v7, v8, e⟩ := len9 (l := cs.toList) (by simpa using hc)
  obtain rfl : cs = #[v0, v1, v2, v3, v4, v5, v6, v7, v8] := by cases cs; simp_all
  refine St_i k2 (by simp) rfl fun h1 o1 k2 => St_i k2 (by simp) rfl fun h2 o2 k2 => St_i k2 (by simp) rfl fun h3 o3 k2 => St_i k2 (by simp) rfl fun h4 o4 k2 => St_i k2 (by simp) rfl fun h5 o5 k2 => St_i k2 (by simp) rfl fun h6 o6 k2 => St_i k2 (by simp) rfl fun h7 o7 k2 => St_i k2 (by simp) rfl fun h8 o8 k2 => St_i k2 (by simp) rfl fun h9 o9 k2 => ?_
  have k2 : B9 h9 b2 k s1 s2 id de rows press s7 s8 := by simp at k2; exact k2
  refine Ld_blk k2 rfl (Ld_blk k2 rfl (Ld_blk k2 rfl (Ld_blk k2 rfl (Ld_blk k2 rfl (Ld_blk k2 rfl (Ld_blk k2 rfl (Ld_blk k2 rfl (Ld_blk k2 rfl ?_))))))))
  exact hk h9 ((((((((o1.trans o2).trans o3).trans o4).trans o5).trans o6).trans o7).trans o8).trans o9)
theorem slotsM {h0 : Hp} {p : Nat} {s : Sl} {l : List UInt8} {h : Hp} {a n c b2 b3 : Nat} {y : Int} {k id rows press : Int} {s1 s2 s7 : Sl} {de : Bool} {cs : Array Value} {K : Int → Sl → Sl → Int → Bool → Int → Int → Sl → Sl → HP} {Kp : PK} (r : Rm h0 p s l h a n) (hc : c < 65536) (hy : y = c)
    (k2 : Blk h b2 cs 29) (hcs : cs.size = 9) (k3 : B9 h b3 k s1 s2 id de rows press s7 Sl.nil) (n23 : b2 ≠ b3) (n2 : b2 ≠ p) (n3 : b3 ≠ p) (l2 : h0.size ≤ b2) (l3 : h0.size ≤ b3)
    (he : ∀ e, repD (slotD l) c a n = .error e → ∀ h', Tn (fun d => d = p ∨ d = b3) h h' → Kp (stopV e) h')
    (hk : ∀ ms a' n', repD (slotD l) c a n = .ok (ms, a', n') → ∀ t h', Tn (fun d => d = p ∨ d = b3 ∨ d = b2) h h' → Rm h0 p s l h' a' n' → Sh h.size h'.size 3 h' t (bfsV ms) 57 → K k s1 s2 id de rows press s7 t h') : L30_3 (some ⟨p, 0, none⟩) ⟨b2, 0, none⟩ ⟨b3, 0, none⟩ y K Kp 0 h := by
  subst hy
  have i2 := k2.lt
  have i3 := k3.lt
  have ip := r.blk.lt
  refine L30_3.rule (fun z h1 => ∃ (i : Nat) (xs : List Bf) (sl : Sl) (a' n' : Nat), z = i ∧ i ≤ c ∧ xs.length = i ∧ Tn (fun d => d = p ∨ d = b3) h h1 ∧ Rm h0 p s l h1 a' n' ∧ B9 h1 b3 k s1 s2 id de rows press s7 sl ∧ Blk h1 b2 cs 29 ∧ Sh h.size h1.size 3 h1 sl (bfsV xs) 57 ∧
    repD (slotD l) c a n = preD xs (repD (slotD l) (c - i) a' n')) (fun z _ => c - z.toNat)
    ⟨0, [], Sl.nil, a, n, rfl, by omega, rfl, Tn.refl _ _, r, k3, k2, Sh.nil _ _ _ _ _, repD_start⟩ ?_
  rintro z h1 ⟨i, xs, sl, a1, n1, rfl, hi, hxs, f1, r1, k3, k2, o1, eq⟩ N1 hN
  unfold T30_3
  simp only [add_blk, Nat.reduceAdd]
  refine If_i (fun c1 => ?_) fun c1 => ?_
  · simp only [decide_eq_true_eq, decide_eq_false_iff_not, beq_iff_eq, beq_eq_false_iff_ne, ne_eq, reduceCtorEq, true_iff, false_iff, Bool.not_eq_true', Bool.not_eq_false', bne_iff_ne, bne_eq_false_iff_eq, Bool.not_true, Bool.not_false, Decidable.not_not] at c1
    have herr : ∀ e, slotD l a1 n1 = .error e → ∀ h2, Tn (· = p) h1 h2 → Kp (stopV e) h2 := fun e q h2 f2 => he e (repD_err (by omega) eq q) h2 (f1.trans (f2.mono fun d hd _ => .inl hd))
    refine number_m (w := 4) r1 rfl (by omega) (fun e q => herr e (by unfold slotD; rw [q]) h1 (Tn.refl _ _)) fun x a2 q h2 f2 r2 => ?_
    refine number_m (w := 4) r2 rfl (by omega) (fun e q3 => herr e (by unfold slotD; rw [q]; simp only [q3]) h2 f2) fun x3 a3 q3 h3 f3 r3 => ?_
    have k3' := (f2.trans f3).blk k3 n3
    refine Ld_blk k3' rfl ?_
    refine number_m (w := 4) r3 rfl (by omega) (fun e q4 => herr e (by unfold slotD; rw [q]; simp only [q3, q4]) h3 (f2.trans f3)) fun x4 a4 q4 h4 f4 r4 => ?_
    have k3'' := f4.blk k3' n3
    have f24 := (f2.trans f3).trans f4
    refine Keep_i k3' k3'' rfl (New_i fun bx h5 ex g5 kx _ => Keep_i k3'' (k3''.grw g5) rfl ?_)
    have o4 := (((o1.fr f24 fun b hb _ e => by omega).grw g5).wide (lo' := h.size) (hi' := h5.size) (Nat.le_refl _) (by have := f24.1; have := g5.1; omega))
    have hln := o4.n
    rw [bfsV_len] at hln
    refine Ap_sh o4 (by have := f1.1; have := f24.1; have := g5.1; omega) rfl (new := bfRow ((x : Int), (x3 : Int), (x4 : Int))) rfl (by simp [bfRow, one]) (rd_blk kx rfl) (by omega) (by omega) fun s' h6 f6 at6 o6 hn6 => ?_
    have hb6 : ∀ d, sl.at d → h.size ≤ d := fun d hd => (o4.at hd).1
    have k3 := f6.blk (k3''.grw g5) (fun q => by have := hb6 _ q; omega)
    have k2 := f6.blk ((f24.blk k2 n2).grw g5) (fun q => by have := hb6 _ q; omega)
    refine St_i k3 (by simp [vals9]) rfl fun h7 o7 k3 => ?_
    have k3 : B9 h7 b3 k s1 s2 id de rows press s7 s' := by simp [vals9] at k3; exact k3
    have f17 : Tn (fun d => d = p ∨ d = b3) h h7 := (((f1.trans (f24.mono fun d hd _ => .inl hd)).trans' (Tn.of_grw (S := No) g5) (fun _ q => q.elim)).trans' f6 (fun d hd hlt => by have := hb6 d hd; omega)).trans' o7.fr fun d hd _ => .inr hd
    have r6 : Rm h0 p s l h6 a4 n1 := (r4.grw g5).tn f6 (fun q => by have := hb6 _ q; omega) (fun d q => by have := hb6 d q; have := r.g.1; omega)
    refine Wr_i64 (by omega) (by omega) (hN _ _ ⟨i + 1, xs ++ [((x : Int), (x3 : Int), (x4 : Int))], s', a4, n1, by simp, by omega, by simp [hxs], f17, r6.fr o7.fr n3 l3, k3, o7.blk k2 n23, ?_, repD_snoc (by omega) eq (by unfold slotD; rw [q]; simp only [q3, q4])⟩ (by omega))
    rw [bfsV_snoc]
    exact (o6.fr o7.fr fun b hb _ e => by omega).wide (Nat.le_refl _) (by rw [o7.1]; exact Nat.le_refl _)
  · simp only [decide_eq_true_eq, decide_eq_false_iff_not, beq_iff_eq, beq_eq_false_iff_ne, ne_eq, reduceCtorEq, true_iff, false_iff, Bool.not_eq_true', Bool.not_eq_false', bne_iff_ne, bne_eq_false_iff_eq, Bool.not_true, Bool.not_false, Decidable.not_not] at c1
    have : i = c := by omega
    subst this
    refine Ld_blk k3 rfl (Ld_blk k3 rfl (Ld_blk k3 rfl (Ld_blk k3 rfl (Ld_blk k3 rfl (Ld_blk k3 rfl (Ld_blk k3 rfl (Ld_blk k3 rfl (Ld_blk k3 rfl ?_))))))))
    refine copy9 k2 hcs fun h3 o => ?_
    refine hk xs a1 n1 (repD_end eq) sl h3 ((f1.mono fun d hd _ => by omega).trans' o.fr fun d hd _ => .inr (.inr hd)) (r1.fr o.fr n2 l2) ((o1.fr o.fr fun b hb _ e => by omega).wide (Nat.le_refl _) (by rw [o.1]; exact Nat.le_refl _))
theorem nodesM {h0 : Hp} {p : Nat} {s : Sl} {l : List UInt8} {h : Hp} {a n c b2 b3 : Nat} {y : Int} {k id rows press : Int} {s1 s2 : Sl} {de : Bool} {cs : Array Value} {K : Int → Sl → Sl → Int → Bool → Int → Int → Sl → Sl → HP} {Kp : PK} (r : Rm h0 p s l h a n) (hc : c < 65536) (hy : y = c)
    (k2 : Blk h b2 cs 29) (k3 : B9 h b3 k s1 s2 id de rows press Sl.nil Sl.nil) (n23 : b2 ≠ b3) (n2 : b2 ≠ p) (n3 : b3 ≠ p) (l3 : h0.size ≤ b3)
    (he : ∀ e, repD (nodeD l) c a n = .error e → ∀ h', Tn (fun d => d = p ∨ d = b3) h h' → Kp (stopV e) h')
    (hk : ∀ ms a' n', repD (nodeD l) c a n = .ok (ms, a', n') → ∀ t h', Tn (fun d => d = p ∨ d = b3) h h' → Rm h0 p s l h' a' n' → Sh h.size h'.size 2 h' t (ndsV ms) 55 → B9 h' b3 k s1 s2 id de rows press t Sl.nil → Blk h' b2 cs 29 → J30_2 (some ⟨p, 0, none⟩) ⟨b2, 0, none⟩ ⟨b3, 0, none⟩ K Kp h') : L30_4 (some ⟨p, 0, none⟩) ⟨b2, 0, none⟩ ⟨b3, 0, none⟩ y K Kp 0 h := by
  subst hy
  have i2 := k2.lt
  have i3 := k3.lt
  have ip := r.blk.lt
  refine L30_4.rule (fun z h1 => ∃ (i : Nat) (xs : List Nd) (sl : Sl) (a' n' : Nat), z = i ∧ i ≤ c ∧ xs.length = i ∧ Tn (fun d => d = p ∨ d = b3) h h1 ∧ Rm h0 p s l h1 a' n' ∧ B9 h1 b3 k s1 s2 id de rows press sl Sl.nil ∧ Blk h1 b2 cs 29 ∧ Sh h.size h1.size 2 h1 sl (ndsV xs) 55 ∧
    repD (nodeD l) c a n = preD xs (repD (nodeD l) (c - i) a' n')) (fun z _ => c - z.toNat)
    ⟨0, [], Sl.nil, a, n, rfl, by omega, rfl, Tn.refl _ _, r, k3, k2, Sh.nil _ _ _ _ _, repD_start⟩ ?_
  rintro z h1 ⟨i, xs, sl, a1, n1, rfl, hi, hxs, f1, r1, k3, k2, o1, eq⟩ N1 hN
  unfold T30_4
  simp only [add_blk, Nat.reduceAdd]
  refine If_i (fun c1 => ?_) fun c1 => ?_
  · simp only [decide_eq_true_eq, decide_eq_false_iff_not, beq_iff_eq, beq_eq_false_iff_ne, ne_eq, reduceCtorEq, true_iff, false_iff, Bool.not_eq_true', Bool.not_eq_false', bne_iff_ne, bne_eq_false_iff_eq, Bool.not_true, Bool.not_false, Decidable.not_not] at c1
    have herr : ∀ e, nodeD l a1 n1 = .error e → ∀ h2, Tn (· = p) h1 h2 → Kp (stopV e) h2 := fun e q h2 f2 => he e (repD_err (by omega) eq q) h2 (f1.trans (f2.mono fun d hd _ => .inl hd))
    refine number_m (w := 4) r1 rfl (by omega) (fun e q => herr e (by unfold nodeD; rw [q]) h1 (Tn.refl _ _)) fun x a2 q h2 f2 r2 => ?_
    have k3' := f2.blk k3 n3
    refine Ld_blk k3' rfl ?_
    refine number_m (w := 4) r2 rfl (by omega) (fun e q3 => herr e (by unfold nodeD; rw [q]; simp only [q3]) h2 f2) fun x4 a4 q4 h4 f4 r4 => ?_
    have k3'' := f4.blk k3' n3
    have f24 := f2.trans f4
    refine Keep_i k3' k3'' rfl (New_i fun bx h5 ex g5 kx _ => Keep_i k3'' (k3''.grw g5) rfl ?_)
    have o4 := (((o1.fr f24 fun b hb _ e => by omega).grw g5).wide (lo' := h.size) (hi' := h5.size) (Nat.le_refl _) (by have := f24.1; have := g5.1; omega))
    have hln := o4.n
    rw [ndsV_len] at hln
    refine Ap_sh o4 (by have := f1.1; have := f24.1; have := g5.1; omega) rfl (new := ndRow ((x : Int), (x4 : Int))) rfl (by simp [ndRow, one]) (rd_blk kx rfl) (by omega) (by omega) fun s' h6 f6 at6 o6 hn6 => ?_
    have hb6 : ∀ d, sl.at d → h.size ≤ d := fun d hd => (o4.at hd).1
    have k3 := f6.blk (k3''.grw g5) (fun q => by have := hb6 _ q; omega)
    have k2 := f6.blk ((f24.blk k2 n2).grw g5) (fun q => by have := hb6 _ q; omega)
    refine St_i k3 (by simp [vals9]) rfl fun h7 o7 k3 => ?_
    have k3 : B9 h7 b3 k s1 s2 id de rows press s' Sl.nil := by simp [vals9] at k3; exact k3
    have f17 : Tn (fun d => d = p ∨ d = b3) h h7 := (((f1.trans (f24.mono fun d hd _ => .inl hd)).trans' (Tn.of_grw (S := No) g5) (fun _ q => q.elim)).trans' f6 (fun d hd hlt => by have := hb6 d hd; omega)).trans' o7.fr fun d hd _ => .inr hd
    have r6 : Rm h0 p s l h6 a4 n1 := (r4.grw g5).tn f6 (fun q => by have := hb6 _ q; omega) (fun d q => by have := hb6 d q; have := r.g.1; omega)
    refine Wr_i64 (by omega) (by omega) (hN _ _ ⟨i + 1, xs ++ [((x : Int), (x4 : Int))], s', a4, n1, by simp, by omega, by simp [hxs], f17, r6.fr o7.fr n3 l3, k3, o7.blk k2 n23, ?_, repD_snoc (by omega) eq (by unfold nodeD; rw [q]; simp only [q4])⟩ (by omega))
    rw [ndsV_snoc]
    exact (o6.fr o7.fr fun b hb _ e => by omega).wide (Nat.le_refl _) (by rw [o7.1]; exact Nat.le_refl _)
  · simp only [decide_eq_true_eq, decide_eq_false_iff_not, beq_iff_eq, beq_eq_false_iff_ne, ne_eq, reduceCtorEq, true_iff, false_iff, Bool.not_eq_true', Bool.not_eq_false', bne_iff_ne, bne_eq_false_iff_eq, Bool.not_true, Bool.not_false, Decidable.not_not] at c1
    have : i = c := by omega
    subst this
    exact hk xs a1 n1 (repD_end eq) sl h1 f1 r1 o1 k3 k2
end Go.Proofs.YtfomkkdijjfpiaaDoor
/- The package's reader: a head, the whole. -/
namespace Go.Proofs.YtfomkkdijjfpiaaDoor
open Go Go.Sh Go.WideShapes
theorem body_m {h0 : Hp} {p : Nat} {s : Sl} {l : List UInt8} {h : Hp} {a n b2 b3 : Nat} {k id : Int} {de : Bool} {cs : Array Value} {K : Int → Sl → Sl → Int → Bool → Int → Int → Sl → Sl → HP} {Kp : PK} (r : Rm h0 p s l h a n)
    (k2 : Blk h b2 cs 29) (hcs : cs.size = 9) (k3 : B9 h b3 k Sl.nil Sl.nil id de 0 0 Sl.nil Sl.nil) (n23 : b2 ≠ b3) (n2 : b2 ≠ p) (n3 : b3 ≠ p) (l2 : h0.size ≤ b2) (l3 : h0.size ≤ b3)
    (he : ∀ e, bodyD l k id de a n = .error e → ∀ h', Tn (fun d => d = p ∨ d = b3 ∨ d = b2) h h' → Kp (stopV e) h')
    (hk : ∀ H a' n', bodyD l k id de a n = .ok (H, a', n') → ∀ s1 s2 s7 s8 h', Tn (fun d => d = p ∨ d = b3 ∨ d = b2) h h' → Rm h0 p s l h' a' n' → HdD h.size h'.size h' H s1 s2 s7 s8 → K H.k s1 s2 H.id H.de H.rows H.press s7 s8 h') : J30_1 (some ⟨p, 0, none⟩) ⟨b2, 0, none⟩ ⟨b3, 0, none⟩ K Kp h := by
  have i2 := k2.lt
  have i3 := k3.lt
  have ip := r.blk.lt
  refine J30_1.of ?_
  unfold JT30_1
  simp only [add_blk, Nat.reduceAdd]
  refine number_m (w := 4) r rfl (by omega) (fun e q => he e (by unfold bodyD; rw [q]) h (Tn.refl _ _)) fun rows a1 q1 h1 f1 r1 => ?_
  refine St_i (f1.blk k3 n3) (by simp [vals9]) rfl fun h2 o2 k3 => ?_
  have k3 : B9 h2 b3 k Sl.nil Sl.nil id de rows 0 Sl.nil Sl.nil := by simp [vals9] at k3; exact k3
  have f2 : Tn (fun d => d = p ∨ d = b3 ∨ d = b2) h h2 := (f1.mono fun d hd _ => .inl hd).trans' o2.fr fun d hd _ => .inr (.inl hd)
  have r2 := r1.fr o2.fr n3 l3
  refine number_m (w := 1) r2 rfl (by omega) (fun e q => he e (by unfold bodyD; rw [q1]; simp only [q]) h2 f2) fun press a2 q2 h3 f3 r3 => ?_
  refine St_i (f3.blk k3 n3) (by simp [vals9]) rfl fun h4 o4 k3 => ?_
  have k3 : B9 h4 b3 k Sl.nil Sl.nil id de rows press Sl.nil Sl.nil := by simp [vals9] at k3; exact k3
  have f4 : Tn (fun d => d = p ∨ d = b3 ∨ d = b2) h h4 := (f2.trans (f3.mono fun d hd _ => .inl hd)).trans' o4.fr fun d hd _ => .inr (.inl hd)
  have r4 := r3.fr o4.fr n3 l3
  refine number_m (w := 2) r4 rfl (by omega) (fun e q => he e (by unfold bodyD; rw [q1]; simp only [q2, q]) h4 f4) fun c a3 q3 h5 f5 r5 => ?_
  have f5' : Tn (fun d => d = p ∨ d = b3 ∨ d = b2) h h5 := f4.trans (f5.mono fun d hd _ => .inl hd)
  have k2 := f5.blk (o4.blk (f3.blk (o2.blk (f1.blk k2 n2) n23) n2) n23) n2
  have k3 := f5.blk k3 n3
  have s5 := f5'.1
  refine nodesM r5 (numD_le q3 r4.ha).2.2 rfl k2 k3 n23 n2 n3 l3 (fun e q h6 f6 => he e (by unfold bodyD; rw [q1]; simp only [q2, q3, q]) h6 (f5'.trans (f6.mono fun d hd _ => by omega))) fun nodes a4 n4 q4 t h6 f6 r6 o6 k3 k2 => ?_
  have f6' : Tn (fun d => d = p ∨ d = b3 ∨ d = b2) h h6 := f5'.trans (f6.mono fun d hd _ => by omega)
  refine J30_2.of ?_
  unfold JT30_2
  refine number_m (w := 2) r6 rfl (by omega) (fun e q => he e (by unfold bodyD; rw [q1]; simp only [q2, q3, q4, q]) h6 f6') fun c2 a5 q5 h7 f7 r7 => ?_
  have f7' : Tn (fun d => d = p ∨ d = b3 ∨ d = b2) h h7 := f6'.trans (f7.mono fun d hd _ => .inl hd)
  have s6 := f6.1
  have s7 := f7.1
  refine slotsM r7 (numD_le q5 r6.ha).2.2 rfl (f7.blk k2 n2) hcs (f7.blk k3 n3) n23 n2 n3 l2 l3 (fun e q h8 f8 => he e (by unfold bodyD; rw [q1]; simp only [q2, q3, q4, q5, q]) h8 (f7'.trans (f8.mono fun d hd _ => by omega))) fun bufs a6 n6 q6 t8 h8 f8 r8 o8 => ?_
  have o7 : Sh h5.size h6.size 2 h7 t (ndsV nodes) 55 := o6.fr f7 fun b hb _ e => by omega
  have o8' : Sh h5.size h6.size 2 h8 t (ndsV nodes) 55 := o7.fr f8 fun b hb _ e => by omega
  refine hk ⟨k, [], [], id, de, rows, press, nodes, bufs⟩ a6 n6 (by unfold bodyD; rw [q1]; simp only [q2, q3, q4, q5, q6]) Sl.nil Sl.nil t t8 h8 (f7'.trans f8) r8 ⟨by unfold FsD; rfl, Sh.nil _ _ _ _ _, o8'.wide (by omega) (by have := f8.1; omega), o8.wide (by omega) (Nat.le_refl _)⟩
theorem head_m {h0 : Hp} {p : Nat} {s : Sl} {l : List UInt8} {h : Hp} {K : Int → Sl → Sl → Int → Bool → Int → Int → Sl → Sl → HP} {Kp : PK} (r : Rm h0 p s l h 0 0)
    (he : ∀ e, headD l = .error e → ∀ h', Tn (· = p) h h' → Kp (stopV e) h')
    (hk : ∀ H a' n', headD l = .ok (H, a', n') → ∀ s1 s2 s7 s8 h', Tn (· = p) h h' → Rm h0 p s l h' a' n' → HdD h.size h'.size h' H s1 s2 s7 s8 → K H.k s1 s2 H.id H.de H.rows H.press s7 s8 h') : Fn30 (some ⟨p, 0, none⟩) h K Kp := by
  have ip := r.blk.lt
  have lh := r.g.1
  refine Fn30.of ?_
  unfold S30
  refine New_i fun b2 h1 e1 g1 k2 _ => ?_
  have f1 : Tn (· = p) h h1 := Tn.of_grw g1
  refine among_m (lo := 1) (hi := 3) (r.grw g1) rfl rfl (fun e q h2 f2 => he e (by unfold headD; rw [q]) h2 (f1.trans f2)) fun k a1 q1 h2 f2 r2 => ?_
  have n2 : b2 ≠ p := by omega
  have k2 := f2.blk k2 n2
  have f2 := f1.trans f2
  have s2 := f2.1
  have lc := SyH.start No h2
  refine lc.new fun b3 _ hb3 _ lc => ?_
  refine lc.st 0 rfl rfl rfl fun _ _ lc => ?_; simp only [Nat.zero_add, List.set_cons_zero, List.set_cons_succ, List.setIfInBounds_toArray] at lc; refine lc.sto 0 rfl rfl rfl fun _ _ lc => ?_; simp only [Nat.zero_add, List.set_cons_zero, List.set_cons_succ, List.setIfInBounds_toArray] at lc; refine lc.sto 0 rfl rfl rfl fun _ _ lc => ?_; simp only [Nat.zero_add, List.set_cons_zero, List.set_cons_succ, List.setIfInBounds_toArray] at lc; refine lc.sto 0 rfl rfl rfl fun _ _ lc => ?_; simp only [Nat.zero_add, List.set_cons_zero, List.set_cons_succ, List.setIfInBounds_toArray] at lc; refine lc.sto 0 rfl rfl rfl fun _ _ lc => ?_; simp only [Nat.zero_add, List.set_cons_zero, List.set_cons_succ, List.setIfInBounds_toArray] at lc; refine lc.sto 0 rfl rfl rfl fun _ _ lc => ?_; simp only [Nat.zero_add, List.set_cons_zero, List.set_cons_succ, List.setIfInBounds_toArray] at lc; refine lc.sto 0 rfl rfl rfl fun _ _ lc => ?_; simp only [Nat.zero_add, List.set_cons_zero, List.set_cons_succ, List.setIfInBounds_toArray] at lc; refine lc.sto 0 rfl rfl rfl fun _ _ lc => ?_; simp only [Nat.zero_add, List.set_cons_zero, List.set_cons_succ, List.setIfInBounds_toArray] at lc; refine lc.sto 0 rfl rfl rfl fun _ _ lc => ?_; simp only [Nat.zero_add, List.set_cons_zero, List.set_cons_succ, List.setIfInBounds_toArray] at lc
  rename_i h3 _
  have k3 : B9 h3 b3 k Sl.nil Sl.nil 0 false 0 0 Sl.nil Sl.nil := lc.blk (i := 0) rfl
  have g3 := lc.grw
  have ib3 := k3.lt
  clear lc
  have n3 : b3 ≠ p := by omega
  have n23 : b2 ≠ b3 := by have := k2.lt; omega
  have k2 := k2.grw g3
  have r3 := r2.grw g3
  have f3 : Tn (· = p) h h3 := f2.trans (Tn.of_grw g3)
  have hkk : 1 ≤ k ∧ k ≤ 3 := (amongD_le q1 r.ha).2.2
  refine among_m (lo := 1) (hi := 1) r3 rfl rfl (fun e q h4 f4 => he e (by unfold headD; rw [q1]; simp only [q]) h4 (f3.trans f4)) fun z2 a2 q2 h4 f4 r4 => ?_
  refine among_m (lo := 0) (hi := 0) r4 rfl rfl (fun e q h5 f5 => he e (by unfold headD; rw [q1]; simp only [q2, q]) h5 ((f3.trans f4).trans f5)) fun z3 a3 q3 h5 f5 r5 => ?_
  refine among_m (lo := 0) (hi := 0) r5 rfl rfl (fun e q h6 f6 => he e (by unfold headD; rw [q1]; simp only [q2, q3, q]) h6 (((f3.trans f4).trans f5).trans f6)) fun z4 a4 q4 h6 f6 r6 => ?_
  have f36 := (f4.trans f5).trans f6
  have k2 := f36.blk k2 n2
  have k3 := f36.blk k3 n3
  have f6 := f3.trans f36
  have s36 := f36.1
  have s3 := f3.1
  have i2 : h.size ≤ b2 := by omega
  have i3 : h.size ≤ b3 := by omega
  have tn : ∀ {h'}, Tn (fun d => d = p ∨ d = b3 ∨ d = b2) h6 h' → Tn (· = p) h h' := fun f => f6.trans' f fun d hd hlt => by omega
  have eq : headD l = restD l k a4 := by unfold headD; rw [q1]; simp only [q2, q3, q4]
  simp only [add_blk, Nat.reduceAdd]
  refine Ld_blk k3 rfl (If_i (fun c => ?_) fun c => ?_)
  · simp only [decide_eq_true_eq, decide_eq_false_iff_not, beq_iff_eq, beq_eq_false_iff_ne, ne_eq, reduceCtorEq, true_iff, false_iff, Bool.not_eq_true', Bool.not_eq_false', bne_iff_ne, bne_eq_false_iff_eq, Bool.not_true, Bool.not_false, Decidable.not_not] at c
    have hk1 : k = 1 := by omega
    subst hk1
    refine schema_m r6 (by omega) (fun e q h7 f7 => he e (by rw [eq]; unfold restD; rw [if_pos rfl, q]) h7 (f6.trans f7)) fun fs ms a5 n5 q5 t1 t2 h7 f7 r7 hf ho => ?_
    refine St_i (f7.blk k3 n3) (by simp [vals9]) rfl fun h8 o8 k3 => St_i k3 (by simp [vals9]) rfl fun h9 o9 k3 => ?_
    have k3 : B9 h9 b3 1 t1 t2 0 false 0 0 Sl.nil Sl.nil := by simp [vals9] at k3; exact k3
    have o89 := o8.trans o9
    have k2 := o89.blk (f7.blk k2 n2) n23
    refine Ld_blk k3 rfl (Ld_blk k3 rfl (Ld_blk k3 rfl (Ld_blk k3 rfl (Ld_blk k3 rfl (Ld_blk k3 rfl (Ld_blk k3 rfl (Ld_blk k3 rfl (Ld_blk k3 rfl ?_))))))))
    refine copy9 k2 rfl fun h10 o10 => ?_
    have fall : Tn (fun d => d = b3 ∨ d = b2) h7 h10 := (o89.fr.mono fun d hd _ => .inl hd).trans' o10.fr fun d hd _ => .inr hd
    have D7 : HdD h6.size h7.size h7 ⟨1, fs, ms, 0, false, 0, 0, [], []⟩ t1 t2 Sl.nil Sl.nil := ⟨hf, ho, Sh.nil _ _ _ _ _, Sh.nil _ _ _ _ _⟩
    refine hk ⟨1, fs, ms, 0, false, 0, 0, [], []⟩ a5 n5 (by rw [eq]; unfold restD; rw [if_pos rfl, q5]) t1 t2 Sl.nil Sl.nil h10 (tn ((f7.mono fun d hd _ => .inl hd).trans' fall fun d hd _ => by omega)) (r7.tn fall (by omega) (fun d hd => by omega)) (D7.fr fall (fun b h1 h2 e => ?_) (by omega) fall.1)
    omega
  · simp only [decide_eq_true_eq, decide_eq_false_iff_not, beq_iff_eq, beq_eq_false_iff_ne, ne_eq, reduceCtorEq, true_iff, false_iff, Bool.not_eq_true', Bool.not_eq_false', bne_iff_ne, bne_eq_false_iff_eq, Bool.not_true, Bool.not_false, Decidable.not_not] at c
    refine Ld_blk k3 rfl (If_i (fun c2 => ?_) fun c2 => ?_)
    · simp only [decide_eq_true_eq, decide_eq_false_iff_not, beq_iff_eq, beq_eq_false_iff_ne, ne_eq, reduceCtorEq, true_iff, false_iff, Bool.not_eq_true', Bool.not_eq_false', bne_iff_ne, bne_eq_false_iff_eq, Bool.not_true, Bool.not_false, Decidable.not_not] at c2
      have hk2 : k = 2 := by omega
      subst hk2
      refine number_m (w := 2) r6 rfl (by omega) (fun e q => he e (by rw [eq]; unfold restD; rw [if_neg (by omega), if_pos rfl, q]) h6 f6) fun id a5 q5 h7 f7 r7 => ?_
      refine St_i (f7.blk k3 n3) (by simp [vals9]) rfl fun h8 o8 k3 => ?_
      have k3 : B9 h8 b3 2 Sl.nil Sl.nil id false 0 0 Sl.nil Sl.nil := by simp [vals9] at k3; exact k3
      have r8 := r7.fr o8.fr n3 (by omega)
      have f8 : Tn (fun d => d = p ∨ d = b3 ∨ d = b2) h6 h8 := (f7.mono fun d hd _ => .inl hd).trans' o8.fr fun d hd _ => .inr (.inl hd)
      have k2 := o8.blk (f7.blk k2 n2) n23
      refine among_m (lo := 0) (hi := 1) r8 rfl rfl (fun e q h9 f9 => he e (by rw [eq]; unfold restD; rw [if_neg (by omega), if_pos rfl, q5]; simp only [q]) h9 (tn (f8.trans (f9.mono fun d hd _ => .inl hd)))) fun de a6 q6 h9 f9 r9 => ?_
      refine St_i (f9.blk k3 n3) (by simp [vals9]) rfl fun h10 o10 k3 => ?_
      have k3 : B9 h10 b3 2 Sl.nil Sl.nil id ((de : Int) == 1) 0 0 Sl.nil Sl.nil := by simp [vals9] at k3; exact k3
      have e2 : ((de : Int) == 1) = (de == 1) := by
        rw [Bool.eq_iff_iff, beq_iff_eq, beq_iff_eq]; omega
      rw [e2] at k3
      have f10 : Tn (fun d => d = p ∨ d = b3 ∨ d = b2) h6 h10 := (f8.trans (f9.mono fun d hd _ => .inl hd)).trans' o10.fr fun d hd _ => .inr (.inl hd)
      have s10 := f10.1
      have er : restD l 2 a4 = bodyD l 2 id (de == 1) a6 0 := by unfold restD; rw [if_neg (by omega), if_pos rfl, q5]; simp only [q6]
      refine body_m (r9.fr o10.fr n3 (by omega)) (o10.blk (f9.blk k2 n2) n23) rfl k3 n23 n2 n3 (by omega) (by omega) (fun e q h11 f11 => he e (by rw [eq, er, q]) h11 (tn (f10.trans f11))) fun H a7 n7 q7 s1 s2' s7 s8 h11 f11 r11 D11 => ?_
      exact hk H a7 n7 (by rw [eq, er, q7]) s1 s2' s7 s8 h11 (tn (f10.trans f11)) r11 (D11.fr (S := No) (Tn.refl _ _) (fun _ _ _ q => q) (by omega) (Nat.le_refl _))
    · simp only [decide_eq_true_eq, decide_eq_false_iff_not, beq_iff_eq, beq_eq_false_iff_ne, ne_eq, reduceCtorEq, true_iff, false_iff, Bool.not_eq_true', Bool.not_eq_false', bne_iff_ne, bne_eq_false_iff_eq, Bool.not_true, Bool.not_false, Decidable.not_not] at c2
      have hk3 : k = 3 := by omega
      subst hk3
      have er : restD l 3 a4 = bodyD l 3 0 false a4 0 := by unfold restD; rw [if_neg (by omega), if_neg (by omega)]
      refine body_m r6 k2 rfl k3 n23 n2 n3 (by omega) (by omega) (fun e q h11 f11 => he e (by rw [eq, er]; exact q) h11 (tn f11)) fun H a7 n7 q7 s1 s2' s7 s8 h11 f11 r11 D11 => ?_
      exact hk H a7 n7 (by rw [eq, er]; exact q7) s1 s2' s7 s8 h11 (tn f11) r11 (D11.fr (S := No) (Tn.refl _ _) (fun _ _ _ q => q) (by omega) (Nat.le_refl _))
end Go.Proofs.YtfomkkdijjfpiaaDoor
/- meta.Get and its deferred closure: the texts. -/
namespace Go.Proofs.YtfomkkdijjfpiaaDoor
open Go Go.Sh Go.WideShapes
set_option maxRecDepth 100000
abbrev K12 := Int → Sl → Sl → Int → Bool → Int → Int → Sl → Sl → Int → Sl → Int → HP
noncomputable def code12 : Code := Tryd.f12.body.getD .skip
noncomputable def code29 : Code := Tryd.f29.body.getD .skip
def opc (c : Code) (i : Nat) : Oper := (regOps (sub [0] c)).getD i default
def callOf (o : Oper) : Call := match o.op with | .call c => c | .defer c => c | _ => default
def kv12 (K : Int → Sl → Sl → Int → Bool → Int → Int → Sl → Sl → Int → Sl → Int → HP) : Value → HP := fun v h => match v with | .tuple us => (let vs := us.toList; match (vs.getD 0 undef) with | .agg cs0 => (match (cs0.toList.getD 0 undef) with | .int _ r0_0 => (match (cs0.toList.getD 1 undef) with | .slice r0_1a r0_1n r0_1c => (let r0_1 : Sl := ⟨r0_1a, r0_1n, r0_1c⟩; match (cs0.toList.getD 2 undef) with | .slice r0_2a r0_2n r0_2c => (let r0_2 : Sl := ⟨r0_2a, r0_2n, r0_2c⟩; match (cs0.toList.getD 3 undef) with | .int _ r0_3 => (match (cs0.toList.getD 4 undef) with | .bool r0_4 => (match (cs0.toList.getD 5 undef) with | .int _ r0_5 => (match (cs0.toList.getD 6 undef) with | .int _ r0_6 => (match (cs0.toList.getD 7 undef) with | .slice r0_7a r0_7n r0_7c => (let r0_7 : Sl := ⟨r0_7a, r0_7n, r0_7c⟩; match (cs0.toList.getD 8 undef) with | .slice r0_8a r0_8n r0_8c => (let r0_8 : Sl := ⟨r0_8a, r0_8n, r0_8c⟩; match (vs.getD 1 undef) with | .agg cs1 => (match (cs1.toList.getD 0 undef) with | .int _ r1_0 => (match (cs1.toList.getD 1 undef) with | .slice r1_1a r1_1n r1_1c => (let r1_1 : Sl := ⟨r1_1a, r1_1n, r1_1c⟩; match (cs1.toList.getD 2 undef) with | .int _ r1_2 => (K r0_0 r0_1 r0_2 r0_3 r0_4 r0_5 r0_6 r0_7 r0_8 r1_0 r1_1 r1_2 h) | _ => False) | _ => False) | _ => False) | _ => False) | _ => False) | _ => False) | _ => False) | _ => False) | _ => False) | _ => False) | _ => False) | _ => False) | _ => False) | _ => False) | _ => False
def zs12 : List Value := [(.agg #[(.int .i64 0), (.slice none 0 0), (.slice none 0 0), (.int .i64 0), (.bool false), (.int .i64 0), (.int .i64 0), (.slice none 0 0), (.slice none 0 0)]), (.agg #[(.int .i64 0), (.slice none 0 0), (.int .i64 0)])]
def ord29 : List (Nat × OT × List Nat) := [(5, OT.l [0, 1, 2, 3, 4, 5, 6, 7] .fin, [0, 0, 2, 0, 8, 30, 1, 127])]
/-- nine cells are stored -/
def St9 (h : Hp) (a : Addr) (k : Int) (s1 s2 : Sl) (id : Int) (de : Bool) (rows press : Int) (s7 s8 : Sl) (K : HP) : Prop :=
  St h a (.int .i64 k) fun h => St h (a.add 1) (Sl.v s1) fun h => St h (a.add 2) (Sl.v s2) fun h => St h (a.add 3) (.int .i64 id) fun h => St h (a.add 4) (.bool de) fun h => St h (a.add 5) (.int .i64 rows) fun h => St h (a.add 6) (.int .i64 press) fun h => St h (a.add 7) (Sl.v s7) fun h => St h (a.add 8) (Sl.v s8) K
def Ld9 (h : Hp) (a : Addr) (K : Int → Sl → Sl → Int → Bool → Int → Int → Sl → Sl → Prop) : Prop :=
  Ld h a (Value.int .i64) fun r0 => Ld h (a.add 1) (Sl.v) fun r1 => Ld h (a.add 2) (Sl.v) fun r2 => Ld h (a.add 3) (Value.int .i64) fun r3 => Ld h (a.add 4) (Value.bool) fun r4 => Ld h (a.add 5) (Value.int .i64) fun r5 => Ld h (a.add 6) (Value.int .i64) fun r6 => Ld h (a.add 7) (Sl.v) fun r7 => Ld h (a.add 8) (Sl.v) fun r8 => K r0 r1 r2 r3 r4 r5 r6 r7 r8
def St3 (h : Hp) (a : Addr) (e : Int) (s : Sl) (at' : Int) (K : HP) : Prop :=
  St h a (.int .i64 e) fun h => St h (a.add 1) (Sl.v s) fun h => St h (a.add 2) (.int .i64 at') K
def Ld3 (h : Hp) (a : Addr) (K : Int → Sl → Int → Prop) : Prop :=
  Ld h a (Value.int .i64) fun r0 => Ld h (a.add 1) (Sl.v) fun r1 => Ld h (a.add 2) (Value.int .i64) fun r2 => K r0 r1 r2
/-- the closure behind a fault -/
def S29p (e : Er) (c0 c1 : Addr) (h : Hp) (K : HP) : Prop :=
  New h #[(.int .i64 0), (.int .i64 0)] 69 fun a3 h => St h a3 (.int .i64 e.1) fun h => St h (a3.add 1) (.int .i64 e.2) fun h => Ld h a3 (Value.int .i64) fun x => Ld h (a3.add 1) (Value.int .i64) fun y =>
    St9 h c0 0 Sl.nil Sl.nil 0 false 0 0 Sl.nil Sl.nil fun h' => Keep h h' (a3.add 1) 1 (Keep h h' a3 1 (St3 h' c1 x Sl.nil y K))
theorem D29n {c0 c1 : Addr} {h : Hp} {K : HP} (H : K h) : ∀ w, hpz w = h → DefRun Tryd.prog 29 [.pointer (some c0), .pointer (some c1)] .returning w fun u2 w' => u2 = .returning ∧ Same w w' ∧ K (hpz w') :=
  def_recover (P := Tryd.prog) (ann := []) (D := DrawSem Tryd.prog ord29) (drawOk _) (fn := Tryd.f29) (id := 0) (r1 := opc code29 0) (r2 := opc code29 1) (call := callOf (opc code29 0)) (rest := sub [1] code29) (tr := 5) (t2 := 2) (caps := [.pointer (some c0), .pointer (some c1)]) (K := K) (u := .returning) (u' := .returning) (rv := .nilIface)
    Tryd.func29 (by kernel_rfl) (by kernel_rfl) (by kernel_rfl) (by kernel_rfl) (by kernel_rfl) (by kernel_rfl) (by kernel_rfl) (by kernel_rfl) (by kernel_rfl) (by kernel_rfl) (by kernel_rfl) (.inl ⟨rfl, rfl, rfl⟩) (by kernel_rfl) (cast (by kernel_rfl) H)
theorem D29p {e : Er} {c0 c1 : Addr} {h : Hp} {K : HP} (H : S29p e c0 c1 h K) : ∀ w, hpz w = h → DefRun Tryd.prog 29 [.pointer (some c0), .pointer (some c1)] (.panicking (stopV e)) w fun u2 w' => u2 = .panicking [{ v := (.iface 69 (.agg #[(.int .i64 e.1), (.int .i64 e.2)])), recovered := true }] ∧ Same w w' ∧ K (hpz w') :=
  def_recover (P := Tryd.prog) (ann := []) (D := DrawSem Tryd.prog ord29) (drawOk _) (fn := Tryd.f29) (id := 0) (r1 := opc code29 0) (r2 := opc code29 1) (call := callOf (opc code29 0)) (rest := sub [1] code29) (tr := 5) (t2 := 2) (caps := [.pointer (some c0), .pointer (some c1)]) (K := K) (u := .panicking (stopV e)) (u' := .panicking [{ v := (.iface 69 (.agg #[(.int .i64 e.1), (.int .i64 e.2)])), recovered := true }]) (rv := (.iface 69 (.agg #[(.int .i64 e.1), (.int .i64 e.2)])))
    Tryd.func29 (by kernel_rfl) (by kernel_rfl) (by kernel_rfl) (by kernel_rfl) (by kernel_rfl) (by kernel_rfl) (by kernel_rfl) (by kernel_rfl) (by kernel_rfl) (by kernel_rfl) (by kernel_rfl) (.inr ⟨rfl, rfl⟩) (by kernel_rfl) (cast (by kernel_rfl) H)
/-- the results are read at the end -/
def R12 (a2 a3 : Addr) (K : K12) (h : Hp) : Prop := Ld9 h a2 fun r0 r1 r2 r3 r4 r5 r6 r7 r8 => Ld3 h a3 fun q0 q1 q2 => K r0 r1 r2 r3 r4 r5 r6 r7 r8 q0 q1 q2 h
/-- behind the defer -/
def S12c (s : Sl) (a2 a3 : Addr) (h : Hp) (K : K12) (Kp : PK) : Prop :=
  New h #[Sl.v s, .int .i64 0, .int .i64 0] 73 fun a4 h => Fn30 (some a4) h (fun r0 r1 r2 r3 r4 r5 r6 r7 r8 h => St9 h a2 r0 r1 r2 r3 r4 r5 r6 r7 r8 fun h =>
    Ld h (a4.add 1) (Value.int .i64) fun t14 => If (decide (t14 < (s.n : Int))) (Ld h (a4.add 1) (Value.int .i64) fun t21 => Kp [{ v := .iface 69 (.agg #[.int .i64 52, .int .i64 t21]), recovered := false }] h)
      (Ld9 h a2 fun r0 r1 r2 r3 r4 r5 r6 r7 r8 => Fn21 r0 r1 r2 r3 r4 r5 r6 r7 r8 h (fun t25 h => If (!t25) (Kp [{ v := .iface 69 (.agg #[.int .i64 50, .int .i64 0]), recovered := false }] h)
        (Ld9 h a2 fun r0 r1 r2 r3 r4 r5 r6 r7 r8 => St9 h a2 r0 r1 r2 r3 r4 r5 r6 r7 r8 fun h => St3 h a3 0 Sl.nil 0 fun h => R12 a2 a3 K h)) Kp)) Kp
noncomputable def fr12 (s : Sl) (a2 a3 : Addr) : Fr := ((([Sl.v s].map some ++ List.replicate (Tryd.f12.ntmps - [Sl.v s].length) none).set 2 (some (.pointer (some a2)))).set 3 (some (.pointer (some a3))))
/-- **GET**: its text, the deferred closure told by what it does. -/
theorem Fn12.of {s : Sl} {h : Hp} {K : K12} {Kp : PK}
    (H : New h #[.int .i64 0, Sl.v Sl.nil, Sl.v Sl.nil, .int .i64 0, .bool false, .int .i64 0, .int .i64 0, Sl.v Sl.nil, Sl.v Sl.nil] 29 fun a2 h => New h #[.int .i64 0, Sl.v Sl.nil, .int .i64 0] 39 fun a3 h =>
      S12c s a2 a3 h K fun ch h => ∃ e : Er, ch = stopV e ∧ S29p e a2 a3 h fun h => R12 a2 a3 K h) : Fn12 s h K Kp := by
  have := fn_defer (P := Tryd.prog) (ann := []) (D := DrawSem Tryd.prog []) (drawOk _) (f := 12) (g := 29) (fn := Tryd.f12) (c1 := sub [0] code12) (c2 := sub [1, 1] code12) (id := 1) (o1 := opc (sub [1] code12) 0) (o2 := opc (sub [1] code12) 1) (tc := 5) (capOps := #[.tmp 2, .tmp 3]) (call := callOf (opc (sub [1] code12) 1)) [2, 3]
    (zs := zs12) (args := [Sl.v s]) (h := h) (Kv := kv12 K) (Kp := Kp) Tryd.func12 (by kernel_rfl) (by kernel_rfl) (by kernel_rfl) (by kernel_rfl) (by kernel_rfl) (by kernel_rfl) (by kernel_rfl) (by kernel_rfl) (by kernel_rfl) (by kernel_rfl) (by kernel_rfl) (by kernel_rfl) ?_
  · exact cast (by kernel_rfl) this
  · have X : ∀ a2 a3 h, (S12c s a2 a3 h K fun ch h => ∃ e : Er, ch = stopV e ∧ S29p e a2 a3 h fun h => R12 a2 a3 K h) → ∃ (caps : List Value) (KpX : PK), Nat.blt 5 (fr12 s a2 a3).length = true ∧ evs (ev (fr12 s a2 a3)) [.tmp 2, .tmp 3] = some caps ∧
          sem Tryd.prog [] (DrawSem Tryd.prog []) none (sub [1, 1] code12) (retQ Tryd.prog Tryd.f12.results.toList zs12 (kv12 K)) KpX ((fr12 s a2 a3).set 5 (some (.func (.func 29) #[] caps.toArray))) h ∧
          (∀ w, DefRun Tryd.prog 29 caps .returning w fun u' w' => u' = .returning ∧ Same w w' ∧ hpz w' = hpz w) ∧
          (∀ ch w, KpX ch (hpz w) → DefRun Tryd.prog 29 caps (.panicking ch) w fun u' w' => settle u' = .returning ∧ Same w w' ∧ retV Tryd.prog Tryd.f12.results.toList (keepT [2, 3] ((fr12 s a2 a3).set 5 (some (.func (.func 29) #[] caps.toArray)))) (hpz w') fun vs => resUn zs12 (oneOr vs) fun v => kv12 K v (hpz w')) := by
      intro a2 a3 h hh
      refine ⟨[.pointer (some a2), .pointer (some a3)], fun ch h => ∃ e : Er, ch = stopV e ∧ S29p e a2 a3 h fun h => R12 a2 a3 K h, by kernel_rfl, by kernel_rfl, cast (by kernel_rfl) hh, fun w => ?_, ?_⟩
      · exact D29n (K := fun h' => h' = hpz w) rfl w rfl
      · rintro ch w ⟨e, rfl, q⟩
        refine (D29p q w rfl).mono ?_
        rintro e' u' w' ⟨hv, rfl, hs, r⟩
        exact ⟨hv, by kernel_rfl, hs, cast (by kernel_rfl) r⟩
    have Y : New h #[.int .i64 0, Sl.v Sl.nil, Sl.v Sl.nil, .int .i64 0, .bool false, .int .i64 0, .int .i64 0, Sl.v Sl.nil, Sl.v Sl.nil] 29 fun a2 h => New h #[.int .i64 0, Sl.v Sl.nil, .int .i64 0] 39 fun a3 h =>
        ∃ (caps : List Value) (KpX : PK), Nat.blt 5 (fr12 s a2 a3).length = true ∧ evs (ev (fr12 s a2 a3)) [.tmp 2, .tmp 3] = some caps ∧
          sem Tryd.prog [] (DrawSem Tryd.prog []) none (sub [1, 1] code12) (retQ Tryd.prog Tryd.f12.results.toList zs12 (kv12 K)) KpX ((fr12 s a2 a3).set 5 (some (.func (.func 29) #[] caps.toArray))) h ∧
          (∀ w, DefRun Tryd.prog 29 caps .returning w fun u' w' => u' = .returning ∧ Same w w' ∧ hpz w' = hpz w) ∧
          (∀ ch w, KpX ch (hpz w) → DefRun Tryd.prog 29 caps (.panicking ch) w fun u' w' => settle u' = .returning ∧ Same w w' ∧ retV Tryd.prog Tryd.f12.results.toList (keepT [2, 3] ((fr12 s a2 a3).set 5 (some (.func (.func 29) #[] caps.toArray)))) (hpz w') fun vs => resUn zs12 (oneOr vs) fun v => kv12 K v (hpz w')) := X _ _ _ H
    exact cast (by kernel_rfl) Y
end Go.Proofs.YtfomkkdijjfpiaaDoor
/- meta.Get answers as the plain decoder. -/
namespace Go.Proofs.YtfomkkdijjfpiaaDoor
open Go Go.Sh Go.WideShapes
theorem numD_lt {l : List UInt8} {w a x a' : Nat} (h : numD l w a = .ok (x, a')) : x < 256 ^ w := by
  unfold numD takeD at h
  split at h <;> try cases h
  rename_i q
  split at q <;> cases q
  have := leN_lt (List.take w (List.drop a l))
  exact Nat.lt_of_lt_of_le this (Nat.pow_le_pow_right (by omega) (by simp; omega))
theorem textD_lt {l : List UInt8} {w a a' : Nat} {x : ByteArray} (h : textD l w a = .ok (x, a')) : x.size < 256 ^ w := by
  unfold textD at h
  split at h <;> try cases h
  rename_i n a1 q
  have hn := numD_lt q
  unfold takeD at h
  split at h <;> try cases h
  rename_i y a2 q2
  split at q2 <;> cases q2
  have : (bs ((l.drop a1).take n)).size = ((l.drop a1).take n).length := by simp [bs, ByteArray.size]
  rw [this]
  simp; omega
theorem repD_all {α : Type} {P : α → Prop} {f : Nat → Nat → Except Er (α × Nat × Nat)} (hf : ∀ a n x a' n', f a n = .ok (x, a', n') → P x) : ∀ {c a n : Nat} {xs : List α} {a' n' : Nat}, repD f c a n = .ok (xs, a', n') → xs.length = c ∧ ∀ x ∈ xs, P x
  | 0, a, n, xs, a', n', h => by unfold repD at h; cases h; exact ⟨rfl, by simp⟩
  | c + 1, a, n, xs, a', n', h => by
    unfold repD at h
    cases hq : f a n with
    | error e => rw [hq] at h; cases h
    | ok y =>
      obtain ⟨x, a1, n1⟩ := y
      rw [hq] at h
      simp only at h
      cases hr : repD f c a1 n1 with
      | error e => rw [hr] at h; cases h
      | ok z =>
        obtain ⟨ys, a2, n2⟩ := z
        rw [hr] at h
        cases h
        obtain ⟨h1, h2⟩ := repD_all hf hr
        exact ⟨by simp [h1], fun y hy => by
          rcases List.mem_cons.1 hy with rfl | hy
          · exact hf _ _ _ _ _ hq
          · exact h2 y hy⟩
theorem midD_lt {l : List UInt8} {k a : Nat} {m : Nat × Nat × Nat × Nat} {a' : Nat} (h : midD l k a = .ok (m, a')) : m.2.2.2 < 256 := by
  unfold midD at h
  split at h
  · split at h <;> cases h; exact (by decide : 0 < 256)
  split at h
  · split at h <;> cases h; exact (by decide : 1 < 256)
  split at h
  · split at h <;> try cases h
    split at h <;> cases h; exact (by decide : 1 < 256)
  split at h
  · split at h <;> cases h
    rename_i q; exact numD_lt q
  split at h <;> cases h <;> decide
theorem smls.mem : ∀ {fs : List Fld}, (∀ f ∈ fs, f.sml) → smls fs
  | [], _ => by unfold smls; trivial
  | f :: fs, h => by unfold smls; exact ⟨h f (by simp), smls.mem fun g hg => h g (by simp [hg])⟩
theorem fieldD_sml {l : List UInt8} : ∀ (fuel a n : Nat) (f : Fld) (a' n' : Nat), fieldD l fuel a n = .ok (f, a', n') → f.sml
  | 0, a, n, f, a', n', h => by unfold fieldD at h; cases h
  | fuel + 1, a, n, f, a', n', h => by
    unfold fieldD at h
    split at h <;> try cases h
    split at h <;> try cases h
    rename_i nm a1 q1
    split at h <;> try cases h
    split at h <;> try cases h
    split at h <;> try cases h
    rename_i w i x c a4 q4
    split at h <;> try cases h
    rename_i cs a5 n5 q5
    have h1 := textD_lt q1
    have h2 := midD_lt q4
    obtain ⟨h3, h4⟩ := repD_all (fun a n x a' n' => fieldD_sml fuel a n x a' n') q5
    unfold Fld.sml
    simp only at h2
    have : M63 = 9223372036854775807 := rfl
    exact ⟨by omega, by omega, smls.mem h4⟩
theorem schemaD_sml {l : List UInt8} {a n : Nat} {x : List Fld × List Md} {a' n' : Nat} (h : schemaD l a n = .ok (x, a', n')) : smls x.1 := by
  unfold schemaD at h
  split at h <;> try cases h
  split at h <;> try cases h
  rename_i q
  split at h <;> try cases h
  split at h <;> try cases h
  exact smls.mem (repD_all (fun a n x a' n' => fieldD_sml 64 a n x a' n') q).2
theorem bodyD_fs {l : List UInt8} {k id : Int} {de : Bool} {a n : Nat} {H : Hd} {a' n' : Nat} (h : bodyD l k id de a n = .ok (H, a', n')) : H.fs = [] := by
  unfold bodyD at h
  split at h <;> try cases h
  split at h <;> try cases h
  split at h <;> try cases h
  split at h <;> try cases h
  split at h <;> try cases h
  split at h <;> try cases h
  rfl
theorem headD_sml {l : List UInt8} {H : Hd} {a' n' : Nat} (h : headD l = .ok (H, a', n')) : smls H.fs := by
  unfold headD at h
  split at h <;> try cases h
  split at h <;> try cases h
  split at h <;> try cases h
  split at h <;> try cases h
  unfold restD at h
  have nl : ∀ {H : Hd}, H.fs = [] → smls H.fs := fun e => by rw [e]; unfold smls; trivial
  split at h
  · split at h <;> try cases h
    rename_i q; exact schemaD_sml q
  split at h
  · split at h <;> try cases h
    split at h <;> try cases h
    exact nl (bodyD_fs h)
  · exact nl (bodyD_fs h)
theorem getD_headD {l : List UInt8} {H : Hd} (h : getD l = .ok H) : HdOk H ∧ smls H.fs ∧ ∃ n', headD l = .ok (H, l.length, n') ∨ ∃ a, l.length < a ∧ headD l = .ok (H, a, n') := by
  unfold getD at h
  split at h <;> try cases h
  rename_i H' a n q
  split at h <;> try cases h
  split at h <;> cases h
  rename_i c hok
  refine ⟨hok, headD_sml q, n, ?_⟩
  by_cases e : a = l.length
  · subst e; exact .inl q
  · exact .inr ⟨a, by omega, q⟩
theorem Sv.rd {h : Hp} {s : Sl} {vs : List Value} (sv : Sv h s vs) : rd h s.a (s.n * 1) vs := by
  obtain ⟨h1, h2, h3⟩ := sv
  unfold Sh.rd
  cases hs : s.a with
  | none =>
    cases vs with
    | nil => rfl
    | cons x xs =>
      obtain ⟨a, ha, _⟩ := h3 (s.n - 1) (by simp at h1; omega)
      rw [hs] at ha; cases ha
  | some a =>
    refine ⟨by omega, fun i v hv => ?_⟩
    have : i < vs.length := (List.getElem?_eq_some_iff.1 hv).1
    obtain ⟨a', ha, hc⟩ := h3 (s.n - 1) (by omega)
    rw [hs] at ha; cases ha
    exact hc i v hv
/-- bytes are copied to new memory -/
theorem Ap_copy {h : Hp} {t : Sl} {x : List UInt8} {K : Sl → HP} (hv : Sv h t (bv x)) (hx : x.length ≤ 2 ^ 47) (hk : ∀ t1 h1, Grw h h1 → Sh h.size h1.size 1 h1 t1 (bv x) 5 → K t1 h1) : Ap h 5 #[(.int .u8 (0:Int))] 1 1 (⟨none, 0, 0⟩ : Sl) t.n (rd h t.a (t.n * 1)) K := by
  have hn := hv.1
  have hn2 := hn
  rw [bv_len] at hn2
  refine Ap_sh (lo := h.size) (s := ⟨none, 0, 0⟩) (vs := []) (Sh.nil _ _ _ _ _) (Nat.le_refl _) rfl (new := bv x) (by omega) (fun v hv => ?_) (Sv.rd hv) (by simp only; omega) (by simp only; omega) fun s' h' f at' o _ => ?_
  · obtain ⟨b, _, rfl⟩ := List.mem_map.1 hv; rfl
  · exact hk s' h' (f.mono fun d hd _ => absurd hd (Sl.at_nil d)).grw (by simpa using o)
theorem Tn.grw0 {S : Nat → Prop} {h0 h h' : Hp} (g : Grw h0 h) (f : Tn S h h') (hS : ∀ d, S d → h0.size ≤ d) : Grw h0 h' :=
  ⟨Nat.le_trans g.1 f.1, fun c hc => (f.2 c (Nat.lt_of_lt_of_le hc g.1) (fun q => by have := hS c q; omega)).trans (g.2 c hc)⟩
end Go.Proofs.YtfomkkdijjfpiaaDoor
/- meta.Get answers as the plain decoder: the walk. -/
namespace Go.Proofs.YtfomkkdijjfpiaaDoor
open Go Go.Sh Go.WideShapes
abbrev B3 (h : Hp) (b : Nat) (e : Int) (s : Sl) (y : Int) : Prop := Blk h b #[.int .i64 e, Sl.v s, .int .i64 y] 39
theorem St9_i {h : Hp} {b : Nat} {cs : Array Value} {k id rows press : Int} {s1 s2 s7 s8 : Sl} {de : Bool} {K : HP} (k2 : Blk h b cs 29) (hc : cs.size = 9) (hk : ∀ h', Only b h h' → B9 h' b k s1 s2 id de rows press s7 s8 → K h') : St9 h ⟨b, 0, none⟩ k s1 s2 id de rows press s7 s8 K := by
  obtain ⟨v0, v1, v2, v3, v4, v5, v6, v7, v8, e⟩ := len9 (l := cs.toList) (by simpa using hc)
  obtain rfl : cs = #[v0, v1, v2, v3, v4, v5, v6, v7, v8] := by cases cs; simp_all
  unfold St9
  simp only [add_blk, Nat.reduceAdd]
  refine St_i k2 (by simp) rfl fun h1 o1 k2 => St_i k2 (by simp) rfl fun h2 o2 k2 => St_i k2 (by simp) rfl fun h3 o3 k2 => St_i k2 (by simp) rfl fun h4 o4 k2 => St_i k2 (by simp) rfl fun h5 o5 k2 => St_i k2 (by simp) rfl fun h6 o6 k2 => St_i k2 (by simp) rfl fun h7 o7 k2 => St_i k2 (by simp) rfl fun h8 o8 k2 => St_i k2 (by simp) rfl fun h9 o9 k2 => ?_
  exact hk h9 ((((((((o1.trans o2).trans o3).trans o4).trans o5).trans o6).trans o7).trans o8).trans o9) (by simp at k2; exact k2)
theorem Ld9_i {h : Hp} {b : Nat} {k id rows press : Int} {s1 s2 s7 s8 : Sl} {de : Bool} {K : Int → Sl → Sl → Int → Bool → Int → Int → Sl → Sl → Prop} (k2 : B9 h b k s1 s2 id de rows press s7 s8) (hk : K k s1 s2 id de rows press s7 s8) : Ld9 h ⟨b, 0, none⟩ K := by
  unfold Ld9
  simp only [add_blk, Nat.reduceAdd]
  exact Ld_blk k2 rfl (Ld_blk k2 rfl (Ld_blk k2 rfl (Ld_blk k2 rfl (Ld_blk k2 rfl (Ld_blk k2 rfl (Ld_blk k2 rfl (Ld_blk k2 rfl (Ld_blk k2 rfl hk))))))))
theorem St3_i {h : Hp} {b : Nat} {cs : Array Value} {e y : Int} {s : Sl} {K : HP} (k2 : Blk h b cs 39) (hc : cs.size = 3) (hk : ∀ h', Only b h h' → B3 h' b e s y → K h') : St3 h ⟨b, 0, none⟩ e s y K := by
  obtain ⟨v0, v1, v2, e⟩ := len3 (l := cs.toList) (by simpa using hc)
  obtain rfl : cs = #[v0, v1, v2] := by cases cs; simp_all
  unfold St3
  simp only [add_blk, Nat.reduceAdd]
  refine St_i k2 (by simp) rfl fun h1 o1 k2 => St_i k2 (by simp) rfl fun h2 o2 k2 => St_i k2 (by simp) rfl fun h3 o3 k2 => ?_
  exact hk h3 ((o1.trans o2).trans o3) (by simp at k2; exact k2)
theorem Ld3_i {h : Hp} {b : Nat} {e y : Int} {s : Sl} {K : Int → Sl → Int → Prop} (k2 : B3 h b e s y) (hk : K e s y) : Ld3 h ⟨b, 0, none⟩ K := by
  unfold Ld3
  simp only [add_blk, Nat.reduceAdd]
  exact Ld_blk k2 rfl (Ld_blk k2 rfl (Ld_blk k2 rfl hk))
section
variable {h : Hp} {b : Nat} {cs : Array Value} {k id rows press : Int} {s1 s2 s7 s8 : Sl} {de : Bool} {e y : Int} {s : Sl}
theorem St9_s {K : HP} (k2 : Blk h b cs 29) (hc : cs.size = 9) (hk : ∀ h', Only b h h' → B9 h' b k s1 s2 id de rows press s7 s8 → K h') :
    St h ⟨b, 0, none⟩ (.int .i64 k) fun h => St h ⟨b, 1, none⟩ (Sl.v s1) fun h => St h ⟨b, 2, none⟩ (Sl.v s2) fun h => St h ⟨b, 3, none⟩ (.int .i64 id) fun h => St h ⟨b, 4, none⟩ (.bool de) fun h => St h ⟨b, 5, none⟩ (.int .i64 rows) fun h => St h ⟨b, 6, none⟩ (.int .i64 press) fun h => St h ⟨b, 7, none⟩ (Sl.v s7) fun h => St h ⟨b, 8, none⟩ (Sl.v s8) K := by
  have := St9_i (K := K) k2 hc hk
  unfold St9 at this
  simp only [add_blk, Nat.reduceAdd] at this
  exact this
theorem Ld9_s {K : Int → Sl → Sl → Int → Bool → Int → Int → Sl → Sl → Prop} (k2 : B9 h b k s1 s2 id de rows press s7 s8) (hk : K k s1 s2 id de rows press s7 s8) :
    Ld h ⟨b, 0, none⟩ (Value.int .i64) fun r0 => Ld h ⟨b, 1, none⟩ (Sl.v) fun r1 => Ld h ⟨b, 2, none⟩ (Sl.v) fun r2 => Ld h ⟨b, 3, none⟩ (Value.int .i64) fun r3 => Ld h ⟨b, 4, none⟩ (Value.bool) fun r4 => Ld h ⟨b, 5, none⟩ (Value.int .i64) fun r5 => Ld h ⟨b, 6, none⟩ (Value.int .i64) fun r6 => Ld h ⟨b, 7, none⟩ (Sl.v) fun r7 => Ld h ⟨b, 8, none⟩ (Sl.v) fun r8 => K r0 r1 r2 r3 r4 r5 r6 r7 r8 := by
  have := Ld9_i (K := K) k2 hk
  unfold Ld9 at this
  simp only [add_blk, Nat.reduceAdd] at this
  exact this
theorem St3_s {K : HP} (k2 : Blk h b cs 39) (hc : cs.size = 3) (hk : ∀ h', Only b h h' → B3 h' b e s y → K h') : St h ⟨b, 0, none⟩ (.int .i64 e) fun h => St h ⟨b, 1, none⟩ (Sl.v s) fun h => St h ⟨b, 2, none⟩ (.int .i64 y) K := by
  have := St3_i (K := K) k2 hc hk
  unfold St3 at this
  simp only [add_blk, Nat.reduceAdd] at this
  exact this
theorem Ld3_s {K : Int → Sl → Int → Prop} (k2 : B3 h b e s y) (hk : K e s y) : Ld h ⟨b, 0, none⟩ (Value.int .i64) fun r0 => Ld h ⟨b, 1, none⟩ (Sl.v) fun r1 => Ld h ⟨b, 2, none⟩ (Value.int .i64) fun r2 => K r0 r1 r2 := by
  have := Ld3_i (K := K) k2 hk
  unfold Ld3 at this
  simp only [add_blk, Nat.reduceAdd] at this
  exact this
end
/-- behind a fault -/
theorem fault_m {e : Er} {h0 h : Hp} {b2 b3 : Nat} {cs cs' : Array Value} {K : K12} (k2 : Blk h b2 cs 29) (hc : cs.size = 9) (k3 : Blk h b3 cs' 39) (hc' : cs'.size = 3) (n2 : h0.size ≤ b2) (n3 : h0.size ≤ b3) (g : Grw h0 h)
    (hk : ∀ h', Grw h0 h' → K 0 Sl.nil Sl.nil 0 false 0 0 Sl.nil Sl.nil e.1 Sl.nil e.2 h') : S29p e ⟨b2, 0, none⟩ ⟨b3, 0, none⟩ h fun h => R12 ⟨b2, 0, none⟩ ⟨b3, 0, none⟩ K h := by
  have n23 : b2 ≠ b3 := fun q => by
    subst q
    have e := k2.symm.trans k3
    simp at e
  have i2 := k2.lt
  have i3 := k3.lt
  unfold S29p
  refine New_i fun b4 h1 e4 g1 k4 _ => ?_
  have k2 := k2.grw g1
  have k3 := k3.grw g1
  simp only [add_blk, Nat.reduceAdd]
  refine St_i k4 (by simp) rfl fun h2 o2 k4 => St_i k4 (by simp) rfl fun h3 o3 k4 => ?_
  have k4 : Blk h3 b4 #[.int .i64 e.1, .int .i64 e.2] 69 := by simpa using k4
  have o := o2.trans o3
  have k2 := o.blk k2 (by omega)
  have k3 := o.blk k3 (by omega)
  have g3 := o.grw (Grw.trans g g1) (by have := g.1; omega)
  refine Ld_blk k4 rfl (Ld_blk k4 rfl (St9_i k2 hc fun h5 o5 k2 => ?_))
  have k4' := o5.blk k4 (by omega)
  refine Keep_i k4 k4' rfl (Keep_i k4 k4' rfl (St3_i (o5.blk k3 (by omega)) hc' fun h6 o6 k3 => ?_))
  have k2 := o6.blk k2 n23
  unfold R12
  exact Ld9_i k2 (Ld3_i k3 (hk h6 (o6.grw (o5.grw g3 n2) n3)))
theorem get_m {h : Hp} {s : Sl} {l : List UInt8} {K : K12} {Kp : PK} (tb : KTab h) (sv : Sv h s (bv l)) (hl : l.length ≤ 9223372036854775807)
    (he : ∀ e, getD l = .error e → ∀ h', Grw h h' → K 0 Sl.nil Sl.nil 0 false 0 0 Sl.nil Sl.nil e.1 Sl.nil e.2 h')
    (hk : ∀ H, getD l = .ok H → ∀ s1 s2 s7 s8 h', Grw h h' → HdD h.size h'.size h' H s1 s2 s7 s8 → K H.k s1 s2 H.id H.de H.rows H.press s7 s8 0 Sl.nil 0 h') : Fn12 s h K Kp := by
  have hn := sv.1
  rw [bv_len] at hn
  refine Fn12.of ?_
  refine New_i fun b2 h1 e2 g1 k2 _ => New_i fun b3 h2 e3 g2 k3 _ => ?_
  have k2 := k2.grw g2
  have g12 := Grw.trans g1 g2
  have i2 := k2.lt
  have i3 := k3.lt
  have s1 := g1.1
  have s2 := g2.1
  unfold S12c
  refine New_i fun b4 h3 e4 g3 k4 _ => ?_
  have k2 := k2.grw g3
  have k3 := k3.grw g3
  have g13 := Grw.trans g12 g3
  have R3 : Rm h b4 s l h3 0 0 := ⟨k4, g13, by omega, sv, hl, Nat.zero_le _⟩
  refine head_m R3 (fun e q h4 f4 => ?_) fun H a n q t1 t2 t7 t8 h4 f4 r4 D => ?_
  · exact ⟨e, rfl, fault_m (h0 := h) (f4.blk k2 (by omega)) rfl (f4.blk k3 (by omega)) rfl (by omega) (by omega) (Tn.old (by omega) g13 f4) fun h' g => he e (by unfold getD; rw [q]) h' g⟩
  · have k2 := f4.blk k2 (by omega)
    have k3 := f4.blk k3 (by omega)
    refine St9_i k2 rfl fun h5 o5 k2 => ?_
    have k3 := o5.blk k3 (by omega)
    have r5 := r4.fr o5.fr (by omega) (by omega)
    have g5 := r5.g
    have ha := r5.ha
    have D := D.fr o5.fr (fun b h1 h2 e => by omega) (Nat.le_refl _) (Nat.le_refl _)
    simp only [add_blk, Nat.reduceAdd]
    refine Ld_blk r5.blk rfl (If_i (fun c => ?_) fun c => ?_)
    · simp only [decide_eq_true_eq, decide_eq_false_iff_not, beq_iff_eq, beq_eq_false_iff_ne, ne_eq, reduceCtorEq, true_iff, false_iff, Bool.not_eq_true', Bool.not_eq_false', bne_iff_ne, bne_eq_false_iff_eq, Bool.not_true, Bool.not_false, Decidable.not_not] at c
      refine Ld_blk r5.blk rfl ⟨(52, a), rfl, fault_m (h0 := h) k2 rfl k3 rfl (by omega) (by omega) g5 fun h' g => he (52, a) (by unfold getD; rw [q]; simp only; rw [if_pos (by omega)]) h' g⟩
    · simp only [decide_eq_true_eq, decide_eq_false_iff_not, beq_iff_eq, beq_eq_false_iff_ne, ne_eq, reduceCtorEq, true_iff, false_iff, Bool.not_eq_true', Bool.not_eq_false', bne_iff_ne, bne_eq_false_iff_eq, Bool.not_true, Bool.not_false, Decidable.not_not] at c
      refine Ld9_i k2 ?_
      have may : ∃ m : Bool, (m = true ↔ HdOk H) := by
        by_cases q : HdOk H
        · exact ⟨true, by simp [q]⟩
        · exact ⟨false, by simp [q]⟩
      obtain ⟨m, hm⟩ := may
      refine may_c hm (headD_sml q) (tb.grw g5) (Grw.refl _) D.h fun h6 g6 => ?_
      have k2 := k2.grw g6
      have k3 := k3.grw g6
      have g6' := Grw.trans g5 g6
      cases m with
      | false =>
        refine ⟨(50, 0), rfl, fault_m (h0 := h) k2 rfl k3 rfl (by omega) (by omega) g6' fun h' g => he (50, 0) ?_ h' g⟩
        unfold getD; rw [q]; simp only
        rw [if_neg (by omega), if_neg (fun x => by have := hm.2 x; simp at this)]
      | true =>
        refine Ld9_i k2 (St9_i k2 rfl fun h7 o7 k2 => ?_)
        have k3 := o7.blk k3 (by omega)
        refine St3_i k3 rfl fun h8 o8 k3 => ?_
        have k2 := o8.blk k2 (by omega)
        unfold R12
        refine Ld9_i k2 (Ld3_i k3 (hk H ?_ t1 t2 t7 t8 h8 (o8.grw (o7.grw g6' (by omega)) (by omega)) ?_))
        · unfold getD; rw [q]; simp only
          rw [if_neg (by omega), if_pos (hm.1 rfl)]
        · have D6 := D.fr (S := No) (Tn.of_grw g6) (fun _ _ _ q => q) (Nat.le_refl _) (Nat.le_refl _)
          have D7 := D6.fr o7.fr (fun b h1 h2 e => by omega) (Nat.le_refl _) (Nat.le_refl _)
          have f1 := f4.1
          have z5 := o5.1
          have z6 := g6.1
          have z7 := o7.1
          have z8 := o8.1
          exact D7.fr o8.fr (fun b h1 h2 e => by omega) (by omega) (by omega)
end Go.Proofs.YtfomkkdijjfpiaaDoor
/- Fields in blocks of their own: one of them is turned; the owner spoils and grows them. -/
namespace Go.Proofs.YtfomkkdijjfpiaaDoor
open Go Go.Sh Go.WideShapes
theorem FldD.keep {S E : Nat → Prop} {h h' : Hp} (f : Tn S h h') (hE : ∀ d, E d → ¬ S d) {b o : Nat} {g : Fld} (hc : ∀ k, o ≤ k → k < o + 7 → cell h' ⟨b, k, none⟩ = cell h ⟨b, k, none⟩) (x : FldD E h ⟨b, o, none⟩ g) : FldD E h' ⟨b, o, none⟩ g := by
  obtain ⟨n, nul, k, w, id, ix, cs⟩ := g
  unfold FldD at x ⊢
  obtain ⟨s, c, y⟩ := x
  refine ⟨s, fun i v hv => ?_, FsD.fr f (fun d hd => ⟨hE d hd, hd⟩) cs y⟩
  have hi : i < 7 := (List.getElem?_eq_some_iff.1 hv).1
  have := c i v hv
  rw [add_blk] at this ⊢
  rw [hc (o + i) (by omega) (by omega)]; exact this
theorem FrD.keep {S : Nat → Prop} {h h' : Hp} (f : Tn S h h') {b : Nat} : ∀ {fs : List Fld} {i : Nat} {D : Nat → Prop}, (∀ d, D d → ¬ S d) → (∀ k, i * 7 ≤ k → k < (i + fs.length) * 7 → cell h' ⟨b, k, none⟩ = cell h ⟨b, k, none⟩) → FrD D h ⟨b, 0, none⟩ i fs → FrD D h' ⟨b, 0, none⟩ i fs
  | [], _, _, _, _, _ => by unfold FrD; trivial
  | g :: fs, i, D, hD, hc, x => by
    unfold FrD at x ⊢
    obtain ⟨E, hE, y, z⟩ := x
    simp only [List.length_cons] at hc
    rw [add_blk, Nat.zero_add] at y ⊢
    refine ⟨E, hE, FldD.keep f (fun d hd => hD d (hE d hd)) (fun k h1 h2 => hc k h1 (by omega)) y, FrD.keep f (fun d hd => hD d hd.1) (fun k h1 h2 => hc k (by omega) (by omega)) z⟩
theorem FrD.focus {h : Hp} {b : Nat} : ∀ {fs : List Fld} {i : Nat} {D : Nat → Prop}, FrD D h ⟨b, 0, none⟩ i fs → ¬ D b → ∀ (j : Nat) (f : Fld), fs[j]? = some f → ∃ E : Nat → Prop, (∀ d, E d → D d) ∧ FldD E h ⟨b, (i + j) * 7, none⟩ f ∧
    ∀ h' f', Tn (fun d => d = b ∨ E d) h h' → (∀ k, k < (i + j) * 7 ∨ (i + j) * 7 + 7 ≤ k → cell h' ⟨b, k, none⟩ = cell h ⟨b, k, none⟩) → FldD E h' ⟨b, (i + j) * 7, none⟩ f' → FrD D h' ⟨b, 0, none⟩ i (fs.set j f')
  | [], _, _, _, _, j, f, hj => by simp at hj
  | g :: gs, i, D, x, hb, 0, f, hj => by
    simp only [List.getElem?_cons_zero, Option.some.injEq] at hj
    subst hj
    unfold FrD at x
    obtain ⟨E, hE, y, z⟩ := x
    rw [add_blk, Nat.zero_add] at y
    refine ⟨E, hE, y, fun h' f' f hc y' => ?_⟩
    rw [List.set_cons_zero]
    unfold FrD
    refine ⟨E, hE, by rw [add_blk, Nat.zero_add]; exact y', FrD.keep f (fun d hd q => ?_) (fun k h1 h2 => hc k (by omega)) z⟩
    rcases q with q | q
    · subst q; exact hb hd.1
    · exact hd.2 q
  | g :: gs, i, D, x, hb, j + 1, f, hj => by
    unfold FrD at x
    obtain ⟨E0, hE0, y0, z0⟩ := x
    rw [add_blk, Nat.zero_add] at y0
    obtain ⟨E, hE, y, reb⟩ := FrD.focus z0 (fun q => hb q.1) j f (by simpa using hj)
    have e : i + 1 + j = i + (j + 1) := by omega
    rw [e] at y reb
    refine ⟨E, fun d hd => (hE d hd).1, y, fun h' f' f hc y' => ?_⟩
    rw [List.set_cons_succ]
    unfold FrD
    refine ⟨E0, hE0, ?_, reb h' f' f hc y'⟩
    rw [add_blk, Nat.zero_add]
    refine FldD.keep f (fun d hd q => ?_) (fun k h1 h2 => hc k (by omega)) y0
    rcases q with q | q
    · subst q; exact hb (hE0 _ hd)
    · exact (hE d q).2 hd
theorem cells_of {h h' : Hp} {b : Nat} {cs cs' : Array Value} {el el' : TypeId} (k : Blk h b cs el) (k' : Blk h' b cs' el') {i : Nat} (e : cs'[i]? = cs[i]?) : cell h' ⟨b, i, none⟩ = cell h ⟨b, i, none⟩ := by
  rw [cell_blk k, cell_blk k', e]
/-- one field of a list is looked at, and may be turned -/
theorem FsD.focus {D : Nat → Prop} {h : Hp} {s : Sl} {fs : List Fld} (x : FsD D h s fs) {j : Nat} {f : Fld} (hj : fs[j]? = some f) : ∃ (b : Nat) (cs : Array Value) (E : Nat → Prop), s.a = some ⟨b, 0, none⟩ ∧ D b ∧ Blk h b cs 63 ∧ cs.size = s.c * 7 ∧ s.n = fs.length ∧ s.n ≤ s.c ∧ (∀ d, E d → D d ∧ d ≠ b) ∧ FldD E h ⟨b, j * 7, none⟩ f ∧
    ∀ h' f' cs', Tn (fun d => d = b ∨ E d) h h' → Blk h' b cs' 63 → cs'.size = cs.size → (∀ k, k < j * 7 ∨ j * 7 + 7 ≤ k → cs'[k]? = cs[k]?) → FldD E h' ⟨b, j * 7, none⟩ f' → FsD D h' s (fs.set j f') := by
  cases fs with
  | nil => simp at hj
  | cons g gs =>
    unfold FsD at x
    obtain ⟨hn, hc, b, cs, E0, ha, hb, hk, hz, hE0, y0, z0⟩ := x
    cases j with
    | zero =>
      simp only [List.getElem?_cons_zero, Option.some.injEq] at hj
      subst hj
      refine ⟨b, cs, E0, ha, hb, hk, hz, hn, hc, hE0, by simpa using y0, fun h' f' cs' f k' hz' hcs y' => ?_⟩
      rw [List.set_cons_zero]
      unfold FsD
      refine ⟨hn, hc, b, cs', E0, ha, hb, k', by omega, hE0, by simpa using y', FrD.keep f (fun d hd q => ?_) (fun k h1 h2 => cells_of hk k' (hcs k (by omega))) z0⟩
      rcases q with q | q
      · exact hd.1.2 q
      · exact hd.2 q
    | succ j =>
      obtain ⟨E, hE, y, reb⟩ := FrD.focus z0 (fun q => q.1.2 rfl) j f (by simpa using hj)
      have e : 1 + j = j + 1 := by omega
      rw [e] at y reb
      refine ⟨b, cs, E, ha, hb, hk, hz, hn, hc, fun d hd => (hE d hd).1, y, fun h' f' cs' f k' hz' hcs y' => ?_⟩
      rw [List.set_cons_succ]
      unfold FsD
      refine ⟨by simpa using hn, hc, b, cs', E0, ha, hb, k', by omega, hE0, ?_, reb h' f' f (fun k hk2 => cells_of hk k' (hcs k hk2)) y'⟩
      refine FldD.keep f (fun d hd q => ?_) (fun k h1 h2 => cells_of hk k' (hcs k (by omega))) y0
      rcases q with q | q
      · exact (hE0 d hd).2 q
      · exact (hE d q).2 hd
theorem FsD.len {D : Nat → Prop} {h : Hp} {s : Sl} {fs : List Fld} (x : FsD D h s fs) : s.n = fs.length := (FsD.h _ x).n.1
mutual
/-- no list is long -/
def Fld.lns : Fld → Prop
  | .mk _ _ _ _ _ _ cs => cs.length ≤ 70000 ∧ lns cs
def lns : List Fld → Prop
  | [] => True
  | f :: fs => f.lns ∧ lns fs
end
theorem lns.get : ∀ {fs : List Fld}, lns fs → ∀ f ∈ fs, f.lns
  | [], _, _, h => by simp at h
  | g :: gs, hh, f, h => by
    unfold lns at hh
    rcases List.mem_cons.1 h with rfl | h
    · exact hh.1
    · exact lns.get hh.2 f h
theorem lns.mem : ∀ {fs : List Fld}, (∀ f ∈ fs, f.lns) → lns fs
  | [], _ => by unfold lns; trivial
  | f :: fs, h => by unfold lns; exact ⟨h f (by simp), lns.mem fun g hg => h g (by simp [hg])⟩
theorem lns.set : ∀ {fs : List Fld} {j : Nat} {f : Fld}, lns fs → f.lns → lns (fs.set j f)
  | [], _, _, _, _ => by simp; unfold lns; trivial
  | g :: gs, 0, f, h, hf => by rw [List.set_cons_zero]; unfold lns at h ⊢; exact ⟨hf, h.2⟩
  | g :: gs, j + 1, f, h, hf => by rw [List.set_cons_succ]; unfold lns at h ⊢; exact ⟨h.1, lns.set h.2 hf⟩
theorem fieldD_lns {l : List UInt8} : ∀ (fuel a n : Nat) (f : Fld) (a' n' : Nat), fieldD l fuel a n = .ok (f, a', n') → f.lns
  | 0, a, n, f, a', n', h => by unfold fieldD at h; cases h
  | fuel + 1, a, n, f, a', n', h => by
    unfold fieldD at h
    split at h <;> try cases h
    split at h <;> try cases h
    rename_i nm a1 q1
    split at h <;> try cases h
    split at h <;> try cases h
    split at h <;> try cases h
    rename_i w i x c a4 q4
    split at h <;> try cases h
    rename_i cs a5 n5 q5
    have h2 := midD_lt q4
    obtain ⟨h3, h4⟩ := repD_all (fun a n x a' n' => fieldD_lns fuel a n x a' n') q5
    unfold Fld.lns
    simp only at h2
    exact ⟨by omega, lns.mem h4⟩
theorem headD_lns {l : List UInt8} {H : Hd} {a' n' : Nat} (h : headD l = .ok (H, a', n')) : H.fs.length ≤ 70000 ∧ lns H.fs := by
  unfold headD at h
  split at h <;> try cases h
  split at h <;> try cases h
  split at h <;> try cases h
  split at h <;> try cases h
  unfold restD at h
  have nl : ∀ {H : Hd}, H.fs = [] → H.fs.length ≤ 70000 ∧ lns H.fs := fun e => by rw [e]; unfold lns; exact ⟨by decide, trivial⟩
  split at h
  · split at h <;> try cases h
    rename_i q
    unfold schemaD at q
    split at q <;> try cases q
    rename_i c a1 q1
    split at q <;> try cases q
    rename_i fs a2 n2 q2
    split at q <;> try cases q
    split at q <;> try cases q
    have hc := numD_lt q1
    obtain ⟨h3, h4⟩ := repD_all (fun a n x a' n' => fieldD_lns 64 a n x a' n') q2
    exact ⟨by show fs.length ≤ 70000; omega, lns.mem h4⟩
  split at h
  · split at h <;> try cases h
    split at h <;> try cases h
    exact nl (bodyD_fs h)
  · exact nl (bodyD_fs h)
def spoilt : ByteArray := bs [115, 112, 111, 105, 108, 116]
/-- the owner spoils the fields within -/
def SpoilC : Fld → Prop
  | .mk _ _ _ _ _ _ cs => ∀ {D : Nat → Prop} {h : Hp} {s : Sl} {K : HP} {Kp : PK}, FsD D h s cs → cs.length ≤ 70000 → lns cs → (∀ h' cs', Tn D h h' → FsD D h' s cs' → lns cs' → cs'.length = cs.length → K h') → Fn54 s h K Kp
theorem spoil_fs {cs : List Fld} (IH : ∀ f ∈ cs, SpoilC f) (hl : cs.length ≤ 70000) (hs : lns cs) {D : Nat → Prop} {h : Hp} {s : Sl} {K : HP} {Kp : PK} (hh : FsD D h s cs) (hk : ∀ h' cs', Tn D h h' → FsD D h' s cs' → lns cs' → cs'.length = cs.length → K h') : Fn54 s h K Kp := by
  have hn := hh.len
  refine Fn54.of ?_
  unfold S54
  refine L54_1.rule (fun x h1 => ∃ (i : Nat) (cur : List Fld), x = i ∧ i ≤ cs.length ∧ cur.length = cs.length ∧ (∀ j, i ≤ j → cur[j]? = cs[j]?) ∧ lns cur ∧ Tn D h h1 ∧ FsD D h1 s cur) (fun x _ => cs.length - x.toNat) ⟨0, cs, rfl, by omega, rfl, fun _ _ => rfl, hs, Tn.refl _ _, hh⟩ ?_
  rintro x h1 ⟨i, cur, rfl, hi, hlen, hsame, hsm, f1, D1⟩ N1 hN
  unfold T54_1
  refine If_i (fun c => ?_) fun c => ?_
  · simp only [decide_eq_true_eq, decide_eq_false_iff_not, beq_iff_eq, beq_eq_false_iff_ne, ne_eq, reduceCtorEq, true_iff, false_iff, Bool.not_eq_true', Bool.not_eq_false', bne_iff_ne, bne_eq_false_iff_eq, Bool.not_true, Bool.not_false, Decidable.not_not] at c
    have hi' : i < cs.length := by omega
    have hj : cs[i]? = some cs[i] := List.getElem?_eq_getElem hi'
    have hmem : cs[i] ∈ cs := List.getElem_mem hi'
    generalize cs[i] = f at hj hmem
    have hjc : cur[i]? = some f := (hsame i (Nat.le_refl _)).trans hj
    obtain ⟨b, cb, E, ha, hb, k, hz, hn1, hc1, hE, hfd, reb⟩ := D1.focus hjc
    have hsf := hs.get f hmem
    have IHf := IH f hmem
    obtain ⟨n, nul, kk, w, id, ix, ds⟩ := f
    unfold Fld.lns at hsf
    unfold FldD at hfd
    obtain ⟨sl, hcs, hds⟩ := hfd
    rw [ha]
    have ixx : ∀ {K : Addr → Prop}, K ⟨b, i * 7, none⟩ → Ix (some ⟨b, 0, none⟩) s.n 7 i K := fun hK => ⟨by omega, by omega, by rw [Int.toNat_natCast, add_blk, Nat.zero_add]; exact hK⟩
    refine ixx ?_
    simp only [add_blk, Nat.add_assoc, Nat.reduceAdd]
    have c6 := hcs 6 _ rfl
    rw [add_blk] at c6
    refine ⟨sl, c6, IHf hds hsf.1 hsf.2 fun h2 ds' f2 D2 hs2 hl2 => ixx ?_⟩
    have hEb : ¬ E b := fun q => (hE _ q).2 rfl
    have k2 := f2.blk k hEb
    have hsz : i * 7 + 7 ≤ cb.size := by rw [hz]; have := Nat.mul_le_mul_right 7 (show i + 1 ≤ s.c by omega); omega
    refine St_i k2 (by omega) rfl fun h3 o3 k3 => Wr_i64 (by omega) (by omega) (Wr_i64 (by omega) (by omega) (ixx ?_))
    simp only [add_blk]
    refine St_i k3 (by simp; omega) rfl fun h4 o4 k4 => Wr_i64 (by omega) (by omega) ?_
    have o := o3.trans o4
    have f24 : Tn (fun d => d = b ∨ E d) h1 h4 := (f2.mono fun d hd _ => .inr hd).trans' o.fr fun d hd _ => .inl hd
    have hnew : FldD E h4 ⟨b, i * 7, none⟩ (.mk spoilt nul (0 - (i : Int) - 1) w id ix ds') := by
      unfold FldD
      refine ⟨sl, fun j v hv => ?_, FsD.fr o.fr (fun d hd => ⟨fun q => hEb (q ▸ hd), hd⟩) ds' D2⟩
      have hj7 : j < 7 := (List.getElem?_eq_some_iff.1 hv).1
      rw [add_blk, cell_blk k4]
      have old : ∀ j v, (vals7 n nul kk w id ix sl)[j]? = some v → cb[i * 7 + j]? = some v := fun j v hv => by
        have := hcs j v hv
        rwa [add_blk, cell_blk k] at this
      rw [Array.getElem?_setIfInBounds, Array.getElem?_setIfInBounds]
      rcases (by omega : j = 0 ∨ j = 1 ∨ j = 2 ∨ j = 3 ∨ j = 4 ∨ j = 5 ∨ j = 6) with rfl | rfl | rfl | rfl | rfl | rfl | rfl
      · rw [if_neg (by omega), if_pos (by omega), if_pos (by omega)]; exact hv
      · rw [if_neg (by omega), if_neg (by omega)]; exact (old 1 _ rfl).trans hv
      · rw [if_pos (by omega), if_pos (by simp; omega)]; exact hv
      · rw [if_neg (by omega), if_neg (by omega)]; exact (old 3 _ rfl).trans hv
      · rw [if_neg (by omega), if_neg (by omega)]; exact (old 4 _ rfl).trans hv
      · rw [if_neg (by omega), if_neg (by omega)]; exact (old 5 _ rfl).trans hv
      · rw [if_neg (by omega), if_neg (by omega)]; exact (old 6 _ rfl).trans hv
    have D4 := reb h4 _ _ f24 k4 (by simp) (fun j hj => by rw [Array.getElem?_setIfInBounds, Array.getElem?_setIfInBounds, if_neg (by omega), if_neg (by omega)]) hnew
    refine hN _ _ ⟨i + 1, cur.set i (.mk spoilt nul (0 - (i : Int) - 1) w id ix ds'), by omega, by omega, by simp [hlen], fun j hj => ?_, hsm.set ?_, f1.trans (f24.mono fun d hd _ => ?_), D4⟩ (by omega)
    · rw [List.getElem?_set_ne (by omega)]; exact hsame j (by omega)
    · unfold Fld.lns; exact ⟨by omega, hs2⟩
    · rcases hd with rfl | hd
      · exact hb
      · exact (hE d hd).1
  · simp only [decide_eq_true_eq, decide_eq_false_iff_not, beq_iff_eq, beq_eq_false_iff_ne, ne_eq, reduceCtorEq, true_iff, false_iff, Bool.not_eq_true', Bool.not_eq_false', bne_iff_ne, bne_eq_false_iff_eq, Bool.not_true, Bool.not_false, Decidable.not_not] at c
    exact hk h1 cur f1 D1 hsm hlen
theorem spoil_f : ∀ f : Fld, SpoilC f
  | .mk _ _ _ _ _ _ cs => fun hh hl hs hk => spoil_fs (fun f _ => spoil_f f) hl hs hh hk
/-- one row more at a list's end: in its block, or in a new one -/
theorem Ap_tl {sz : Nat} {h : Hp} {s : Sl} {b : Nat} {vs : List Value} {el : TypeId} {z : Array Value} {bytes : Nat} {vals : List Value → Prop} {new : List Value} {K : Sl → HP}
    (o : OwnS sz h s b vs el) (hz : z.size = sz) (hnew : new.length = sz) (hone : ∀ v ∈ new, one v = true) (hv : vals new) (hroom : (s.n + 1 + (s.n + 1) / 4 + 192) * bytes ≤ 2 ^ 48) (hn : s.n + 1 < 2 ^ 63)
    (hk : ∀ s' b' h', OwnS sz h' s' b' (vs ++ new) el → s'.n = s.n + 1 → (Only b h h' ∧ b' = b ∧ s'.c = s.c ∨ Grw h h' ∧ b' = h.size) → K s' h') : Ap h el z sz bytes s 1 vals K := by
  obtain ⟨h1, h2, cs, h3, h4, h5, h6⟩ := o
  refine ⟨new, hv, ?_⟩
  by_cases hc : s.n + 1 ≤ s.c
  · refine .inl ⟨hc, ?_⟩
    have hmul : s.n * sz + sz ≤ s.c * sz := by rw [← Nat.succ_mul]; exact Nat.mul_le_mul_right _ hc
    rw [h1]
    show StL h ((Addr.mk b 0 none).add (s.n * sz)) 0 new _
    rw [add_blk]
    refine StL_i new h3 (by omega) hone fun h' cs' o1 o2 o3 o4 => ?_
    refine hk _ b h' ⟨rfl, ?_, cs', o2, hc, by rw [o3, h5], fun i hi => ?_⟩ rfl (.inl ⟨o1, rfl, rfl⟩)
    · simp only [List.length_append, h2, hnew]; rw [Nat.succ_mul]
    · rw [o4 i]
      have hi' : i < s.n * sz + sz := by rw [← Nat.succ_mul]; exact hi
      by_cases hlt : i < s.n * sz
      · rw [if_neg (by omega), h6 i hlt, List.getElem?_append_left (by omega)]
      · rw [if_pos (by omega), List.getElem?_append_right (by omega)]
        congr 1; omega
  · refine .inr ⟨by omega, ?_, hn, vs, ?_, ?_⟩
    · have := nextslicecap_le_wide (need := s.n + 1) (old := s.c) (by omega)
      have h7 := Nat.mul_le_mul_right bytes this
      omega
    · rw [h1]
      refine ⟨h2, fun i v hi => ?_⟩
      have : i < vs.length := (List.getElem?_eq_some_iff.1 hi).1
      rw [add_blk, Nat.zero_add, cell_blk h3, h6 i (by omega)]; exact hi
    · intro newCap hn1 hn2
      refine hk _ h.size _ ⟨rfl, ?_, _, by simp only [Blk, Array.getElem?_push_size]; rfl, hn1, ?_, fun i hi => ?_⟩ rfl (.inr ⟨Grw.push h _, rfl⟩)
      · simp only [List.length_append, h2, hnew]; rw [Nat.succ_mul]
      · have : s.n * sz + sz + (newCap - (s.n + 1)) * sz = newCap * sz := by
          have e : newCap = s.n + 1 + (newCap - (s.n + 1)) := by omega
          conv => rhs; rw [e]
          rw [Nat.add_mul, Nat.add_mul, Nat.one_mul]
        simp [Builtin.zeroCells, h2, hnew, hz, this]
      · have hi' : i < s.n * sz + sz := by rw [← Nat.succ_mul]; exact hi
        have hl : (vs ++ new).length = s.n * sz + sz := by simp [h2, hnew]
        rw [Array.getElem?_append_left (by simp only [List.size_toArray]; omega), List.getElem?_toArray]
theorem FsD.grown {D : Nat → Prop} {h h' : Hp} {s : Sl} {fs : List Fld} (x : FsD D h s fs) {b : Nat} {cs' : Array Value} (ha : s.a = some ⟨b, 0, none⟩) (f : Tn (· = b) h h') (k' : Blk h' b cs' 63) (hz' : cs'.size = s.c * 7) (hcs : ∀ cs, Blk h b cs 63 → ∀ k, k < s.n * 7 → cs'[k]? = cs[k]?) : FsD D h' s fs := by
  cases fs with
  | nil => unfold FsD at x; subst x; cases ha
  | cons g gs =>
    unfold FsD at x ⊢
    obtain ⟨hn, hc, b0, cs, E0, ha0, hb, hk, hz, hE0, y0, z0⟩ := x
    rw [ha] at ha0
    cases ha0
    have hcs := hcs cs hk
    refine ⟨hn, hc, b, cs', E0, ha, hb, k', hz', hE0, FldD.keep f (fun d hd q => (hE0 d hd).2 q) (fun k h1 h2 => cells_of hk k' (hcs k (by omega))) y0, FrD.keep f (fun d hd q => hd.1.2 q) (fun k h1 h2 => cells_of hk k' (hcs k (by omega))) z0⟩
/-- the owner appends to each list -/
def GrowC : Fld → Prop
  | .mk _ _ _ _ _ _ cs => ∀ {D : Nat → Prop} {h : Hp} {s : Sl} {K : HP} {Kp : PK}, FsD D h s cs → cs.length ≤ 70000 → lns cs → (∀ h', Tn D h h' → FsD D h' s cs → K h') → Fn55 s h K Kp
def grownRow : List Value := [.string (bs [103, 114, 111, 119, 110]), .bool false, .int .i64 0, .int .i64 0, .int .i64 0, .int .i64 0, .slice none 0 0]
theorem grow_nil {h : Hp} {K : HP} {Kp : PK} (hk : ∀ h', Grw h h' → K h') : J55_1 Sl.nil K Kp h := by
  refine J55_1.of ?_
  unfold JT55_1
  refine L55_2.rule (fun t x h1 => ∃ (i : Nat) (vs : List Value), x = i ∧ i ≤ 9 ∧ t.n = i ∧ Sh h.size h1.size 7 h1 t vs 63 ∧ Grw h h1) (fun _ x _ => 9 - x.toNat) ⟨0, [], rfl, by omega, rfl, Sh.nil _ _ _ _ _, Grw.refl _⟩ ?_
  rintro t x h1 ⟨i, vs, rfl, hi, ht, o, g⟩ N1 hN
  unfold T55_2
  refine If_i (fun c => ?_) fun c => hk h1 g
  simp only [decide_eq_true_eq, decide_eq_false_iff_not, beq_iff_eq, beq_eq_false_iff_ne, ne_eq, reduceCtorEq, true_iff, false_iff, Bool.not_eq_true', Bool.not_eq_false', bne_iff_ne, bne_eq_false_iff_eq, Bool.not_true, Bool.not_false, Decidable.not_not] at c
  refine New_i fun b h2 e2 g2 k2 _ => ?_
  have z := g.1
  have z2 := g2.1
  refine Ap_sh ((o.grw g2).wide (Nat.le_refl _) z2) (by omega) rfl (new := grownRow) rfl (by simp [grownRow, one]) (rd_blk k2 rfl) (by omega) (by omega) fun t' h3 f3 at3 o3 hn3 => ?_
  refine Wr_i64 (by omega) (by omega) (hN _ _ _ ⟨i + 1, _, by omega, by omega, by omega, o3, Tn.grw0 (Grw.trans g g2) f3 fun d hd => (o.at hd).1⟩ (by omega))
/-- nine more at the end of a list that has some -/
theorem grow_tail {D : Nat → Prop} {cs : List Fld} (hne : cs ≠ []) (hl : cs.length ≤ 70000) {h : Hp} {s : Sl} {K : HP} {Kp : PK} (hh : FsD D h s cs) (hk : ∀ h', Tn D h h' → FsD D h' s cs → K h') : J55_1 s K Kp h := by
  have hn := hh.len
  obtain ⟨g, hj⟩ : ∃ g, cs[0]? = some g := by
    cases cs with
    | nil => exact absurd rfl hne
    | cons g gs => exact ⟨g, rfl⟩
  obtain ⟨b, cb, E, ha, hb, k, hz, hn1, hc1, hE, hfd, _⟩ := hh.focus hj
  have ib := k.lt
  have own0 : OwnS 7 h s b (cb.toList.take (s.n * 7)) 63 := ⟨ha, by
    have := Nat.mul_le_mul_right 7 hc1
    simp; omega, cb, k, hc1, hz, fun i hi => by rw [List.getElem?_take, if_pos hi, Array.getElem?_toList]⟩
  refine J55_1.of ?_
  unfold JT55_1
  refine L55_2.rule (fun t x h1 => ∃ (i : Nat) (b' : Nat) (vs : List Value), x = i ∧ i ≤ 9 ∧ t.n = s.n + i ∧ OwnS 7 h1 t b' vs 63 ∧ Tn (· = b) h h1 ∧
    (∃ cb', Blk h1 b cb' 63 ∧ cb'.size = s.c * 7 ∧ ∀ k, k < s.n * 7 → cb'[k]? = cb[k]?) ∧ (b' = b ∧ t.c = s.c ∨ h.size ≤ b')) (fun _ x _ => 9 - x.toNat) ⟨0, b, _, rfl, by omega, by omega, own0, Tn.refl _ _, ⟨cb, k, hz, fun _ _ => rfl⟩, .inl ⟨rfl, rfl⟩⟩ ?_
  rintro t x h1 ⟨i, b', vs, rfl, hi, ht, o, f1, ⟨cb', k1, z1, same⟩, where_⟩ N1 hN
  unfold T55_2
  refine If_i (fun c => ?_) fun c => ?_
  · simp only [decide_eq_true_eq, decide_eq_false_iff_not, beq_iff_eq, beq_eq_false_iff_ne, ne_eq, reduceCtorEq, true_iff, false_iff, Bool.not_eq_true', Bool.not_eq_false', bne_iff_ne, bne_eq_false_iff_eq, Bool.not_true, Bool.not_false, Decidable.not_not] at c
    refine New_i fun bx h2 e2 g2 k2 _ => ?_
    have z2 := g2.1
    have i1 := f1.1
    have o2 : OwnS 7 h2 t b' vs 63 := o.grw g2
    have ob := o.lt
    refine Ap_tl o2 rfl (new := grownRow) rfl (by simp [grownRow, one]) (rd_blk k2 rfl) (by omega) (by omega) fun t' b2 h3 o3 hn3 wh => ?_
    have k1 := k1.grw g2
    refine Wr_i64 (by omega) (by omega) (hN _ _ _ ⟨i + 1, b2, vs ++ grownRow, by omega, by omega, by omega, o3, ?_, ?_, ?_⟩ (by omega))
    · have f12 := f1.trans' (Tn.of_grw (S := No) g2) fun _ q => q.elim
      rcases wh with ⟨oo, rfl, _⟩ | ⟨gg, _⟩
      · refine f12.trans' oo.fr fun d hd hlt => ?_
        rcases where_ with ⟨q, _⟩ | q <;> omega
      · exact f12.trans' (Tn.of_grw (S := No) gg) fun _ q => q.elim
    · rcases wh with ⟨oo, rfl, hcc⟩ | ⟨gg, _⟩
      · by_cases e : b2 = b
        · subst e
          obtain ⟨_, hlen, cs3, k3, _, hz3, hv3⟩ := id o3
          have hbc : t'.c = s.c := by
            rcases where_ with ⟨_, q⟩ | q
            · omega
            · omega
          refine ⟨cs3, k3, by rw [hz3, hbc], fun j hj => ?_⟩
          rw [hv3 j (by omega)]
          have hvl : vs.length = t.n * 7 := o.2.1
          rw [List.getElem?_append_left (by omega)]
          obtain ⟨_, _, cs1, k1', _, _, hv1⟩ := id o2
          rw [← hv1 j (by omega)]
          have : cs1 = cb' := by
            have := k1'.symm.trans k1
            simp only [Option.some.injEq, Obj.cells.injEq, and_true] at this
            exact this
          rw [this]; exact same j hj
        · exact ⟨cb', oo.blk k1 (fun q => e q.symm), z1, same⟩
      · exact ⟨cb', k1.grw gg, z1, same⟩
    · rcases wh with ⟨oo, rfl, hcc⟩ | ⟨gg, rfl⟩
      · rcases where_ with ⟨q, q2⟩ | q
        · exact .inl ⟨q, by omega⟩
        · exact .inr q
      · exact .inr (by omega)
  · exact hk h1 (f1.mono fun d hd _ => hd ▸ hb) (hh.grown ha f1 k1 z1 fun cs q k' hk' => by
      have : cs = cb := by
        have := q.symm.trans k
        simp only [Option.some.injEq, Obj.cells.injEq, and_true] at this
        exact this
      rw [this]; exact same k' hk')
theorem grow_fs {cs : List Fld} (IH : ∀ f ∈ cs, GrowC f) (hl : cs.length ≤ 70000) (hsub : lns cs) {D : Nat → Prop} {h : Hp} {s : Sl} {K : HP} {Kp : PK} (hh : FsD D h s cs) (hk : ∀ h', Tn D h h' → FsD D h' s cs → K h') : Fn55 s h K Kp := by
  have hn := hh.len
  refine Fn55.of ?_
  unfold S55
  refine L55_3.rule (fun x h1 => ∃ i : Nat, x = i ∧ i ≤ cs.length ∧ Tn D h h1 ∧ FsD D h1 s cs) (fun x _ => cs.length - x.toNat) ⟨0, rfl, by omega, Tn.refl _ _, hh⟩ ?_
  rintro x h1 ⟨i, rfl, hi, f1, D1⟩ N1 hN
  unfold T55_3
  refine If_i (fun c => ?_) fun c => ?_
  · simp only [decide_eq_true_eq, decide_eq_false_iff_not, beq_iff_eq, beq_eq_false_iff_ne, ne_eq, reduceCtorEq, true_iff, false_iff, Bool.not_eq_true', Bool.not_eq_false', bne_iff_ne, bne_eq_false_iff_eq, Bool.not_true, Bool.not_false, Decidable.not_not] at c
    have hi' : i < cs.length := by omega
    have hj : cs[i]? = some cs[i] := List.getElem?_eq_getElem hi'
    have hmem : cs[i] ∈ cs := List.getElem_mem hi'
    generalize cs[i] = f at hj hmem
    obtain ⟨b, cb, E, ha, hb, k, hz, hn1, hc1, hE, hfd, reb⟩ := D1.focus hj
    have IHf := IH f hmem
    have hsf := hsub.get f hmem
    obtain ⟨n, nul, kk, w, id, ix, ds⟩ := f
    unfold Fld.lns at hsf
    unfold FldD at hfd
    obtain ⟨sl, hcs, hds⟩ := hfd
    rw [ha]
    refine ⟨by omega, by omega, ?_⟩
    rw [Int.toNat_natCast, add_blk, Nat.zero_add]
    simp only [add_blk, Nat.add_assoc, Nat.reduceAdd]
    have c6 := hcs 6 _ rfl
    rw [add_blk] at c6
    refine ⟨sl, c6, IHf hds hsf.1 hsf.2 fun h2 f2 D2 => Wr_i64 (by omega) (by omega) ?_⟩
    have hEb : ¬ E b := fun q => (hE _ q).2 rfl
    have k2 := f2.blk k hEb
    have f2' : Tn (fun d => d = b ∨ E d) h1 h2 := f2.mono fun d hd _ => .inr hd
    have D3 := reb h2 (.mk n nul kk w id ix ds) cb f2' k2 rfl (fun _ _ => rfl) (by
      unfold FldD
      exact ⟨sl, Cs.fr hcs f2 hEb, D2⟩)
    have e : cs.set i (.mk n nul kk w id ix ds) = cs := by
      apply List.ext_getElem?
      intro j
      by_cases hij : i = j
      · subst hij; rw [List.getElem?_set_self (by omega), hj]
      · rw [List.getElem?_set_ne hij]
    rw [e] at D3
    refine hN _ _ ⟨i + 1, by omega, by omega, f1.trans (f2.mono fun d hd _ => (hE d hd).1), D3⟩ (by omega)
  · by_cases hne : cs = []
    · subst hne
      unfold FsD at D1
      subst D1
      refine grow_nil fun h2 g2 => hk h2 (f1.trans (Tn.of_grw g2)) (by unfold FsD; rfl)
    · exact grow_tail hne hl D1 fun h2 f2 D2 => hk h2 (f1.trans f2) D2
theorem grow_f : ∀ f : Fld, GrowC f
  | .mk _ _ _ _ _ _ cs => fun hh hl hs hk => grow_fs (fun f _ => grow_f f) hl hs hh hk
end Go.Proofs.YtfomkkdijjfpiaaDoor
/- The owner spoils a head that was read. -/
namespace Go.Sh
open Go.WideShapes
theorem Sh.ty {lo hi sz : Nat} {h : Hp} {s : Sl} {vs : List Value} {el : TypeId} (o : Sh lo hi sz h s vs el) {b : Nat} (hb : s.at b) : ∃ cs, Blk h b cs el := by
  rcases o with ⟨rfl, _⟩ | ⟨c, _, _, o⟩
  · exact absurd hb (Sl.at_nil b)
  · obtain ⟨a, ha, hab⟩ := hb
    rw [o.1] at ha; cases ha; simp only at hab; subst hab
    obtain ⟨_, _, cs, k, _⟩ := o
    exact ⟨cs, k⟩
theorem ty_ne {h : Hp} {b : Nat} {el el' : TypeId} (k : ∃ cs, Blk h b cs el) (k' : ∃ cs, Blk h b cs el') (e : el ≠ el') : False := by
  obtain ⟨cs, k⟩ := k
  obtain ⟨cs', k'⟩ := k'
  have := k.symm.trans k'
  simp only [Option.some.injEq, Obj.cells.injEq] at this
  exact e this.2.1
theorem Sh.fr2 {S : Nat → Prop} {lo hi sz : Nat} {h h' : Hp} {s : Sl} {vs : List Value} {el : TypeId} (o : Sh lo hi sz h s vs el) (f : Tn S h h') (hn : ∀ b, s.at b → ¬ S b) : Sh lo hi sz h' s vs el := by
  rcases o with o | ⟨b, h1, h2, o⟩
  · exact .inl o
  · exact .inr ⟨b, h1, h2, o.fr f (hn b ⟨_, o.1, rfl⟩)⟩
/-- a cell at a row's beginning is written -/
theorem Sh.wr0 {lo hi sz : Nat} {h : Hp} {s : Sl} {vs : List Value} {el : TypeId} (o : Sh lo hi sz h s vs el) (hsz : 0 < sz) {x : Int} {i : Nat} (hx : x = i) (hi' : i < s.n) {v : Value} (hv : one v = true) {K : HP} (hk : ∀ h' vs', Tn s.at h h' → Sh lo hi sz h' s vs' el → K h') : Ix s.a s.n sz x fun a => St h a v K := by
  subst hx
  rcases o with ⟨rfl, _⟩ | ⟨b, h1, h2, o⟩
  · simp [Sl.nil] at hi'
  · have hlt : i * sz < s.n * sz := Nat.mul_lt_mul_of_pos_right hi' hsz
    rw [o.1]
    refine ⟨by omega, by omega, ?_⟩
    rw [Int.toNat_natCast, add_blk, Nat.zero_add]
    refine o.st hlt hv fun h' oo o' => hk h' _ (oo.fr.mono fun d hd _ => ⟨_, o.1, hd.symm⟩) (.inr ⟨b, h1, h2, o'⟩)
end Go.Sh
namespace Go.Proofs.YtfomkkdijjfpiaaDoor
open Go Go.Sh Go.WideShapes
mutual
theorem FsD.typed {D : Nat → Prop} {h : Hp} : ∀ {s : Sl} (fs : List Fld), FsD D h s fs → FsD (fun d => D d ∧ ∃ cs, Blk h d cs 63) h s fs
  | _, [], hh => by unfold FsD at hh ⊢; exact hh
  | _, g :: fs, hh => by
    unfold FsD at hh ⊢
    obtain ⟨a, b, p, cs, E, e, d, k, z, hE, x, y⟩ := hh
    refine ⟨a, b, p, cs, _, e, ⟨d, cs, k⟩, k, z, fun q hq => ⟨⟨(hE q hq.1).1, hq.2⟩, (hE q hq.1).2⟩, FldD.typed g x, ?_⟩
    exact FrD.keep (S := No) (Tn.refl _ _) (fun _ _ q => q) (fun _ _ _ => rfl) (FrD.weak (fun q hq => ⟨⟨⟨hq.1.1.1, hq.2⟩, hq.1.1.2⟩, fun r => hq.1.2 r.1⟩) fs (FrD.typed fs y))
theorem FrD.typed {D : Nat → Prop} {h : Hp} : ∀ {a : Addr} {i : Nat} (fs : List Fld), FrD D h a i fs → FrD (fun d => D d ∧ ∃ cs, Blk h d cs 63) h a i fs
  | _, _, [], hh => by unfold FrD; trivial
  | _, _, g :: fs, hh => by
    unfold FrD at hh ⊢
    obtain ⟨E, hE, x, y⟩ := hh
    exact ⟨_, fun q hq => ⟨hE q hq.1, hq.2⟩, FldD.typed g x, FrD.weak (fun q hq => ⟨⟨hq.1.1, hq.2⟩, fun r => hq.1.2 r.1⟩) fs (FrD.typed fs y)⟩
theorem FldD.typed {D : Nat → Prop} {h : Hp} : ∀ {a : Addr} (g : Fld), FldD D h a g → FldD (fun d => D d ∧ ∃ cs, Blk h d cs 63) h a g
  | _, .mk n nul k w id ix cs, hh => by
    unfold FldD at hh ⊢
    obtain ⟨s, c, x⟩ := hh
    exact ⟨s, c, FsD.typed cs x⟩
theorem FrD.weak {D D' : Nat → Prop} {h : Hp} (hD : ∀ d, D d → D' d) : ∀ {a : Addr} {i : Nat} (fs : List Fld), FrD D h a i fs → FrD D' h a i fs
  | _, _, [], hh => by unfold FrD; trivial
  | _, _, g :: fs, hh => by
    unfold FrD at hh ⊢
    obtain ⟨E, hE, x, y⟩ := hh
    exact ⟨E, fun q hq => hD _ (hE q hq), x, FrD.weak (fun q hq => ⟨hD _ hq.1, hq.2⟩) fs y⟩
end
theorem spoil_c {H : Hd} {lo hi : Nat} {h : Hp} {s1 s2 s7 s8 : Sl} {K : HP} {Kp : PK} (D : HdD lo hi h H s1 s2 s7 s8) (hhi : hi ≤ h.size) (hlo : lo ≤ hi) (hl : H.fs.length ≤ 70000 ∧ lns H.fs) (hm2 : H.ms.length ≤ 70000) (hm7 : H.nodes.length ≤ 70000) (hm8 : H.bufs.length ≤ 70000)
    (hk : ∀ h', Tn (In lo hi) h h' → K h') : Fn40 H.k s1 s2 H.id H.de H.rows H.press s7 s8 h K Kp := by
  have n2 : s2.n = H.ms.length := by have := D.ms.n; rw [mdsV_len] at this; omega
  have n7 : s7.n = H.nodes.length := by have := D.nodes.n; rw [ndsV_len] at this; omega
  have n8 : s8.n = H.bufs.length := by have := D.bufs.n; rw [bfsV_len] at this; omega
  refine Fn40.of ?_
  unfold S40
  refine New_i fun a h1 e1 g1 ka _ => ?_
  have ka : B9 h1 a H.k s1 s2 H.id H.de H.rows H.press s7 s8 := ka
  have z1 := g1.1
  have D1 := D.fr (S := No) (Tn.of_grw g1) (fun _ _ _ q => q) (Nat.le_refl _) (Nat.le_refl _)
  have T1 := FsD.typed _ D1.fs
  -- which blocks are whose
  have in2 : ∀ b, s2.at b → In lo hi b := fun b hb => D1.ms.at hb
  have in7 : ∀ b, s7.at b → In lo hi b := fun b hb => D1.nodes.at hb
  have in8 : ∀ b, s8.at b → In lo hi b := fun b hb => D1.bufs.at hb
  have x21 : ∀ b, s2.at b → ¬ (In lo hi b ∧ ∃ cs, Blk h1 b cs 63) := fun b hb q => ty_ne (D1.ms.ty hb) q.2 (by decide)
  have x71 : ∀ b, s7.at b → ¬ (In lo hi b ∧ ∃ cs, Blk h1 b cs 63) := fun b hb q => ty_ne (D1.nodes.ty hb) q.2 (by decide)
  have x81 : ∀ b, s8.at b → ¬ (In lo hi b ∧ ∃ cs, Blk h1 b cs 63) := fun b hb q => ty_ne (D1.bufs.ty hb) q.2 (by decide)
  have x27 : ∀ b, s2.at b → ¬ s7.at b := fun b hb q => ty_ne (D1.ms.ty hb) (D1.nodes.ty q) (by decide)
  have x28 : ∀ b, s2.at b → ¬ s8.at b := fun b hb q => ty_ne (D1.ms.ty hb) (D1.bufs.ty q) (by decide)
  have x78 : ∀ b, s7.at b → ¬ s8.at b := fun b hb q => ty_ne (D1.nodes.ty hb) (D1.bufs.ty q) (by decide)
  generalize hT : (fun d => In lo hi d ∧ ∃ cs, Blk h1 d cs 63) = T at T1
  have inT : ∀ d, T d → In lo hi d := fun d hd => by rw [← hT] at hd; exact hd.1
  have x21 : ∀ b, s2.at b → ¬ T b := fun b hb q => by rw [← hT] at q; exact x21 b hb q
  have x71 : ∀ b, s7.at b → ¬ T b := fun b hb q => by rw [← hT] at q; exact x71 b hb q
  have x81 : ∀ b, s8.at b → ¬ T b := fun b hb q => by rw [← hT] at q; exact x81 b hb q
  clear hT
  have na : ∀ d, In lo hi d → d ≠ a := fun d hd q => by have := hd.2; omega
  simp only [add_blk, Nat.reduceAdd]
  refine Ld_blk ka rfl (spoil_fs (fun f _ => spoil_f f) hl.1 hl.2 T1 fun h2 cs' f2 F2 hs2 hl2 => ?_)
  have ka := f2.blk ka fun q => na _ (inT _ q) rfl
  have o2 := D1.ms.fr2 f2 x21
  have o7 := D1.nodes.fr2 f2 x71
  have o8 := D1.bufs.fr2 f2 x81
  have f2 : Tn (In lo hi) h h2 := (Tn.of_grw g1 : Tn (In lo hi) h h1).trans (f2.mono fun d hd _ => inT d hd)
  clear D1 T1
  refine L40_7.rule (fun x h3 => ∃ (i : Nat) (v2 : List Value), x = i ∧ i ≤ H.ms.length ∧ Tn (In lo hi) h h3 ∧ B9 h3 a H.k s1 s2 H.id H.de H.rows H.press s7 s8 ∧ Sh lo hi 2 h3 s2 v2 66 ∧ Sh lo hi 2 h3 s7 (ndsV H.nodes) 55 ∧ Sh lo hi 3 h3 s8 (bfsV H.bufs) 57 ∧ FsD T h3 s1 cs') (fun x _ => H.ms.length - x.toNat)
    ⟨0, _, rfl, by omega, f2, ka, o2, o7, o8, F2⟩ ?_
  rintro x h3 ⟨i, v2, rfl, hi1, f3, ka, o2, o7, o8, F3⟩ N1 hN
  unfold T40_7
  simp only [add_blk, Nat.reduceAdd]
  refine Ld_blk ka rfl (If_i (fun c => ?_) fun c => ?_)
  · simp only [decide_eq_true_eq, decide_eq_false_iff_not, beq_iff_eq, beq_eq_false_iff_ne, ne_eq, reduceCtorEq, true_iff, false_iff, Bool.not_eq_true', Bool.not_eq_false', bne_iff_ne, bne_eq_false_iff_eq, Bool.not_true, Bool.not_false, Decidable.not_not] at c
    refine Ld_blk ka rfl (o2.wr0 (by omega) (i := i) rfl (by omega) rfl fun h4 v4 f4 o4 => Wr_i64 (by omega) (by omega) (hN _ _ ⟨i + 1, v4, by omega, by omega, f3.trans (f4.mono fun d hd _ => in2 d hd), f4.blk ka (fun q => na _ (in2 _ q) rfl), o4, o7.fr2 f4 (fun b h1 h2 => x27 b h2 h1), o8.fr2 f4 (fun b h1 h2 => x28 b h2 h1), FsD.fr f4 (fun d hd => ⟨fun q => x21 d q hd, hd⟩) _ F3⟩ (by omega)))
  clear hN c
  refine J40_1.of ?_
  unfold JT40_1
  refine L40_6.rule (fun x h4 => ∃ (i : Nat) (v7 : List Value), x = i ∧ i ≤ H.nodes.length ∧ Tn (In lo hi) h h4 ∧ B9 h4 a H.k s1 s2 H.id H.de H.rows H.press s7 s8 ∧ Sh lo hi 2 h4 s2 v2 66 ∧ Sh lo hi 2 h4 s7 v7 55 ∧ Sh lo hi 3 h4 s8 (bfsV H.bufs) 57 ∧ FsD T h4 s1 cs') (fun x _ => H.nodes.length - x.toNat)
    ⟨0, _, rfl, by omega, f3, ka, o2, o7, o8, F3⟩ ?_
  rintro x h4 ⟨i, v7, rfl, hi2, f4, ka, o2, o7, o8, F4⟩ N1 hN
  unfold T40_6
  simp only [add_blk, Nat.reduceAdd]
  refine Ld_blk ka rfl (If_i (fun c => ?_) fun c => ?_)
  · simp only [decide_eq_true_eq, decide_eq_false_iff_not, beq_iff_eq, beq_eq_false_iff_ne, ne_eq, reduceCtorEq, true_iff, false_iff, Bool.not_eq_true', Bool.not_eq_false', bne_iff_ne, bne_eq_false_iff_eq, Bool.not_true, Bool.not_false, Decidable.not_not] at c
    refine Ld_blk ka rfl (Wr_i64 (by omega) (by omega) (Wr_i64 (by omega) (by omega) (o7.wr0 (by omega) (i := i) rfl (by omega) rfl fun h5 v5 f5 o5 => Wr_i64 (by omega) (by omega) (hN _ _ ⟨i + 1, v5, by omega, by omega, f4.trans (f5.mono fun d hd _ => in7 d hd), f5.blk ka (fun q => na _ (in7 _ q) rfl), o2.fr2 f5 (fun b h1 h2 => x27 b h1 h2), o5, o8.fr2 f5 (fun b h1 h2 => x78 b h2 h1), FsD.fr f5 (fun d hd => ⟨fun q => x71 d q hd, hd⟩) _ F4⟩ (by omega)))))
  clear hN c
  refine J40_2.of ?_
  unfold JT40_2
  refine L40_5.rule (fun x h5 => ∃ (i : Nat) (v8 : List Value), x = i ∧ i ≤ H.bufs.length ∧ Tn (In lo hi) h h5 ∧ B9 h5 a H.k s1 s2 H.id H.de H.rows H.press s7 s8 ∧ Sh lo hi 2 h5 s2 v2 66 ∧ Sh lo hi 2 h5 s7 v7 55 ∧ Sh lo hi 3 h5 s8 v8 57 ∧ FsD T h5 s1 cs') (fun x _ => H.bufs.length - x.toNat)
    ⟨0, _, rfl, by omega, f4, ka, o2, o7, o8, F4⟩ ?_
  rintro x h5 ⟨i, v8, rfl, hi3, f5, ka, o2, o7, o8, F5⟩ N1 hN
  unfold T40_5
  simp only [add_blk, Nat.reduceAdd]
  refine Ld_blk ka rfl (If_i (fun c => ?_) fun c => ?_)
  · simp only [decide_eq_true_eq, decide_eq_false_iff_not, beq_iff_eq, beq_eq_false_iff_ne, ne_eq, reduceCtorEq, true_iff, false_iff, Bool.not_eq_true', Bool.not_eq_false', bne_iff_ne, bne_eq_false_iff_eq, Bool.not_true, Bool.not_false, Decidable.not_not] at c
    refine Ld_blk ka rfl (Wr_i64 (by omega) (by omega) (Wr_i64 (by omega) (by omega) (o8.wr0 (by omega) (i := i) rfl (by omega) rfl fun h6 v6 f6 o6 => Wr_i64 (by omega) (by omega) (hN _ _ ⟨i + 1, v6, by omega, by omega, f5.trans (f6.mono fun d hd _ => in8 d hd), f6.blk ka (fun q => na _ (in8 _ q) rfl), o2.fr2 f6 (fun b h1 h2 => x28 b h1 h2), o7.fr2 f6 (fun b h1 h2 => x78 b h1 h2), o6, FsD.fr f6 (fun d hd => ⟨fun q => x81 d q hd, hd⟩) _ F5⟩ (by omega)))))
  clear hN c
  refine J40_3.of ?_
  unfold JT40_3
  simp only [add_blk, Nat.reduceAdd]
  refine Ld_blk ka rfl (grow_fs (fun f _ => grow_f f) (by omega) hs2 F5 fun h6 f6 F6 => ?_)
  have ka := f6.blk ka fun q => na _ (inT _ q) rfl
  have o2 := o2.fr2 f6 x21
  have o7 := o7.fr2 f6 x71
  have o8 := o8.fr2 f6 x81
  have f6 := f5.trans (f6.mono fun d hd _ => inT d hd)
  have z6 := f6.1
  have i6 := ka.lt
  clear x21 x71 x81 x27 x28 x78 F5 F6
  refine L40_4.rule (fun x h7 => ∃ (i : Nat) (t2 t7 t8 : Sl) (w2 w7 w8 : List Value), x = i ∧ i ≤ 9 ∧ Tn (In lo hi) h h7 ∧ B9 h7 a H.k s1 t2 H.id H.de H.rows H.press t7 t8 ∧ Sh lo h7.size 2 h7 t2 w2 66 ∧ Sh lo h7.size 2 h7 t7 w7 55 ∧ Sh lo h7.size 3 h7 t8 w8 57 ∧
      (∀ d, t2.at d → In lo hi d ∨ h.size < d) ∧ (∀ d, t7.at d → In lo hi d ∨ h.size < d) ∧ (∀ d, t8.at d → In lo hi d ∨ h.size < d) ∧ t2.n = H.ms.length + i ∧ t7.n = H.nodes.length + i ∧ t8.n = H.bufs.length + i) (fun x _ => 9 - x.toNat)
    ⟨0, s2, s7, s8, _, _, _, rfl, by omega, f6, ka, o2.wide (Nat.le_refl _) (by omega), o7.wide (Nat.le_refl _) (by omega), o8.wide (Nat.le_refl _) (by omega), fun d hd => .inl (in2 d hd), fun d hd => .inl (in7 d hd), fun d hd => .inl (in8 d hd), by omega, by omega, by omega⟩ ?_
  rintro x h7 ⟨i, t2, t7, t8, w2, w7, w8, rfl, hi4, f7, ka, o2, o7, o8, r2, r7, r8, m2, m7, m8⟩ N1 hN
  unfold T40_4
  simp only [add_blk, Nat.reduceAdd]
  refine If_i (fun c => ?_) fun c => hk h7 f7
  simp only [decide_eq_true_eq, decide_eq_false_iff_not, beq_iff_eq, beq_eq_false_iff_ne, ne_eq, reduceCtorEq, true_iff, false_iff, Bool.not_eq_true', Bool.not_eq_false', bne_iff_ne, bne_eq_false_iff_eq, Bool.not_true, Bool.not_false, Decidable.not_not] at c
  have z7 := f7.1
  have na2 : ∀ {t : Sl}, (∀ d, t.at d → In lo hi d ∨ h.size < d) → ¬ t.at a := fun r q => by
    rcases r a q with q | q
    · exact na a q rfl
    · omega
  -- a list of the head gets one more
  refine Ld_blk ka rfl (New_i fun b8 h8 e8 g8 k8 _ => ?_)
  have y8 := g8.1
  have ia := ka.lt
  refine Ap_sh ((o2.grw g8).wide (Nat.le_refl _) y8) (by omega) rfl (new := [.string (bs [103, 114, 111, 119, 110]), .string (bs [])]) rfl (by simp [one]) (rd_blk k8 rfl) (by omega) (by omega) fun u2 h9 f9 a9 p2 q2 => ?_
  have ka9 := f9.blk (ka.grw g8) (na2 r2)
  have ia9 := ka9.lt
  refine St_i ka9 (by simp [vals9]) rfl fun h10 o10 k10 => ?_
  have k10 : B9 h10 a H.k s1 u2 H.id H.de H.rows H.press t7 t8 := by simp [vals9] at k10; exact k10
  have c2 : ∀ d, u2.at d → In lo hi d ∨ h.size < d := fun d hd => by
    rcases a9 d hd with q | q
    · exact r2 d q
    · omega
  have y9 := f9.1
  have p7 := (((o7.grw g8).fr2 f9 fun b x1 x2 => ty_ne (o7.ty x1) (o2.ty x2) (by decide)).fr2 o10.fr fun b x1 x2 => na2 r7 (x2 ▸ x1)).wide (lo' := lo) (hi' := h10.size) (Nat.le_refl _) (by have := o10.1; omega)
  have p8 := (((o8.grw g8).fr2 f9 fun b x1 x2 => ty_ne (o8.ty x1) (o2.ty x2) (by decide)).fr2 o10.fr fun b x1 x2 => na2 r8 (x2 ▸ x1)).wide (lo' := lo) (hi' := h10.size) (Nat.le_refl _) (by have := o10.1; omega)
  have p2 := (p2.fr2 o10.fr fun b x1 x2 => na2 c2 (x2 ▸ x1)).wide (lo' := lo) (hi' := h10.size) (Nat.le_refl _) (by have := o10.1; omega)
  have wid : ∀ {t : Sl} {h h' : Hp}, (∀ d, t.at d → In lo hi d ∨ h.size < d) → True := fun _ => trivial
  have F10 : Tn (In lo hi) h h10 := ((f7.trans (Tn.of_grw g8)).trans' f9 fun d hd hlt => by
    rcases r2 d hd with q | q
    · exact q
    · omega).trans' o10.fr fun d hd hlt => by omega
  have y10 := o10.1
  refine Ld_blk k10 rfl (New_i fun b11 h11 e11 g11 k11 _ => ?_)
  have y11 := g11.1
  refine Ap_sh ((p7.grw g11).wide (Nat.le_refl _) y11) (by omega) rfl (new := [.int .i64 (-77), .int .i64 0]) rfl (by simp [one]) (rd_blk k11 rfl) (by omega) (by omega) fun u7 h12 f12 a12 q7 qn7 => ?_
  have k12 := f12.blk (k10.grw g11) (na2 r7)
  refine St_i k12 (by simp [vals9]) rfl fun h13 o13 k13 => ?_
  have k13 : B9 h13 a H.k s1 u2 H.id H.de H.rows H.press u7 t8 := by simp [vals9] at k13; exact k13
  have c7 : ∀ d, u7.at d → In lo hi d ∨ h.size < d := fun d hd => by
    rcases a12 d hd with q | q
    · exact r7 d q
    · omega
  have y12 := f12.1
  have y13 := o13.1
  have p8' := (((p8.grw g11).fr2 f12 fun b x1 x2 => ty_ne (p8.ty x1) (p7.ty x2) (by decide)).fr2 o13.fr fun b x1 x2 => na2 r8 (x2 ▸ x1)).wide (lo' := lo) (hi' := h13.size) (Nat.le_refl _) (by omega)
  have p2' := (((p2.grw g11).fr2 f12 fun b x1 x2 => ty_ne (p2.ty x1) (p7.ty x2) (by decide)).fr2 o13.fr fun b x1 x2 => na2 c2 (x2 ▸ x1)).wide (lo' := lo) (hi' := h13.size) (Nat.le_refl _) (by omega)
  have p7' := (q7.fr2 o13.fr fun b x1 x2 => na2 c7 (x2 ▸ x1)).wide (lo' := lo) (hi' := h13.size) (Nat.le_refl _) (by omega)
  have F13 : Tn (In lo hi) h h13 := ((F10.trans (Tn.of_grw g11)).trans' f12 fun d hd hlt => by
    rcases r7 d hd with q | q
    · exact q
    · omega).trans' o13.fr fun d hd hlt => by omega
  refine Ld_blk k13 rfl (New_i fun b14 h14 e14 g14 k14 _ => ?_)
  have y14 := g14.1
  refine Ap_sh ((p8'.grw g14).wide (Nat.le_refl _) y14) (by omega) rfl (new := [.int .i64 (-77), .int .i64 0, .int .i64 0]) rfl (by simp [one]) (rd_blk k14 rfl) (by omega) (by omega) fun u8 h15 f15 a15 q8 qn8 => ?_
  have k15 := f15.blk (k13.grw g14) (na2 r8)
  refine St_i k15 (by simp [vals9]) rfl fun h16 o16 k16 => ?_
  have k16 : B9 h16 a H.k s1 u2 H.id H.de H.rows H.press u7 u8 := by simp [vals9] at k16; exact k16
  have c8 : ∀ d, u8.at d → In lo hi d ∨ h.size < d := fun d hd => by
    rcases a15 d hd with q | q
    · exact r8 d q
    · omega
  have y15 := f15.1
  have y16 := o16.1
  have F16 : Tn (In lo hi) h h16 := ((F13.trans (Tn.of_grw g14)).trans' f15 fun d hd hlt => by
    rcases r8 d hd with q | q
    · exact q
    · omega).trans' o16.fr fun d hd hlt => by omega
  have s2' := (((p2'.grw g14).fr2 f15 fun b x1 x2 => ty_ne (p2'.ty x1) (p8'.ty x2) (by decide)).fr2 o16.fr fun b x1 x2 => na2 c2 (x2 ▸ x1)).wide (lo' := lo) (hi' := h16.size) (Nat.le_refl _) (by omega)
  have s7' := (((p7'.grw g14).fr2 f15 fun b x1 x2 => ty_ne (p7'.ty x1) (p8'.ty x2) (by decide)).fr2 o16.fr fun b x1 x2 => na2 c7 (x2 ▸ x1)).wide (lo' := lo) (hi' := h16.size) (Nat.le_refl _) (by omega)
  have s8' := (q8.fr2 o16.fr fun b x1 x2 => na2 c8 (x2 ▸ x1)).wide (lo' := lo) (hi' := h16.size) (Nat.le_refl _) (by omega)
  exact Wr_i64 (by omega) (by omega) (hN _ _ ⟨i + 1, u2, u7, u8, _, _, _, by omega, by omega, F16, k16, s2', s7', s8', c2, c7, c8, by omega, by omega, by omega⟩ (by omega))
end Go.Proofs.YtfomkkdijjfpiaaDoor
/- Equal heads are told equal. -/
namespace Go.Proofs.YtfomkkdijjfpiaaDoor
open Go Go.Sh Go.WideShapes
theorem Keep_cs {h h' : Hp} {a : Addr} {n : Nat} {X : Prop} {vs : List Value} (k : Cs h a vs) (k' : Cs h' a vs) (hn : vs.length = n) (hx : X) : Keep h h' a n X :=
  ⟨fun j hj => by
    have hj' : vs[j]? = some vs[j] := List.getElem?_eq_getElem (by omega)
    rw [k j _ hj', k' j _ hj'], hx⟩
theorem fault_same {e y : Int} {s t : Sl} {h : Hp} {K : Bool → HP} {Kp : PK} (hs : s.n = 0) (ht : t.n = 0) (hk : ∀ h', Grw h h' → K true h') : Fn14 e s y e t y h K Kp := by
  refine Fn14.of ?_
  unfold S14
  refine New_i fun b2 h1 e1 g1 k2 _ => New_i fun b3 h2 e2 g2 k3 _ => ?_
  have k2 := k2.grw g2
  simp only [add_blk, Nat.reduceAdd]
  refine Ld_blk k2 rfl (Ld_blk k3 rfl (If_f (by simp) (Ld_blk k2 rfl (Ld_blk k3 rfl ?_))))
  refine J14_3.of ?_
  unfold JT14_3
  simp only [add_blk, Nat.reduceAdd]
  refine If_f (by simp) (Ld_blk k2 rfl (Ld_blk k3 rfl (If_f (by simp [hs, ht]) ?_)))
  refine J14_1.of ?_
  unfold JT14_1
  refine L14_2.rule (fun x h' => x = 0 ∧ h' = h2) (fun _ _ => 0) ⟨rfl, rfl⟩ ?_
  rintro x h' ⟨rfl, rfl⟩ N1 hN
  unfold T14_2
  simp only [add_blk, Nat.reduceAdd]
  exact Ld_blk k2 rfl (If_f (by simp [hs]) (hk _ (Grw.trans g1 g2)))
/-- equal fields are told equal -/
def SameF : Fld → Prop
  | .mk _ _ _ _ _ _ cs => cs.length ≤ 9223372036854775807 → smls cs → ∀ {h0 h : Hp} {a b : Sl} {K : Bool → HP} {Kp : PK}, Grw h0 h → FsH h0 a cs → FsH h0 b cs → (∀ h', Grw h h' → K true h') → Fn36 a b h K Kp
theorem same_row {n : ByteArray} {nul : Bool} {k w id ix : Int} {u v x0 x1 : Sl} {i : Nat} {p q : Nat} {h : Hp} {N1 : Fr → HP} {K : Bool → HP} {Kp : PK}
    (kp : Blk h p #[.string n, .bool nul, .int .i64 k, .int .i64 w, .int .i64 id, .int .i64 ix, Sl.v u] 63) (kq : Blk h q #[.string n, .bool nul, .int .i64 k, .int .i64 w, .int .i64 id, .int .i64 ix, Sl.v v] 63) (hi : (i : Int) < 9223372036854775807)
    (ih : ∀ (K : Bool → HP), (∀ h', Grw h h' → K true h') → Fn36 u v h K Kp) (hN : ∀ h', Grw h h' → N1 (mk36_1 x0 x1 ((i + 1 : Nat) : Int)) h') : J36_2 x0 x1 (i : Int) ⟨p, 0, none⟩ ⟨q, 0, none⟩ N1 K Kp h := by
  refine J36_2.of ?_
  unfold JT36_2
  simp only [add_blk, Nat.reduceAdd]
  refine Ld_blk kp rfl (Ld_blk kq rfl (If_f (by simp) (Ld_blk kp rfl (Ld_blk kq rfl ?_))))
  refine J36_4.of ?_
  unfold JT36_4
  simp only [add_blk, Nat.reduceAdd]
  refine If_f (by simp) (Ld_blk kp rfl (Ld_blk kq rfl ?_))
  refine J36_5.of ?_
  unfold JT36_5
  simp only [add_blk, Nat.reduceAdd]
  refine If_f (by simp) (Ld_blk kp rfl (Ld_blk kq rfl ?_))
  refine J36_6.of ?_
  unfold JT36_6
  simp only [add_blk, Nat.reduceAdd]
  refine If_f (by simp) (Ld_blk kp rfl (Ld_blk kq rfl ?_))
  refine J36_7.of ?_
  unfold JT36_7
  simp only [add_blk, Nat.reduceAdd]
  refine If_f (by simp) (Ld_blk kp rfl (Ld_blk kq rfl (If_f (by simp) ?_)))
  refine J36_3.of ?_
  unfold JT36_3
  simp only [add_blk, Nat.reduceAdd]
  refine Ld_blk kp rfl (Ld_blk kq rfl (ih _ fun h' g => If_f rfl (Wr_i64 (by omega) (by omega) ?_)))
  have e : (i : Int) + 1 = ((i + 1 : Nat) : Int) := by omega
  rw [e]; exact hN h' g
theorem St7_i {h : Hp} {b : Nat} {cs : Array Value} {n : ByteArray} {nul : Bool} {k w id ix : Int} {u : Sl} {K : HP} (k5 : Blk h b cs 63) (hc : cs.size = 7)
    (hk : ∀ h', Only b h h' → Blk h' b #[.string n, .bool nul, .int .i64 k, .int .i64 w, .int .i64 id, .int .i64 ix, Sl.v u] 63 → K h') :
    St h ⟨b, 0, none⟩ (.string n) fun h3 => St h3 ((⟨b, 0, none⟩ : Addr).add 1) (.bool nul) fun h4 => St h4 ((⟨b, 0, none⟩ : Addr).add 2) (.int .i64 k) fun h5 => St h5 ((⟨b, 0, none⟩ : Addr).add 3) (.int .i64 w) fun h6 =>
      St h6 ((⟨b, 0, none⟩ : Addr).add 4) (.int .i64 id) fun h7 => St h7 ((⟨b, 0, none⟩ : Addr).add 5) (.int .i64 ix) fun h8 => St h8 ((⟨b, 0, none⟩ : Addr).add 6) (Sl.v u) K := by
  obtain ⟨v0, v1, v2, v3, v4, v5, v6, e⟩ := len7 (l := cs.toList) (by simpa using hc)
  obtain rfl : cs = #[v0, v1, v2, v3, v4, v5, v6] := by cases cs; simp_all
  simp only [add_blk, Nat.reduceAdd]
  refine St_i k5 (by simp) rfl fun h2 o2 k5 => St_i k5 (by simp) rfl fun h3 o3 k5 => St_i k5 (by simp) rfl fun h4 o4 k5 => St_i k5 (by simp) rfl fun h5 o5 k5 => St_i k5 (by simp) rfl fun h6 o6 k5 => St_i k5 (by simp) rfl fun h7 o7 k5 => St_i k5 (by simp) rfl fun h8 o8 k5 => ?_
  exact hk h8 ((((((o2.trans o3).trans o4).trans o5).trans o6).trans o7).trans o8) (by simp at k5; exact k5)
theorem two_a {n n' : ByteArray} {nul nul' : Bool} {k w id ix k' w' id' ix' : Int} {u v : Sl} {h : Hp} {pa pb : Addr} {C : Addr → Addr → HP} (hc : Cs h pa (vals7 n nul k w id ix u)) (hd : Cs h pb (vals7 n' nul' k' w' id' ix' v))
    (fin : ∀ (p q : Nat) h2, Grw h h2 → Blk h2 p #[.string n, .bool nul, .int .i64 k, .int .i64 w, .int .i64 id, .int .i64 ix, Sl.v u] 63 → Blk h2 q #[.string n', .bool nul', .int .i64 k', .int .i64 w', .int .i64 id', .int .i64 ix', Sl.v v] 63 → C ⟨p, 0, none⟩ ⟨q, 0, none⟩ h2) :
      New h #[(.string (bs [])), (.bool false), (.int .i64 (0:Int)), (.int .i64 (0:Int)), (.int .i64 (0:Int)), (.int .i64 (0:Int)), (.slice none 0 0)] 63 fun a6 h1 =>
      Keep h h1 pb 7 <|
      Keep h h1 pa 7 <|
      New h1 #[(.string (bs [])), (.bool false), (.int .i64 (0:Int)), (.int .i64 (0:Int)), (.int .i64 (0:Int)), (.int .i64 (0:Int)), (.slice none 0 0)] 63 fun a7 h2 =>
      Keep h1 h2 pb 7 <|
      Keep h1 h2 pa 7 <|
      St h2 a6 (.string n) fun h3 =>
      St h3 (a6.add 1) (.bool nul) fun h4 =>
      St h4 (a6.add 2) (.int .i64 k) fun h5 =>
      St h5 (a6.add 3) (.int .i64 w) fun h6 =>
      St h6 (a6.add 4) (.int .i64 id) fun h7 =>
      St h7 (a6.add 5) (.int .i64 ix) fun h8 =>
      St h8 (a6.add 6) (Sl.v u) fun h9 =>
      Keep h2 h9 pb 7 <|
      St h9 a7 (.string n') fun h10 =>
      St h10 (a7.add 1) (.bool nul') fun h11 =>
      St h11 (a7.add 2) (.int .i64 k') fun h12 =>
      St h12 (a7.add 3) (.int .i64 w') fun h13 =>
      St h13 (a7.add 4) (.int .i64 id') fun h14 =>
      St h14 (a7.add 5) (.int .i64 ix') fun h15 =>
      St h15 (a7.add 6) (Sl.v v) fun h16 => C a6 a7 h16 := by
  refine New_i fun b1 h1 e1 g1 k1 _ => ?_
  have hda := hd.grw g1
  have hca := hc.grw g1
  refine Keep_cs hd hda rfl (Keep_cs hc hca rfl ?_)
  refine New_i fun b2 h2 e2 g2 k2 _ => ?_
  have hdb := hda.grw g2
  refine Keep_cs hda hdb rfl (Keep_cs hca (hca.grw g2) rfl ?_)
  have k1 := k1.grw g2
  have i1 := k1.lt
  have z1 := g1.1
  have g12 := Grw.trans g1 g2
  refine St7_i k1 rfl fun h3 o3 k3 => ?_
  have g3 := o3.grw g12 (by omega)
  refine Keep_cs hdb (hd.grw g3) rfl ?_
  refine St7_i (o3.blk k2 (by omega)) rfl fun h4 o4 k4 => ?_
  exact fin _ _ _ (o4.grw g3 (by omega)) (o4.blk k3 (by omega)) k4
theorem two_b {n n' : ByteArray} {nul nul' : Bool} {k w id ix k' w' id' ix' : Int} {u v : Sl} {h : Hp} {pa pb : Addr} {C : Addr → Addr → HP} (hc : Cs h pa (vals7 n nul k w id ix u)) (hd : Cs h pb (vals7 n' nul' k' w' id' ix' v))
    (fin : ∀ (p q : Nat) h2, Grw h h2 → Blk h2 p #[.string n, .bool nul, .int .i64 k, .int .i64 w, .int .i64 id, .int .i64 ix, Sl.v u] 63 → Blk h2 q #[.string n', .bool nul', .int .i64 k', .int .i64 w', .int .i64 id', .int .i64 ix', Sl.v v] 63 → C ⟨p, 0, none⟩ ⟨q, 0, none⟩ h2) :
      New h #[(.string (bs [])), (.bool false), (.int .i64 (0:Int)), (.int .i64 (0:Int)), (.int .i64 (0:Int)), (.int .i64 (0:Int)), (.slice none 0 0)] 63 fun a7 h1 =>
      Keep h h1 pb 7 <|
      Keep h h1 pa 7 <|
      New h1 #[(.string (bs [])), (.bool false), (.int .i64 (0:Int)), (.int .i64 (0:Int)), (.int .i64 (0:Int)), (.int .i64 (0:Int)), (.slice none 0 0)] 63 fun a6 h2 =>
      Keep h1 h2 pb 7 <|
      Keep h1 h2 pa 7 <|
      St h2 a6 (.string n) fun h3 =>
      St h3 (a6.add 1) (.bool nul) fun h4 =>
      St h4 (a6.add 2) (.int .i64 k) fun h5 =>
      St h5 (a6.add 3) (.int .i64 w) fun h6 =>
      St h6 (a6.add 4) (.int .i64 id) fun h7 =>
      St h7 (a6.add 5) (.int .i64 ix) fun h8 =>
      St h8 (a6.add 6) (Sl.v u) fun h9 =>
      Keep h2 h9 pb 7 <|
      St h9 a7 (.string n') fun h10 =>
      St h10 (a7.add 1) (.bool nul') fun h11 =>
      St h11 (a7.add 2) (.int .i64 k') fun h12 =>
      St h12 (a7.add 3) (.int .i64 w') fun h13 =>
      St h13 (a7.add 4) (.int .i64 id') fun h14 =>
      St h14 (a7.add 5) (.int .i64 ix') fun h15 =>
      St h15 (a7.add 6) (Sl.v v) fun h16 => C a6 a7 h16 := by
  refine New_i fun b1 h1 e1 g1 k1 _ => ?_
  have hda := hd.grw g1
  have hca := hc.grw g1
  refine Keep_cs hd hda rfl (Keep_cs hc hca rfl ?_)
  refine New_i fun b2 h2 e2 g2 k2 _ => ?_
  have hdb := hda.grw g2
  refine Keep_cs hda hdb rfl (Keep_cs hca (hca.grw g2) rfl ?_)
  have k1 := k1.grw g2
  have i1 := k1.lt
  have z1 := g1.1
  have g12 := Grw.trans g1 g2
  refine St7_i k2 rfl fun h3 o3 k3 => ?_
  have g3 := o3.grw g12 (by omega)
  refine Keep_cs hdb (hd.grw g3) rfl ?_
  refine St7_i (o3.blk k1 (by omega)) rfl fun h4 o4 k4 => ?_
  exact fin _ _ _ (o4.grw g3 (by omega)) (o4.blk k3 (by omega)) k4
theorem same_fs {cs : List Fld} (IH : ∀ f ∈ cs, SameF f) (hl : cs.length ≤ 9223372036854775807) (hs : smls cs) {h0 h : Hp} {a b : Sl} {K : Bool → HP} {Kp : PK} (g : Grw h0 h) (ha : FsH h0 a cs) (hb : FsH h0 b cs) (hk : ∀ h', Grw h h' → K true h') : Fn36 a b h K Kp := by
  have na := ha.n
  have nb := hb.n
  refine Fn36.of ?_
  unfold S36
  refine If_f (by simp [na.1, nb.1]) ?_
  refine L36_1.rule (fun x h' => ∃ i : Nat, x = i ∧ i ≤ cs.length ∧ Grw h h') (fun x _ => cs.length - x.toNat) ⟨0, rfl, by omega, Grw.refl _⟩ ?_
  rintro x h1 ⟨i, rfl, hi, g1⟩ N1 hN
  unfold T36_1
  refine If_i (fun c => ?_) fun c => ?_
  · simp only [decide_eq_true_eq, decide_eq_false_iff_not, beq_iff_eq, beq_eq_false_iff_ne, ne_eq, reduceCtorEq, true_iff, false_iff, Bool.not_eq_true', Bool.not_eq_false', bne_iff_ne, bne_eq_false_iff_eq, Bool.not_true, Bool.not_false, Decidable.not_not] at c
    have hi' : i < cs.length := by omega
    have hj : cs[i]? = some cs[i] := List.getElem?_eq_getElem hi'
    have hmem : cs[i] ∈ cs := List.getElem_mem hi'
    generalize cs[i] = f at hj hmem
    have IHf := IH f hmem
    have hsf := hs.get f hmem
    have g2 := Grw.trans g g1
    refine ha.ix rfl hj fun pa fa => ?_
    obtain ⟨n, nul, k, wd, id, ix, ds⟩ := f
    unfold Fld.sml at hsf
    have IHf := @IHf hsf.2.1 hsf.2.2
    unfold FldH at fa
    obtain ⟨u, hc, hu⟩ := fa
    have hc1 := hc.grw g2
    have c0 := hc1 0 _ rfl; have c1 := hc1 1 _ rfl; have c2 := hc1 2 _ rfl; have c3 := hc1 3 _ rfl; have c4 := hc1 4 _ rfl; have c5 := hc1 5 _ rfl; have c6 := hc1 6 _ rfl
    rw [add_zero'] at c0
    refine ⟨_, c0, _, c1, _, c2, _, c3, _, c4, _, c5, _, c6, ?_⟩
    refine hb.ix rfl hj fun pb fb => ?_
    unfold FldH at fb
    obtain ⟨v, hd, hv⟩ := fb
    have hd1 := hd.grw g2
    have d0 := hd1 0 _ rfl; have d1 := hd1 1 _ rfl; have d2 := hd1 2 _ rfl; have d3 := hd1 3 _ rfl; have d4 := hd1 4 _ rfl; have d5 := hd1 5 _ rfl; have d6 := hd1 6 _ rfl
    rw [add_zero'] at d0
    refine ⟨_, d0, _, d1, _, d2, _, d3, _, d4, _, d5, _, d6, ?_⟩
    have fin : ∀ (p q : Nat) h2, Grw h1 h2 → Blk h2 p #[.string n, .bool nul, .int .i64 k, .int .i64 wd, .int .i64 id, .int .i64 ix, Sl.v u] 63 → Blk h2 q #[.string n, .bool nul, .int .i64 k, .int .i64 wd, .int .i64 id, .int .i64 ix, Sl.v v] 63 → J36_2 a b (i : Int) ⟨p, 0, none⟩ ⟨q, 0, none⟩ N1 K Kp h2 := fun p q h2 g3 kp kq =>
      same_row kp kq (by omega) (fun K hK => IHf (Grw.trans g2 g3) hu hv hK) fun h' g' => hN _ _ ⟨i + 1, rfl, by omega, Grw.trans g1 (Grw.trans g3 g')⟩ (by omega)
    exact ⟨two_a hc1 hd1 fin, two_b hc1 hd1 fin⟩
  · simp only [decide_eq_true_eq, decide_eq_false_iff_not, beq_iff_eq, beq_eq_false_iff_ne, ne_eq, reduceCtorEq, true_iff, false_iff, Bool.not_eq_true', Bool.not_eq_false', bne_iff_ne, bne_eq_false_iff_eq, Bool.not_true, Bool.not_false, Decidable.not_not] at c
    exact hk _ g1
theorem same_f : ∀ f : Fld, SameF f
  | .mk _ _ _ _ _ _ cs => fun hl hs _ _ _ _ _ _ g ha hb hk => same_fs (fun f _ => same_f f) hl hs g ha hb hk
structure Hd.sz (H : Hd) : Prop where
  fs : H.fs.length ≤ 9223372036854775807
  sm : smls H.fs
  ms : H.ms.length ≤ 9223372036854775807
  nodes : H.nodes.length ≤ 9223372036854775807
  bufs : H.bufs.length ≤ 9223372036854775807
theorem HdH.grw {h h' : Hp} {H : Hd} {s1 s2 s7 s8 : Sl} (hh : HdH h H s1 s2 s7 s8) (g : Grw h h') : HdH h' H s1 s2 s7 s8 := ⟨FsH.grw g _ hh.fs, hh.ms.grw g, hh.nodes.grw g, hh.bufs.grw g⟩
theorem ba_refl (a : ByteArray) : (a == a) = true := by
  cases a with | mk d =>
  show (d == d) = true
  exact beq_self_eq_true d
theorem head_same {H : Hd} (sz : H.sz) {h0 h : Hp} {s1 s2 s7 s8 t1 t2 t7 t8 : Sl} {K : Bool → HP} {Kp : PK} (g : Grw h0 h) (ha : HdH h0 H s1 s2 s7 s8) (hb : HdH h0 H t1 t2 t7 t8) (hk : ∀ h', Grw h h' → K true h') :
    Fn15 H.k s1 s2 H.id H.de H.rows H.press s7 s8 H.k t1 t2 H.id H.de H.rows H.press t7 t8 h K Kp := by
  have a2 : s2.n = H.ms.length := by simpa using ha.ms.1
  have b2 : t2.n = H.ms.length := by simpa using hb.ms.1
  have a7 : s7.n = H.nodes.length := by simpa using ha.nodes.1
  have b7 : t7.n = H.nodes.length := by simpa using hb.nodes.1
  have a8 : s8.n = H.bufs.length := by simpa using ha.bufs.1
  have b8 : t8.n = H.bufs.length := by simpa using hb.bufs.1
  have z2 := sz.ms
  have z7 := sz.nodes
  have z8 := sz.bufs
  refine Fn15.of ?_
  unfold S15
  refine New_i fun x h1 e1 g1 kx _ => New_i fun y h2 e2 g2 ky _ => ?_
  have kx := kx.grw g2
  have g02 := Grw.trans g (Grw.trans g1 g2)
  have ha := ha.grw g02
  have hb := hb.grw g02
  have hk : ∀ h', Grw h2 h' → K true h' := fun h' g' => hk h' (Grw.trans (Grw.trans g1 g2) g')
  simp only [add_blk, Nat.reduceAdd]
  refine Ld_blk kx rfl (Ld_blk ky rfl (If_f (by simp) (Ld_blk kx rfl (Ld_blk ky rfl ?_))))
  refine J15_10.of ?_
  unfold JT15_10
  simp only [add_blk, Nat.reduceAdd]
  refine If_f (by simp) (Ld_blk kx rfl (Ld_blk ky rfl ?_))
  refine J15_11.of ?_
  unfold JT15_11
  simp only [add_blk, Nat.reduceAdd]
  refine If_f (by simp) (Ld_blk kx rfl (Ld_blk ky rfl ?_))
  refine J15_12.of ?_
  unfold JT15_12
  simp only [add_blk, Nat.reduceAdd]
  refine If_f (by simp) (Ld_blk kx rfl (Ld_blk ky rfl (If_f (by simp) ?_)))
  refine J15_1.of ?_
  unfold JT15_1
  simp only [add_blk, Nat.reduceAdd]
  refine Ld_blk kx rfl (Ld_blk ky rfl (If_f (by simp [a2, b2]) (Ld_blk kx rfl (Ld_blk ky rfl ?_))))
  refine J15_9.of ?_
  unfold JT15_9
  simp only [add_blk, Nat.reduceAdd]
  refine If_f (by simp [a7, b7]) (Ld_blk kx rfl (Ld_blk ky rfl (If_f (by simp [a8, b8]) ?_)))
  refine J15_2.of ?_
  unfold JT15_2
  refine L15_8.rule (fun z h' => h2 = h' ∧ ∃ i : Nat, z = i ∧ i ≤ H.ms.length) (fun z _ => H.ms.length - z.toNat) ⟨rfl, 0, rfl, by omega⟩ ?_
  rintro z h' ⟨rfl, i, rfl, hi⟩ N1 hN
  unfold T15_8
  simp only [add_blk, Nat.reduceAdd]
  refine Ld_blk kx rfl (If_i (fun c => ?_) fun c => ?_)
  · simp only [decide_eq_true_eq, decide_eq_false_iff_not, beq_iff_eq, beq_eq_false_iff_ne, ne_eq, reduceCtorEq, true_iff, false_iff, Bool.not_eq_true', Bool.not_eq_false', bne_iff_ne, bne_eq_false_iff_eq, Bool.not_true, Bool.not_false, Decidable.not_not] at c
    have hj : H.ms[i]? = some H.ms[i] := List.getElem?_eq_getElem (by omega)
    generalize H.ms[i] = r at hj
    refine Ld_blk kx rfl (ha.ms.ix rfl hj fun a ca => ?_)
    refine ⟨_, Cs.c0 ca, _, ca 1 _ rfl, Ld_blk ky rfl (hb.ms.ix rfl hj fun b cb => ?_)⟩
    refine ⟨_, Cs.c0 cb, _, cb 1 _ rfl, If_f (by simp [ba_refl]) (Wr_i64 (by omega) (by omega) (hN _ _ ⟨rfl, i + 1, by omega, by omega⟩ (by omega)))⟩
  clear hi c hN N1
  refine J15_3.of ?_
  unfold JT15_3
  refine L15_7.rule (fun z h' => h2 = h' ∧ ∃ i : Nat, z = i ∧ i ≤ H.nodes.length) (fun z _ => H.nodes.length - z.toNat) ⟨rfl, 0, rfl, by omega⟩ ?_
  rintro z h' ⟨rfl, i, rfl, hi⟩ N1 hN
  unfold T15_7
  simp only [add_blk, Nat.reduceAdd]
  refine Ld_blk kx rfl (If_i (fun c => ?_) fun c => ?_)
  · simp only [decide_eq_true_eq, decide_eq_false_iff_not, beq_iff_eq, beq_eq_false_iff_ne, ne_eq, reduceCtorEq, true_iff, false_iff, Bool.not_eq_true', Bool.not_eq_false', bne_iff_ne, bne_eq_false_iff_eq, Bool.not_true, Bool.not_false, Decidable.not_not] at c
    have hj : H.nodes[i]? = some H.nodes[i] := List.getElem?_eq_getElem (by omega)
    generalize H.nodes[i] = r at hj
    refine Ld_blk kx rfl (ha.nodes.ix rfl hj fun a ca => ?_)
    refine ⟨_, Cs.c0 ca, _, ca 1 _ rfl, Ld_blk ky rfl (hb.nodes.ix rfl hj fun b cb => ?_)⟩
    refine ⟨_, Cs.c0 cb, _, cb 1 _ rfl, If_f (by simp) (Wr_i64 (by omega) (by omega) (hN _ _ ⟨rfl, i + 1, by omega, by omega⟩ (by omega)))⟩
  clear hi c hN N1
  refine J15_4.of ?_
  unfold JT15_4
  refine L15_6.rule (fun z h' => h2 = h' ∧ ∃ i : Nat, z = i ∧ i ≤ H.bufs.length) (fun z _ => H.bufs.length - z.toNat) ⟨rfl, 0, rfl, by omega⟩ ?_
  rintro z h' ⟨rfl, i, rfl, hi⟩ N1 hN
  unfold T15_6
  simp only [add_blk, Nat.reduceAdd]
  refine Ld_blk kx rfl (If_i (fun c => ?_) fun c => ?_)
  · simp only [decide_eq_true_eq, decide_eq_false_iff_not, beq_iff_eq, beq_eq_false_iff_ne, ne_eq, reduceCtorEq, true_iff, false_iff, Bool.not_eq_true', Bool.not_eq_false', bne_iff_ne, bne_eq_false_iff_eq, Bool.not_true, Bool.not_false, Decidable.not_not] at c
    have hj : H.bufs[i]? = some H.bufs[i] := List.getElem?_eq_getElem (by omega)
    generalize H.bufs[i] = r at hj
    refine Ld_blk kx rfl (ha.bufs.ix rfl hj fun a ca => ?_)
    refine ⟨_, Cs.c0 ca, _, ca 1 _ rfl, _, ca 2 _ rfl, Ld_blk ky rfl (hb.bufs.ix rfl hj fun b cb => ?_)⟩
    refine ⟨_, Cs.c0 cb, _, cb 1 _ rfl, _, cb 2 _ rfl, If_f (by simp) (Wr_i64 (by omega) (by omega) (hN _ _ ⟨rfl, i + 1, by omega, by omega⟩ (by omega)))⟩
  refine J15_5.of ?_
  unfold JT15_5
  simp only [add_blk, Nat.reduceAdd]
  exact Ld_blk kx rfl (Ld_blk ky rfl (same_fs (fun f _ => same_f f) sz.fs sz.sm (Grw.refl _) ha.fs hb.fs fun h' g' => hk h' g'))
end Go.Proofs.YtfomkkdijjfpiaaDoor
/- Fields with room behind them. -/
namespace Go.Proofs.YtfomkkdijjfpiaaDoor
open Go Go.Sh Go.WideShapes
def mark7 (i : Nat) : List Value := vals7 (bs [109]) false (90 + (i : Int)) 0 0 0 Sl.nil
/-- three rows behind n -/
def Room7 (D : Nat → Prop) (h : Hp) (s : Sl) (n : Nat) : Prop := s.n = n ∧ n + 3 ≤ s.c ∧ ∃ a, s.a = some a ∧ D a.block ∧ ∀ i, i < 3 → Cs h (a.add ((n + i) * 7)) (mark7 i)
mutual
def WsD (D : Nat → Prop) (h : Hp) (s : Sl) : List Fld → Prop
  | [] => Room7 D h s 0
  | f :: fs => Room7 D h s (fs.length + 1) ∧ ∃ a, s.a = some a ∧ D a.block ∧ WfD D h a f ∧ WrD D h a 1 fs
def WrD (D : Nat → Prop) (h : Hp) (a : Addr) (i : Nat) : List Fld → Prop
  | [] => True
  | f :: fs => WfD D h (a.add (i * 7)) f ∧ WrD D h a (i + 1) fs
def WfD (D : Nat → Prop) (h : Hp) (a : Addr) : Fld → Prop
  | .mk n nul k w id ix cs => ∃ s, Cs h a (vals7 n nul k w id ix s) ∧ WsD D h s cs
end
theorem Room7.fr {S D D' : Nat → Prop} {h h' : Hp} {s : Sl} {n : Nat} (r : Room7 D h s n) (f : Tn S h h') (hD : ∀ d, D d → ¬ S d ∧ D' d) : Room7 D' h' s n := by
  obtain ⟨h1, h2, a, ha, hd, hc⟩ := r
  exact ⟨h1, h2, a, ha, (hD _ hd).2, fun i hi => Cs.fr (hc i hi) f (by rw [add_block]; exact (hD _ hd).1)⟩
mutual
theorem WsD.fr {S D D' : Nat → Prop} {h h' : Hp} (f : Tn S h h') (hD : ∀ d, D d → ¬ S d ∧ D' d) : ∀ {s : Sl} (fs : List Fld), WsD D h s fs → WsD D' h' s fs
  | _, [], hh => by unfold WsD at hh ⊢; exact hh.fr f hD
  | _, g :: fs, hh => by
    unfold WsD at hh ⊢
    obtain ⟨r, a, e, d, x, y⟩ := hh
    exact ⟨r.fr f hD, a, e, (hD _ d).2, WfD.fr f hD d g x, WrD.fr f hD d fs y⟩
theorem WrD.fr {S D D' : Nat → Prop} {h h' : Hp} (f : Tn S h h') (hD : ∀ d, D d → ¬ S d ∧ D' d) : ∀ {a : Addr} (_ : D a.block) {i : Nat} (fs : List Fld), WrD D h a i fs → WrD D' h' a i fs
  | _, _, _, [], hh => by unfold WrD; trivial
  | a, d, i, g :: fs, hh => by
    unfold WrD at hh ⊢
    exact ⟨WfD.fr f hD (a := a.add (i * 7)) (by rw [add_block]; exact d) g hh.1, WrD.fr f hD d fs hh.2⟩
theorem WfD.fr {S D D' : Nat → Prop} {h h' : Hp} (f : Tn S h h') (hD : ∀ d, D d → ¬ S d ∧ D' d) : ∀ {a : Addr} (_ : D a.block) (g : Fld), WfD D h a g → WfD D' h' a g
  | _, d, .mk n nul k w id ix cs, hh => by
    unfold WfD at hh ⊢
    obtain ⟨s, c, x⟩ := hh
    exact ⟨s, Cs.fr c f (hD _ d).1, WsD.fr f hD cs x⟩
end
mutual
theorem WsD.grw {D : Nat → Prop} {h h' : Hp} (g : Grw h h') : ∀ {s : Sl} (fs : List Fld), WsD D h s fs → WsD D h' s fs
  | _, fs, hh => WsD.fr (S := No) (Tn.of_grw g) (fun _ q => ⟨fun r => r, q⟩) fs hh
end
mutual
theorem WsD.h {D : Nat → Prop} {h : Hp} : ∀ {s : Sl} (fs : List Fld), WsD D h s fs → FsH h s fs
  | _, [], hh => by unfold WsD at hh; unfold FsH; exact ⟨hh.1, by have := hh.1; have := hh.2.1; omega⟩
  | _, g :: fs, hh => by
    unfold WsD at hh
    unfold FsH
    obtain ⟨r, a, e, _, x, y⟩ := hh
    exact ⟨r.1, by have := r.1; have := r.2.1; omega, a, e, WfD.h g x, WrD.h fs y⟩
theorem WrD.h {D : Nat → Prop} {h : Hp} : ∀ {a : Addr} {i : Nat} (fs : List Fld), WrD D h a i fs → FrH h a i fs
  | _, _, [], hh => by unfold FrH; trivial
  | _, _, g :: fs, hh => by
    unfold WrD at hh
    unfold FrH
    exact ⟨WfD.h g hh.1, WrD.h fs hh.2⟩
theorem WfD.h {D : Nat → Prop} {h : Hp} : ∀ {a : Addr} (g : Fld), WfD D h a g → FldH h a g
  | _, .mk n nul k w id ix cs, hh => by
    unfold WfD at hh
    unfold FldH
    obtain ⟨s, c, x⟩ := hh
    exact ⟨s, c, WsD.h cs x⟩
end
theorem WrD.of {D : Nat → Prop} {h : Hp} {a : Addr} : ∀ {fs : List Fld} {i : Nat}, (∀ (j : Nat) f, fs[j]? = some f → WfD D h (a.add ((i + j) * 7)) f) → WrD D h a i fs
  | [], _, _ => by unfold WrD; trivial
  | f :: fs, i, hh => by
    unfold WrD
    refine ⟨hh 0 f rfl, WrD.of fun j g hj => ?_⟩
    have := hh (j + 1) g (by simpa using hj)
    have e : i + 1 + j = i + (j + 1) := by omega
    rw [e]; exact this
theorem WsD.of {D : Nat → Prop} {h : Hp} {s : Sl} {fs : List Fld} {a : Addr} (r : Room7 D h s fs.length) (ha : s.a = some a) (hd : D a.block) (hh : ∀ (j : Nat) f, fs[j]? = some f → WfD D h (a.add (j * 7)) f) : WsD D h s fs := by
  cases fs with
  | nil => unfold WsD; exact r
  | cons f fs =>
    unfold WsD
    refine ⟨r, a, ha, hd, by simpa [add_zero'] using hh 0 f rfl, WrD.of fun j g hj => ?_⟩
    have := hh (j + 1) g (by simpa using hj)
    have e : 1 + j = j + 1 := by omega
    rw [e]; exact this
theorem WrD.get {D : Nat → Prop} {h : Hp} {a : Addr} : ∀ {fs : List Fld} {i : Nat}, WrD D h a i fs → ∀ (j : Nat) f, fs[j]? = some f → WfD D h (a.add ((i + j) * 7)) f
  | [], _, _, _, _, hj => by simp at hj
  | f :: fs, i, hh, 0, g, hj => by simp at hj; subst hj; unfold WrD at hh; exact hh.1
  | f :: fs, i, hh, j + 1, g, hj => by
    unfold WrD at hh
    have := WrD.get hh.2 j g (by simpa using hj)
    have e : i + (j + 1) = i + 1 + j := by omega
    rw [e]; exact this
theorem WsD.get {D : Nat → Prop} {h : Hp} {s : Sl} {fs : List Fld} (hh : WsD D h s fs) {j : Nat} {f : Fld} (hj : fs[j]? = some f) : ∃ a, s.a = some a ∧ WfD D h (a.add (j * 7)) f := by
  cases fs with
  | nil => simp at hj
  | cons g gs =>
    unfold WsD at hh
    obtain ⟨_, a, ha, _, h1, h2⟩ := hh
    refine ⟨a, ha, ?_⟩
    cases j with
    | zero => simp at hj; subst hj; simpa [add_zero'] using h1
    | succ j =>
      have := h2.get j f (by simpa using hj)
      have e : 1 + j = j + 1 := by omega
      rw [e] at this; exact this
theorem WsD.room {D : Nat → Prop} {h : Hp} {s : Sl} {fs : List Fld} (hh : WsD D h s fs) : Room7 D h s fs.length := by
  cases fs with
  | nil => unfold WsD at hh; exact hh
  | cons g gs => unfold WsD at hh; exact hh.1
/-- a mark -/
theorem mark_c {h : Hp} {i : Nat} (hi : i < 3) {K : ByteArray → Bool → Int → Int → Int → Int → Sl → HP} {Kp : PK} (hk : ∀ h', Grw h h' → K (bs [109]) false (90 + (i : Int)) 0 0 0 Sl.nil h') : Fn53 (i : Int) h K Kp := by
  refine Fn53.of ?_
  unfold S53
  refine New_i fun b h1 e1 g1 k1 _ => Wr_i64 (by omega) (by omega) ?_
  refine St7_i (u := Sl.nil) k1 rfl fun h2 o2 k2 => ?_
  simp only [add_blk, Nat.reduceAdd]
  refine Ld_blk k2 rfl (Ld_blk k2 rfl (Ld_blk k2 rfl (Ld_blk k2 rfl (Ld_blk k2 rfl (Ld_blk k2 rfl (Ld_blk k2 rfl (hk h2 (o2.grw g1 (by omega)))))))))
def marks7 : List (List Value) := (List.range 3).map mark7
theorem marks7_get {i : Nat} (hi : i < 3) : marks7[i]? = some (mark7 i) := by
  unfold marks7
  rw [List.getElem?_map, List.getElem?_range hi]; rfl
theorem marks7_len : ∀ r ∈ marks7, r.length = 7 := fun r hr => by
  obtain ⟨i, _, rfl⟩ := List.mem_map.1 hr; rfl
/-- fields are copied, with room behind -/
def WideC : Fld → Prop
  | .mk _ _ _ _ _ _ cs => ∀ {h0 h : Hp} {s : Sl} {K : Sl → HP} {Kp : PK}, Grw h0 h → FsH h0 s cs → cs.length ≤ 70000 → lns cs → (∀ t h', Grw h h' → WsD (In h.size h'.size) h' t cs → K t h') → Fn38 s h K Kp
theorem wide_end {cs : List Fld} {sls : List Sl} {D : Nat → Prop} {h h1 : Hp} {s w : Sl} {K : Sl → HP} {Kp : PK} (hl : cs.length ≤ 70000) (hn : s.n = cs.length) (g : Grw h h1) (o : Sh h.size h1.size 7 h1 w (List.zipWith rowF cs sls).flatten 63) (hw : w.a ≠ none) (hsl : sls.length = cs.length) (hD : ∀ d, D d → h.size ≤ d ∧ d < h1.size) (hwD : ∀ d, w.at d → ¬ D d) (hch : ∀ (j : Nat) f sl, cs[j]? = some f → sls[j]? = some sl → WsD D h1 sl f.cs)
    (hk : ∀ t h', Grw h h' → WsD (In h.size h'.size) h' t cs → K t h') : J38_1 s w K Kp h1 := by
  refine J38_1.of ?_
  unfold JT38_1
  have hr0 := rows_len (fs := cs) (sls := sls)
  have hz : (List.zipWith rowF cs sls).length = cs.length := by rw [List.length_zipWith, hsl, Nat.min_self]
  refine L38_2.rule (fun t x h2 => ∃ i : Nat, x = i ∧ i ≤ 3 ∧ Grw h h2 ∧ Sh h.size h2.size 7 h2 t (List.zipWith rowF cs sls ++ marks7.take i).flatten 63 ∧ t.a ≠ none ∧ h1.size ≤ h2.size ∧ (∀ d, t.at d → ¬ D d) ∧ (∀ (j : Nat) f sl, cs[j]? = some f → sls[j]? = some sl → WsD D h2 sl f.cs)) (fun _ x _ => 3 - x.toNat)
    ⟨0, rfl, by omega, g, by simpa using o, hw, Nat.le_refl _, hwD, hch⟩ ?_
  rintro t x h2 ⟨i, rfl, hi, g2, o2, ha2, z2, hw2, hc2⟩ N1 hN
  have hrl : ∀ r ∈ List.zipWith rowF cs sls ++ marks7.take i, r.length = 7 := fun r hr => by
    rcases List.mem_append.1 hr with q | q
    · exact hr0 r q
    · exact marks7_len r (List.mem_of_mem_take q)
  have nn := o2.n
  rw [flat_len hrl, List.length_append, hz, List.length_take] at nn
  have m3 : marks7.length = 3 := rfl
  unfold T38_2
  refine If_i (fun c => ?_) fun c => ?_
  · simp only [decide_eq_true_eq, decide_eq_false_iff_not, beq_iff_eq, beq_eq_false_iff_ne, ne_eq, reduceCtorEq, true_iff, false_iff, Bool.not_eq_true', Bool.not_eq_false', bne_iff_ne, bne_eq_false_iff_eq, Bool.not_true, Bool.not_false, Decidable.not_not] at c
    refine mark_c (by omega) fun h3 g3 => ?_
    refine New_i fun b h4 e4 g4 k4 _ => ?_
    have g34 := Grw.trans g3 g4
    have y34 := g34.1
    have z2' := g2.1
    refine Ap_sh ((o2.grw g34).wide (Nat.le_refl _) y34) (by omega) rfl (new := mark7 i) rfl (by simp [mark7, vals7, one, Sl.v]) (by have := rd_blk k4 rfl; exact this) (by omega) (by omega) fun t' h5 f5 a5 o5 n5 => ?_
    have y5 := f5.1
    refine Wr_i64 (by omega) (by omega) (hN _ _ _ ⟨i + 1, by omega, by omega, Tn.grw0 (Grw.trans g2 g34) f5 fun d hd => (o2.at hd).1, ?_, ?_, by omega, fun d hd => ?_, fun j f sl e1 e2 => ?_⟩ (by omega))
    · have e : (List.zipWith rowF cs sls ++ marks7.take i).flatten ++ mark7 i = (List.zipWith rowF cs sls ++ marks7.take (i + 1)).flatten := by
        rw [List.take_add_one, marks7_get (by omega)]; simp
      rw [e] at o5; exact o5
    · rcases o5 with ⟨q, _⟩ | ⟨b, _, _, o5⟩
      · rw [q] at n5; simp [Sl.nil] at n5
      · rw [o5.1]; simp
    · rcases a5 d hd with q | q
      · exact hw2 d q
      · intro r; have := hD d r; omega
    · exact WsD.fr f5 (fun d hd => ⟨fun q => hw2 d q hd, hd⟩) _ (WsD.grw g34 _ (hc2 j f sl e1 e2))
  · simp only [decide_eq_true_eq, decide_eq_false_iff_not, beq_iff_eq, beq_eq_false_iff_ne, ne_eq, reduceCtorEq, true_iff, false_iff, Bool.not_eq_true', Bool.not_eq_false', bne_iff_ne, bne_eq_false_iff_eq, Bool.not_true, Bool.not_false, Decidable.not_not] at c
    have : i = 3 := by omega
    subst this
    have e3 : marks7.take 3 = marks7 := rfl
    rw [e3] at o2 hrl
    rcases o2 with ⟨q, _⟩ | ⟨b, hb1, hb2, o2⟩
    · rw [q] at ha2; exact absurd rfl ha2
    obtain ⟨q1, q2, cb, q3, q4, q5, q6⟩ := id o2
    refine ⟨by simp, by simp, by simp; omega, by simp, ?_⟩
    have ea : slAt t.a (Int.toNat ((none : Option Int).getD 0)) (Int.toNat ((none : Option Int).getD (t.c : Int))) 7 = some ⟨b, 0, none⟩ := by
      unfold slAt
      rw [q1]
      split
      · rfl
      · simp [Addr.add]
    rw [ea]
    have wB : ∀ {h : Nat}, True := trivial
    refine hk _ h2 g2 (WsD.of (a := ⟨b, 0, none⟩) ⟨by simp [hn], by simp; omega, ⟨b, 0, none⟩, rfl, ⟨hb1, hb2⟩, fun i hi => ?_⟩ rfl ⟨hb1, hb2⟩ fun j f hj => ?_)
    · refine OwnS.row o2 hrl ?_
      rw [List.getElem?_append_right (by omega), hz, Nat.add_sub_cancel_left, marks7_get hi]
    · have hj' : j < sls.length := by rw [hsl]; exact (List.getElem?_eq_some_iff.1 hj).1
      have hs : sls[j]? = some sls[j] := List.getElem?_eq_getElem hj'
      generalize sls[j] = sl at hs
      have hr : (List.zipWith rowF cs sls ++ marks7)[j]? = some (rowF f sl) := by
        rw [List.getElem?_append_left (by omega), List.getElem?_zipWith, hj, hs]
      have hc7 := OwnS.row o2 hrl hr
      have hch := hc2 j f sl hj hs
      obtain ⟨n, nul, k, w, id, ix, ds⟩ := f
      unfold WfD
      exact ⟨sl, hc7, WsD.fr (S := No) (Tn.refl _ _) (fun d hd => ⟨fun r => r, by have := hD d hd; constructor <;> omega⟩) _ hch⟩
theorem wide_fs {cs : List Fld} (IH : ∀ f ∈ cs, WideC f) (hl : cs.length ≤ 70000) (hs : lns cs) {h0 h : Hp} {s : Sl} {K : Sl → HP} {Kp : PK} (g0 : Grw h0 h) (hh : FsH h0 s cs) (hk : ∀ t h', Grw h h' → WsD (In h.size h'.size) h' t cs → K t h') : Fn38 s h K Kp := by
  have hn := hh.n
  refine Fn38.of ?_
  unfold S38
  refine New_i fun b7 h1 e1 g1 k1 z1 => ?_
  have own : OwnS 7 h1 ⟨some ⟨b7, 0, none⟩, 0, 0⟩ b7 [] 63 := ⟨rfl, rfl, #[], k1, Nat.le_refl _, rfl, fun i hi => by simp at hi⟩
  have i7 := k1.lt
  refine L38_3.rule (fun w x h2 => ∃ (i : Nat) (sls : List Sl) (D : Nat → Prop), x = i ∧ i ≤ cs.length ∧ Grw h h2 ∧ Sh h.size h2.size 7 h2 w (List.zipWith rowF (cs.take i) sls).flatten 63 ∧ w.a ≠ none ∧ sls.length = i ∧ (∀ d, D d → h.size ≤ d ∧ d < h2.size) ∧ (∀ d, w.at d → ¬ D d) ∧ (∀ (j : Nat) f sl, cs[j]? = some f → sls[j]? = some sl → WsD D h2 sl f.cs)) (fun _ x _ => cs.length - x.toNat)
    ⟨0, [], No, rfl, by omega, g1, .inr ⟨b7, by omega, i7, by simpa using own⟩, by simp, rfl, fun _ q => q.elim, fun _ _ q => q, fun j f sl _ e => by simp at e⟩ ?_
  rintro w x h2 ⟨i, sls, D, rfl, hi, g2, o2, ha2, hsl, hD, hwD, hch⟩ N1 hN
  have hrl := rows_len (fs := cs.take i) (sls := sls)
  have nn := o2.n
  rw [flat_len hrl, List.length_zipWith, List.length_take, hsl] at nn
  unfold T38_3
  refine If_i (fun c => ?_) fun c => ?_
  · simp only [decide_eq_true_eq, decide_eq_false_iff_not, beq_iff_eq, beq_eq_false_iff_ne, ne_eq, reduceCtorEq, true_iff, false_iff, Bool.not_eq_true', Bool.not_eq_false', bne_iff_ne, bne_eq_false_iff_eq, Bool.not_true, Bool.not_false, Decidable.not_not] at c
    have hi' : i < cs.length := by omega
    have hj : cs[i]? = some cs[i] := List.getElem?_eq_getElem hi'
    have hmem : cs[i] ∈ cs := List.getElem_mem hi'
    generalize cs[i] = f at hj hmem
    have IHf := IH f hmem
    have hsf := hs.get f hmem
    have g02 := Grw.trans g0 g2
    refine hh.ix rfl hj fun pa fa => ?_
    obtain ⟨n, nul, k, wd, id, ix, ds⟩ := f
    unfold Fld.lns at hsf
    unfold FldH at fa
    obtain ⟨u, hc, hu⟩ := fa
    have hc1 := hc.grw g02
    have c0 := hc1 0 _ rfl; have c1 := hc1 1 _ rfl; have c2 := hc1 2 _ rfl; have c3 := hc1 3 _ rfl; have c4 := hc1 4 _ rfl; have c5 := hc1 5 _ rfl; have c6 := hc1 6 _ rfl
    rw [add_zero'] at c0
    refine ⟨_, c0, _, c1, _, c2, _, c3, _, c4, _, c5, _, c6, ?_⟩
    refine New_i fun b5 h3 e5 g3 k5 _ => ?_
    refine St7_i k5 rfl fun h4 o4 k5 => ?_
    have g34 := o4.grw g3 (by omega)
    simp only [add_blk, Nat.reduceAdd]
    refine Ld_blk k5 rfl (IHf (Grw.trans g02 g34) hu hsf.1 hsf.2 fun t h5 g5 W5 => ?_)
    have k5 := k5.grw g5
    refine St_i k5 (by simp) rfl fun h6 o6 k6 => ?_
    have k6 : Blk h6 b5 #[.string n, .bool nul, .int .i64 k, .int .i64 wd, .int .i64 id, .int .i64 ix, Sl.v t] 63 := by simp at k6; exact k6
    refine Ld_blk k6 rfl (Ld_blk k6 rfl (Ld_blk k6 rfl (Ld_blk k6 rfl (Ld_blk k6 rfl (Ld_blk k6 rfl (Ld_blk k6 rfl ?_))))))
    refine New_i fun b8 h7 e8 g7 k8 _ => ?_
    have i5 : b5 < h4.size := by have := o4.1; have := k6.lt; have := g3.1; have := o6.1; have := g5.1; omega
    have g26 : Grw h2 h6 := o6.grw (Grw.trans g34 g5) (by omega)
    have g27 := Grw.trans g26 g7
    have y4 := g34.1
    have y5 := g5.1
    have y6 := o6.1
    have y7 := g7.1
    have y2 := g2.1
    have W6 : WsD (In h4.size h5.size) h6 t ds := WsD.fr o6.fr (fun d hd => ⟨fun q => by have := hd.1; omega, hd⟩) _ W5
    refine Ap_sh ((o2.grw g27).wide (Nat.le_refl _) (by omega)) (by omega) rfl (new := rowF (.mk n nul k wd id ix ds) t) rfl (by simp [rowF, vals7, one, Sl.v]) (by have := rd_blk k8 rfl; exact this) (by omega) (by omega) fun w' h8 f8 a8 o8 n8 => ?_
    have y8 := f8.1
    have hnw : ∀ d, w.at d → d < h2.size := fun d hd => (o2.at hd).2
    refine Wr_i64 (by omega) (by omega) (hN _ _ _ ⟨i + 1, sls ++ [t], fun d => D d ∨ In h4.size h5.size d, by omega, by omega, Tn.grw0 (Grw.trans g2 g27) f8 fun d hd => (o2.at hd).1, ?_, ?_, by simp [hsl], fun d hd => ?_, fun d hd => ?_, fun j f sl e1 e2 => ?_⟩ (by omega))
    · have e : (List.zipWith rowF (cs.take i) sls).flatten ++ rowF (.mk n nul k wd id ix ds) t = (List.zipWith rowF (cs.take (i + 1)) (sls ++ [t])).flatten := by
        rw [List.take_add_one, hj, List.zipWith_append (by rw [List.length_take, hsl]; omega)]; simp
      rw [e] at o8; exact o8
    · rcases o8 with ⟨q, _⟩ | ⟨b, _, _, o8⟩
      · rw [q] at n8; simp [Sl.nil] at n8
      · rw [o8.1]; simp
    · rcases hd with hd | hd
      · have := hD d hd; omega
      · have := hd.1; have := hd.2; omega
    · rintro (q | q)
      · rcases a8 d hd with r | r
        · exact hwD d r q
        · have := hD d q; omega
      · rcases a8 d hd with r | r
        · have := hnw d r; have := q.1; omega
        · have := q.2; omega
    · have hlt : j < (sls ++ [t]).length := (List.getElem?_eq_some_iff.1 e2).1
      simp only [List.length_append, hsl, List.length_cons, List.length_nil] at hlt
      by_cases hji : j < i
      · rw [List.getElem?_append_left (by omega)] at e2
        exact WsD.fr f8 (fun d hd => ⟨fun q => hwD d q hd, .inl hd⟩) _ (WsD.grw g27 _ (hch j f sl e1 e2))
      · have : j = i := by omega
        subst this
        rw [List.getElem?_append_right (by omega), hsl, Nat.sub_self] at e2
        simp only [List.getElem?_cons_zero, Option.some.injEq] at e2
        subst e2
        rw [hj] at e1
        cases e1
        exact WsD.fr f8 (fun d hd => ⟨fun q => by have := hnw d q; have := hd.1; omega, .inr hd⟩) _ (WsD.grw g7 _ W6)
  · simp only [decide_eq_true_eq, decide_eq_false_iff_not, beq_iff_eq, beq_eq_false_iff_ne, ne_eq, reduceCtorEq, true_iff, false_iff, Bool.not_eq_true', Bool.not_eq_false', bne_iff_ne, bne_eq_false_iff_eq, Bool.not_true, Bool.not_false, Decidable.not_not] at c
    have : i = cs.length := by omega
    subst this
    rw [List.take_length] at o2
    exact wide_end hl hn.1 g2 o2 ha2 hsl hD hwD hch hk
theorem wide_f : ∀ f : Fld, WideC f
  | .mk _ _ _ _ _ _ cs => fun g hh hl hs hk => wide_fs (fun f _ => wide_f f) hl hs g hh hk
end Go.Proofs.YtfomkkdijjfpiaaDoor
/- The document's reader: numbers, texts; a fault stays. -/
namespace Go.Proofs.YtfomkkdijjfpiaaDoor
open Go Go.Sh Go.WideShapes
abbrev Ste := Except Er (Nat × Nat)
def takeE (l : List UInt8) (n : Nat) : Ste → List UInt8 × Ste
  | .error e => ([], .error e)
  | .ok (a, m) => match takeD l n a with | .error e => ([], .error e) | .ok (x, a') => (x, .ok (a', m))
def numE (l : List UInt8) (w : Nat) : Ste → Nat × Ste
  | .error e => (0, .error e)
  | .ok (a, m) => match numD l w a with | .error e => (0, .error e) | .ok (x, a') => (x, .ok (a', m))
def amongE (l : List UInt8) (lo hi : Nat) : Ste → Nat × Ste
  | .error e => (0, .error e)
  | .ok (a, m) => match numD l 1 a with | .error e => (0, .error e) | .ok (x, a') => (x, if lo ≤ x ∧ x ≤ hi then .ok (a', m) else .error (8, a))
def textE (l : List UInt8) (w : Nat) (st : Ste) : ByteArray × Ste :=
  let r := numE l w st
  let q := takeE l r.1 r.2
  (bs q.1, q.2)
/-- what the six cells hold -/
def rowE (s : Sl) : Ste → Array Value → Prop
  | .ok (a, n), cs => cs = #[Sl.v s, .int .i64 a, .int .i64 n, .int .i64 0, .slice none 0 0, .int .i64 0]
  | .error e, cs => e.1 ≠ 0 ∧ ∃ a n : Nat, cs = #[Sl.v s, .int .i64 a, .int .i64 n, .int .i64 e.1, .slice none 0 0, .int .i64 e.2]
def okE (l : List UInt8) : Ste → Prop
  | .ok (a, _) => a ≤ l.length
  | .error _ => True
/-- the document's reader at p -/
structure Re (h0 : Hp) (p : Nat) (s : Sl) (l : List UInt8) (h : Hp) (st : Ste) : Prop where
  blk : ∃ cs, rowE s st cs ∧ Blk h p cs 77
  g : Grw h0 h
  hp : h0.size ≤ p
  sv : Sv h0 s (bv l)
  hl : l.length ≤ 9223372036854775807
  ok : okE l st
section
variable {h0 : Hp} {p : Nat} {s : Sl} {l : List UInt8} {h h' : Hp} {st : Ste}
theorem Re.grw (r : Re h0 p s l h st) (g : Grw h h') : Re h0 p s l h' st := ⟨by obtain ⟨cs, e, k⟩ := r.blk; exact ⟨cs, e, k.grw g⟩, Grw.trans r.g g, r.hp, r.sv, r.hl, r.ok⟩
theorem Re.tn {S : Nat → Prop} (r : Re h0 p s l h st) (f : Tn S h h') (hp : ¬ S p) (hS : ∀ d, S d → h0.size ≤ d) : Re h0 p s l h' st :=
  ⟨by obtain ⟨cs, e, k⟩ := r.blk; exact ⟨cs, e, f.blk k hp⟩, ⟨Nat.le_trans r.g.1 f.1, fun c hc => (f.2 c (Nat.lt_of_lt_of_le hc r.g.1) (fun q => by have := hS c q; omega)).trans (r.g.2 c hc)⟩, r.hp, r.sv, r.hl, r.ok⟩
theorem Re.fr {b : Nat} (r : Re h0 p s l h st) (f : Tn (· = b) h h') (hb : b ≠ p) (hb0 : h0.size ≤ b) : Re h0 p s l h' st := r.tn f (fun e => hb e.symm) fun d q => by omega
theorem Re.okk {a n : Nat} (r : Re h0 p s l h (.ok (a, n))) : Blk h p #[Sl.v s, .int .i64 a, .int .i64 n, .int .i64 0, .slice none 0 0, .int .i64 0] 77 ∧ a ≤ l.length := by
  obtain ⟨cs, e, k⟩ := r.blk; exact ⟨e ▸ k, r.ok⟩
theorem Re.err {e : Er} (r : Re h0 p s l h (.error e)) : e.1 ≠ 0 ∧ ∃ a n : Nat, Blk h p #[Sl.v s, .int .i64 a, .int .i64 n, .int .i64 e.1, .slice none 0 0, .int .i64 e.2] 77 := by
  obtain ⟨cs, ⟨q, a, n, e⟩, k⟩ := r.blk; exact ⟨q, a, n, e ▸ k⟩
theorem Re.lt (r : Re h0 p s l h st) : p < h.size := by obtain ⟨cs, _, k⟩ := r.blk; exact k.lt
/-- a fault is noted -/
theorem wrong_e {a n : Nat} {e y : Int} {K : HP} {Kp : PK} (r : Re h0 p s l h (.ok (a, n))) (he : e ≠ 0)
    (hk : ∀ h', Tn (· = p) h h' → Re h0 p s l h' (.error (e, y)) → K h') : Fn35 (some ⟨p, 0, none⟩) e y h K Kp := by
  obtain ⟨k, ha⟩ := r.okk
  refine Fn35.of ?_
  unfold S35
  simp only [NN_some, add_blk, Nat.zero_add, Nat.reduceAdd]
  refine Ld_blk k rfl (If_t rfl ?_)
  refine St_i k (by simp) rfl fun h1 o1 k => St_i k (by simp) rfl fun h2 o2 k => St_i k (by simp) rfl fun h3 o3 k => ?_
  have o := (o1.trans o2).trans o3
  exact hk h3 o.fr ⟨⟨_, ⟨he, a, n, by simp⟩, k⟩, Tn.old r.hp r.g o.fr, r.hp, r.sv, r.hl, trivial⟩
theorem take_e {n : Nat} {x : Int} {K : Sl → HP} {Kp : PK} (r : Re h0 p s l h st) (hx : x = n) (hn : n < 2 ^ 40)
    (hk : ∀ t h', Tn (· = p) h h' → Re h0 p s l h' (takeE l n st).2 → Sv h' t (bv (takeE l n st).1) → K t h') : Fn50 (some ⟨p, 0, none⟩) x h K Kp := by
  subst hx
  have hs := r.sv.1
  rw [bv_len] at hs
  have hl := r.hl
  refine Fn50.of ?_
  unfold S50
  simp only [NN_some, add_blk, Nat.zero_add]
  cases st with
  | error e =>
    obtain ⟨he, a, m, k⟩ := r.err
    exact Ld_blk k rfl (If_t (by simp [he]) (hk _ h (Tn.refl _ _) r (Sv.nil h)))
  | ok am =>
    obtain ⟨a, m⟩ := am
    obtain ⟨k, ha⟩ := r.okk
    refine Ld_blk k rfl (If_f (by simp) (Ld_blk k rfl (Ld_blk k rfl (Wr_i64 (by omega) (by omega) (If_i (fun c => ?_) fun c => ?_)))))
    · simp only [decide_eq_true_eq, decide_eq_false_iff_not, beq_iff_eq, beq_eq_false_iff_ne, ne_eq, reduceCtorEq, true_iff, false_iff, Bool.not_eq_true', Bool.not_eq_false', bne_iff_ne, bne_eq_false_iff_eq, Bool.not_true, Bool.not_false, Decidable.not_not] at c
      have e : takeD l n a = .error (51, a) := by unfold takeD; rw [if_neg (by omega)]
      refine Ld_blk k rfl (wrong_e r (by omega) fun h1 f1 r1 => ?_)
      have ee : takeE l n (.ok (a, m)) = ([], .error (51, a)) := by simp only [takeE, e]
      rw [ee] at hk
      exact hk _ h1 f1 r1 (Sv.nil h1)
    · simp only [decide_eq_true_eq, decide_eq_false_iff_not, beq_iff_eq, beq_eq_false_iff_ne, ne_eq, reduceCtorEq, true_iff, false_iff, Bool.not_eq_true', Bool.not_eq_false', bne_iff_ne, bne_eq_false_iff_eq, Bool.not_true, Bool.not_false, Decidable.not_not] at c
      have e : takeD l n a = .ok ((l.drop a).take n, a + n) := by unfold takeD; rw [if_pos (by omega)]
      have ee : takeE l n (.ok (a, m)) = ((l.drop a).take n, .ok (a + n, m)) := by simp only [takeE, e]
      rw [ee] at hk
      refine J50_1.of ?_
      unfold JT50_1
      simp only [NN_some, add_blk, Nat.zero_add]
      refine Ld_blk k rfl (Ld_blk k rfl (Ld_blk k rfl (Wr_i64 (by omega) (by omega) ?_)))
      refine Sv.cut (r.sv.grw r.g) (lo := a) (hi := a + n) (by omega) (by omega) (by omega) (by omega) fun t ht hv => ?_
      have e1 : a + n - a = n := by omega
      rw [e1] at ht hv
      refine Ap_copy hv (by simp; omega) fun t1 h1 g1 hv1 => ?_
      have r1 := r.grw g1
      refine J50_2.of ?_
      unfold JT50_2
      simp only [NN_some, add_blk, Nat.zero_add]
      refine Ld_blk r1.okk.1 rfl (Wr_i64 (by omega) (by omega) (St_i r1.okk.1 (by simp) rfl fun h2 o2 k2 => ?_))
      have r2 : Re h0 p s l h2 (.ok (a + n, m)) := ⟨⟨_, rfl, by simpa using k2⟩, Tn.old r1.hp r1.g o2.fr, r.hp, r.sv, r.hl, by show a + n ≤ l.length; omega⟩
      exact hk t1 h2 ((Tn.of_grw g1).trans o2.fr) r2 (hv1.fr o2.fr fun b h3 _ q => by have := r.lt; omega).sv
theorem takeE_len {n : Nat} {st : Ste} (h : (takeE l n st).1 ≠ []) : (takeE l n st).1.length = n ∧ ∀ e, (takeE l n st).2 ≠ .error e := by
  cases st with
  | error e => exact absurd rfl h
  | ok am =>
    obtain ⟨a, m⟩ := am
    simp only [takeE] at h ⊢
    unfold takeD at h ⊢
    split
    · rename_i q; rw [q] at h; exact absurd rfl h
    · rename_i x a' q
      split at q <;> cases q
      rename_i c
      exact ⟨by simp; omega, fun e q => by cases q⟩
theorem numE_eq {w : Nat} {st : Ste} : numE l w st = (leN (takeE l w st).1, (takeE l w st).2) := by
  cases st with
  | error e => rfl
  | ok am =>
    obtain ⟨a, m⟩ := am
    simp only [numE, takeE, numD]
    cases takeD l w a with
    | error e => rfl
    | ok y => rfl
theorem number_e {w : Nat} {x : Int} {K : Int → HP} {Kp : PK} (r : Re h0 p s l h st) (hx : x = w) (hw : w ≤ 4)
    (hk : ∀ h', Tn (· = p) h h' → Re h0 p s l h' (numE l w st).2 → K ((numE l w st).1 : Int) h') : Fn33 (some ⟨p, 0, none⟩) x h K Kp := by
  refine Fn33.of ?_
  unfold S33
  refine take_e r hx (by omega) fun t h1 f1 r1 hv => ?_
  have hkk := hk h1 f1 (by rw [numE_eq]; exact r1)
  rw [numE_eq] at hkk
  clear hk
  have hyl : (takeE l w st).1.length ≤ w := by
    by_cases e : (takeE l w st).1 = []
    · rw [e]; exact Nat.zero_le _
    · exact Nat.le_of_eq (takeE_len e).1
  generalize (takeE l w st).1 = y at hv hkk hyl
  have hn := hv.1
  rw [bv_len] at hn
  refine Wr_i64 (by omega) (by omega) ?_
  refine L33_1.rule (fun acc k h' => h' = h1 ∧ ∃ i : Nat, k = (i : Int) - 1 ∧ i ≤ y.length ∧ acc = (leN (y.drop i) : Int)) (fun _ k _ => (k + 1).toNat) ⟨rfl, y.length, by omega, Nat.le_refl _, by simp [leN]⟩ ?_
  rintro acc k h2 ⟨rfl, i, rfl, hi, rfl⟩ N1 hN
  unfold T33_1
  refine If_i (fun c => ?_) fun c => ?_
  · simp only [decide_eq_true_eq, decide_eq_false_iff_not, beq_iff_eq, beq_eq_false_iff_ne, ne_eq, reduceCtorEq, true_iff, false_iff, Bool.not_eq_true', Bool.not_eq_false', bne_iff_ne, bne_eq_false_iff_eq, Bool.not_true, Bool.not_false, Decidable.not_not] at c
    obtain ⟨j, rfl⟩ : ∃ j, i = j + 1 := ⟨i - 1, by omega⟩
    have ei : y[j]? = some y[j] := List.getElem?_eq_getElem hi
    have hd : y.drop j = y[j] :: y.drop (j + 1) := List.drop_eq_getElem_cons hi
    generalize y[j] = b at ei hd
    have hb := b.toNat_lt
    have hacc := leN_lt (y.drop (j + 1))
    have hlen : (y.drop (j + 1)).length ≤ 3 := by simp; omega
    have hp : (256 : Nat) ^ (y.drop (j + 1)).length ≤ 256 ^ 3 := Nat.pow_le_pow_right (by omega) hlen
    have e1 : (((j + 1 : Nat) : Int) - 1).toNat = j := by omega
    refine Wr_i64 (by omega) (by omega) ?_
    refine hv.ix (v := .int .u8 (b.toNat : Int)) (by omega) (by omega) (by rw [e1, bv, List.getElem?_map, ei]; rfl) fun pa ca => ?_
    refine ⟨_, ca, Wr_i64 (by omega) (by omega) (Wr_i64 (by omega) (by omega) (Wr_i64 (by omega) (by omega) ?_))⟩
    refine hN _ _ _ ⟨rfl, j, by omega, by omega, ?_⟩ (by omega)
    rw [hd, leN]; omega
  · simp only [decide_eq_true_eq, decide_eq_false_iff_not, beq_iff_eq, beq_eq_false_iff_ne, ne_eq, reduceCtorEq, true_iff, false_iff, Bool.not_eq_true', Bool.not_eq_false', bne_iff_ne, bne_eq_false_iff_eq, Bool.not_true, Bool.not_false, Decidable.not_not] at c
    have : i = 0 := by omega
    subst this
    simpa using hkk
theorem within_e {lo hi : Nat} {x y : Int} {K : Int → HP} {Kp : PK} (r : Re h0 p s l h st) (hx : x = lo) (hy : y = hi)
    (hk : ∀ h', Tn (· = p) h h' → Re h0 p s l h' (amongE l lo hi st).2 → K ((amongE l lo hi st).1 : Int) h') : Fn31 (some ⟨p, 0, none⟩) x y h K Kp := by
  subst hx hy
  refine Fn31.of ?_
  unfold S31
  simp only [NN_some, add_blk, Nat.zero_add]
  cases st with
  | error e =>
    obtain ⟨he, a, m, k⟩ := r.err
    refine Ld_blk k rfl ?_
    refine number_e (w := 1) r rfl (by omega) fun h1 f1 r1 => ?_
    obtain ⟨he, a, m, k⟩ := r1.err
    refine Ld_blk k rfl (If_f (by simp [he]) (hk h1 f1 r1))
  | ok am =>
    obtain ⟨a, m⟩ := am
    refine Ld_blk r.okk.1 rfl ?_
    refine number_e (w := 1) r rfl (by omega) fun h1 f1 r1 => ?_
    cases hq : numD l 1 a with
    | error e =>
      have e1 : numE l 1 (.ok (a, m)) = (0, .error e) := by simp only [numE, hq]
      have e2 : amongE l lo hi (.ok (a, m)) = (0, .error e) := by simp only [amongE, hq]
      rw [e1] at r1 ⊢
      rw [e2] at hk
      obtain ⟨he, a', m', k⟩ := r1.err
      exact Ld_blk k rfl (If_f (by simp [he]) (hk h1 f1 r1))
    | ok z =>
      obtain ⟨z, a1⟩ := z
      have e1 : numE l 1 (.ok (a, m)) = (z, .ok (a1, m)) := by simp only [numE, hq]
      have e2 : amongE l lo hi (.ok (a, m)) = (z, if lo ≤ z ∧ z ≤ hi then .ok (a1, m) else .error (8, (a : Int))) := by simp only [amongE, hq]
      rw [e1] at r1 ⊢
      rw [e2] at hk
      refine Ld_blk r1.okk.1 rfl (If_t (by simp) (If_i (fun c => ?_) fun c => If_i (fun c2 => ?_) fun c2 => ?_))
      · simp only [decide_eq_true_eq, decide_eq_false_iff_not, beq_iff_eq, beq_eq_false_iff_ne, ne_eq, reduceCtorEq, true_iff, false_iff, Bool.not_eq_true', Bool.not_eq_false', bne_iff_ne, bne_eq_false_iff_eq, Bool.not_true, Bool.not_false, Decidable.not_not] at c
        rw [if_neg (by omega)] at hk
        exact wrong_e r1 (by omega) fun h2 f2 r2 => hk h2 (f1.trans f2) r2
      · simp only [decide_eq_true_eq, decide_eq_false_iff_not, beq_iff_eq, beq_eq_false_iff_ne, ne_eq, reduceCtorEq, true_iff, false_iff, Bool.not_eq_true', Bool.not_eq_false', bne_iff_ne, bne_eq_false_iff_eq, Bool.not_true, Bool.not_false, Decidable.not_not] at c2
        rw [if_neg (by omega)] at hk
        exact wrong_e r1 (by omega) fun h2 f2 r2 => hk h2 (f1.trans f2) r2
      · simp only [decide_eq_true_eq, decide_eq_false_iff_not, beq_iff_eq, beq_eq_false_iff_ne, ne_eq, reduceCtorEq, true_iff, false_iff, Bool.not_eq_true', Bool.not_eq_false', bne_iff_ne, bne_eq_false_iff_eq, Bool.not_true, Bool.not_false, Decidable.not_not] at c c2
        rw [if_pos (by omega)] at hk
        exact hk h1 f1 r1
theorem numE_lt {w : Nat} {st : Ste} : (numE l w st).1 < 256 ^ w := by
  cases st with
  | error e => exact Nat.pow_pos (by omega)
  | ok am =>
    obtain ⟨a, m⟩ := am
    simp only [numE]
    cases hq : numD l w a with
    | error e => exact Nat.pow_pos (by omega)
    | ok y => exact numD_lt (a' := y.2) hq
theorem text_e {w : Nat} {x : Int} {K : ByteArray → HP} {Kp : PK} (r : Re h0 p s l h st) (hx : x = w) (hw : w ≤ 4)
    (hk : ∀ h', Tn (· = p) h h' → Re h0 p s l h' (textE l w st).2 → K (textE l w st).1 h') : Fn49 (some ⟨p, 0, none⟩) x h K Kp := by
  refine Fn49.of ?_
  unfold S49
  refine number_e r hx hw fun h1 f1 r1 => ?_
  have h4 : (256 : Nat) ^ w ≤ 256 ^ 4 := Nat.pow_le_pow_right (by omega) hw
  have := numE_lt (l := l) (w := w) (st := st)
  refine take_e r1 rfl (by omega) fun t h2 f2 r2 hv => ?_
  exact Bts_i hv (hk h2 (f1.trans f2) r2)
end
end Go.Proofs.YtfomkkdijjfpiaaDoor
/- The document's reader: a field's lists. -/
namespace Go.Proofs.YtfomkkdijjfpiaaDoor
open Go Go.Sh Go.WideShapes
/-- one field more, by way of a variable and a copy -/
theorem grow_e {D X : Nat → Prop} {lo b5 i : Nat} {h : Hp} {sl t : Sl} {xs : List Fld} {f : Fld} {cs : Array Value} {el : TypeId} {C : Sl → HP} (A : Acc D lo h sl xs) (hf : FsD X h t f.cs) (hDl : ∀ d, D d ∨ X d → d < h.size) (hX : ∀ d, X d → ¬ D d ∧ ¬ sl.at d) (hlo : lo ≤ h.size) (k5 : Blk h b5 cs el) (hi : cs[i]? = some (Sl.v sl)) (hn : xs.length ≤ 70000)
    (hk : ∀ s' h', Tn (fun c => sl.at c ∧ lo ≤ c) h h' → Acc (fun d => D d ∨ X d) lo h' s' (xs ++ [f]) → C s' h') :
    New h #[(.string (bs [])), (.bool false), (.int .i64 (0:Int)), (.int .i64 (0:Int)), (.int .i64 (0:Int)), (.int .i64 (0:Int)), (.slice none 0 0)] 63 fun a6 h2 =>
        St h2 a6 (.string f.name) fun h3 => St h3 (a6.add 1) (.bool f.nul) fun h4 => St h4 (a6.add 2) (.int .i64 f.k) fun h5 => St h5 (a6.add 3) (.int .i64 f.w) fun h6 => St h6 (a6.add 4) (.int .i64 f.id) fun h7 => St h7 (a6.add 5) (.int .i64 f.ix) fun h8 => St h8 (a6.add 6) (Sl.v t) fun h9 =>
        Ld h9 ⟨b5, i, none⟩ (Sl.v) fun t26 => Ld h9 a6 (Value.string) fun t27_0 => Ld h9 (a6.add 1) (Value.bool) fun t27_1 => Ld h9 (a6.add 2) (Value.int .i64) fun t27_2 => Ld h9 (a6.add 3) (Value.int .i64) fun t27_3 => Ld h9 (a6.add 4) (Value.int .i64) fun t27_4 => Ld h9 (a6.add 5) (Value.int .i64) fun t27_5 => Ld h9 (a6.add 6) (Sl.v) fun t27_6 =>
        New h9 #[(.string t27_0), (.bool t27_1), (.int .i64 t27_2), (.int .i64 t27_3), (.int .i64 t27_4), (.int .i64 t27_5), (Sl.v t27_6)] 63 fun a28 h10 =>
        Ap h10 63 #[(.string (bs [])), (.bool false), (.int .i64 (0:Int)), (.int .i64 (0:Int)), (.int .i64 (0:Int)), (.int .i64 (0:Int)), (.slice none 0 0)] 7 80 t26 1 (rd h10 (some a28) (1 * 7)) C := by
  have lc := SyH.start No h
  refine lc.new fun b6 _ hb6 _ lc => ?_
  refine lc.st 0 rfl rfl rfl fun _ _ lc => ?_; simp only [Nat.zero_add, List.set_cons_zero, List.set_cons_succ, List.setIfInBounds_toArray] at lc; refine lc.sto 0 rfl rfl rfl fun _ _ lc => ?_; simp only [Nat.zero_add, List.set_cons_zero, List.set_cons_succ, List.setIfInBounds_toArray] at lc; refine lc.sto 0 rfl rfl rfl fun _ _ lc => ?_; simp only [Nat.zero_add, List.set_cons_zero, List.set_cons_succ, List.setIfInBounds_toArray] at lc; refine lc.sto 0 rfl rfl rfl fun _ _ lc => ?_; simp only [Nat.zero_add, List.set_cons_zero, List.set_cons_succ, List.setIfInBounds_toArray] at lc; refine lc.sto 0 rfl rfl rfl fun _ _ lc => ?_; simp only [Nat.zero_add, List.set_cons_zero, List.set_cons_succ, List.setIfInBounds_toArray] at lc; refine lc.sto 0 rfl rfl rfl fun _ _ lc => ?_; simp only [Nat.zero_add, List.set_cons_zero, List.set_cons_succ, List.setIfInBounds_toArray] at lc; refine lc.sto 0 rfl rfl rfl fun _ _ lc => ?_; simp only [Nat.zero_add, List.set_cons_zero, List.set_cons_succ, List.setIfInBounds_toArray] at lc
  rename_i h9 _
  simp only [add_blk, Nat.reduceAdd]
  have g9 := lc.grw
  have k6 : B63 h9 b6 f.name f.nul f.k f.w f.id f.ix t := lc.blk (i := 0) rfl
  clear lc
  refine Ld_blk (k5.grw g9) hi ?_
  refine Ld_blk k6 rfl (Ld_blk k6 rfl (Ld_blk k6 rfl (Ld_blk k6 rfl (Ld_blk k6 rfl (Ld_blk k6 rfl (Ld_blk k6 rfl ?_))))))
  refine New_i fun b7 h10 e7 g10 k7 _ => ?_
  have g := Grw.trans g9 g10
  have A3 : Acc D lo h10 sl xs := A.fr (S := No) (Tn.of_grw g) (fun _ _ q => q) (fun _ _ _ q => q) (fun _ q => q) (fun _ q => .inl q)
  have hf3 : FsD X h10 t f.cs := FsD.fr (S := No) (Tn.of_grw g) (fun d hd => ⟨fun q => q, hd⟩) f.cs hf
  refine Acc.ap A3 hf3 (fun d hd => Nat.lt_of_lt_of_le (hDl d hd) g.1) hX (Nat.le_trans hlo g.1) k7 hn fun s' h4 f4 A4 => hk s' h4 ((Tn.of_grw (S := fun c => sl.at c ∧ lo ≤ c) g).trans f4) A4
/-- seven cells are copied and handed over -/
theorem copy7 {h : Hp} {b4 b5 : Nat} {nm : ByteArray} {nul : Bool} {k w id ix : Int} {sl : Sl} {cs : Array Value} {K : ByteArray → Bool → Int → Int → Int → Int → Sl → HP} (k4 : Blk h b4 cs 63) (hc : cs.size = 7) (k5 : B63 h b5 nm nul k w id ix sl) (hk : ∀ h', Only b4 h h' → K nm nul k w id ix sl h') :
    Ld h ⟨b5, 0, none⟩ (Value.string) fun t0 => Ld h ⟨b5, 1, none⟩ (Value.bool) fun t1 => Ld h ⟨b5, 2, none⟩ (Value.int .i64) fun t2 => Ld h ⟨b5, 3, none⟩ (Value.int .i64) fun t3 => Ld h ⟨b5, 4, none⟩ (Value.int .i64) fun t4 => Ld h ⟨b5, 5, none⟩ (Value.int .i64) fun t5 => Ld h ⟨b5, 6, none⟩ (Sl.v) fun t6 =>
    St h ⟨b4, 0, none⟩ (.string t0) fun h1 => St h1 ⟨b4, 1, none⟩ (.bool t1) fun h2 => St h2 ⟨b4, 2, none⟩ (.int .i64 t2) fun h3 => St h3 ⟨b4, 3, none⟩ (.int .i64 t3) fun h4 => St h4 ⟨b4, 4, none⟩ (.int .i64 t4) fun h5 => St h5 ⟨b4, 5, none⟩ (.int .i64 t5) fun h6 => St h6 ⟨b4, 6, none⟩ (Sl.v t6) fun h7 =>
    Ld h7 ⟨b4, 0, none⟩ (Value.string) fun r0 => Ld h7 ⟨b4, 1, none⟩ (Value.bool) fun r1 => Ld h7 ⟨b4, 2, none⟩ (Value.int .i64) fun r2 => Ld h7 ⟨b4, 3, none⟩ (Value.int .i64) fun r3 => Ld h7 ⟨b4, 4, none⟩ (Value.int .i64) fun r4 => Ld h7 ⟨b4, 5, none⟩ (Value.int .i64) fun r5 => Ld h7 ⟨b4, 6, none⟩ (Sl.v) fun r6 => K r0 r1 r2 r3 r4 r5 r6 h7 := by
  obtain ⟨v0, v1, v2, v3, v4, v5, v6, e⟩ := len7 (l := cs.toList) (by simpa using hc)
  obtain rfl : cs = #[v0, v1, v2, v3, v4, v5, v6] := by cases cs; simp_all
  refine Ld_blk k5 rfl (Ld_blk k5 rfl (Ld_blk k5 rfl (Ld_blk k5 rfl (Ld_blk k5 rfl (Ld_blk k5 rfl (Ld_blk k5 rfl ?_))))))
  refine St_i k4 (by simp) rfl fun h2 o2 k4 => St_i k4 (by simp) rfl fun h3 o3 k4 => St_i k4 (by simp) rfl fun h4 o4 k4 => St_i k4 (by simp) rfl fun h5 o5 k4 => St_i k4 (by simp) rfl fun h6 o6 k4 => St_i k4 (by simp) rfl fun h7 o7 k4 => St_i k4 (by simp) rfl fun h8 o8 k4 => ?_
  have k4 : B63 h8 b4 nm nul k w id ix sl := by simp at k4; exact k4
  have o := ((((((o2.trans o3).trans o4).trans o5).trans o6).trans o7).trans o8)
  refine Ld_blk k4 rfl (Ld_blk k4 rfl (Ld_blk k4 rfl (Ld_blk k4 rfl (Ld_blk k4 rfl (Ld_blk k4 rfl (Ld_blk k4 rfl ?_))))))
  exact hk h8 o
def stn : Ste → Prop
  | .ok (_, n) => n ≤ 256
  | .error _ => True
/-- what is read, and the reader behind it -/
def Rel {α : Type} (f : Nat → Nat → Except Er (α × Nat × Nat)) (st : Ste) (x : α) (st' : Ste) : Prop :=
  match st with
  | .error e => st' = .error e
  | .ok (a, n) => match f a n with
    | .error e => st' = .error e
    | .ok (y, a', n') => x = y ∧ st' = .ok (a', n')
/-- what the document's reader does with a field -/
def FieldE (h0 : Hp) (p : Nat) (s : Sl) (l : List UInt8) (fuel : Nat) : Prop := ∀ {h : Hp} {st : Ste} {x : Int} {K : ByteArray → Bool → Int → Int → Int → Int → Sl → HP} {Kp : PK}, Re h0 p s l h st → stn st → fuel ≤ 64 → x = 64 - (fuel : Int) →
  (∀ f st' t h', Tn (· = p) h h' → Re h0 p s l h' st' → stn st' → Rel (fieldD l fuel) st f st' → FsD (In h.size h'.size) h' t f.cs → K f.name f.nul f.k f.w f.id f.ix t h') → Fn48 (some ⟨p, 0, none⟩) x h K Kp
/-- within a list: what has been read so far -/
def Mid {α : Type} (f : Nat → Nat → Except Er (α × Nat × Nat)) (c : Nat) (st : Ste) (xs : List α) (i : Nat) (st' : Ste) : Prop :=
  match st with
  | .error e => st' = .error e
  | .ok (a, n) => match st' with
    | .error e => repD f c a n = .error e
    | .ok (a', n') => repD f c a n = preD xs (repD f (c - i) a' n')
theorem Mid.start {α : Type} {f : Nat → Nat → Except Er (α × Nat × Nat)} {c : Nat} {st : Ste} : Mid f c st [] 0 st := by
  unfold Mid
  cases st with
  | error e => rfl
  | ok am => exact repD_start
theorem Mid.snoc {α : Type} {f : Nat → Nat → Except Er (α × Nat × Nat)} {c i a n : Nat} {st st' : Ste} {xs : List α} {x : α} (hi : i < c) (m : Mid f c st xs i (.ok (a, n))) (r : Rel f (.ok (a, n)) x st') : Mid f c st (xs ++ [x]) (i + 1) st' := by
  unfold Mid at m ⊢
  cases st with
  | error e => cases m
  | ok am =>
    simp only [Rel] at m r ⊢
    cases hf : f a n with
    | error e => rw [hf] at r; simp only at r; subst r; exact repD_err hi m hf
    | ok y =>
      obtain ⟨y, a', n'⟩ := y
      rw [hf] at r
      obtain ⟨rfl, rfl⟩ := r
      exact repD_snoc hi m hf
theorem Mid.stop {α : Type} {f : Nat → Nat → Except Er (α × Nat × Nat)} {c i : Nat} {st : Ste} {e : Er} {xs : List α} (m : Mid f c st xs i (.error e)) : Rel (repD f c) st xs (.error e) := by
  unfold Mid at m
  unfold Rel
  cases st with
  | error e => exact m
  | ok am => simp only at m ⊢; rw [m]
theorem Mid.done {α : Type} {f : Nat → Nat → Except Er (α × Nat × Nat)} {c : Nat} {st st' : Ste} {xs : List α} (m : Mid f c st xs c st') : Rel (repD f c) st xs st' := by
  cases st' with
  | error e => exact m.stop
  | ok am =>
    unfold Mid at m
    unfold Rel
    cases st with
    | error e => cases m
    | ok am => simp only at m ⊢; rw [repD_end m]; exact ⟨rfl, rfl⟩
theorem childE {h0 : Hp} {p : Nat} {s : Sl} {l : List UInt8} {fuel : Nat} (IH : FieldE h0 p s l fuel) (hfu : fuel < 64) {h : Hp} {st : Ste} {c b4 b5 : Nat} {x y : Int} {nm : ByteArray} {nul : Bool} {k w id ix : Int} {K : ByteArray → Bool → Int → Int → Int → Int → Sl → HP} {Kp : PK} (r : Re h0 p s l h st) (hn : stn st)
    (hx : x + 1 = 64 - (fuel : Int)) (hc : c < 256) (hy : y = c) (k4 : B63 h b4 (bs []) false 0 0 0 0 Sl.nil) (k5 : B63 h b5 nm nul k w id ix Sl.nil) (n45 : b4 ≠ b5) (n4 : b4 ≠ p) (n5 : b5 ≠ p) (l4 : h0.size ≤ b4) (l5 : h0.size ≤ b5)
    (hk : ∀ cs st' t h', Tn (fun d => d = p ∨ d = b4 ∨ d = b5) h h' → Re h0 p s l h' st' → stn st' → Rel (repD (fieldD l fuel) c) st cs st' → FsD (In h.size h'.size) h' t cs → K nm nul k w id ix t h') : J48_2 (some ⟨p, 0, none⟩) x ⟨b4, 0, none⟩ ⟨b5, 0, none⟩ y K Kp h := by
  subst hy
  have i4 := k4.lt
  have i5 := k5.lt
  have ip := r.lt
  refine J48_2.of ?_
  unfold JT48_2
  refine L48_3.rule (fun z h1 => ∃ (i : Nat) (xs : List Fld) (sl : Sl) (st' : Ste) (D : Nat → Prop), z = i ∧ i ≤ c ∧ xs.length = i ∧ Tn (fun d => d = p ∨ d = b4 ∨ d = b5) h h1 ∧ Re h0 p s l h1 st' ∧ stn st' ∧ B63 h1 b5 nm nul k w id ix sl ∧ B63 h1 b4 (bs []) false 0 0 0 0 Sl.nil ∧
    Acc D h.size h1 sl xs ∧ (∀ d, D d → h.size ≤ d ∧ d < h1.size) ∧ Mid (fieldD l fuel) c st xs i st') (fun z _ => c - z.toNat)
    ⟨0, [], Sl.nil, st, No, rfl, by omega, rfl, Tn.refl _ _, r, hn, k5, k4, Acc.nil, fun _ q => q.elim, Mid.start⟩ ?_
  rintro z h1 ⟨i, xs, sl, st1, D, rfl, hi, hxs, f1, r1, hn1, k5, k4, A, hD, eq⟩ N1 hN
  unfold T48_3
  simp only [add_blk, Nat.reduceAdd, NN_some, Nat.zero_add]
  have fin : Rel (repD (fieldD l fuel) c) st xs st1 → ∀ h', Only b4 h1 h' → K nm nul k w id ix sl h' := fun q h' o => by
    have hfs := A.fsd (D' := In h.size h1.size) (fun d hd => hD d hd) (fun d h1 h2 => ⟨h1, h2⟩)
    exact hk xs st1 sl h' (f1.trans' o.fr fun d hd _ => .inr (.inl hd)) (r1.fr o.fr n4 l4) hn1 q (FsD.fr o.fr (fun d hd => ⟨fun e => by have := hd.1; omega, hd.1, by have := o.1; have := hd.2; omega⟩) xs hfs)
  refine If_i (fun c1 => ?_) fun c1 => ?_
  · simp only [decide_eq_true_eq, decide_eq_false_iff_not, beq_iff_eq, beq_eq_false_iff_ne, ne_eq, reduceCtorEq, true_iff, false_iff, Bool.not_eq_true', Bool.not_eq_false', bne_iff_ne, bne_eq_false_iff_eq, Bool.not_true, Bool.not_false, Decidable.not_not] at c1
    cases st1 with
    | error e =>
      obtain ⟨he, a, m, kp⟩ := r1.err
      exact Ld_blk kp rfl (If_t (by simp [he]) (copy7 k4 rfl k5 (fin eq.stop)))
    | ok am =>
      obtain ⟨a1, n1⟩ := am
      refine Ld_blk r1.okk.1 rfl (If_f (by simp) (Wr_i64 (by omega) (by omega) ?_))
      refine IH r1 hn1 (by omega) hx fun f st2 t h2 f2 r2 hn2 q hf => ?_
      have k5' := f2.blk k5 n5
      have hD2 : ∀ d, (D d ∨ In h1.size h2.size d) → h.size ≤ d ∧ d < h2.size := fun d hd => by
        rcases hd with hd | hd
        · have := hD d hd; have := f2.1; omega
        · have := f1.1; exact ⟨by have := hd.1; omega, hd.2⟩
      have A2 : Acc D h.size h2 sl xs := A.fr f2 (fun d hd e => by have := hD d hd; omega) (fun d h1 _ e => by omega) (fun _ q => q) (fun _ q => .inl q)
      refine grow_e A2 hf (fun d hd => (hD2 d hd).2) (fun d hd => ⟨fun q => by have := hD d q; have := hd.1; omega, fun q => by have := (A.at q).2; have := hd.1; omega⟩) (by have := f1.1; have := f2.1; omega) k5' (i := 6) rfl (by omega) fun s' h4 f4 A4 => ?_
      have k5 := f4.blk k5' (fun q => by have := q.2; omega)
      have k4 := f4.blk (f2.blk k4 n4) (fun q => by have := q.2; omega)
      refine St_i k5 (by simp) rfl fun h5 o5 k5 => ?_
      have f15 : Tn (fun d => d = p ∨ d = b4 ∨ d = b5) h h5 := ((f1.trans (f2.mono fun d hd _ => .inl hd)).trans' f4 (fun d hd hlt => by have := hd.2; omega)).trans' o5.fr fun d hd _ => .inr (.inr hd)
      have r4 := r2.tn f4 (fun q => by have := q.2; omega) (fun d q => by have := q.2; have := r.g.1; omega)
      refine Wr_i64 (by omega) (by omega) (hN _ _ ⟨i + 1, xs ++ [f], s', st2, _, by simp, by omega, by simp [hxs], f15, r4.fr o5.fr n5 l5, hn2, by simpa using k5, o5.blk k4 n45, A4.fr o5.fr (fun d hd e => by have := hD2 d hd; omega) (fun d h1 _ e => by omega) (fun _ q => q) (fun _ q => .inl q), fun d hd => ?_, eq.snoc (by omega) q⟩ (by omega))
      have := hD2 d hd
      have := f4.1; have := o5.1
      omega
  · simp only [decide_eq_true_eq, decide_eq_false_iff_not, beq_iff_eq, beq_eq_false_iff_ne, ne_eq, reduceCtorEq, true_iff, false_iff, Bool.not_eq_true', Bool.not_eq_false', bne_iff_ne, bne_eq_false_iff_eq, Bool.not_true, Bool.not_false, Decidable.not_not] at c1
    have : i = c := by omega
    subst this
    exact copy7 k4 rfl k5 (fin eq.done)
end Go.Proofs.YtfomkkdijjfpiaaDoor
