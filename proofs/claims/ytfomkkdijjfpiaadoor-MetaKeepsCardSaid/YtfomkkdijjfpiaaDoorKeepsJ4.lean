import Derived.Test.YtfomkkdijjfpiaaDoorKeepsJ3
import Derived.Test.YtfomkkdijjfpiaaDoorKeepsS6
import Derived.Test.YtfomkkdijjfpiaaDoorKeepsS7
import Derived.Test.YtfomkkdijjfpiaaDoorKeepsJ2
set_option linter.unusedSimpArgs false
set_option linter.unusedVariables false
/- The document's reader: a field. -/
namespace Go.Proofs.YtfomkkdijjfpiaaDoor
open Go Go.Sh Go.WideShapes
def midE (l : List UInt8) (k : Nat) (st : Ste) : (Nat × Nat × Nat × Nat) × Ste :=
  if k = 14 then (((numE l 2 st).1, 0, 0, 0), (numE l 2 st).2)
  else if k = 16 then (((numE l 2 st).1, 0, 0, 1), (numE l 2 st).2)
  else if k = 19 then ((0, (numE l 2 st).1, (numE l 1 (numE l 2 st).2).1, 1), (numE l 1 (numE l 2 st).2).2)
  else if k = 17 ∨ k = 18 then ((0, 0, 0, (numE l 1 st).1), (numE l 1 st).2)
  else if k = 15 ∨ k = 20 then ((0, 0, 0, 1), st)
  else ((0, 0, 0, 0), st)
section
variable {l : List UInt8} {w lo hi k a a' n x : Nat} {e : Er} {y : ByteArray} {st : Ste}
theorem numE_err (h : numD l w a = .error e) : numE l w (.ok (a, n)) = (0, .error e) := by simp only [numE, h]
theorem numE_ok (h : numD l w a = .ok (x, a')) : numE l w (.ok (a, n)) = (x, .ok (a', n)) := by simp only [numE, h]
theorem numE_stay : numE l w (.error e) = (0, .error e) := rfl
theorem amongE_err (h : amongD l lo hi a = .error e) : (amongE l lo hi (.ok (a, n))).2 = .error e := by
  unfold amongD at h
  cases hq : numD l 1 a with
  | error e' => rw [hq] at h; cases h; simp only [amongE, hq]
  | ok z =>
    obtain ⟨z, a1⟩ := z
    rw [hq] at h
    simp only at h
    simp only [amongE, hq]
    split at h <;> cases h
    rename_i c; rw [if_neg c]
theorem amongE_ok (h : amongD l lo hi a = .ok (x, a')) : amongE l lo hi (.ok (a, n)) = (x, .ok (a', n)) := by
  unfold amongD at h
  cases hq : numD l 1 a with
  | error e' => rw [hq] at h; cases h
  | ok z =>
    obtain ⟨z, a1⟩ := z
    rw [hq] at h
    simp only at h
    simp only [amongE, hq]
    split at h <;> cases h
    rename_i c; rw [if_pos c]
theorem amongE_stay : amongE l lo hi (.error e) = (0, .error e) := rfl
theorem textE_err (h : textD l w a = .error e) : (textE l w (.ok (a, n))).2 = .error e := by
  unfold textD at h
  cases hq : numD l w a with
  | error e' => rw [hq] at h; cases h; simp only [textE, numE, hq, takeE]
  | ok z =>
    obtain ⟨z, a1⟩ := z
    rw [hq] at h
    simp only at h
    simp only [textE, numE, hq, takeE]
    cases ht : takeD l z a1 with
    | error e' => rw [ht] at h; cases h; rfl
    | ok y => rw [ht] at h; cases h
theorem textE_ok (h : textD l w a = .ok (y, a')) : textE l w (.ok (a, n)) = (y, .ok (a', n)) := by
  unfold textD at h
  cases hq : numD l w a with
  | error e' => rw [hq] at h; cases h
  | ok z =>
    obtain ⟨z, a1⟩ := z
    rw [hq] at h
    simp only at h
    simp only [textE, numE, hq, takeE]
    cases ht : takeD l z a1 with
    | error e' => rw [ht] at h; cases h
    | ok y => rw [ht] at h; cases h; rfl
theorem textE_stay : textE l w (.error e) = (bs [], .error e) := rfl
theorem midE_stay : (midE l k (.error e)).2 = .error e := by
  unfold midE; simp only [numE_stay]
  split; rfl
  split; rfl
  split; rfl
  split; rfl
  split <;> rfl
theorem midE_err (h : midD l k a = .error e) : (midE l k (.ok (a, n))).2 = .error e := by
  unfold midD at h
  unfold midE
  split at h
  · rename_i c; rw [if_pos c]
    cases hq : numD l 2 a with
    | error e' => rw [hq] at h; cases h; rw [numE_err hq]
    | ok z => rw [hq] at h; cases h
  rename_i c; rw [if_neg c]
  split at h
  · rename_i c; rw [if_pos c]
    cases hq : numD l 2 a with
    | error e' => rw [hq] at h; cases h; rw [numE_err hq]
    | ok z => rw [hq] at h; cases h
  rename_i c; rw [if_neg c]
  split at h
  · rename_i c; rw [if_pos c]
    cases hq : numD l 2 a with
    | error e' => rw [hq] at h; cases h; rw [numE_err hq]; rfl
    | ok z =>
      obtain ⟨z, a1⟩ := z
      rw [hq] at h
      simp only at h
      rw [numE_ok hq]
      cases hq2 : numD l 1 a1 with
      | error e' => rw [hq2] at h; cases h; simp only [numE_err hq2]
      | ok z => rw [hq2] at h; cases h
  rename_i c; rw [if_neg c]
  split at h
  · rename_i c; rw [if_pos c]
    cases hq : numD l 1 a with
    | error e' => rw [hq] at h; cases h; rw [numE_err hq]
    | ok z => rw [hq] at h; cases h
  split at h <;> cases h
theorem midE_ok {m : Nat × Nat × Nat × Nat} (h : midD l k a = .ok (m, a')) : midE l k (.ok (a, n)) = (m, .ok (a', n)) := by
  unfold midD at h
  unfold midE
  split at h
  · rename_i c; rw [if_pos c]
    cases hq : numD l 2 a with
    | error e' => rw [hq] at h; cases h
    | ok z => rw [hq] at h; cases h; rw [numE_ok hq]
  rename_i c; rw [if_neg c]
  split at h
  · rename_i c; rw [if_pos c]
    cases hq : numD l 2 a with
    | error e' => rw [hq] at h; cases h
    | ok z => rw [hq] at h; cases h; rw [numE_ok hq]
  rename_i c; rw [if_neg c]
  split at h
  · rename_i c; rw [if_pos c]
    cases hq : numD l 2 a with
    | error e' => rw [hq] at h; cases h
    | ok z =>
      obtain ⟨z, a1⟩ := z
      rw [hq] at h
      simp only at h
      rw [numE_ok hq]
      cases hq2 : numD l 1 a1 with
      | error e' => rw [hq2] at h; cases h
      | ok z => rw [hq2] at h; cases h; simp only [numE_ok hq2]
  rename_i c; rw [if_neg c]
  split at h
  · rename_i c; rw [if_pos c]
    cases hq : numD l 1 a with
    | error e' => rw [hq] at h; cases h
    | ok z => rw [hq] at h; cases h; rw [numE_ok hq]
  rename_i c; rw [if_neg c]
  split at h
  · rename_i c; rw [if_pos c]; cases h; rfl
  · rename_i c; rw [if_neg c]; cases h; rfl
theorem stn_take (h : stn st) : stn (takeE l n st).2 := by
  cases st with
  | error e => trivial
  | ok am =>
    obtain ⟨a, m⟩ := am
    simp only [takeE]
    cases takeD l n a with
    | error e => trivial
    | ok y => exact h
theorem stn_num (h : stn st) : stn (numE l w st).2 := by rw [numE_eq]; exact stn_take h
theorem stn_text (h : stn st) : stn (textE l w st).2 := stn_take (stn_num h)
theorem stn_among (h : stn st) : stn (amongE l lo hi st).2 := by
  cases st with
  | error e => trivial
  | ok am =>
    obtain ⟨a, m⟩ := am
    simp only [amongE]
    cases numD l 1 a with
    | error e => trivial
    | ok y => simp only; split; exact h; trivial
theorem stn_mid (h : stn st) : stn (midE l k st).2 := by
  unfold midE
  split; exact stn_num h
  split; exact stn_num h
  split; exact stn_num (stn_num h)
  split; exact stn_num h
  split <;> exact h
theorem midE_lt : (midE l k st).1.2.2.2 < 256 := by
  unfold midE
  split; exact (by decide : 0 < 256)
  split; exact (by decide : 1 < 256)
  split; exact (by decide : 1 < 256)
  split; exact numE_lt (w := 1)
  split
  · exact (by decide : 1 < 256)
  · exact (by decide : 0 < 256)
end
/-- a field, read in one go -/
theorem field_chain {l : List UInt8} {fuel a n : Nat} {cs : List Fld} {st5 : Ste} (hn : n + 1 ≤ 256) (r : Rel (repD (fieldD l fuel) (midE l (amongE l 1 20 (amongE l 0 1 (textE l 1 (.ok (a, n + 1))).2).2).1 (amongE l 1 20 (amongE l 0 1 (textE l 1 (.ok (a, n + 1))).2).2).2).1.2.2.2) (midE l (amongE l 1 20 (amongE l 0 1 (textE l 1 (.ok (a, n + 1))).2).2).1 (amongE l 1 20 (amongE l 0 1 (textE l 1 (.ok (a, n + 1))).2).2).2).2 cs st5) :
    Rel (fieldD l (fuel + 1)) (.ok (a, n)) (.mk (textE l 1 (.ok (a, n + 1))).1 ((amongE l 0 1 (textE l 1 (.ok (a, n + 1))).2).1 == 1) ((amongE l 1 20 (amongE l 0 1 (textE l 1 (.ok (a, n + 1))).2).2).1 : Nat) ((midE l (amongE l 1 20 (amongE l 0 1 (textE l 1 (.ok (a, n + 1))).2).2).1 (amongE l 1 20 (amongE l 0 1 (textE l 1 (.ok (a, n + 1))).2).2).2).1.1 : Nat) ((midE l (amongE l 1 20 (amongE l 0 1 (textE l 1 (.ok (a, n + 1))).2).2).1 (amongE l 1 20 (amongE l 0 1 (textE l 1 (.ok (a, n + 1))).2).2).2).1.2.1 : Nat) ((midE l (amongE l 1 20 (amongE l 0 1 (textE l 1 (.ok (a, n + 1))).2).2).1 (amongE l 1 20 (amongE l 0 1 (textE l 1 (.ok (a, n + 1))).2).2).2).1.2.2.1 : Nat) cs) st5 := by
  unfold Rel
  simp only
  rw [show fieldD l (fuel + 1) a n = _ by unfold fieldD; exact if_neg (by omega)]
  cases q1 : textD l 1 a with
  | error e => rw [textE_err q1, amongE_stay, amongE_stay, midE_stay] at r; exact r
  | ok y =>
    obtain ⟨nm, a1⟩ := y
    rw [textE_ok q1] at r ⊢
    simp only at r ⊢
    cases q2 : amongD l 0 1 a1 with
    | error e => rw [amongE_err q2, amongE_stay, midE_stay] at r; exact r
    | ok y =>
      obtain ⟨nul, a2⟩ := y
      rw [amongE_ok q2] at r ⊢
      simp only at r ⊢
      cases q3 : amongD l 1 20 a2 with
      | error e => rw [amongE_err q3, midE_stay] at r; exact r
      | ok y =>
        obtain ⟨k, a3⟩ := y
        rw [amongE_ok q3] at r ⊢
        simp only at r ⊢
        cases q4 : midD l k a3 with
        | error e => rw [midE_err q4] at r; exact r
        | ok y =>
          obtain ⟨⟨w, i, x, c⟩, a4⟩ := y
          rw [midE_ok q4] at r ⊢
          simp only [Rel] at r ⊢
          cases q5 : repD (fieldD l fuel) c a4 (n + 1) with
          | error e => rw [q5] at r; exact r
          | ok y =>
            obtain ⟨xs, a5, n5⟩ := y
            rw [q5] at r
            obtain ⟨rfl, rfl⟩ := r
            exact ⟨rfl, rfl⟩
end Go.Proofs.YtfomkkdijjfpiaaDoor
/- The document's reader: a field, the walk. -/
namespace Go.Proofs.YtfomkkdijjfpiaaDoor
open Go Go.Sh Go.WideShapes
theorem field_e {h0 : Hp} {p : Nat} {s : Sl} {l : List UInt8} : ∀ fuel : Nat, FieldE h0 p s l fuel := by
  intro fuel
  induction fuel with
  | zero =>
    intro h st x K Kp r hn hfu hx hk
    refine Fn48.of ?_
    unfold S48
    refine New_i fun b4 h1 e1 g1 k4 _ => New_i fun b5 h2 e2 g2 k5 _ => ?_
    have ip := r.lt
    have s1 := g1.1
    have s2 := g2.1
    have hg := r.g.1
    have r2 := (r.grw g1).grw g2
    have k4 := k4.grw g2
    have i4 := k4.lt
    have f2 : Tn (· = p) h h2 := Tn.of_grw (Grw.trans g1 g2)
    have n45 : b4 ≠ b5 := by omega
    simp only [NN_some, add_blk, Nat.zero_add]
    have fin : ∀ h3 st', Tn (· = p) h2 h3 → Re h0 p s l h3 st' → stn st' → Rel (fieldD l 0) st (.mk (bs []) false 0 0 0 0 []) st' → ∀ h', Only b4 h3 h' → K (bs []) false 0 0 0 0 Sl.nil h' := fun h3 st' f3 r3 hn3 q h' o => by
      refine hk (.mk (bs []) false 0 0 0 0 []) st' Sl.nil h' (((f2.trans f3).trans' o.fr fun d hd hlt => by omega)) (r3.fr o.fr (by omega) (by omega)) hn3 q (by simp only [Fld.cs]; unfold FsD; rfl)
    cases st with
    | error e =>
      obtain ⟨he, a, m, kp⟩ := r2.err
      exact Ld_blk kp rfl (If_t (by simp [he]) (copy7 k4 rfl k5 (fin h2 (.error e) (Tn.refl _ _) r2 trivial rfl)))
    | ok am =>
      obtain ⟨a, n⟩ := am
      obtain ⟨kp, ha⟩ := r2.okk
      have hn : n ≤ 256 := hn
      refine Ld_blk kp rfl (If_f (by simp) (Ld_blk kp rfl (Wr_i64 (by omega) (by omega) (St_i kp (by simp) rfl fun h3 o3 kp => ?_))))
      have kp : Blk h3 p #[Sl.v s, .int .i64 a, .int .i64 ((n + 1 : Nat) : Int), .int .i64 0, .slice none 0 0, .int .i64 0] 77 := by simpa using kp
      have r3 : Re h0 p s l h3 (.ok (a, n + 1)) := ⟨⟨_, rfl, kp⟩, Tn.old r.hp r2.g o3.fr, r.hp, r.sv, r.hl, ha⟩
      have k4 := o3.blk k4 (by omega)
      have k5 := o3.blk k5 (by omega)
      have w : Fn35 (some ⟨p, 0, none⟩) (50 : Int) a h3 (fun h4 => K (bs []) false 0 0 0 0 Sl.nil h4 → True) Kp → True := fun _ => trivial
      refine Ld_blk kp rfl (If_i (fun c => Ld_blk kp rfl ?_) fun c => If_t (by simp only [decide_eq_true_eq, decide_eq_false_iff_not, beq_iff_eq, beq_eq_false_iff_ne, ne_eq, reduceCtorEq, true_iff, false_iff, Bool.not_eq_true', Bool.not_eq_false', bne_iff_ne, bne_eq_false_iff_eq, Bool.not_true, Bool.not_false, Decidable.not_not]; omega) (Ld_blk kp rfl ?_))
      all_goals
        refine wrong_e r3 (by omega) fun h4 f4 r4 => ?_
        exact copy7 (f4.blk k4 (by omega)) rfl (f4.blk k5 (by omega)) (fin h4 _ (o3.fr.trans f4) r4 trivial (by unfold Rel; simp only [fieldD]))
  | succ fuel IH =>
    intro h st x K Kp r hn hfu hx hk
    refine Fn48.of ?_
    unfold S48
    refine New_i fun b4 h1 e1 g1 k4 _ => New_i fun b5 h2 e2 g2 k5 _ => ?_
    have ip := r.lt
    have s1 := g1.1
    have s2 := g2.1
    have hg := r.g.1
    have r2 := (r.grw g1).grw g2
    have k4 := k4.grw g2
    have i4 := k4.lt
    have f2 : Tn (· = p) h h2 := Tn.of_grw (Grw.trans g1 g2)
    have n45 : b4 ≠ b5 := by omega
    have n4 : b4 ≠ p := by omega
    have n5 : b5 ≠ p := by omega
    have l4 : h0.size ≤ b4 := by omega
    have l5 : h0.size ≤ b5 := by omega
    simp only [NN_some, add_blk, Nat.zero_add]
    have fin : ∀ h3 st', Tn (· = p) h2 h3 → Re h0 p s l h3 st' → stn st' → Rel (fieldD l (fuel + 1)) st (.mk (bs []) false 0 0 0 0 []) st' → ∀ h', Only b4 h3 h' → K (bs []) false 0 0 0 0 Sl.nil h' := fun h3 st' f3 r3 hn3 q h' o => by
      refine hk (.mk (bs []) false 0 0 0 0 []) st' Sl.nil h' (((f2.trans f3).trans' o.fr fun d hd hlt => by omega)) (r3.fr o.fr (by omega) (by omega)) hn3 q (by simp only [Fld.cs]; unfold FsD; rfl)
    cases st with
    | error e =>
      obtain ⟨he, a, m, kp⟩ := r2.err
      exact Ld_blk kp rfl (If_t (by simp [he]) (copy7 k4 rfl k5 (fin h2 (.error e) (Tn.refl _ _) r2 trivial rfl)))
    | ok am =>
      obtain ⟨a, n⟩ := am
      obtain ⟨kp, ha⟩ := r2.okk
      have hn : n ≤ 256 := hn
      refine Ld_blk kp rfl (If_f (by simp) (Ld_blk kp rfl (Wr_i64 (by omega) (by omega) (St_i kp (by simp) rfl fun h3 o3 kp => ?_))))
      have kp : Blk h3 p #[Sl.v s, .int .i64 a, .int .i64 ((n + 1 : Nat) : Int), .int .i64 0, .slice none 0 0, .int .i64 0] 77 := by simpa using kp
      have r3 : Re h0 p s l h3 (.ok (a, n + 1)) := ⟨⟨_, rfl, kp⟩, Tn.old r.hp r2.g o3.fr, r.hp, r.sv, r.hl, ha⟩
      have k4 := o3.blk k4 (by omega)
      have k5 := o3.blk k5 (by omega)
      have f3 : Tn (fun d => d = p ∨ d = b4 ∨ d = b5) h h3 := (f2.trans o3.fr).mono fun d hd _ => .inl hd
      refine Ld_blk kp rfl (If_i (fun c => Ld_blk kp rfl ?_) fun c => If_f (by simp only [decide_eq_true_eq, decide_eq_false_iff_not, beq_iff_eq, beq_eq_false_iff_ne, ne_eq, reduceCtorEq, true_iff, false_iff, Bool.not_eq_true', Bool.not_eq_false', bne_iff_ne, bne_eq_false_iff_eq, Bool.not_true, Bool.not_false, Decidable.not_not]; omega) ?_)
      · simp only [decide_eq_true_eq, decide_eq_false_iff_not, beq_iff_eq, beq_eq_false_iff_ne, ne_eq, reduceCtorEq, true_iff, false_iff, Bool.not_eq_true', Bool.not_eq_false', bne_iff_ne, bne_eq_false_iff_eq, Bool.not_true, Bool.not_false, Decidable.not_not] at c
        refine wrong_e r3 (by omega) fun h4 f4 r4 => ?_
        exact copy7 (f4.blk k4 (by omega)) rfl (f4.blk k5 (by omega)) (fin h4 _ (o3.fr.trans f4) r4 trivial (by unfold Rel; simp only; rw [show fieldD l (fuel + 1) a n = .error (50, (a : Int)) by unfold fieldD; exact if_pos (by omega)]))
      simp only [decide_eq_true_eq, decide_eq_false_iff_not, beq_iff_eq, beq_eq_false_iff_ne, ne_eq, reduceCtorEq, true_iff, false_iff, Bool.not_eq_true', Bool.not_eq_false', bne_iff_ne, bne_eq_false_iff_eq, Bool.not_true, Bool.not_false, Decidable.not_not] at c
      have hn3 : stn (.ok (a, n + 1)) := by show n + 1 ≤ 256; omega
      have key := @field_chain l fuel a n
      have key := fun cs st5 => @key cs st5 (by omega)
      have hx1 : x + 1 = 64 - (fuel : Int) := by omega
      generalize (Except.ok (a, n + 1) : Ste) = st0 at r3 hn3 key
      clear kp fin ha c
      refine J48_1.of ?_
      unfold JT48_1
      simp only [add_blk, Nat.reduceAdd]
      refine text_e (w := 1) r3 rfl (by omega) fun h4 f4 r4 => ?_
      have hn4 := stn_text (l := l) (w := 1) hn3
      have k4 := f4.blk k4 n4
      have k5 := f4.blk k5 n5
      have f4 : Tn (fun d => d = p ∨ d = b4 ∨ d = b5) h h4 := f3.trans (f4.mono fun d hd _ => .inl hd)
      generalize textE l 1 st0 = q1 at r4 hn4 key ⊢
      refine St_i k5 (by simp) rfl fun h5 o5 k5 => ?_
      have k4 := o5.blk k4 n45
      have r5 := r4.fr o5.fr n5 l5
      have f5 : Tn (fun d => d = p ∨ d = b4 ∨ d = b5) h h5 := f4.trans (o5.fr.mono fun d hd _ => .inr (.inr hd))
      refine within_e (lo := 0) (hi := 1) r5 rfl rfl fun h6 f6 r6 => ?_
      have hn6 := stn_among (l := l) (lo := 0) (hi := 1) hn4
      have k4 := f6.blk k4 n4
      have k5 := f6.blk k5 n5
      have f6 : Tn (fun d => d = p ∨ d = b4 ∨ d = b5) h h6 := f5.trans (f6.mono fun d hd _ => .inl hd)
      generalize amongE l 0 1 q1.2 = q2 at r6 hn6 key ⊢
      refine St_i k5 (by simp) rfl fun h7 o7 k5 => ?_
      have k4 := o7.blk k4 n45
      have r7 := r6.fr o7.fr n5 l5
      have f7 : Tn (fun d => d = p ∨ d = b4 ∨ d = b5) h h7 := f6.trans (o7.fr.mono fun d hd _ => .inr (.inr hd))
      refine within_e (lo := 1) (hi := 20) r7 rfl rfl fun h8 f8 r8 => ?_
      have hn8 := stn_among (l := l) (lo := 1) (hi := 20) hn6
      have k4 := f8.blk k4 n4
      have k5 := f8.blk k5 n5
      have f8 : Tn (fun d => d = p ∨ d = b4 ∨ d = b5) h h8 := f7.trans (f8.mono fun d hd _ => .inl hd)
      generalize amongE l 1 20 q2.2 = q3 at r8 hn8 key ⊢
      refine St_i k5 (by simp) rfl fun h9 o9 k5 => ?_
      have k4 := o9.blk k4 n45
      have r9 := r8.fr o9.fr n5 l5
      have f9 : Tn (fun d => d = p ∨ d = b4 ∨ d = b5) h h9 := f8.trans (o9.fr.mono fun d hd _ => .inr (.inr hd))
      have e2 : ((q2.1 : Int) == 1) = (q2.1 == 1) := by
        rw [Bool.eq_iff_iff, beq_iff_eq, beq_iff_eq]; omega
      have k5 : B63 h9 b5 q1.1 (q2.1 == 1) q3.1 0 0 0 Sl.nil := by rw [← e2]; simp at k5; exact k5
      obtain ⟨k, st3⟩ := q3
      simp only at key r9 hn8 k5 ⊢
      have hm := stn_mid (l := l) (k := k) hn8
      have hc := midE_lt (l := l) (k := k) (st := st3)
      have leaf : ∀ (w i x' c : Nat) st' h', Tn (fun d => d = p ∨ d = b4 ∨ d = b5) h9 h' → Re h0 p s l h' st' → B63 h' b5 q1.1 (q2.1 == 1) k w i x' Sl.nil → midE l k st3 = ((w, i, x', c), st') → J48_2 (some ⟨p, 0, none⟩) x ⟨b4, 0, none⟩ ⟨b5, 0, none⟩ (c : Int) K Kp h' → True := fun _ _ _ _ _ _ _ _ _ _ _ => trivial
      have leaf : ∀ (w i x' c : Nat) st' h', Tn (fun d => d = p ∨ d = b5) h9 h' → Re h0 p s l h' st' → B63 h' b5 q1.1 (q2.1 == 1) k w i x' Sl.nil → midE l k st3 = ((w, i, x', c), st') → J48_2 (some ⟨p, 0, none⟩) x ⟨b4, 0, none⟩ ⟨b5, 0, none⟩ (c : Int) K Kp h' := by
        intro w i x' c st' h' f r' k5 e
        rw [e] at hm hc key
        refine childE IH (by omega) r' hm hx1 hc rfl (f.blk k4 (by omega)) k5 n45 n4 n5 l4 l5 fun cs st5 t h'' f' r'' hn' q hfs => ?_
        refine hk (.mk q1.1 (q2.1 == 1) k w i x' cs) st5 t h'' ((((f9.trans' f fun d hd _ => by omega).trans f').mono fun d hd hlt => by omega)) r'' hn' (key cs st5 q) (FsD.fr (S := No) (Tn.refl _ _) (fun d hd => ⟨fun q => q, ?_⟩) cs hfs)
        have := hd.1; have := hd.2; have := f9.1; have := f.1
        exact ⟨by omega, by omega⟩
      refine Ld_blk k5 rfl ?_
      have fp : ∀ {h h' : Hp}, Tn (· = p) h h' → Tn (fun d => d = p ∨ d = b5) h h' := fun f => f.mono fun d hd _ => .inl hd
      have num17 : (k = 17 ∨ k = 18) → Fn33 (some ⟨p, 0, none⟩) 1 h9 (fun t81 h7 => J48_2 (some ⟨p, 0, none⟩) x ⟨b4, 0, none⟩ ⟨b5, 0, none⟩ t81 K Kp h7) Kp := fun c => by
        refine number_e (w := 1) r9 rfl (by omega) fun h10 f10 r10 => ?_
        exact leaf 0 0 0 _ _ h10 (fp f10) r10 (f10.blk k5 n5) (by unfold midE; rw [if_neg (by omega), if_neg (by omega), if_neg (by omega), if_pos c])
      have one : k = 15 ∨ k = 20 → J48_2 (some ⟨p, 0, none⟩) x ⟨b4, 0, none⟩ ⟨b5, 0, none⟩ 1 K Kp h9 := fun c =>
        leaf 0 0 0 1 _ h9 (Tn.refl _ _) r9 k5 (by unfold midE; rw [if_neg (by omega), if_neg (by omega), if_neg (by omega), if_neg (by omega), if_pos c])
      have zero : ¬ (k = 14 ∨ k = 15 ∨ k = 16 ∨ k = 17 ∨ k = 18 ∨ k = 19 ∨ k = 20) → J48_2 (some ⟨p, 0, none⟩) x ⟨b4, 0, none⟩ ⟨b5, 0, none⟩ 0 K Kp h9 := fun c =>
        leaf 0 0 0 0 _ h9 (Tn.refl _ _) r9 k5 (by unfold midE; rw [if_neg (by omega), if_neg (by omega), if_neg (by omega), if_neg (by omega), if_neg (by omega)])
      refine If_i (fun c => ?_) fun c14 => If_i (fun c => ?_) fun c16 => If_i (fun c => ?_) fun c19 => If_i (fun c => If_t c (num17 ?_)) fun c17 => If_i (fun c => num17 ?_) fun c18 => If_i (fun c => If_t c (one ?_)) fun c15 => If_i (fun c => one ?_) fun c20 => zero ?_
      · simp only [decide_eq_true_eq, decide_eq_false_iff_not, beq_iff_eq, beq_eq_false_iff_ne, ne_eq, reduceCtorEq, true_iff, false_iff, Bool.not_eq_true', Bool.not_eq_false', bne_iff_ne, bne_eq_false_iff_eq, Bool.not_true, Bool.not_false, Decidable.not_not] at c
        refine number_e (w := 2) r9 rfl (by omega) fun h10 f10 r10 => St_i (f10.blk k5 n5) (by simp) rfl fun h11 o11 k5 => ?_
        exact leaf _ 0 0 0 _ h11 ((fp f10).trans (o11.fr.mono fun d hd _ => .inr hd)) (r10.fr o11.fr n5 l5) (by simp at k5; exact k5) (by unfold midE; rw [if_pos (by omega)])
      · simp only [decide_eq_true_eq, decide_eq_false_iff_not, beq_iff_eq, beq_eq_false_iff_ne, ne_eq, reduceCtorEq, true_iff, false_iff, Bool.not_eq_true', Bool.not_eq_false', bne_iff_ne, bne_eq_false_iff_eq, Bool.not_true, Bool.not_false, Decidable.not_not] at c c14
        refine number_e (w := 2) r9 rfl (by omega) fun h10 f10 r10 => St_i (f10.blk k5 n5) (by simp) rfl fun h11 o11 k5 => ?_
        exact leaf _ 0 0 1 _ h11 ((fp f10).trans (o11.fr.mono fun d hd _ => .inr hd)) (r10.fr o11.fr n5 l5) (by simp at k5; exact k5) (by unfold midE; rw [if_neg (by omega), if_pos (by omega)])
      · simp only [decide_eq_true_eq, decide_eq_false_iff_not, beq_iff_eq, beq_eq_false_iff_ne, ne_eq, reduceCtorEq, true_iff, false_iff, Bool.not_eq_true', Bool.not_eq_false', bne_iff_ne, bne_eq_false_iff_eq, Bool.not_true, Bool.not_false, Decidable.not_not] at c c14 c16
        refine number_e (w := 2) r9 rfl (by omega) fun h10 f10 r10 => St_i (f10.blk k5 n5) (by simp) rfl fun h11 o11 k5 => ?_
        refine number_e (w := 1) (r10.fr o11.fr n5 l5) rfl (by omega) fun h12 f12 r12 => St_i (f12.blk k5 n5) (by simp) rfl fun h13 o13 k5 => ?_
        exact leaf 0 _ _ 1 _ h13 ((((fp f10).trans (o11.fr.mono fun d hd _ => .inr hd)).trans (fp f12)).trans (o13.fr.mono fun d hd _ => .inr hd)) (r12.fr o13.fr n5 l5) (by simp at k5; exact k5) (by unfold midE; rw [if_neg (by omega), if_neg (by omega), if_pos (by omega)])
      all_goals simp only [decide_eq_true_eq, decide_eq_false_iff_not, beq_iff_eq, beq_eq_false_iff_ne, ne_eq, reduceCtorEq, true_iff, false_iff, Bool.not_eq_true', Bool.not_eq_false', bne_iff_ne, bne_eq_false_iff_eq, Bool.not_true, Bool.not_false, Decidable.not_not] at *
      all_goals omega
end Go.Proofs.YtfomkkdijjfpiaaDoor
/- The document's reader: a schema. -/
namespace Go.Proofs.YtfomkkdijjfpiaaDoor
open Go Go.Sh Go.WideShapes
theorem copy2 {h : Hp} {b2 b3 : Nat} {t1 t2 : Sl} {cs : Array Value} {K : Sl → Sl → HP} (k2 : Blk h b2 cs 25) (hc : cs.size = 2) (k3 : B25 h b3 t1 t2) (hk : ∀ h', Only b2 h h' → K t1 t2 h') :
    Ld h ⟨b3, 0, none⟩ (Sl.v) fun t0 => Ld h ⟨b3, 1, none⟩ (Sl.v) fun t1 => St h ⟨b2, 0, none⟩ (Sl.v t0) fun h1 => St h1 ⟨b2, 1, none⟩ (Sl.v t1) fun h2 => Ld h2 ⟨b2, 0, none⟩ (Sl.v) fun r0 => Ld h2 ⟨b2, 1, none⟩ (Sl.v) fun r1 => K r0 r1 h2 := by
  obtain ⟨v0, v1, e⟩ := len2 (l := cs.toList) (by simpa using hc)
  obtain rfl : cs = #[v0, v1] := by cases cs; simp_all
  refine Ld_blk k3 rfl (Ld_blk k3 rfl (St_i k2 (by simp) rfl fun h1 o1 k2 => St_i k2 (by simp) rfl fun h2 o2 k2 => ?_))
  have k2 : B25 h2 b2 t1 t2 := by simp at k2; exact k2
  exact Ld_blk k2 rfl (Ld_blk k2 rfl (hk h2 (o1.trans o2)))
theorem note_chain {l : List UInt8} {a n : Nat} : Rel (noteD l) (.ok (a, n)) ((textE l 2 (.ok (a, n))).1, (textE l 2 (textE l 2 (.ok (a, n))).2).1) (textE l 2 (textE l 2 (.ok (a, n))).2).2 := by
  unfold Rel
  simp only [noteD]
  cases q1 : textD l 2 a with
  | error e => rw [textE_err q1, textE_stay]
  | ok y =>
    obtain ⟨x, a1⟩ := y
    rw [textE_ok q1]
    simp only
    cases q2 : textD l 2 a1 with
    | error e => rw [textE_err q2]
    | ok y =>
      obtain ⟨z, a2⟩ := y
      rw [textE_ok q2]
      exact ⟨rfl, rfl⟩
theorem notesE {h0 : Hp} {p : Nat} {s : Sl} {l : List UInt8} {h : Hp} {st : Ste} {c b2 b3 : Nat} {y : Int} {t1 : Sl} {cs : Array Value} {K : Sl → Sl → HP} {Kp : PK} (r : Re h0 p s l h st) (hn : stn st) (hc : c < 65536) (hy : y = c)
    (k2 : Blk h b2 cs 25) (hcs : cs.size = 2) (k3 : B25 h b3 t1 Sl.nil) (n23 : b2 ≠ b3) (n2 : b2 ≠ p) (n3 : b3 ≠ p) (l2 : h0.size ≤ b2) (l3 : h0.size ≤ b3)
    (hk : ∀ ms st' t h', Tn (fun d => d = p ∨ d = b3 ∨ d = b2) h h' → Re h0 p s l h' st' → stn st' → Rel (repD (noteD l) c) st ms st' → Sh h.size h'.size 2 h' t (mdsV ms) 66 → K t1 t h') : L32_2 (some ⟨p, 0, none⟩) ⟨b2, 0, none⟩ ⟨b3, 0, none⟩ y K Kp 0 h := by
  subst hy
  have i2 := k2.lt
  have i3 := k3.lt
  have ip := r.lt
  refine L32_2.rule (fun z h1 => ∃ (i : Nat) (xs : List Md) (sl : Sl) (st' : Ste), z = i ∧ i ≤ c ∧ xs.length = i ∧ Tn (fun d => d = p ∨ d = b3) h h1 ∧ Re h0 p s l h1 st' ∧ stn st' ∧ B25 h1 b3 t1 sl ∧ Blk h1 b2 cs 25 ∧ Sh h.size h1.size 2 h1 sl (mdsV xs) 66 ∧ Mid (noteD l) c st xs i st') (fun z _ => c - z.toNat)
    ⟨0, [], Sl.nil, st, rfl, by omega, rfl, Tn.refl _ _, r, hn, k3, k2, Sh.nil _ _ _ _ _, Mid.start⟩ ?_
  rintro z h1 ⟨i, xs, sl, st1, rfl, hi, hxs, f1, r1, hn1, k3, k2, o1, eq⟩ N1 hN
  unfold T32_2
  simp only [add_blk, Nat.reduceAdd, NN_some, Nat.zero_add]
  have fin : Rel (repD (noteD l) c) st xs st1 → ∀ h', Only b2 h1 h' → K t1 sl h' := fun q h' o =>
    hk xs st1 sl h' ((f1.mono fun d hd _ => by omega).trans' o.fr fun d hd _ => .inr (.inr hd)) (r1.fr o.fr n2 l2) hn1 q ((o1.fr o.fr fun b hb _ e => by omega).wide (Nat.le_refl _) (by rw [o.1]; exact Nat.le_refl _))
  refine If_i (fun c1 => ?_) fun c1 => ?_
  · simp only [decide_eq_true_eq, decide_eq_false_iff_not, beq_iff_eq, beq_eq_false_iff_ne, ne_eq, reduceCtorEq, true_iff, false_iff, Bool.not_eq_true', Bool.not_eq_false', bne_iff_ne, bne_eq_false_iff_eq, Bool.not_true, Bool.not_false, Decidable.not_not] at c1
    cases st1 with
    | error e =>
      obtain ⟨he, a, m, kp⟩ := r1.err
      exact Ld_blk kp rfl (If_t (by simp [he]) (copy2 k2 hcs k3 (fin eq.stop)))
    | ok am =>
      obtain ⟨a1, n1⟩ := am
      refine Ld_blk r1.okk.1 rfl (If_f (by simp) ?_)
      have ch := note_chain (l := l) (a := a1) (n := n1)
      have hch := eq.snoc (by omega) ch
      clear ch
      refine New_i fun b8 h2 e8 g2 k8 _ => ?_
      have r2 := r1.grw g2
      have k3 := k3.grw g2
      have k2 := k2.grw g2
      have i1 := f1.1
      have n8 : b8 ≠ p := by omega
      refine text_e (w := 2) r2 rfl (by omega) fun h3 f3 r3 => ?_
      have hn3 := stn_text (l := l) (w := 2) hn1
      generalize textE l 2 (.ok (a1, n1)) = q1 at r3 hn3 hch ⊢
      refine St_i (f3.blk k8 n8) (by simp) rfl fun h4 o4 k8 => ?_
      refine text_e (w := 2) (r3.fr o4.fr n8 (by have := r.g.1; omega)) rfl (by omega) fun h5 f5 r5 => ?_
      have hn5 := stn_text (l := l) (w := 2) hn3
      generalize textE l 2 q1.2 = q2 at r5 hn5 hch ⊢
      have k8 := f5.blk k8 n8
      simp only [add_blk, Nat.reduceAdd]
      refine St_i k8 (by simp) rfl fun h6 o6 k8 => ?_
      have k8 : Blk h6 b8 #[.string q1.1, .string q2.1] 66 := by simp at k8; exact k8
      have f26 : Tn (fun d => d = p ∨ d = b8) h2 h6 := (((f3.mono fun d hd _ => .inl hd).trans' o4.fr fun d hd _ => .inr hd).trans' f5 fun d hd _ => .inl hd).trans' o6.fr fun d hd _ => .inr hd
      have r6 := r5.fr o6.fr n8 (by have := r.g.1; omega)
      have k3 := f26.blk k3 (by omega)
      have k2 := f26.blk k2 (by omega)
      refine Ld_blk k3 rfl (Ld_blk k8 rfl (Ld_blk k8 rfl ?_))
      refine New_i fun bx h7 ex g7 kx _ => ?_
      have o7 := (((o1.grw g2).fr f26 fun b hb h' e => by have := f1.1; omega).grw g7).wide (lo' := h.size) (hi' := h7.size) (Nat.le_refl _) (by have := g2.1; have := f26.1; have := g7.1; omega)
      have hln := o7.n
      rw [mdsV_len] at hln
      refine Ap_sh o7 (by have := g2.1; have := f26.1; have := g7.1; omega) rfl (new := mdRow (q1.1, q2.1)) rfl (by simp [mdRow, one]) (rd_blk kx rfl) (by omega) (by omega) fun s' h8 f8 at8 o8 hn8 => ?_
      have hb8 : ∀ d, sl.at d → h.size ≤ d := fun d hd => (o7.at hd).1
      have hb9 : ∀ d, sl.at d → d < h1.size := fun d hd => (o1.at hd).2
      have k3 := f8.blk (k3.grw g7) (fun q => by have := hb8 _ q; omega)
      have k2 := f8.blk (k2.grw g7) (fun q => by have := hb8 _ q; omega)
      refine St_i k3 (by simp) rfl fun h9 o9 k3 => ?_
      have k3 : B25 h9 b3 t1 s' := by simp at k3; exact k3
      have f19 : Tn (fun d => d = p ∨ d = b3) h h9 := ((((f1.trans' (Tn.of_grw (S := No) g2) fun _ q => q.elim).trans' f26 fun d hd hlt => by omega).trans' (Tn.of_grw (S := No) g7) fun _ q => q.elim).trans' f8 fun d hd hlt => by have := hb8 d hd; omega).trans' o9.fr fun d hd _ => .inr hd
      have r8 := (r6.grw g7).tn f8 (fun q => by have := hb8 _ q; omega) (fun d q => by have := hb8 d q; have := r.g.1; omega)
      refine Wr_i64 (by omega) (by omega) (hN _ _ ⟨i + 1, xs ++ [(q1.1, q2.1)], s', q2.2, by simp, by omega, by simp [hxs], f19, r8.fr o9.fr n3 l3, hn5, k3, o9.blk k2 n23, ?_, hch⟩ (by omega))
      rw [mdsV_snoc]
      exact (o8.fr o9.fr fun b hb _ e => by omega).wide (Nat.le_refl _) (by rw [o9.1]; exact Nat.le_refl _)
  · simp only [decide_eq_true_eq, decide_eq_false_iff_not, beq_iff_eq, beq_eq_false_iff_ne, ne_eq, reduceCtorEq, true_iff, false_iff, Bool.not_eq_true', Bool.not_eq_false', bne_iff_ne, bne_eq_false_iff_eq, Bool.not_true, Bool.not_false, Decidable.not_not] at c1
    have : i = c := by omega
    subst this
    exact copy2 k2 hcs k3 (fin eq.done)
theorem schema_chain {l : List UInt8} {st st2 st4 : Ste} {fs : List Fld} {ms : List Md} (r1 : Rel (repD (fieldD l 64) (numE l 2 st).1) (numE l 2 st).2 fs st2) (r2 : Rel (repD (noteD l) (numE l 2 st2).1) (numE l 2 st2).2 ms st4) : Rel (schemaD l) st (fs, ms) st4 := by
  cases st with
  | error e =>
    rw [numE_stay] at r1
    simp only [Rel] at r1 ⊢
    subst r1
    rw [numE_stay] at r2
    exact r2
  | ok am =>
    obtain ⟨a, n⟩ := am
    unfold Rel
    simp only [schemaD]
    have stop : ∀ e, st2 = .error e → st4 = .error e := fun e q => by subst q; rw [numE_stay] at r2; exact r2
    cases q1 : numD l 2 a with
    | error e =>
      rw [numE_err q1] at r1
      exact stop e r1
    | ok y =>
      obtain ⟨c, a1⟩ := y
      rw [numE_ok q1] at r1
      simp only [Rel] at r1 ⊢
      cases q2 : repD (fieldD l 64) c a1 n with
      | error e => rw [q2] at r1; exact stop e r1
      | ok y =>
        obtain ⟨xs, a2, n2⟩ := y
        rw [q2] at r1
        obtain ⟨rfl, rfl⟩ := r1
        simp only
        cases q3 : numD l 2 a2 with
        | error e => rw [numE_err q3] at r2; exact r2
        | ok y =>
          obtain ⟨c2, a3⟩ := y
          rw [numE_ok q3] at r2
          simp only [Rel] at r2 ⊢
          cases q4 : repD (noteD l) c2 a3 n2 with
          | error e => rw [q4] at r2; exact r2
          | ok y =>
            obtain ⟨ys, a4, n4⟩ := y
            rw [q4] at r2
            obtain ⟨rfl, rfl⟩ := r2
            exact ⟨rfl, rfl⟩
theorem schema_e {h0 : Hp} {p : Nat} {s : Sl} {l : List UInt8} {h : Hp} {st : Ste} {K : Sl → Sl → HP} {Kp : PK} (r : Re h0 p s l h st) (hn : stn st)
    (hk : ∀ fs ms st' t1 t2 h', Tn (· = p) h h' → Re h0 p s l h' st' → stn st' → Rel (schemaD l) st (fs, ms) st' → FsD (In h.size h'.size) h' t1 fs → Sh h.size h'.size 2 h' t2 (mdsV ms) 66 → K t1 t2 h') : Fn32 (some ⟨p, 0, none⟩) h K Kp := by
  refine Fn32.of ?_
  unfold S32
  refine New_i fun b2 h1 e1 g1 k2 _ => New_i fun b3 h2 e2 g2 k3 _ => ?_
  have ip := r.lt
  have s1 := g1.1
  have s2 := g2.1
  have hg := r.g.1
  have r2 := (r.grw g1).grw g2
  have k2 := k2.grw g2
  have i2 := k2.lt
  have f2 : Tn (· = p) h h2 := Tn.of_grw (Grw.trans g1 g2)
  have n23 : b2 ≠ b3 := by omega
  have n2 : b2 ≠ p := by omega
  have n3 : b3 ≠ p := by omega
  have l2 : h0.size ≤ b2 := by omega
  have l3 : h0.size ≤ b3 := by omega
  refine number_e (w := 2) r2 rfl (by omega) fun h3 f3 r3 => ?_
  have hn3 := stn_num (l := l) (w := 2) hn
  have hc3 := numE_lt (l := l) (w := 2) (st := st)
  have k2 := f3.blk k2 n2
  have k3 := f3.blk k3 n3
  have i3' := k3.lt
  have f3 := f2.trans f3
  have ch := fun fs ms st2 st4 => @schema_chain l st st2 st4 fs ms
  generalize numE l 2 st = q0 at r3 hn3 hc3 ch ⊢
  obtain ⟨c, st0⟩ := q0
  simp only at r3 hn3 hc3 ch ⊢
  have i3 := f3.1
  refine L32_3.rule (fun z h4 => ∃ (i : Nat) (xs : List Fld) (sl : Sl) (st' : Ste) (D : Nat → Prop), z = i ∧ i ≤ c ∧ xs.length = i ∧ Tn (fun d => d = p ∨ d = b3) h3 h4 ∧ Re h0 p s l h4 st' ∧ stn st' ∧ B25 h4 b3 sl Sl.nil ∧ B25 h4 b2 Sl.nil Sl.nil ∧
    Acc D h3.size h4 sl xs ∧ (∀ d, D d → h3.size ≤ d ∧ d < h4.size) ∧ Mid (fieldD l 64) c st0 xs i st') (fun z _ => c - z.toNat)
    ⟨0, [], Sl.nil, st0, No, rfl, by omega, rfl, Tn.refl _ _, r3, hn3, k3, k2, Acc.nil, fun _ q => q.elim, Mid.start⟩ ?_
  rintro z h4 ⟨i, xs, sl, st1, D, rfl, hi, hxs, f4, r4, hn4, k3, k2, A, hD, eq⟩ N1 hN
  unfold T32_3
  simp only [add_blk, Nat.reduceAdd, NN_some, Nat.zero_add]
  have f4' : Tn (fun d => d = p ∨ d = b3) h h4 := (f3.mono fun d hd _ => .inl hd).trans f4
  have hfs : ∀ {h'}, Tn (fun d => d = p ∨ d = b3 ∨ d = b2) h4 h' → FsD (In h.size h'.size) h' sl xs := fun {h'} f => by
    have := A.fsd (D' := In h3.size h4.size) (fun d hd => hD d hd) (fun d h1 h2 => ⟨h1, h2⟩)
    exact FsD.fr f (fun d hd => by have := hd.1; have := hd.2; have := f.1; exact ⟨fun q => by omega, by constructor <;> omega⟩) xs this
  refine If_i (fun c1 => ?_) fun c1 => ?_
  · simp only [decide_eq_true_eq, decide_eq_false_iff_not, beq_iff_eq, beq_eq_false_iff_ne, ne_eq, reduceCtorEq, true_iff, false_iff, Bool.not_eq_true', Bool.not_eq_false', bne_iff_ne, bne_eq_false_iff_eq, Bool.not_true, Bool.not_false, Decidable.not_not] at c1
    cases st1 with
    | error e =>
      obtain ⟨he, a, m, kp⟩ := r4.err
      refine Ld_blk kp rfl (If_t (by simp [he]) (copy2 k2 rfl k3 fun h5 o5 => ?_))
      exact hk xs [] (.error e) sl Sl.nil h5 ((f4'.trans' o5.fr fun d hd hlt => by omega).mono fun d hd hlt => by omega) (r4.fr o5.fr n2 l2) trivial (ch xs [] _ _ eq.stop rfl) (hfs (o5.fr.mono fun d hd _ => .inr (.inr hd))) (Sh.nil _ _ _ _ _)
    | ok am =>
      obtain ⟨a1, n1⟩ := am
      refine Ld_blk r4.okk.1 rfl (If_f (by simp) ?_)
      refine field_e 64 r4 hn4 (by omega) (by omega) fun f st2 t h5 f5 r5 hn5 q hf => ?_
      have k3' := f5.blk k3 n3
      have hD2 : ∀ d, (D d ∨ In h4.size h5.size d) → h3.size ≤ d ∧ d < h5.size := fun d hd => by
        rcases hd with hd | hd
        · have := hD d hd; have := f5.1; omega
        · have := f4.1; exact ⟨by have := hd.1; omega, hd.2⟩
      have A2 : Acc D h3.size h5 sl xs := A.fr f5 (fun d hd e => by have := hD d hd; omega) (fun d h1 _ e => by omega) (fun _ q => q) (fun _ q => .inl q)
      refine grow_e A2 hf (fun d hd => (hD2 d hd).2) (fun d hd => ⟨fun q => by have := hD d q; have := hd.1; omega, fun q => by have := (A.at q).2; have := hd.1; omega⟩) (by have := f4.1; have := f5.1; omega) k3' (i := 0) rfl (by omega) fun s' h6 f6 A6 => ?_
      have k3 := f6.blk k3' (fun q => by have := q.2; omega)
      have k2 := f6.blk (f5.blk k2 n2) (fun q => by have := q.2; omega)
      refine St_i k3 (by simp) rfl fun h7 o7 k3 => ?_
      have f17 : Tn (fun d => d = p ∨ d = b3) h3 h7 := ((f4.trans (f5.mono fun d hd _ => .inl hd)).trans' f6 (fun d hd hlt => by have := hd.2; omega)).trans' o7.fr fun d hd _ => .inr hd
      have r6 := r5.tn f6 (fun q => by have := q.2; omega) (fun d q => by have := q.2; have := r.g.1; omega)
      refine Wr_i64 (by omega) (by omega) (hN _ _ ⟨i + 1, xs ++ [f], s', st2, _, by simp, by omega, by simp [hxs], f17, r6.fr o7.fr n3 l3, hn5, by simpa using k3, o7.blk k2 n23, A6.fr o7.fr (fun d hd e => by have := hD2 d hd; omega) (fun d h1 _ e => by omega) (fun _ q => q) (fun _ q => .inl q), fun d hd => ?_, eq.snoc (by omega) q⟩ (by omega))
      have := hD2 d hd
      have := f6.1; have := o7.1
      omega
  · simp only [decide_eq_true_eq, decide_eq_false_iff_not, beq_iff_eq, beq_eq_false_iff_ne, ne_eq, reduceCtorEq, true_iff, false_iff, Bool.not_eq_true', Bool.not_eq_false', bne_iff_ne, bne_eq_false_iff_eq, Bool.not_true, Bool.not_false, Decidable.not_not] at c1
    have : i = c := by omega
    subst this
    refine J32_1.of ?_
    unfold JT32_1
    have q1 := eq.done
    refine number_e (w := 2) r4 rfl (by omega) fun h5 f5 r5 => ?_
    have hn5 := stn_num (l := l) (w := 2) hn4
    have hc5 := numE_lt (l := l) (w := 2) (st := st1)
    have ch := fun ms st4 => ch xs ms st1 st4 q1
    generalize numE l 2 st1 = q5 at r5 hn5 hc5 ch ⊢
    have i4 := f4'.1
    have i5 := f5.1
    refine notesE r5 hn5 (by simpa using hc5) rfl (f5.blk k2 n2) rfl (f5.blk k3 n3) n23 n2 n3 l2 l3 fun ms st' t h' f r' hn' q o => ?_
    have f6 : Tn (fun d => d = p ∨ d = b3 ∨ d = b2) h4 h' := (f5.mono fun d hd _ => .inl hd).trans f
    exact hk xs ms st' sl t h' ((f4'.trans' f6 fun d hd hlt => by omega).mono fun d hd hlt => by omega) r' hn' (ch ms st' q) (hfs f6) (o.wide (by omega) (Nat.le_refl _))
end Go.Proofs.YtfomkkdijjfpiaaDoor
/- The document's reader: nodes, slots, a body. -/
namespace Go.Proofs.YtfomkkdijjfpiaaDoor
open Go Go.Sh Go.WideShapes
theorem node_chain {l : List UInt8} {a n : Nat} : Rel (nodeD l) (.ok (a, n)) (((numE l 4 (.ok (a, n))).1 : Int), ((numE l 4 (numE l 4 (.ok (a, n))).2).1 : Int)) (numE l 4 (numE l 4 (.ok (a, n))).2).2 := by
  unfold Rel
  simp only [nodeD]
  cases q1 : numD l 4 a with
  | error e => rw [numE_err q1, numE_stay]
  | ok y =>
    obtain ⟨x, a1⟩ := y
    rw [numE_ok q1]
    simp only
    cases q2 : numD l 4 a1 with
    | error e => rw [numE_err q2]
    | ok y => obtain ⟨z, a2⟩ := y; rw [numE_ok q2]; exact ⟨rfl, rfl⟩
theorem slot_chain {l : List UInt8} {a n : Nat} : Rel (slotD l) (.ok (a, n)) (((numE l 4 (.ok (a, n))).1 : Int), ((numE l 4 (numE l 4 (.ok (a, n))).2).1 : Int), ((numE l 4 (numE l 4 (numE l 4 (.ok (a, n))).2).2).1 : Int)) (numE l 4 (numE l 4 (numE l 4 (.ok (a, n))).2).2).2 := by
  unfold Rel
  simp only [slotD]
  cases q1 : numD l 4 a with
  | error e => rw [numE_err q1, numE_stay, numE_stay]
  | ok y =>
    obtain ⟨x, a1⟩ := y
    rw [numE_ok q1]
    simp only
    cases q2 : numD l 4 a1 with
    | error e => rw [numE_err q2, numE_stay]
    | ok y =>
      obtain ⟨z, a2⟩ := y
      rw [numE_ok q2]
      simp only
      cases q3 : numD l 4 a2 with
      | error e => rw [numE_err q3]
      | ok y => obtain ⟨z, a3⟩ := y; rw [numE_ok q3]; exact ⟨rfl, rfl⟩
abbrev KH := Int → Sl → Sl → Int → Bool → Int → Int → Sl → Sl → HP
theorem Copy9 {h : Hp} {b3 b4 : Nat} {k id rows press : Int} {s1 s2 s7 s8 : Sl} {de : Bool} {cs : Array Value} {K : KH} (k4 : Blk h b4 cs 29) (hc : cs.size = 9) (k3 : B9 h b3 k s1 s2 id de rows press s7 s8) (hk : ∀ h', Only b4 h h' → K k s1 s2 id de rows press s7 s8 h') :
    Ld h ⟨b3, 0, none⟩ (Value.int .i64) fun t0 => Ld h ⟨b3, 1, none⟩ (Sl.v) fun t1 => Ld h ⟨b3, 2, none⟩ (Sl.v) fun t2 => Ld h ⟨b3, 3, none⟩ (Value.int .i64) fun t3 => Ld h ⟨b3, 4, none⟩ (Value.bool) fun t4 => Ld h ⟨b3, 5, none⟩ (Value.int .i64) fun t5 => Ld h ⟨b3, 6, none⟩ (Value.int .i64) fun t6 => Ld h ⟨b3, 7, none⟩ (Sl.v) fun t7 => Ld h ⟨b3, 8, none⟩ (Sl.v) fun t8 =>
    St h ⟨b4, 0, none⟩ (.int .i64 t0) fun h1 => St h1 ⟨b4, 1, none⟩ (Sl.v t1) fun h2 => St h2 ⟨b4, 2, none⟩ (Sl.v t2) fun h3 => St h3 ⟨b4, 3, none⟩ (.int .i64 t3) fun h4 => St h4 ⟨b4, 4, none⟩ (.bool t4) fun h5 => St h5 ⟨b4, 5, none⟩ (.int .i64 t5) fun h6 => St h6 ⟨b4, 6, none⟩ (.int .i64 t6) fun h7 => St h7 ⟨b4, 7, none⟩ (Sl.v t7) fun h8 => St h8 ⟨b4, 8, none⟩ (Sl.v t8) fun h9 =>
    Ld h9 ⟨b4, 0, none⟩ (Value.int .i64) fun r0 => Ld h9 ⟨b4, 1, none⟩ (Sl.v) fun r1 => Ld h9 ⟨b4, 2, none⟩ (Sl.v) fun r2 => Ld h9 ⟨b4, 3, none⟩ (Value.int .i64) fun r3 => Ld h9 ⟨b4, 4, none⟩ (Value.bool) fun r4 => Ld h9 ⟨b4, 5, none⟩ (Value.int .i64) fun r5 => Ld h9 ⟨b4, 6, none⟩ (Value.int .i64) fun r6 => Ld h9 ⟨b4, 7, none⟩ (Sl.v) fun r7 => Ld h9 ⟨b4, 8, none⟩ (Sl.v) fun r8 => K r0 r1 r2 r3 r4 r5 r6 r7 r8 h9 :=
  Ld_blk k3 rfl (Ld_blk k3 rfl (Ld_blk k3 rfl (Ld_blk k3 rfl (Ld_blk k3 rfl (Ld_blk k3 rfl (Ld_blk k3 rfl (Ld_blk k3 rfl (Ld_blk k3 rfl (copy9 k4 hc hk)))))))))
theorem slotsE {h0 : Hp} {p : Nat} {s : Sl} {l : List UInt8} {h : Hp} {st : Ste} {c b3 b4 : Nat} {y : Int} {k id rows press : Int} {s1 s2 s7 : Sl} {de : Bool} {cs : Array Value} {K : KH} {Kp : PK} (r : Re h0 p s l h st) (hn : stn st) (hc : c < 65536) (hy : y = c)
    (k4 : Blk h b4 cs 29) (hcs : cs.size = 9) (k3 : B9 h b3 k s1 s2 id de rows press s7 Sl.nil) (n34 : b3 ≠ b4) (n3 : b3 ≠ p) (n4 : b4 ≠ p) (l3 : h0.size ≤ b3) (l4 : h0.size ≤ b4)
    (hk : ∀ ms st' t h', Tn (fun d => d = p ∨ d = b3 ∨ d = b4) h h' → Re h0 p s l h' st' → stn st' → Rel (repD (slotD l) c) st ms st' → Sh h.size h'.size 3 h' t (bfsV ms) 57 → K k s1 s2 id de rows press s7 t h') : L34_2 (some ⟨p, 0, none⟩) ⟨b3, 0, none⟩ ⟨b4, 0, none⟩ y K Kp 0 h := by
  subst hy
  have i3 := k3.lt
  have i4 := k4.lt
  have ip := r.lt
  have hg := r.g.1
  refine L34_2.rule (fun z h1 => ∃ (i : Nat) (xs : List Bf) (sl : Sl) (st' : Ste), z = i ∧ i ≤ c ∧ xs.length = i ∧ Tn (fun d => d = p ∨ d = b3) h h1 ∧ Re h0 p s l h1 st' ∧ stn st' ∧ B9 h1 b3 k s1 s2 id de rows press s7 sl ∧ Blk h1 b4 cs 29 ∧ Sh h.size h1.size 3 h1 sl (bfsV xs) 57 ∧ Mid (slotD l) c st xs i st') (fun z _ => c - z.toNat)
    ⟨0, [], Sl.nil, st, rfl, by omega, rfl, Tn.refl _ _, r, hn, k3, k4, Sh.nil _ _ _ _ _, Mid.start⟩ ?_
  rintro z h1 ⟨i, xs, sl, st1, rfl, hi, hxs, f1, r1, hn1, k3, k4, o1, eq⟩ N1 hN
  unfold T34_2
  simp only [add_blk, Nat.reduceAdd, NN_some, Nat.zero_add]
  have fin : Rel (repD (slotD l) c) st xs st1 → ∀ h', Only b4 h1 h' → K k s1 s2 id de rows press s7 sl h' := fun q h' o =>
    hk xs st1 sl h' ((f1.mono fun d hd _ => by omega).trans' o.fr fun d hd _ => .inr (.inr hd)) (r1.fr o.fr n4 l4) hn1 q ((o1.fr o.fr fun b hb _ e => by omega).wide (Nat.le_refl _) (by rw [o.1]; exact Nat.le_refl _))
  refine If_i (fun c1 => ?_) fun c1 => ?_
  · simp only [decide_eq_true_eq, decide_eq_false_iff_not, beq_iff_eq, beq_eq_false_iff_ne, ne_eq, reduceCtorEq, true_iff, false_iff, Bool.not_eq_true', Bool.not_eq_false', bne_iff_ne, bne_eq_false_iff_eq, Bool.not_true, Bool.not_false, Decidable.not_not] at c1
    cases st1 with
    | error e =>
      obtain ⟨he, a, m, kp⟩ := r1.err
      exact Ld_blk kp rfl (If_t (by simp [he]) (Copy9 k4 hcs k3 (fin eq.stop)))
    | ok am =>
      obtain ⟨a1, n1⟩ := am
      refine Ld_blk r1.okk.1 rfl (If_f (by simp) ?_)
      have ch := slot_chain (l := l) (a := a1) (n := n1)
      have hch := eq.snoc (by omega) ch
      clear ch
      refine New_i fun b8 h2 e8 g2 k8 _ => ?_
      have r2 := r1.grw g2
      have k3 := k3.grw g2
      have k4 := k4.grw g2
      have i1 := f1.1
      have n8 : b8 ≠ p := by omega
      have l8 : h0.size ≤ b8 := by omega
      refine number_e (w := 4) r2 rfl (by omega) fun h3 f3 r3 => ?_
      have hn3 := stn_num (l := l) (w := 4) hn1
      generalize numE l 4 (.ok (a1, n1)) = q1 at r3 hn3 hch ⊢
      refine St_i (f3.blk k8 n8) (by simp) rfl fun h4 o4 k8 => ?_
      refine number_e (w := 4) (r3.fr o4.fr n8 l8) rfl (by omega) fun h5 f5 r5 => ?_
      have hn5 := stn_num (l := l) (w := 4) hn3
      generalize numE l 4 q1.2 = q2 at r5 hn5 hch ⊢
      have k8 := f5.blk k8 n8
      simp only [add_blk, Nat.reduceAdd]
      refine St_i k8 (by simp) rfl fun h6 o6 k8 => ?_
      refine number_e (w := 4) (r5.fr o6.fr n8 l8) rfl (by omega) fun h7 f7 r7 => ?_
      have hn7 := stn_num (l := l) (w := 4) hn5
      generalize numE l 4 q2.2 = q3 at r7 hn7 hch ⊢
      have k8 := f7.blk k8 n8
      refine St_i k8 (by simp) rfl fun h8 o8 k8 => ?_
      have k8 : Blk h8 b8 #[.int .i64 q1.1, .int .i64 q2.1, .int .i64 q3.1] 57 := by simp at k8; exact k8
      have f28 : Tn (fun d => d = p ∨ d = b8) h2 h8 := (((((f3.mono fun d hd _ => .inl hd).trans' o4.fr fun d hd _ => .inr hd).trans' f5 fun d hd _ => .inl hd).trans' o6.fr fun d hd _ => .inr hd).trans' f7 fun d hd _ => .inl hd).trans' o8.fr fun d hd _ => .inr hd
      have r8 := r7.fr o8.fr n8 l8
      have k3 := f28.blk k3 (by omega)
      have k4 := f28.blk k4 (by omega)
      refine Ld_blk k3 rfl (Ld_blk k8 rfl (Ld_blk k8 rfl (Ld_blk k8 rfl ?_)))
      refine New_i fun bx h9 ex g9 kx _ => ?_
      have o9 := (((o1.grw g2).fr f28 fun b hb h' e => by omega).grw g9).wide (lo' := h.size) (hi' := h9.size) (Nat.le_refl _) (by have := g2.1; have := f28.1; have := g9.1; omega)
      have hln := o9.n
      rw [bfsV_len] at hln
      refine Ap_sh o9 (by have := g2.1; have := f28.1; have := g9.1; omega) rfl (new := bfRow ((q1.1 : Int), (q2.1 : Int), (q3.1 : Int))) rfl (by simp [bfRow, one]) (rd_blk kx rfl) (by omega) (by omega) fun s' ha fa ata oa hna => ?_
      have hb8 : ∀ d, sl.at d → h.size ≤ d := fun d hd => (o9.at hd).1
      have hb9 : ∀ d, sl.at d → d < h1.size := fun d hd => (o1.at hd).2
      have k3 := fa.blk (k3.grw g9) (fun q => by have := hb8 _ q; omega)
      have k4 := fa.blk (k4.grw g9) (fun q => by have := hb8 _ q; omega)
      refine St_i k3 (by simp [vals9]) rfl fun hb ob k3 => ?_
      have k3 : B9 hb b3 k s1 s2 id de rows press s7 s' := by simp [vals9] at k3; exact k3
      have f1b : Tn (fun d => d = p ∨ d = b3) h hb := ((((f1.trans' (Tn.of_grw (S := No) g2) fun _ q => q.elim).trans' f28 fun d hd hlt => by omega).trans' (Tn.of_grw (S := No) g9) fun _ q => q.elim).trans' fa fun d hd hlt => by have := hb8 d hd; omega).trans' ob.fr fun d hd _ => .inr hd
      have ra := (r8.grw g9).tn fa (fun q => by have := hb8 _ q; omega) (fun d q => by have := hb8 d q; omega)
      refine Wr_i64 (by omega) (by omega) (hN _ _ ⟨i + 1, xs ++ [((q1.1 : Int), (q2.1 : Int), (q3.1 : Int))], s', q3.2, by simp, by omega, by simp [hxs], f1b, ra.fr ob.fr n3 l3, hn7, k3, ob.blk k4 n34.symm, ?_, hch⟩ (by omega))
      rw [bfsV_snoc]
      exact (oa.fr ob.fr fun b hb _ e => by omega).wide (Nat.le_refl _) (by rw [ob.1]; exact Nat.le_refl _)
  · simp only [decide_eq_true_eq, decide_eq_false_iff_not, beq_iff_eq, beq_eq_false_iff_ne, ne_eq, reduceCtorEq, true_iff, false_iff, Bool.not_eq_true', Bool.not_eq_false', bne_iff_ne, bne_eq_false_iff_eq, Bool.not_true, Bool.not_false, Decidable.not_not] at c1
    have : i = c := by omega
    subst this
    exact Copy9 k4 hcs k3 (fin eq.done)
theorem body_chain {l : List UInt8} {k id : Int} {de : Bool} {st st4 st6 : Ste} {nodes : List Nd} {bufs : List Bf} (r1 : Rel (repD (nodeD l) (numE l 2 (numE l 1 (numE l 4 st).2).2).1) (numE l 2 (numE l 1 (numE l 4 st).2).2).2 nodes st4) (r2 : Rel (repD (slotD l) (numE l 2 st4).1) (numE l 2 st4).2 bufs st6) :
    Rel (bodyD l k id de) st ⟨k, [], [], id, de, (numE l 4 st).1, (numE l 1 (numE l 4 st).2).1, nodes, bufs⟩ st6 := by
  have stop : ∀ e, st4 = .error e → st6 = .error e := fun e q => by subst q; rw [numE_stay] at r2; exact r2
  cases st with
  | error e =>
    rw [numE_stay, numE_stay, numE_stay] at r1
    exact stop e r1
  | ok am =>
    obtain ⟨a, n⟩ := am
    unfold Rel
    simp only [bodyD]
    cases q1 : numD l 4 a with
    | error e => rw [numE_err q1, numE_stay, numE_stay] at r1; exact stop e r1
    | ok y =>
      obtain ⟨rows, a1⟩ := y
      rw [numE_ok q1] at r1 ⊢
      simp only at r1 ⊢
      cases q2 : numD l 1 a1 with
      | error e => rw [numE_err q2, numE_stay] at r1; exact stop e r1
      | ok y =>
        obtain ⟨press, a2⟩ := y
        rw [numE_ok q2] at r1 ⊢
        simp only at r1 ⊢
        cases q3 : numD l 2 a2 with
        | error e => rw [numE_err q3] at r1; exact stop e r1
        | ok y =>
          obtain ⟨c, a3⟩ := y
          rw [numE_ok q3] at r1
          simp only [Rel] at r1 ⊢
          cases q4 : repD (nodeD l) c a3 n with
          | error e => rw [q4] at r1; exact stop e r1
          | ok y =>
            obtain ⟨xs, a4, n4⟩ := y
            rw [q4] at r1
            obtain ⟨rfl, rfl⟩ := r1
            simp only
            cases q5 : numD l 2 a4 with
            | error e => rw [numE_err q5] at r2; exact r2
            | ok y =>
              obtain ⟨c2, a5⟩ := y
              rw [numE_ok q5] at r2
              simp only [Rel] at r2 ⊢
              cases q6 : repD (slotD l) c2 a5 n4 with
              | error e => rw [q6] at r2; exact r2
              | ok y =>
                obtain ⟨ys, a6, n6⟩ := y
                rw [q6] at r2
                obtain ⟨rfl, rfl⟩ := r2
                exact ⟨rfl, rfl⟩
theorem body_e {h0 : Hp} {p : Nat} {s : Sl} {l : List UInt8} {h : Hp} {st : Ste} {k id : Int} {s1 s2 : Sl} {de : Bool} {K : KH} {Kp : PK} (r : Re h0 p s l h st) (hn : stn st)
    (hk : ∀ (rows press : Nat) nodes bufs st' t7 t8 h', Tn (· = p) h h' → Re h0 p s l h' st' → stn st' → Rel (bodyD l k id de) st ⟨k, [], [], id, de, rows, press, nodes, bufs⟩ st' → Sh h.size h'.size 2 h' t7 (ndsV nodes) 55 → Sh h.size h'.size 3 h' t8 (bfsV bufs) 57 → K k s1 s2 id de rows press t7 t8 h') :
    Fn34 (some ⟨p, 0, none⟩) k s1 s2 id de 0 0 Sl.nil Sl.nil h K Kp := by
  refine Fn34.of ?_
  unfold S34
  refine New_i fun b3 h1 e1 g1 k3 _ => New_i fun b4 h2 e2 g2 k4 _ => ?_
  have ip := r.lt
  have z1 := g1.1
  have z2 := g2.1
  have hg := r.g.1
  have r2 := (r.grw g1).grw g2
  have k3 := k3.grw g2
  have i3 := k3.lt
  have i4 := k4.lt
  have f2 : Tn (fun d => d = p ∨ d = b3) h h2 := Tn.of_grw (Grw.trans g1 g2)
  have n34 : b3 ≠ b4 := by omega
  have n3 : b3 ≠ p := by omega
  have n4 : b4 ≠ p := by omega
  have l3 : h0.size ≤ b3 := by omega
  have l4 : h0.size ≤ b4 := by omega
  simp only [add_blk, Nat.reduceAdd, Nat.zero_add]
  have fp : ∀ {h h' : Hp}, Tn (· = p) h h' → Tn (fun d => d = p ∨ d = b3) h h' := fun f => f.mono fun d hd _ => .inl hd
  have fb : ∀ {h h' : Hp}, Only b3 h h' → Tn (fun d => d = p ∨ d = b3) h h' := fun f => f.fr.mono fun d hd _ => .inr hd
  have ch := fun nodes bufs st4 st6 => @body_chain l k id de st st4 st6 nodes bufs
  refine number_e (w := 4) r2 rfl (by omega) fun h3 f3 r3 => ?_
  have hn3 := stn_num (l := l) (w := 4) hn
  generalize numE l 4 st = q1 at r3 hn3 ch ⊢
  refine St_i (f3.blk k3 n3) (by simp) rfl fun h4 o4 k3 => ?_
  have f4 := (f2.trans (fp f3)).trans (fb o4)
  refine number_e (w := 1) (r3.fr o4.fr n3 l3) rfl (by omega) fun h5 f5 r5 => ?_
  have hn5 := stn_num (l := l) (w := 1) hn3
  generalize numE l 1 q1.2 = q2 at r5 hn5 ch ⊢
  refine St_i (f5.blk k3 n3) (by simp) rfl fun h6 o6 k3 => ?_
  have f6 := (f4.trans (fp f5)).trans (fb o6)
  refine number_e (w := 2) (r5.fr o6.fr n3 l3) rfl (by omega) fun h7 f7 r7 => ?_
  have hn7 := stn_num (l := l) (w := 2) hn5
  have hc7 := numE_lt (l := l) (w := 2) (st := q2.2)
  generalize numE l 2 q2.2 = q3 at r7 hn7 hc7 ch ⊢
  have k3 := f7.blk k3 n3
  have k4 := (((f3.blk k4 n4 |> fun k => o4.blk k n34.symm) |> fun k => f5.blk k n4) |> fun k => o6.blk k n34.symm) |> fun k => f7.blk k n4
  have f7 := f6.trans (fp f7)
  have k3 : B9 h7 b3 k s1 s2 id de q1.1 q2.1 Sl.nil Sl.nil := by simp at k3; exact k3
  obtain ⟨c, st0⟩ := q3
  simp only at r7 hn7 hc7 ch ⊢
  have i7 := f7.1
  have i3 := k3.lt
  have i4 := k4.lt
  refine L34_3.rule (fun z h8 => ∃ (i : Nat) (xs : List Nd) (sl : Sl) (st' : Ste), z = i ∧ i ≤ c ∧ xs.length = i ∧ Tn (fun d => d = p ∨ d = b3) h7 h8 ∧ Re h0 p s l h8 st' ∧ stn st' ∧ B9 h8 b3 k s1 s2 id de q1.1 q2.1 sl Sl.nil ∧ Blk h8 b4 _ 29 ∧ Sh h7.size h8.size 2 h8 sl (ndsV xs) 55 ∧ Mid (nodeD l) c st0 xs i st') (fun z _ => c - z.toNat)
    ⟨0, [], Sl.nil, st0, rfl, by omega, rfl, Tn.refl _ _, r7, hn7, k3, k4, Sh.nil _ _ _ _ _, Mid.start⟩ ?_
  rintro z h8 ⟨i, xs, sl, st1, rfl, hi, hxs, f8, r8, hn8, k3, k4, o8, eq⟩ N1 hN
  unfold T34_3
  simp only [add_blk, Nat.reduceAdd, NN_some, Nat.zero_add]
  have i8 := f8.1
  refine If_i (fun c1 => ?_) fun c1 => ?_
  · simp only [decide_eq_true_eq, decide_eq_false_iff_not, beq_iff_eq, beq_eq_false_iff_ne, ne_eq, reduceCtorEq, true_iff, false_iff, Bool.not_eq_true', Bool.not_eq_false', bne_iff_ne, bne_eq_false_iff_eq, Bool.not_true, Bool.not_false, Decidable.not_not] at c1
    cases st1 with
    | error e =>
      obtain ⟨he, a, m, kp⟩ := r8.err
      refine Ld_blk kp rfl (If_t (by simp [he]) (Copy9 k4 rfl k3 fun h9 o9 => ?_))
      have f9 := f7.trans f8
      exact hk q1.1 q2.1 xs [] (.error e) sl Sl.nil h9 ((f9.trans' (T := (· = b4)) (S := fun d => d = p ∨ d = b3) o9.fr fun d hd hlt => by omega).mono fun d hd hlt => by omega) (r8.fr o9.fr n4 l4) trivial (ch xs [] _ _ eq.stop rfl)
        ((o8.fr o9.fr fun b h1 h2 e => by omega).wide (by omega) (by rw [o9.1]; exact Nat.le_refl _)) (Sh.nil _ _ _ _ _)
    | ok am =>
      obtain ⟨a1, n1⟩ := am
      refine Ld_blk r8.okk.1 rfl (If_f (by simp) ?_)
      have hch := eq.snoc (by omega) (node_chain (l := l) (a := a1) (n := n1))
      refine New_i fun b8 h9 e8 g9 k8 _ => ?_
      have r9 := r8.grw g9
      have k3 := k3.grw g9
      have k4 := k4.grw g9
      have n8 : b8 ≠ p := by have := r8.lt; omega
      have l8 : h0.size ≤ b8 := by have := r8.g.1; omega
      refine number_e (w := 4) r9 rfl (by omega) fun ha fa ra => ?_
      have hna := stn_num (l := l) (w := 4) hn8
      generalize numE l 4 (.ok (a1, n1)) = p1 at ra hna hch ⊢
      refine St_i (fa.blk k8 n8) (by simp) rfl fun hb ob k8 => ?_
      refine number_e (w := 4) (ra.fr ob.fr n8 l8) rfl (by omega) fun hc fc rc => ?_
      have hnc := stn_num (l := l) (w := 4) hna
      generalize numE l 4 p1.2 = p2 at rc hnc hch ⊢
      have k8 := fc.blk k8 n8
      simp only [add_blk, Nat.reduceAdd]
      refine St_i k8 (by simp) rfl fun hd od k8 => ?_
      have k8 : Blk hd b8 #[.int .i64 p1.1, .int .i64 p2.1] 55 := by simp at k8; exact k8
      have f9d : Tn (fun d => d = p ∨ d = b8) h9 hd := (((fa.mono fun d hd _ => .inl hd).trans' ob.fr fun d hd _ => .inr hd).trans' fc fun d hd _ => .inl hd).trans' od.fr fun d hd _ => .inr hd
      have rd := rc.fr od.fr n8 l8
      have k3 := f9d.blk k3 (by omega)
      have k4 := f9d.blk k4 (by omega)
      refine Ld_blk k3 rfl (Ld_blk k8 rfl (Ld_blk k8 rfl ?_))
      refine New_i fun bx he ex ge kx _ => ?_
      have ip7 : p < h7.size := r7.lt
      have oe := (((o8.grw g9).fr f9d fun b hb h' e => by omega).grw ge).wide (lo' := h7.size) (hi' := he.size) (Nat.le_refl _) (by have := g9.1; have := f9d.1; have := ge.1; omega)
      have hln := oe.n
      rw [ndsV_len] at hln
      refine Ap_sh oe (by have := g9.1; have := f9d.1; have := ge.1; omega) rfl (new := ndRow ((p1.1 : Int), (p2.1 : Int))) rfl (by simp [ndRow, one]) (rd_blk kx rfl) (by omega) (by omega) fun s' hf ff atf of hnf => ?_
      have hb8 : ∀ d, sl.at d → h7.size ≤ d := fun d hd => (oe.at hd).1
      have k3 := ff.blk (k3.grw ge) (fun q => by have := hb8 _ q; omega)
      have k4 := ff.blk (k4.grw ge) (fun q => by have := hb8 _ q; omega)
      refine St_i k3 (by simp [vals9]) rfl fun hg' og k3 => ?_
      have k3 : B9 hg' b3 k s1 s2 id de q1.1 q2.1 s' Sl.nil := by simp [vals9] at k3; exact k3
      have f7g : Tn (fun d => d = p ∨ d = b3) h7 hg' := ((((f8.trans' (Tn.of_grw (S := No) g9) fun _ q => q.elim).trans' f9d fun d hd hlt => by omega).trans' (Tn.of_grw (S := No) ge) fun _ q => q.elim).trans' ff fun d hd hlt => by have := hb8 d hd; omega).trans' og.fr fun d hd _ => .inr hd
      have rf := (rd.grw ge).tn ff (fun q => by have := hb8 _ q; omega) (fun d q => by have := hb8 d q; omega)
      refine Wr_i64 (by omega) (by omega) (hN _ _ ⟨i + 1, xs ++ [((p1.1 : Int), (p2.1 : Int))], s', p2.2, by simp, by omega, by simp [hxs], f7g, rf.fr og.fr n3 l3, hnc, k3, og.blk k4 n34.symm, ?_, hch⟩ (by omega))
      rw [ndsV_snoc]
      exact (of.fr og.fr fun b hb _ e => by omega).wide (Nat.le_refl _) (by rw [og.1]; exact Nat.le_refl _)
  · simp only [decide_eq_true_eq, decide_eq_false_iff_not, beq_iff_eq, beq_eq_false_iff_ne, ne_eq, reduceCtorEq, true_iff, false_iff, Bool.not_eq_true', Bool.not_eq_false', bne_iff_ne, bne_eq_false_iff_eq, Bool.not_true, Bool.not_false, Decidable.not_not] at c1
    have : i = c := by omega
    subst this
    refine J34_1.of ?_
    unfold JT34_1
    have e1 := eq.done
    refine number_e (w := 2) r8 rfl (by omega) fun h9 f9 r9 => ?_
    have hn9 := stn_num (l := l) (w := 2) hn8
    have hc9 := numE_lt (l := l) (w := 2) (st := st1)
    have ch := fun bufs st6 => ch xs bufs st1 st6 e1
    generalize numE l 2 st1 = q9 at r9 hn9 hc9 ch ⊢
    have i9 := f9.1
    refine slotsE r9 hn9 (by simpa using hc9) rfl (f9.blk k4 n4) rfl (f9.blk k3 n3) n34 n3 n4 l3 l4 fun ms st' t h' f r' hn' q o => ?_
    have f10 : Tn (fun d => d = p ∨ d = b3 ∨ d = b4) h8 h' := (f9.mono fun d hd _ => .inl hd).trans f
    have ip7 : p < h7.size := r7.lt
    exact hk q1.1 q2.1 xs ms st' sl t h' (((f7.trans f8).trans' f10 fun d hd hlt => by omega).mono fun d hd hlt => by omega) r' hn' (ch ms st' q) ((o8.fr f10 fun b h1 h2 e => by omega).wide (by omega) (by have := f10.1; omega)) (o.wide (by omega) (Nat.le_refl _))
end Go.Proofs.YtfomkkdijjfpiaaDoor
/- A head with room behind all its lists. -/
namespace Go.Sh
open Go.WideShapes
theorem Slc_own' {sz : Nat} {h : Hp} {s : Sl} {b : Nat} {vs : List Value} {el : TypeId} (o : OwnS sz h s b vs el) {x : Int} {n : Nat} (hx : x = n) (hn : n ≤ s.n) {K : Sl → Prop} (hk : K ⟨some ⟨b, 0, none⟩, n, s.c⟩) : Slc s sz none (some x) none K := by
  subst hx
  obtain ⟨h1, h2, cs, h3, h4, h5, h6⟩ := o
  refine ⟨by simp, by simp, by simp; omega, by simp, ?_⟩
  simp only [Option.getD_none, Option.getD_some, Int.toNat_natCast, Nat.sub_zero]
  have e : slAt s.a (Int.toNat 0) s.c sz = some ⟨b, 0, none⟩ := by
    unfold slAt
    rw [h1]
    split
    · rfl
    · simp [Addr.add]
  rw [e]; exact hk
theorem add_add' (a : Addr) (x y : Nat) : (a.add x).add y = a.add (x + y) := by
  unfold Addr.add
  by_cases hm : x = 0 <;> by_cases hn : y = 0 <;> simp_all [Nat.add_assoc]
end Go.Sh
namespace Go.Proofs.YtfomkkdijjfpiaaDoor
open Go Go.Sh Go.WideShapes
theorem RsH_rd {h : Hp} {s : Sl} {sz : Nat} {rows : List (List Value)} (hsz : 0 < sz) (hh : RsH h s sz rows) (hl : ∀ r ∈ rows, r.length = sz) : rd h s.a (s.n * sz) rows.flatten := by
  obtain ⟨h1, h2, h3⟩ := hh
  unfold rd
  cases ha : s.a with
  | none =>
    cases rows with
    | nil => rfl
    | cons r rs => obtain ⟨a, q, _⟩ := h3 0 r rfl; rw [ha] at q; cases q
  | some a =>
    refine ⟨by rw [flat_len hl, h1], fun i v hv => ?_⟩
    have hi : i < rows.length * sz := by have := (List.getElem?_eq_some_iff.1 hv).1; rw [flat_len hl] at this; exact this
    have hj : i / sz < rows.length := Nat.div_lt_of_lt_mul (by rw [Nat.mul_comm]; exact hi)
    have hr : rows[i / sz]? = some rows[i / sz] := List.getElem?_eq_getElem hj
    generalize rows[i / sz] = r at hr
    have e : i = i / sz * sz + i % sz := by rw [Nat.mul_comm]; exact (Nat.div_add_mod i sz).symm
    have hm := Nat.mod_lt i hsz
    rw [e, flat_get hl (i / sz) hr (i % sz) hm] at hv
    obtain ⟨a', ha', hc⟩ := h3 _ r hr
    rw [ha] at ha'; cases ha'
    have := hc _ v hv
    rw [add_add', ← e] at this
    exact this
/-- rows are copied to new memory -/
theorem Ap_rows {h0 h : Hp} {s : Sl} {sz bytes : Nat} {rows : List (List Value)} {el : TypeId} {z : Array Value} {K : Sl → HP} (hsz : 0 < sz) (g : Grw h0 h) (hh : RsH h0 s sz rows) (hl : ∀ r ∈ rows, r.length = sz) (h1 : ∀ r ∈ rows, ∀ v ∈ r, one v = true) (hz : z.size = sz) (hroom : (rows.length + rows.length / 4 + 192) * bytes ≤ 2 ^ 48) (hn : rows.length < 2 ^ 63)
    (hk : ∀ t h', Grw h h' → Sh h.size h'.size sz h' t rows.flatten el → K t h') : Ap h el z sz bytes (⟨none, 0, 0⟩ : Sl) s.n (rd h s.a (s.n * sz)) K := by
  have hs := hh.1
  refine Ap_sh (lo := h.size) (s := ⟨none, 0, 0⟩) (vs := []) (Sh.nil _ _ _ _ _) (Nat.le_refl _) hz (new := rows.flatten) (by rw [flat_len hl, hs]) (fun v hv => ?_) (RsH_rd hsz (RsH.grw hh g) hl) (by simp only [Nat.zero_add]; rw [hs]; exact hroom) (by simp only; omega) fun t h' f _ o _ => hk t h' (f.mono fun d hd _ => absurd hd (Sl.at_nil d)).grw (by simpa using o)
  obtain ⟨r, hr, hv⟩ := List.mem_flatten.1 hv
  exact h1 r hr v hv
/-- a list of rows, and rows behind it -/
structure RoomS (D : Nat → Prop) (h : Hp) (t : Sl) (sz : Nat) (rows marks : List (List Value)) : Prop where
  n : t.n = rows.length
  c : rows.length + marks.length ≤ t.c
  at_ : ∃ b, D b ∧ t.a = some ⟨b, 0, none⟩ ∧ ∀ j r, (rows ++ marks)[j]? = some r → Cs h ⟨b, j * sz, none⟩ r
theorem RoomS.rs {D : Nat → Prop} {h : Hp} {t : Sl} {sz : Nat} {rows marks : List (List Value)} (r : RoomS D h t sz rows marks) : RsH h t sz rows := by
  obtain ⟨h1, h2, b, _, ha, hc⟩ := r
  refine ⟨h1, by omega, fun j r hj => ⟨_, ha, ?_⟩⟩
  rw [add_blk, Nat.zero_add]
  exact hc j r (by rw [List.getElem?_append_left (List.getElem?_eq_some_iff.1 hj).1]; exact hj)
theorem RoomS.grw {D : Nat → Prop} {h h' : Hp} {t : Sl} {sz : Nat} {rows marks : List (List Value)} (r : RoomS D h t sz rows marks) (g : Grw h h') : RoomS D h' t sz rows marks := by
  obtain ⟨h1, h2, b, hb, ha, hc⟩ := r
  exact ⟨h1, h2, b, hb, ha, fun j r hj => (hc j r hj).grw g⟩
theorem RoomS.of {D : Nat → Prop} {h : Hp} {s : Sl} {sz b : Nat} {rows marks : List (List Value)} {el : TypeId} (o : OwnS sz h s b (rows ++ marks).flatten el) (hsz : 0 < sz) (hl : ∀ r ∈ rows ++ marks, r.length = sz) (hb : D b) : RoomS D h ⟨some ⟨b, 0, none⟩, rows.length, s.c⟩ sz rows marks := by
  have hn := o.2.1
  rw [flat_len hl, List.length_append] at hn
  have hn := Nat.eq_of_mul_eq_mul_right hsz hn
  have hc : s.n ≤ s.c := by obtain ⟨_, _, _, _, hc, _⟩ := o; exact hc
  refine ⟨rfl, by simp only; omega, b, hb, rfl, fun j r hj => ?_⟩
  have := OwnS.row o hl hj
  rwa [add_blk, Nat.zero_add] at this
def markMd : List (List Value) := List.replicate 3 [.string (bs [109]), .string (bs [109])]
def markNd : List (List Value) := (List.range 3).map fun (i : Nat) => [.int .i64 (-9), .int .i64 i]
def markBf : List (List Value) := (List.range 3).map fun (i : Nat) => [.int .i64 (-9), .int .i64 0, .int .i64 i]
theorem markMd_get {i : Nat} (hi : i < 3) : markMd[i]? = some [.string (bs [109]), .string (bs [109])] := by
  unfold markMd
  rw [List.getElem?_replicate, if_pos hi]
theorem markNd_get {i : Nat} (hi : i < 3) : markNd[i]? = some [.int .i64 (-9), .int .i64 i] := by
  unfold markNd
  rw [List.getElem?_map, List.getElem?_range hi]; rfl
theorem markBf_get {i : Nat} (hi : i < 3) : markBf[i]? = some [.int .i64 (-9), .int .i64 0, .int .i64 i] := by
  unfold markBf
  rw [List.getElem?_map, List.getElem?_range hi]; rfl
/-- what a head with room is -/
structure HdW (D : Nat → Prop) (h : Hp) (H : Hd) (t1 t2 t7 t8 : Sl) : Prop where
  fs : WsD D h t1 H.fs
  ms : RoomS D h t2 2 (H.ms.map mdRow) markMd
  nodes : RoomS D h t7 2 (H.nodes.map ndRow) markNd
  bufs : RoomS D h t8 3 (H.bufs.map bfRow) markBf
theorem HdW.h {D : Nat → Prop} {h : Hp} {H : Hd} {t1 t2 t7 t8 : Sl} (d : HdW D h H t1 t2 t7 t8) : HdH h H t1 t2 t7 t8 := ⟨WsD.h _ d.fs, d.ms.rs, d.nodes.rs, d.bufs.rs⟩
theorem HdW.grw {D : Nat → Prop} {h h' : Hp} {H : Hd} {t1 t2 t7 t8 : Sl} (d : HdW D h H t1 t2 t7 t8) (g : Grw h h') : HdW D h' H t1 t2 t7 t8 := ⟨WsD.grw g _ d.fs, d.ms.grw g, d.nodes.grw g, d.bufs.grw g⟩
theorem wide_c {H : Hd} (hl : H.fs.length ≤ 70000 ∧ lns H.fs) (hm2 : H.ms.length ≤ 70000) (hm7 : H.nodes.length ≤ 70000) (hm8 : H.bufs.length ≤ 70000) {h0 h : Hp} {s1 s2 s7 s8 : Sl} {K : Int → Sl → Sl → Int → Bool → Int → Int → Sl → Sl → HP} {Kp : PK} (g0 : Grw h0 h) (hh : HdH h0 H s1 s2 s7 s8)
    (hk : ∀ t1 t2 t7 t8 h', Grw h h' → HdW (fun _ => True) h' H t1 t2 t7 t8 → K H.k t1 t2 H.id H.de H.rows H.press t7 t8 h') : Fn17 H.k s1 s2 H.id H.de H.rows H.press s7 s8 h K Kp := by
  have n2 : s2.n = H.ms.length := by simpa using hh.ms.1
  have n7 : s7.n = H.nodes.length := by simpa using hh.nodes.1
  have n8 : s8.n = H.bufs.length := by simpa using hh.bufs.1
  have l2 : ∀ r ∈ H.ms.map mdRow, r.length = 2 := fun r hr => by obtain ⟨m, _, rfl⟩ := List.mem_map.1 hr; rfl
  have l7 : ∀ r ∈ H.nodes.map ndRow, r.length = 2 := fun r hr => by obtain ⟨m, _, rfl⟩ := List.mem_map.1 hr; rfl
  have l8 : ∀ r ∈ H.bufs.map bfRow, r.length = 3 := fun r hr => by obtain ⟨m, _, rfl⟩ := List.mem_map.1 hr; rfl
  refine Fn17.of ?_
  unfold S17
  refine New_i fun b1 h1 e1 g1 k1 _ => New_i fun b2 h2 e2 g2 k2 _ => ?_
  have k1 : B9 h2 b1 H.k s1 s2 H.id H.de H.rows H.press s7 s8 := k1.grw g2
  have i1 := k1.lt
  have i2 := k2.lt
  have z1 := g1.1
  have z2 := g2.1
  have g02 := Grw.trans g1 g2
  simp only [add_blk, Nat.reduceAdd]
  refine Ld_blk k1 rfl (wide_fs (fun f _ => wide_f f) hl.1 hl.2 (Grw.trans g0 g02) hh.fs fun t1 h3 g3 W3 => ?_)
  have k1 := k1.grw g3
  have k2 := k2.grw g3
  refine St_i k1 (by simp [vals9]) rfl fun h4 o4 k1 => ?_
  have k1 : B9 h4 b1 H.k t1 s2 H.id H.de H.rows H.press s7 s8 := by simp [vals9] at k1; exact k1
  have k2 := o4.blk k2 (by omega)
  have W4 : WsD (fun d => d < h4.size) h4 t1 H.fs := WsD.fr o4.fr (fun d hd => ⟨fun q => by have := hd.1; omega, by have := hd.2; have := o4.1; omega⟩) _ W3
  have g04 : Grw h h4 := o4.grw (Grw.trans g02 g3) (by omega)
  have z3 := g3.1
  have z4 := o4.1
  refine Ld_blk k1 rfl (Ap_rows (by omega) (Grw.trans g0 g04) hh.ms l2 (fun r hr v hv => by obtain ⟨m, _, rfl⟩ := List.mem_map.1 hr; simp only [mdRow, List.mem_cons, List.not_mem_nil, or_false] at hv; rcases hv with rfl | rfl <;> rfl) rfl (by rw [List.length_map]; omega) (by rw [List.length_map]; omega) fun u2 h5 g5 o2 => ?_)
  refine Ld_blk (k1.grw g5) rfl (Ap_rows (by omega) (Grw.trans g0 (Grw.trans g04 g5)) hh.nodes l7 (fun r hr v hv => by obtain ⟨m, _, rfl⟩ := List.mem_map.1 hr; simp only [ndRow, List.mem_cons, List.not_mem_nil, or_false] at hv; rcases hv with rfl | rfl <;> rfl) rfl (by rw [List.length_map]; omega) (by rw [List.length_map]; omega) fun u7 h6 g6 o7 => ?_)
  have g46 := Grw.trans g5 g6
  refine Ld_blk (k1.grw g46) rfl (Ap_rows (by omega) (Grw.trans g0 (Grw.trans g04 g46)) hh.bufs l8 (fun r hr v hv => by obtain ⟨m, _, rfl⟩ := List.mem_map.1 hr; simp only [bfRow, List.mem_cons, List.not_mem_nil, or_false] at hv; rcases hv with rfl | rfl | rfl <;> rfl) rfl (by rw [List.length_map]; omega) (by rw [List.length_map]; omega) fun u8 h7 g7 o8 => ?_)
  have g47 := Grw.trans g46 g7
  have z5 := g5.1
  have z6 := g6.1
  have z7 := g7.1
  refine L17_2.rule (fun t2 t7 t8 x h8 => ∃ i : Nat, x = i ∧ i ≤ 3 ∧ Grw h4 h8 ∧ Sh h4.size h8.size 2 h8 t2 (H.ms.map mdRow ++ markMd.take i).flatten 66 ∧ Sh h4.size h8.size 2 h8 t7 (H.nodes.map ndRow ++ markNd.take i).flatten 55 ∧ Sh h4.size h8.size 3 h8 t8 (H.bufs.map bfRow ++ markBf.take i).flatten 57) (fun _ _ _ x _ => 3 - x.toNat)
    ⟨0, rfl, by omega, g47, by simpa using (o2.grw (Grw.trans g6 g7)).wide (Nat.le_refl _) (by omega), by simpa using (o7.grw g7).wide (lo' := h4.size) (by omega) (by omega), by simpa using o8.wide (lo' := h4.size) (by omega) (Nat.le_refl _)⟩ ?_
  rintro t2 t7 t8 x h8 ⟨i, rfl, hi, g8, p2, p7, p8⟩ N1 hN
  have L2 : ∀ r ∈ H.ms.map mdRow ++ markMd.take i, r.length = 2 := fun r hr => by
    rcases List.mem_append.1 hr with q | q
    · exact l2 r q
    · rw [List.eq_of_mem_replicate (List.mem_of_mem_take q)]; rfl
  have L7 : ∀ r ∈ H.nodes.map ndRow ++ markNd.take i, r.length = 2 := fun r hr => by
    rcases List.mem_append.1 hr with q | q
    · exact l7 r q
    · obtain ⟨m, _, rfl⟩ := List.mem_map.1 (List.mem_of_mem_take q); rfl
  have L8 : ∀ r ∈ H.bufs.map bfRow ++ markBf.take i, r.length = 3 := fun r hr => by
    rcases List.mem_append.1 hr with q | q
    · exact l8 r q
    · obtain ⟨m, _, rfl⟩ := List.mem_map.1 (List.mem_of_mem_take q); rfl
  have m2 := p2.n
  have m7 := p7.n
  have m8 := p8.n
  rw [flat_len L2, List.length_append, List.length_map, List.length_take] at m2
  rw [flat_len L7, List.length_append, List.length_map, List.length_take] at m7
  rw [flat_len L8, List.length_append, List.length_map, List.length_take] at m8
  have q2 : markMd.length = 3 := rfl
  have q7 : markNd.length = 3 := rfl
  have q8 : markBf.length = 3 := rfl
  have y8 := g8.1
  unfold T17_2
  refine If_i (fun c => ?_) fun c => ?_
  · simp only [decide_eq_true_eq, decide_eq_false_iff_not, beq_iff_eq, beq_eq_false_iff_ne, ne_eq, reduceCtorEq, true_iff, false_iff, Bool.not_eq_true', Bool.not_eq_false', bne_iff_ne, bne_eq_false_iff_eq, Bool.not_true, Bool.not_false, Decidable.not_not] at c
    refine New_i fun b9 h9 e9 g9 k9 _ => ?_
    have y9 := g9.1
    refine Ap_sh ((p2.grw g9).wide (Nat.le_refl _) y9) (by omega) rfl (new := [.string (bs [109]), .string (bs [109])]) rfl (by simp [one]) (rd_blk k9 rfl) (by omega) (by omega) fun v2 ha fa aa oa na => ?_
    have ya := fa.1
    have ga : Grw h4 ha := Tn.grw0 (Grw.trans g8 g9) fa fun d hd => (p2.at hd).1
    have pa7 := ((p7.grw g9).fr2 fa fun b x1 x2 => ty_ne (p7.ty x1) (p2.ty x2) (by decide)).wide (lo' := h4.size) (hi' := ha.size) (Nat.le_refl _) (by omega)
    have pa8 := ((p8.grw g9).fr2 fa fun b x1 x2 => ty_ne (p8.ty x1) (p2.ty x2) (by decide)).wide (lo' := h4.size) (hi' := ha.size) (Nat.le_refl _) (by omega)
    refine New_i fun b10 hb eb gb kb _ => ?_
    have yb := gb.1
    refine Ap_sh ((pa7.grw gb).wide (Nat.le_refl _) yb) (by omega) rfl (new := [.int .i64 (-9), .int .i64 i]) rfl (by simp [one]) (rd_blk kb rfl) (by omega) (by omega) fun v7 hc fc ac oc nc => ?_
    have yc := fc.1
    have gc : Grw h4 hc := Tn.grw0 (Grw.trans ga gb) fc fun d hd => (pa7.at hd).1
    have pc2 := ((oa.grw gb).fr2 fc fun b x1 x2 => ty_ne (oa.ty x1) (pa7.ty x2) (by decide)).wide (lo' := h4.size) (hi' := hc.size) (Nat.le_refl _) (by omega)
    have pc8 := ((pa8.grw gb).fr2 fc fun b x1 x2 => ty_ne (pa8.ty x1) (pa7.ty x2) (by decide)).wide (lo' := h4.size) (hi' := hc.size) (Nat.le_refl _) (by omega)
    refine New_i fun b11 hd ed gd kd _ => ?_
    have yd := gd.1
    refine Ap_sh ((pc8.grw gd).wide (Nat.le_refl _) yd) (by omega) rfl (new := [.int .i64 (-9), .int .i64 0, .int .i64 i]) rfl (by simp [one]) (rd_blk kd rfl) (by omega) (by omega) fun v8 he fe ae oe ne => ?_
    have ye := fe.1
    have ge : Grw h4 he := Tn.grw0 (Grw.trans gc gd) fe fun d hd => (pc8.at hd).1
    have pe2 := ((pc2.grw gd).fr2 fe fun b x1 x2 => ty_ne (pc2.ty x1) (pc8.ty x2) (by decide)).wide (lo' := h4.size) (hi' := he.size) (Nat.le_refl _) (by omega)
    have pe7 := ((oc.grw gd).fr2 fe fun b x1 x2 => ty_ne (oc.ty x1) (pc8.ty x2) (by decide)).wide (lo' := h4.size) (hi' := he.size) (Nat.le_refl _) (by omega)
    refine Wr_i64 (by omega) (by omega) (hN _ _ _ _ _ ⟨i + 1, by omega, by omega, ge, ?_, ?_, ?_⟩ (by omega))
    · rw [List.take_add_one, markMd_get (by omega)]; simpa using pe2
    · rw [List.take_add_one, markNd_get (by omega)]; simpa using pe7
    · rw [List.take_add_one, markBf_get (by omega)]; simpa using oe
  · simp only [decide_eq_true_eq, decide_eq_false_iff_not, beq_iff_eq, beq_eq_false_iff_ne, ne_eq, reduceCtorEq, true_iff, false_iff, Bool.not_eq_true', Bool.not_eq_false', bne_iff_ne, bne_eq_false_iff_eq, Bool.not_true, Bool.not_false, Decidable.not_not] at c
    have : i = 3 := by omega
    subst this
    have k1 := k1.grw g8
    have k2 := k2.grw g8
    have W8 := WsD.grw g8 _ W4
    refine J17_1.of ?_
    unfold JT17_1
    simp only [add_blk, Nat.reduceAdd]
    rcases p2 with ⟨q, _⟩ | ⟨c2, c21, c22, p2⟩
    · rw [q] at m2; simp [Sl.nil] at m2; omega
    rcases p7 with ⟨q, _⟩ | ⟨c7, c71, c72, p7⟩
    · rw [q] at m7; simp [Sl.nil] at m7; omega
    rcases p8 with ⟨q, _⟩ | ⟨c8, c81, c82, p8⟩
    · rw [q] at m8; simp [Sl.nil] at m8; omega
    refine Ld_blk k1 rfl (Slc_own' p2 (n := H.ms.length) (by omega) (by omega) (St_i k1 (by simp [vals9]) rfl fun h9 o9 k1 => ?_))
    have k1 : B9 h9 b1 H.k t1 ⟨some ⟨c2, 0, none⟩, H.ms.length, t2.c⟩ H.id H.de H.rows H.press s7 s8 := by simp [vals9] at k1; exact k1
    refine Ld_blk k1 rfl (Slc_own' (p7.fr o9.fr (by omega)) (n := H.nodes.length) (by omega) (by omega) (St_i k1 (by simp [vals9]) rfl fun ha oa k1 => ?_))
    have k1 : B9 ha b1 H.k t1 ⟨some ⟨c2, 0, none⟩, H.ms.length, t2.c⟩ H.id H.de H.rows H.press ⟨some ⟨c7, 0, none⟩, H.nodes.length, t7.c⟩ s8 := by simp [vals9] at k1; exact k1
    refine Ld_blk k1 rfl (Slc_own' ((p8.fr o9.fr (by omega)).fr oa.fr (by omega)) (n := H.bufs.length) (by omega) (by omega) (St_i k1 (by simp [vals9]) rfl fun hb ob k1 => ?_))
    have k1 : B9 hb b1 H.k t1 ⟨some ⟨c2, 0, none⟩, H.ms.length, t2.c⟩ H.id H.de H.rows H.press ⟨some ⟨c7, 0, none⟩, H.nodes.length, t7.c⟩ ⟨some ⟨c8, 0, none⟩, H.bufs.length, t8.c⟩ := by simp [vals9] at k1; exact k1
    have o := (o9.trans oa).trans ob
    refine Copy9 (o.blk k2 (by omega)) rfl k1 fun hc oc => ?_
    have g0c : Grw h hc := oc.grw (o.grw (Grw.trans g04 g8) (by omega)) (by omega)
    have fc : Tn (fun d => d = b1 ∨ d = b2) h8 hc := (o.fr.mono fun d hd _ => .inl hd).trans' oc.fr fun d hd _ => .inr hd
    have e2 : markMd.take 3 = markMd := rfl
    have e7 : markNd.take 3 = markNd := rfl
    have e8 : markBf.take 3 = markBf := rfl
    rw [e2] at p2 L2
    rw [e7] at p7 L7
    rw [e8] at p8 L8
    refine hk _ _ _ _ hc g0c ⟨?_, ?_, ?_, ?_⟩
    · have W3' : WsD (In h2.size h3.size) hc t1 H.fs := by
        have W4' : WsD (In h2.size h3.size) h4 t1 H.fs := WsD.fr o4.fr (fun d hd => ⟨fun q => by have := hd.1; omega, hd⟩) _ W3
        exact WsD.fr fc (fun d hd => ⟨fun q => by have := hd.1; omega, hd⟩) _ (WsD.grw g8 _ W4')
      exact WsD.fr (S := No) (Tn.refl _ _) (fun _ _ => ⟨fun q => q, trivial⟩) _ W3'
    · have := RoomS.of (D := fun _ => True) (p2.fr fc (by omega)) (by omega) L2 trivial
      rwa [List.length_map] at this
    · have := RoomS.of (D := fun _ => True) (p7.fr fc (by omega)) (by omega) L7 trivial
      rwa [List.length_map] at this
    · have := RoomS.of (D := fun _ => True) (p8.fr fc (by omega)) (by omega) L8 trivial
      rwa [List.length_map] at this
end Go.Proofs.YtfomkkdijjfpiaaDoor
/- A head with room is what it was, the room too. -/
namespace Go.Proofs.YtfomkkdijjfpiaaDoor
open Go Go.Sh Go.WideShapes
theorem Slc_any {s : Sl} {sz n : Nat} {x : Int} {a : Addr} (ha : s.a = some a) (hx : x = n) (hn : n ≤ s.c) {K : Sl → Prop} (hk : K ⟨some a, n, s.c⟩) : Slc s sz none (some x) none K := by
  subst hx
  refine ⟨by simp, by simp, by simp; omega, by simp, ?_⟩
  simp only [Option.getD_none, Option.getD_some, Int.toNat_natCast, Nat.sub_zero]
  have e : slAt s.a (Int.toNat 0) s.c sz = some a := by
    unfold slAt
    rw [ha]
    split
    · rfl
    · simp [Addr.add]
  rw [e]; exact hk
/-- the same fields, with room behind, are told the same -/
def KeptF : Fld → Prop
  | .mk _ _ _ _ _ _ cs => cs.length ≤ 70000 → lns cs → ∀ {h0 h : Hp} {D : Nat → Prop} {a b : Sl} {K : Bool → HP} {Kp : PK}, Grw h0 h → WsD D h0 a cs → FsH h0 b cs → (∀ h', Grw h h' → K true h') → Fn39 a b h K Kp
theorem kept_row {n : ByteArray} {nul : Bool} {k w id ix : Int} {u v x0 x1 : Sl} {i : Nat} {p q : Nat} {h : Hp} {N1 : Fr → HP} {K : Bool → HP} {Kp : PK}
    (kp : Blk h p #[.string n, .bool nul, .int .i64 k, .int .i64 w, .int .i64 id, .int .i64 ix, Sl.v u] 63) (kq : Blk h q #[.string n, .bool nul, .int .i64 k, .int .i64 w, .int .i64 id, .int .i64 ix, Sl.v v] 63) (hi : (i : Int) < 9223372036854775807)
    (ih : ∀ (K : Bool → HP), (∀ h', Grw h h' → K true h') → Fn39 u v h K Kp) (hN : ∀ h', Grw h h' → N1 (mk39_2 x0 x1 ((i + 1 : Nat) : Int)) h') : J39_3 x0 x1 (i : Int) ⟨p, 0, none⟩ ⟨q, 0, none⟩ N1 K Kp h := by
  refine J39_3.of ?_
  unfold JT39_3
  simp only [add_blk, Nat.reduceAdd]
  refine Ld_blk kp rfl (Ld_blk kq rfl (If_f (by simp) (Ld_blk kp rfl (Ld_blk kq rfl ?_))))
  refine J39_5.of ?_
  unfold JT39_5
  simp only [add_blk, Nat.reduceAdd]
  refine If_f (by simp) (Ld_blk kp rfl (Ld_blk kq rfl ?_))
  refine J39_6.of ?_
  unfold JT39_6
  simp only [add_blk, Nat.reduceAdd]
  refine If_f (by simp) (Ld_blk kp rfl (Ld_blk kq rfl ?_))
  refine J39_7.of ?_
  unfold JT39_7
  simp only [add_blk, Nat.reduceAdd]
  refine If_f (by simp) (Ld_blk kp rfl (Ld_blk kq rfl ?_))
  refine J39_8.of ?_
  unfold JT39_8
  simp only [add_blk, Nat.reduceAdd]
  refine If_f (by simp) (Ld_blk kp rfl (Ld_blk kq rfl (If_f (by simp) ?_)))
  refine J39_4.of ?_
  unfold JT39_4
  simp only [add_blk, Nat.reduceAdd]
  refine Ld_blk kp rfl (Ld_blk kq rfl (ih _ fun h' g => If_f rfl (Wr_i64 (by omega) (by omega) ?_)))
  have e : (i : Int) + 1 = ((i + 1 : Nat) : Int) := by omega
  rw [e]; exact hN h' g
theorem kept_fs {cs : List Fld} (IH : ∀ f ∈ cs, KeptF f) (hl : cs.length ≤ 70000) (hs : lns cs) {h0 h : Hp} {D : Nat → Prop} {a b : Sl} {K : Bool → HP} {Kp : PK} (g : Grw h0 h) (ha : WsD D h0 a cs) (hb : FsH h0 b cs) (hk : ∀ h', Grw h h' → K true h') : Fn39 a b h K Kp := by
  have nb := hb.n
  obtain ⟨r1, r2, aa, raa, _, rm⟩ := ha.room
  refine Fn39.of ?_
  unfold S39
  refine If_f (by simp [r1, nb.1]) (Wr_i64 (by omega) (by omega) (Slc_any raa (n := cs.length + 3) (by omega) (by omega) ?_))
  refine L39_9.rule (fun x h1 => ∃ i : Nat, x = i ∧ i ≤ 3 ∧ Grw h h1) (fun x _ => 3 - x.toNat) ⟨0, rfl, by omega, Grw.refl _⟩ ?_
  rintro x h1 ⟨i, rfl, hi, g1⟩ N1 hN
  unfold T39_9
  refine If_i (fun c => ?_) fun c => ?_
  · simp only [decide_eq_true_eq, decide_eq_false_iff_not, beq_iff_eq, beq_eq_false_iff_ne, ne_eq, reduceCtorEq, true_iff, false_iff, Bool.not_eq_true', Bool.not_eq_false', bne_iff_ne, bne_eq_false_iff_eq, Bool.not_true, Bool.not_false, Decidable.not_not] at c
    have e1 : (a.n : Int) + (i : Int) = ((cs.length + i : Nat) : Int) := by omega
    rw [e1]
    refine Wr_i64 (by omega) (by omega) ⟨by omega, by first | omega | (simp only; omega), ?_⟩
    rw [Int.toNat_natCast]
    have hc1 := (rm i (by omega)).grw (Grw.trans g g1)
    have c0 := hc1 0 _ rfl; have c1 := hc1 1 _ rfl; have c2 := hc1 2 _ rfl; have c3 := hc1 3 _ rfl; have c4 := hc1 4 _ rfl; have c5 := hc1 5 _ rfl; have c6 := hc1 6 _ rfl
    rw [add_zero'] at c0
    refine ⟨_, c0, _, c1, _, c2, _, c3, _, c4, _, c5, _, c6, ?_⟩
    refine New_i fun b7 h2 e7 g2 k7 _ => St7_i k7 rfl fun h3 o3 k7 => ?_
    have g3 := o3.grw (Grw.trans g1 g2) (by have := g1.1; omega)
    simp only [add_blk, Nat.reduceAdd]
    refine Ld_blk k7 rfl (If_f (by simp) (Ld_blk k7 rfl (Wr_i64 (by omega) (by omega) ?_)))
    refine J39_10.of ?_
    unfold JT39_10
    simp only [add_blk, Nat.reduceAdd]
    refine If_f (by simp) (Ld_blk k7 rfl (If_f (by simp [Sl.nil]) (Wr_i64 (by omega) (by omega) (hN _ _ ⟨i + 1, by omega, by omega, g3⟩ (by omega)))))
  clear hN c
  refine J39_1.of ?_
  unfold JT39_1
  refine L39_2.rule (fun x h2 => ∃ i : Nat, x = i ∧ i ≤ cs.length ∧ Grw h h2) (fun x _ => cs.length - x.toNat) ⟨0, rfl, by omega, g1⟩ ?_
  rintro x h2 ⟨i, rfl, hi, g2⟩ N1 hN
  unfold T39_2
  refine If_i (fun c => ?_) fun c => hk h2 g2
  simp only [decide_eq_true_eq, decide_eq_false_iff_not, beq_iff_eq, beq_eq_false_iff_ne, ne_eq, reduceCtorEq, true_iff, false_iff, Bool.not_eq_true', Bool.not_eq_false', bne_iff_ne, bne_eq_false_iff_eq, Bool.not_true, Bool.not_false, Decidable.not_not] at c
  have hi' : i < cs.length := by omega
  have hj : cs[i]? = some cs[i] := List.getElem?_eq_getElem hi'
  have hmem : cs[i] ∈ cs := List.getElem_mem hi'
  generalize cs[i] = f at hj hmem
  have IHf := IH f hmem
  have hsf := hs.get f hmem
  have g02 := Grw.trans g g2
  obtain ⟨pa, hpa, fa⟩ := ha.get hj
  rw [hpa]
  refine ⟨by omega, by omega, ?_⟩
  rw [Int.toNat_natCast]
  obtain ⟨n, nul, k, wd, id, ix, ds⟩ := f
  unfold Fld.lns at hsf
  have IHf := @IHf hsf.1 hsf.2
  unfold WfD at fa
  obtain ⟨u, hc, hu⟩ := fa
  have hc1 := hc.grw g02
  have c0 := hc1 0 _ rfl; have c1 := hc1 1 _ rfl; have c2 := hc1 2 _ rfl; have c3 := hc1 3 _ rfl; have c4 := hc1 4 _ rfl; have c5 := hc1 5 _ rfl; have c6 := hc1 6 _ rfl
  rw [add_zero'] at c0
  refine ⟨_, c0, _, c1, _, c2, _, c3, _, c4, _, c5, _, c6, ?_⟩
  refine hb.ix rfl hj fun pb fb => ?_
  unfold FldH at fb
  obtain ⟨v, hd, hv⟩ := fb
  have hd1 := hd.grw g02
  have d0 := hd1 0 _ rfl; have d1 := hd1 1 _ rfl; have d2 := hd1 2 _ rfl; have d3 := hd1 3 _ rfl; have d4 := hd1 4 _ rfl; have d5 := hd1 5 _ rfl; have d6 := hd1 6 _ rfl
  rw [add_zero'] at d0
  refine ⟨_, d0, _, d1, _, d2, _, d3, _, d4, _, d5, _, d6, ?_⟩
  have fin : ∀ (p q : Nat) h3, Grw h2 h3 → Blk h3 p #[.string n, .bool nul, .int .i64 k, .int .i64 wd, .int .i64 id, .int .i64 ix, Sl.v u] 63 → Blk h3 q #[.string n, .bool nul, .int .i64 k, .int .i64 wd, .int .i64 id, .int .i64 ix, Sl.v v] 63 → J39_3 a b (i : Int) ⟨p, 0, none⟩ ⟨q, 0, none⟩ N1 K Kp h3 := fun p q h3 g3 kp kq =>
    kept_row kp kq (by omega) (fun K hK => IHf (Grw.trans g02 g3) hu hv hK) fun h' g' => hN _ _ ⟨i + 1, rfl, by omega, Grw.trans g2 (Grw.trans g3 g')⟩ (by omega)
  exact ⟨two_a hc1 hd1 fin, two_b hc1 hd1 fin⟩
theorem kept_f : ∀ f : Fld, KeptF f
  | .mk _ _ _ _ _ _ cs => fun hl hs _ _ _ _ _ _ _ g ha hb hk => kept_fs (fun f _ => kept_f f) hl hs g ha hb hk
theorem kept_c {H : Hd} (hl : H.fs.length ≤ 70000 ∧ lns H.fs) (hm2 : H.ms.length ≤ 70000) (hm7 : H.nodes.length ≤ 70000) (hm8 : H.bufs.length ≤ 70000) (sz : H.sz) {h0 h : Hp} {D : Nat → Prop} {s1 s2 s7 s8 t1 t2 t7 t8 : Sl} {K : Bool → HP} {Kp : PK} (g0 : Grw h0 h) (hw : HdW D h0 H t1 t2 t7 t8) (hh : HdH h0 H s1 s2 s7 s8)
    (hk : ∀ h', Grw h h' → K true h') : Fn19 H.k t1 t2 H.id H.de H.rows H.press t7 t8 H.k s1 s2 H.id H.de H.rows H.press s7 s8 h K Kp := by
  obtain ⟨n2, c2, b2, _, a2, m2⟩ := hw.ms
  obtain ⟨n7, c7, b7, _, a7, m7⟩ := hw.nodes
  obtain ⟨n8, c8, b8, _, a8, m8⟩ := hw.bufs
  have q2 : markMd.length = 3 := rfl
  have q7 : markNd.length = 3 := rfl
  have q8 : markBf.length = 3 := rfl
  rw [List.length_map] at n2 n7 n8
  rw [List.length_map] at c2 c7 c8
  refine Fn19.of ?_
  unfold S19
  refine New_i fun bx h1 e1 g1 kx _ => New_i fun by_ h2 e2 g2 ky _ => ?_
  have kx : B9 h2 bx H.k t1 t2 H.id H.de H.rows H.press t7 t8 := kx.grw g2
  have ky : B9 h2 by_ H.k s1 s2 H.id H.de H.rows H.press s7 s8 := ky
  have z1 := g1.1
  have g02 := Grw.trans g0 (Grw.trans g1 g2)
  simp only [add_blk, Nat.reduceAdd]
  refine Ld_blk kx rfl (Ld_blk kx rfl (Wr_i64 (by omega) (by omega) (Slc_any a2 (n := H.ms.length + 3) (by omega) (by omega) ?_)))
  refine Ld_blk kx rfl (Ld_blk kx rfl (Wr_i64 (by omega) (by omega) (Slc_any a7 (n := H.nodes.length + 3) (by omega) (by omega) ?_)))
  refine Ld_blk kx rfl (Ld_blk kx rfl (Wr_i64 (by omega) (by omega) (Slc_any a8 (n := H.bufs.length + 3) (by omega) (by omega) ?_)))
  refine L19_2.rule (fun x h3 => ∃ i : Nat, x = i ∧ i ≤ 3 ∧ Grw h2 h3) (fun x _ => 3 - x.toNat) ⟨0, rfl, by omega, Grw.refl _⟩ ?_
  rintro x h3 ⟨i, rfl, hi, g3⟩ N1 hN
  have g03 := Grw.trans g02 g3
  unfold T19_2
  refine If_i (fun c => ?_) fun c => ?_
  · simp only [decide_eq_true_eq, decide_eq_false_iff_not, beq_iff_eq, beq_eq_false_iff_ne, ne_eq, reduceCtorEq, true_iff, false_iff, Bool.not_eq_true', Bool.not_eq_false', bne_iff_ne, bne_eq_false_iff_eq, Bool.not_true, Bool.not_false, Decidable.not_not] at c
    have r2 := (m2 (H.ms.length + i) _ (by rw [List.getElem?_append_right (by simp), List.length_map, Nat.add_sub_cancel_left]; exact markMd_get (by omega))).grw g03
    have r7 := (m7 (H.nodes.length + i) _ (by rw [List.getElem?_append_right (by simp), List.length_map, Nat.add_sub_cancel_left]; exact markNd_get (by omega))).grw g03
    have r8 := (m8 (H.bufs.length + i) _ (by rw [List.getElem?_append_right (by simp), List.length_map, Nat.add_sub_cancel_left]; exact markBf_get (by omega))).grw g03
    have x20 := r2 0 _ rfl; have x21 := r2 1 _ rfl
    have x70 := r7 0 _ rfl; have x71 := r7 1 _ rfl
    have x80 := r8 0 _ rfl; have x81 := r8 1 _ rfl; have x82 := r8 2 _ rfl
    rw [add_zero'] at x20 x70 x80
    have z2 := g2.1
    have z3 := g3.1
    have e1 : ∀ n : Nat, ((n + 3 : Nat) : Int) - 3 = (n : Int) := fun n => by omega
    rw [e1, e1, e1]
    have f0 : ∀ n : Nat, (n : Int) + (i : Int) = ((n + i : Nat) : Int) := fun n => by omega
    refine Wr_i64 (by omega) (by omega) ?_
    rw [f0]
    refine Wr_i64 (by omega) (by omega) ⟨by omega, by first | omega | (simp only; omega), ?_⟩
    rw [Int.toNat_natCast, add_blk, Nat.zero_add]
    refine ⟨_, x20, _, x21, New_i fun b9 h4 e9 g4 k9 _ => St_i k9 (by simp) rfl fun h5 o5 k9 => ?_⟩
    simp only [add_blk, Nat.reduceAdd]
    refine St_i k9 (by simp) rfl fun h6 o6 k9 => ?_
    have z4 := g4.1
    have g36 : Grw h3 h6 := o6.grw (o5.grw g4 (by omega)) (by omega)
    have z6 := g36.1
    refine Wr_i64 (by omega) (by omega) ?_
    rw [f0]
    refine Wr_i64 (by omega) (by omega) ⟨by omega, by first | omega | (simp only; omega), ?_⟩
    rw [Int.toNat_natCast, add_blk, Nat.zero_add]
    refine ⟨_, g36.cell x70, _, g36.cell x71, New_i fun b10 h7 e10 g7 k10 _ => St_i k10 (by simp) rfl fun h8 o8 k10 => ?_⟩
    simp only [add_blk, Nat.reduceAdd]
    refine St_i k10 (by simp) rfl fun h9 o9 k10 => ?_
    have z7 := g7.1
    have g69 : Grw h6 h9 := o9.grw (o8.grw g7 (by omega)) (by omega)
    have z9 := g69.1
    have g39 := Grw.trans g36 g69
    refine Wr_i64 (by omega) (by omega) ?_
    rw [f0]
    refine Wr_i64 (by omega) (by omega) ⟨by omega, by first | omega | (simp only; omega), ?_⟩
    rw [Int.toNat_natCast, add_blk, Nat.zero_add]
    refine ⟨_, g39.cell x80, _, g39.cell x81, _, g39.cell x82, New_i fun b11 ha e11 ga k11 _ => St_i k11 (by simp) rfl fun hb ob k11 => ?_⟩
    simp only [add_blk, Nat.reduceAdd]
    refine St_i k11 (by simp) rfl fun hc oc k11 => St_i k11 (by simp) rfl fun hd od k11 => ?_
    have za := ga.1
    have g9d : Grw h9 hd := od.grw (oc.grw (ob.grw ga (by omega)) (by omega)) (by omega)
    have k9 := (k9.grw g69).grw g9d
    have k10 := k10.grw g9d
    simp only [Array.setIfInBounds_def, List.size_toArray, List.length_cons, List.length_nil, Nat.reduceAdd, Nat.reduceLT, dite_true, List.set_toArray, List.set_cons_zero, List.set_cons_succ, Nat.zero_add, Nat.zero_lt_succ] at k9 k10 k11
    refine Ld_blk k9 rfl (If_f (by simp) (Ld_blk k9 rfl ?_))
    refine J19_3.of ?_
    unfold JT19_3
    refine If_f (by simp) (Ld_blk k10 rfl ?_)
    refine J19_4.of ?_
    unfold JT19_4
    simp only [add_blk, Nat.reduceAdd]
    refine If_f (by simp) (Ld_blk k10 rfl ?_)
    refine J19_5.of ?_
    unfold JT19_5
    refine If_f (by simp) (Ld_blk k11 rfl ?_)
    refine J19_6.of ?_
    unfold JT19_6
    simp only [add_blk, Nat.reduceAdd]
    refine If_f (by simp) (Ld_blk k11 rfl ?_)
    refine J19_7.of ?_
    unfold JT19_7
    simp only [add_blk, Nat.reduceAdd]
    refine If_f (by simp) (Ld_blk k11 rfl (If_f (by simp) (Wr_i64 (by omega) (by omega) (hN _ _ ⟨i + 1, by omega, by omega, Grw.trans g3 (Grw.trans g39 g9d)⟩ (by omega)))))
  · refine J19_1.of ?_
    unfold JT19_1
    have kx3 := kx.grw g3
    have ky3 := ky.grw g3
    refine Ld9_i kx3 (Ld9_i ky3 (head_same sz (Grw.refl _) (hw.h.grw g03) (hh.grw g03) fun h4 g4 => If_t rfl ?_))
    simp only [add_blk, Nat.reduceAdd]
    refine Ld_blk (kx3.grw g4) rfl (Ld_blk (ky3.grw g4) rfl (kept_fs (fun f _ => kept_f f) hl.1 hl.2 (Grw.trans g03 g4) hw.fs hh.fs fun h5 g5 => hk h5 (Grw.trans (Grw.trans g1 g2) (Grw.trans g3 (Grw.trans g4 g5)))))
end Go.Proofs.YtfomkkdijjfpiaaDoor
/- What Get answers, in one word. -/
namespace Go.Proofs.YtfomkkdijjfpiaaDoor
open Go Go.Sh Go.WideShapes
/-- the zero head -/
def HdZ : Hd := ⟨0, [], [], 0, false, 0, 0, [], []⟩
theorem HdZ_D {lo hi : Nat} {h : Hp} : HdD lo hi h HdZ Sl.nil Sl.nil Sl.nil Sl.nil := ⟨by unfold HdZ FsD; rfl, Sh.nil _ _ _ _ _, Sh.nil _ _ _ _ _, Sh.nil _ _ _ _ _⟩
theorem HdZ_sz : HdZ.sz := ⟨by decide, by unfold HdZ smls; trivial, by decide, by decide, by decide⟩
theorem HdOk.sz {H : Hd} (h : HdOk H) (hs : smls H.fs) : H.sz := by
  rcases h with ⟨_, _, _, _, _, h1, h2, h3, h4, _⟩ | ⟨_, h1, h2, _, _, _, _, h3, h4, _⟩
  · exact ⟨by omega, hs, by omega, by omega, by omega⟩
  · exact ⟨by omega, hs, by omega, by omega, by omega⟩
/-- what Get answers: the head, the number of the fault, its place -/
def GetR (l : List UInt8) (H : Hd) (e y : Int) : Prop := match getD l with
  | .error er => H = HdZ ∧ e = er.1 ∧ y = er.2
  | .ok G => H = G ∧ e = 0 ∧ y = 0
theorem GetR.err {l : List UInt8} {er : Er} (q : getD l = .error er) : GetR l HdZ er.1 er.2 := by unfold GetR; rw [q]; exact ⟨rfl, rfl, rfl⟩
theorem GetR.okk {l : List UInt8} {H : Hd} (q : getD l = .ok H) : GetR l H 0 0 := by unfold GetR; rw [q]; exact ⟨rfl, rfl, rfl⟩
theorem GetR.eq {l : List UInt8} {H G : Hd} {e y e' y' : Int} (a : GetR l H e y) (b : GetR l G e' y') : H = G ∧ e = e' ∧ y = y' := by
  unfold GetR at a b
  cases hq : getD l with
  | error er => rw [hq] at a b; obtain ⟨rfl, rfl, rfl⟩ := a; obtain ⟨rfl, rfl, rfl⟩ := b; exact ⟨rfl, rfl, rfl⟩
  | ok X => rw [hq] at a b; obtain ⟨rfl, rfl, rfl⟩ := a; obtain ⟨rfl, rfl, rfl⟩ := b; exact ⟨rfl, rfl, rfl⟩
theorem GetR.sz {l : List UInt8} {H : Hd} {e y : Int} (a : GetR l H e y) : H.sz := by
  unfold GetR at a
  cases hq : getD l with
  | error er => rw [hq] at a; obtain ⟨rfl, _⟩ := a; exact HdZ_sz
  | ok X => rw [hq] at a; obtain ⟨rfl, _⟩ := a; exact (getD_headD hq).1.sz (getD_headD hq).2.1
theorem HdOk.cnt {H : Hd} (h : HdOk H) : H.fs.length ≤ 70000 ∧ H.ms.length ≤ 70000 ∧ H.nodes.length ≤ 70000 ∧ H.bufs.length ≤ 70000 := by
  rcases h with ⟨_, _, _, _, _, h1, h2, h3, h4, _⟩ | ⟨_, h1, h2, _, _, _, _, h3, h4, _⟩ <;> omega
theorem get_r {h : Hp} {s : Sl} {l : List UInt8} {K : K12} {Kp : PK} (tb : KTab h) (sv : Sv h s (bv l)) (hl : l.length ≤ 9223372036854775807)
    (hk : ∀ H e y, GetR l H e y → ∀ s1 s2 s7 s8 h', Grw h h' → HdD h.size h'.size h' H s1 s2 s7 s8 → K H.k s1 s2 H.id H.de H.rows H.press s7 s8 e Sl.nil y h') : Fn12 s h K Kp :=
  get_m tb sv hl (fun e q h' g => hk HdZ e.1 e.2 (.err q) Sl.nil Sl.nil Sl.nil Sl.nil h' g HdZ_D) fun H q s1 s2 s7 s8 h' g D => hk H 0 0 (.okk q) s1 s2 s7 s8 h' g D
end Go.Proofs.YtfomkkdijjfpiaaDoor
/- The document's Get: its end; the chain of a head. -/
namespace Go.Proofs.YtfomkkdijjfpiaaDoor
open Go Go.Sh Go.WideShapes
theorem Keep3_i {h h' : Hp} {b i : Nat} {X : Prop} {cs : Array Value} {el el' : TypeId} (k : Blk h b cs el) (k' : Blk h' b cs el') (hx : X) : Keep h h' ⟨b, i, none⟩ 3 X :=
  ⟨fun j hj => by rw [add_blk, cell_blk k, cell_blk k'], hx⟩
theorem end_e {h0 : Hp} {p : Nat} {s : Sl} {l : List UInt8} {h : Hp} {st : Ste} {b2 b3 b5 : Nat} {H : Hd} {s1 s2 s7 s8 : Sl} {cs2 cs3 : Array Value} {K : K12} {Kp : PK} (r : Re h0 p s l h st) (k2 : Blk h b2 cs2 29) (hc2 : cs2.size = 9) (k3 : Blk h b3 cs3 39) (hc3 : cs3.size = 3)
    (k5 : B9 h b5 H.k s1 s2 H.id H.de H.rows H.press s7 s8) (n2 : b2 ≠ p) (n3 : b3 ≠ p) (n25 : b2 ≠ b5) (n35 : b3 ≠ b5) (n23 : b2 ≠ b3)
    (he : ∀ e, st = .error e → ∀ h', Tn (fun d => d = b2 ∨ d = b3) h h' → K 0 Sl.nil Sl.nil 0 false 0 0 Sl.nil Sl.nil e.1 Sl.nil e.2 h')
    (hk : (∀ e, st ≠ .error e) → ∀ h', Tn (fun d => d = b2 ∨ d = b3) h h' → K H.k s1 s2 H.id H.de H.rows H.press s7 s8 0 Sl.nil 0 h') : J13_3 ⟨b2, 0, none⟩ ⟨b3, 0, none⟩ ⟨p, 0, none⟩ ⟨b5, 0, none⟩ K Kp h := by
  refine J13_3.of ?_
  unfold JT13_3
  simp only [add_blk, Nat.reduceAdd]
  cases st with
  | error e =>
    obtain ⟨q, a, m, kp⟩ := r.err
    refine Ld_blk kp rfl (If_t (by simp [q]) (Ld_blk kp rfl (Ld_blk kp (x := Sl.nil) rfl (Ld_blk kp rfl ?_))))
    refine St9_s (s1 := Sl.nil) (s2 := Sl.nil) (s7 := Sl.nil) (s8 := Sl.nil) k2 hc2 fun h1 o1 k2 => ?_
    refine Keep3_i kp (o1.blk kp n2.symm) (St3_s (s := Sl.nil) (o1.blk k3 n23.symm) hc3 fun h2 o2 k3 => ?_)
    have k2 := o2.blk k2 n23
    refine Ld9_s k2 (Ld3_s k3 (he e rfl h2 ((o1.fr.mono fun d hd _ => .inl hd).trans' o2.fr fun d hd _ => .inr hd)))
  | ok am =>
    obtain ⟨a, n⟩ := am
    refine Ld_blk r.okk.1 rfl (If_f (by simp) (Ld9_s k5 ?_))
    refine St9_s k2 hc2 fun h1 o1 k2 => St3_s (s := Sl.nil) (o1.blk k3 n23.symm) hc3 fun h2 o2 k3 => ?_
    have k2 := o2.blk k2 n23
    exact Ld9_s k2 (Ld3_s k3 (hk (fun e q => by cases q) h2 ((o1.fr.mono fun d hd _ => .inl hd).trans' o2.fr fun d hd _ => .inr hd)))
theorem last_e {h0 : Hp} {p : Nat} {s : Sl} {l : List UInt8} {h : Hp} {st : Ste} {b2 b3 b5 : Nat} {H : Hd} {s1 s2 s7 s8 : Sl} {cs2 cs3 : Array Value} {K : K12} {Kp : PK} (r : Re h0 p s l h st) (k2 : Blk h b2 cs2 29) (hc2 : cs2.size = 9) (k3 : Blk h b3 cs3 39) (hc3 : cs3.size = 3)
    (k5 : B9 h b5 H.k s1 s2 H.id H.de H.rows H.press s7 s8) (n2 : b2 ≠ p) (n3 : b3 ≠ p) (n25 : b2 ≠ b5) (n35 : b3 ≠ b5) (n23 : b2 ≠ b3) (n5 : b5 ≠ p) (q : Rel (fun _ _ => headD l) (.ok (0, 0)) H st) (hh : HdH h H s1 s2 s7 s8)
    (he : ∀ e, getD l = .error e → ∀ h', Tn (fun d => d = b2 ∨ d = b3 ∨ d = p) h h' → K 0 Sl.nil Sl.nil 0 false 0 0 Sl.nil Sl.nil e.1 Sl.nil e.2 h')
    (hk : getD l = .ok H → ∀ h', Tn (fun d => d = b2 ∨ d = b3 ∨ d = p) h h' → K H.k s1 s2 H.id H.de H.rows H.press s7 s8 0 Sl.nil 0 h') : J13_1 s ⟨b2, 0, none⟩ ⟨b3, 0, none⟩ ⟨p, 0, none⟩ ⟨b5, 0, none⟩ K Kp h := by
  have hs := r.sv.1
  rw [bv_len] at hs
  have i2 := k2.lt
  have i3 := k3.lt
  have ip := r.lt
  have w : ∀ {h h' : Hp}, Tn (fun d => d = b2 ∨ d = b3) h h' → Tn (fun d => d = b2 ∨ d = b3 ∨ d = p) h h' := fun f => f.mono fun d hd _ => by omega
  have wp : ∀ {h h' : Hp}, Tn (· = p) h h' → Tn (fun d => d = b2 ∨ d = b3 ∨ d = p) h h' := fun f => f.mono fun d hd _ => .inr (.inr hd)
  -- with a fault
  have bad : ∀ e h1, getD l = .error e → Tn (fun d => d = b2 ∨ d = b3 ∨ d = p) h h1 → Re h0 p s l h1 (.error e) → Blk h1 b2 cs2 29 → Blk h1 b3 cs3 39 → B9 h1 b5 H.k s1 s2 H.id H.de H.rows H.press s7 s8 → J13_3 ⟨b2, 0, none⟩ ⟨b3, 0, none⟩ ⟨p, 0, none⟩ ⟨b5, 0, none⟩ K Kp h1 := fun e h1 g f r1 k2 k3 k5 =>
    end_e r1 k2 hc2 k3 hc3 k5 n2 n3 n25 n35 n23 (fun e' q' h' f' => by cases q'; exact he e g h' (f.trans (w f'))) fun x => absurd rfl (x e)
  have bad2 : ∀ e h1, getD l = .error e → Tn (fun d => d = b2 ∨ d = b3 ∨ d = p) h h1 → Re h0 p s l h1 (.error e) → Blk h1 b2 cs2 29 → Blk h1 b3 cs3 39 → B9 h1 b5 H.k s1 s2 H.id H.de H.rows H.press s7 s8 → J13_2 ⟨b2, 0, none⟩ ⟨b3, 0, none⟩ ⟨p, 0, none⟩ ⟨b5, 0, none⟩ K Kp h1 := fun e h1 g f r1 k2 k3 k5 => by
    refine J13_2.of ?_
    unfold JT13_2
    simp only [add_blk, Nat.reduceAdd]
    obtain ⟨q, a, m, kp⟩ := r1.err
    exact Ld_blk kp rfl (If_f (by simp [q]) (bad e h1 g f r1 k2 k3 k5))
  refine J13_1.of ?_
  unfold JT13_1
  simp only [add_blk, Nat.reduceAdd]
  cases st with
  | error e =>
    have g : getD l = .error e := by
      unfold getD
      unfold Rel at q
      simp only at q
      cases hq : headD l with
      | error e' => rw [hq] at q; cases q; rfl
      | ok y => rw [hq] at q; obtain ⟨_, q⟩ := q; cases q
    obtain ⟨q, a, m, kp⟩ := r.err
    exact Ld_blk kp rfl (If_f (by simp [q]) (bad2 e h g (Tn.refl _ _) r k2 k3 k5))
  | ok am =>
    obtain ⟨a, n⟩ := am
    obtain ⟨kp, ha⟩ := r.okk
    have hq : headD l = .ok (H, a, n) := by
      unfold Rel at q
      simp only at q
      cases hq : headD l with
      | error e' => rw [hq] at q; cases q
      | ok y => obtain ⟨y, a', n'⟩ := y; rw [hq] at q; obtain ⟨rfl, q⟩ := q; cases q; rfl
    refine Ld_blk kp rfl (If_t (by simp) (Ld_blk kp rfl (If_i (fun c => Ld_blk kp rfl ?_) fun c => ?_)))
    · simp only [decide_eq_true_eq, decide_eq_false_iff_not, beq_iff_eq, beq_eq_false_iff_ne, ne_eq, reduceCtorEq, true_iff, false_iff, Bool.not_eq_true', Bool.not_eq_false', bne_iff_ne, bne_eq_false_iff_eq, Bool.not_true, Bool.not_false, Decidable.not_not] at c
      refine wrong_e r (by omega) fun h1 f1 r1 => ?_
      exact bad2 (52, a) h1 (by unfold getD; rw [hq]; simp only; rw [if_pos (by omega)]) (wp f1) r1 (f1.blk k2 n2) (f1.blk k3 n3) (f1.blk k5 n5)
    · simp only [decide_eq_true_eq, decide_eq_false_iff_not, beq_iff_eq, beq_eq_false_iff_ne, ne_eq, reduceCtorEq, true_iff, false_iff, Bool.not_eq_true', Bool.not_eq_false', bne_iff_ne, bne_eq_false_iff_eq, Bool.not_true, Bool.not_false, Decidable.not_not] at c
      refine J13_2.of ?_
      unfold JT13_2
      simp only [add_blk, Nat.reduceAdd]
      refine Ld_blk kp rfl (If_t (by simp) (Ld9_s k5 ?_))
      have may : ∃ m : Bool, (m = true ↔ HdOk H) := by
        by_cases q : HdOk H
        · exact ⟨true, by simp [q]⟩
        · exact ⟨false, by simp [q]⟩
      obtain ⟨m, hm⟩ := may
      refine rmay_c hm (Grw.refl _) hh fun h6 g6 => ?_
      have r6 := r.grw g6
      have k2 := k2.grw g6
      have k3 := k3.grw g6
      have k5 := k5.grw g6
      have f6 : Tn (fun d => d = b2 ∨ d = b3 ∨ d = p) h h6 := Tn.of_grw g6
      cases m with
      | false =>
        refine If_t rfl (wrong_e r6 (by omega) fun h7 f7 r7 => ?_)
        refine bad (50, 0) h7 ?_ (f6.trans (wp f7)) r7 (f7.blk k2 n2) (f7.blk k3 n3) (f7.blk k5 n5)
        unfold getD; rw [hq]; simp only
        rw [if_neg (by omega), if_neg (fun x => by have := hm.2 x; simp at this)]
      | true =>
        refine If_f rfl (end_e r6 k2 hc2 k3 hc3 k5 n2 n3 n25 n35 n23 (fun e q => by cases q) fun _ h' f' => hk ?_ h' (f6.trans (w f')))
        unfold getD; rw [hq]; simp only
        rw [if_neg (by omega), if_pos (hm.1 rfl)]
/-- a head, read in one go -/
theorem head_chain {l : List UInt8} : ∃ P : Hd → Ste → Prop, (∀ H st, P H st → Rel (fun _ _ => headD l) (.ok (0, 0)) H st) ∧
    (let q1 := amongE l 1 3 (.ok (0, 0)); let q2 := amongE l 1 1 q1.2; let q3 := amongE l 0 0 q2.2; let q4 := amongE l 0 0 q3.2;
    (q1.1 = 1 → ∀ fs ms st, Rel (schemaD l) q4.2 (fs, ms) st → P ⟨1, fs, ms, 0, false, 0, 0, [], []⟩ st) ∧
    (q1.1 = 2 → let q5 := numE l 2 q4.2; let q6 := amongE l 0 1 q5.2; ∀ H st, Rel (bodyD l 2 q5.1 (q6.1 == 1)) q6.2 H st → P H st) ∧
    (q1.1 = 3 → ∀ H st, Rel (bodyD l 3 0 false) q4.2 H st → P H st) ∧
    (q1.1 ≠ 1 → q1.1 ≠ 2 → q1.1 ≠ 3 → ∀ H, P H q4.2)) := by
  refine ⟨Rel (fun _ _ => headD l) (.ok (0, 0)), fun _ _ h => h, ?_⟩
  simp only
  have he : ∀ H st, Rel (fun _ _ => headD l) (.ok (0, 0)) H st ↔ (match headD l with | .error e => st = .error e | .ok (y, a', n') => H = y ∧ st = .ok (a', n')) := fun H st => by
    unfold Rel; simp only; cases headD l <;> rfl
  simp only [he]
  clear he
  unfold headD
  have stS : ∀ {e : Er} {x : List Fld × List Md} {st}, Rel (schemaD l) (.error e) x st → st = .error e := fun h => h
  have stB : ∀ {e : Er} {k id de} {x : Hd} {st}, Rel (bodyD l k id de) (.error e) x st → st = .error e := fun h => h
  cases p1 : amongD l 1 3 0 with
  | error e =>
    have p1 := amongE_err (n := 0) p1
    generalize amongE l 1 3 (.ok (0, 0)) = q1 at p1 ⊢
    obtain ⟨k, st1⟩ := q1
    simp only at p1 ⊢
    subst p1
    simp only [amongE_stay, numE_stay]
    exact ⟨fun _ _ _ _ r => r, fun _ _ _ r => r, fun _ _ _ r => r, fun _ _ _ _ => trivial⟩
  | ok y =>
    obtain ⟨k, a1⟩ := y
    rw [amongE_ok p1]
    have hk : 1 ≤ k ∧ k ≤ 3 := (amongD_le p1 (Nat.zero_le _)).2.2
    simp only
    cases p2 : amongD l 1 1 a1 with
    | error e =>
      have p2 := amongE_err (n := 0) p2
      generalize amongE l 1 1 (.ok (a1, 0)) = q2 at p2 ⊢
      obtain ⟨x, st2⟩ := q2
      simp only at p2 ⊢
      subst p2
      simp only [amongE_stay, numE_stay]
      exact ⟨fun _ _ _ _ r => r, fun _ _ _ r => r, fun _ _ _ r => r, fun _ _ _ _ => trivial⟩
    | ok y =>
      obtain ⟨x2, a2⟩ := y
      rw [amongE_ok p2]
      simp only
      cases p3 : amongD l 0 0 a2 with
      | error e =>
        have p3 := amongE_err (n := 0) p3
        generalize amongE l 0 0 (.ok (a2, 0)) = q3 at p3 ⊢
        obtain ⟨x, st2⟩ := q3
        simp only at p3 ⊢
        subst p3
        simp only [amongE_stay, numE_stay]
        exact ⟨fun _ _ _ _ r => r, fun _ _ _ r => r, fun _ _ _ r => r, fun _ _ _ _ => trivial⟩
      | ok y =>
        obtain ⟨x3, a3⟩ := y
        rw [amongE_ok p3]
        simp only
        cases p4 : amongD l 0 0 a3 with
        | error e =>
          have p4 := amongE_err (n := 0) p4
          generalize amongE l 0 0 (.ok (a3, 0)) = q4 at p4 ⊢
          obtain ⟨x, st2⟩ := q4
          simp only at p4 ⊢
          subst p4
          simp only [amongE_stay, numE_stay]
          exact ⟨fun _ _ _ _ r => r, fun _ _ _ r => r, fun _ _ _ r => r, fun _ _ _ _ => trivial⟩
        | ok y =>
          obtain ⟨x4, a4⟩ := y
          rw [amongE_ok p4]
          simp only
          unfold restD
          refine ⟨fun e fs ms st r => ?_, fun e H st r => ?_, fun e H st r => ?_, fun e1 e2 e3 => by omega⟩
          · subst e
            rw [if_pos rfl]
            unfold Rel at r
            simp only at r
            cases q5 : schemaD l a4 0 with
            | error e => rw [q5] at r; exact r
            | ok y =>
              obtain ⟨y, a5, n5⟩ := y
              rw [q5] at r
              obtain ⟨rfl, rfl⟩ := r
              exact ⟨rfl, rfl⟩
          · subst e
            rw [if_neg (by omega), if_pos rfl]
            cases q5 : numD l 2 a4 with
            | error e => rw [numE_err q5, amongE_stay] at r; exact r
            | ok y =>
              obtain ⟨id, a5⟩ := y
              rw [numE_ok q5] at r
              simp only at r ⊢
              cases q6 : amongD l 0 1 a5 with
              | error e => rw [amongE_err q6] at r; exact r
              | ok y =>
                obtain ⟨de, a6⟩ := y
                rw [amongE_ok q6] at r
                unfold Rel at r
                simp only at r ⊢
                cases hb : bodyD l 2 id (de == 1) a6 0 with
                | error e => rw [hb] at r; exact r
                | ok y => rw [hb] at r; exact r
          · subst e
            rw [if_neg (by omega), if_neg (by omega)]
            unfold Rel at r
            simp only at r ⊢
            cases hb : bodyD l 3 0 false a4 0 with
            | error e => rw [hb] at r; exact r
            | ok y => rw [hb] at r; exact r
end Go.Proofs.YtfomkkdijjfpiaaDoor
/- The document's Get, the whole. -/
namespace Go.Proofs.YtfomkkdijjfpiaaDoor
open Go Go.Sh Go.WideShapes
theorem rget_c {h : Hp} {s : Sl} {l : List UInt8} {K : K12} {Kp : PK} (sv : Sv h s (bv l)) (hl : l.length ≤ 9223372036854775807)
    (he : ∀ e, getD l = .error e → ∀ h', Grw h h' → K 0 Sl.nil Sl.nil 0 false 0 0 Sl.nil Sl.nil e.1 Sl.nil e.2 h')
    (hk : ∀ H, getD l = .ok H → ∀ s1 s2 s7 s8 h', Grw h h' → HdD h.size h'.size h' H s1 s2 s7 s8 → K H.k s1 s2 H.id H.de H.rows H.press s7 s8 0 Sl.nil 0 h') : Fn13 s h K Kp := by
  refine Fn13.of ?_
  unfold S13
  refine New_i fun b2 h1 e1 g1 k2 _ => New_i fun b3 h2 e2 g2 k3 _ => New_i fun p h3 e3 g3 kp _ => New_i fun b5 h4 e4 g4 k5 _ => ?_
  have z1 := g1.1
  have z2 := g2.1
  have z3 := g3.1
  have z4 := g4.1
  have k2 := ((k2.grw g2).grw g3).grw g4
  have k3 := (k3.grw g3).grw g4
  have kp := kp.grw g4
  have i2 := k2.lt
  have i3 := k3.lt
  have ip := kp.lt
  have i5 := k5.lt
  have G4 : Grw h h4 := Grw.trans (Grw.trans (Grw.trans g1 g2) g3) g4
  have n2 : b2 ≠ p := by have := (k2.lt); omega
  have n3 : b3 ≠ p := by omega
  have n5 : b5 ≠ p := by omega
  have n25 : b2 ≠ b5 := by omega
  have n35 : b3 ≠ b5 := by omega
  have n23 : b2 ≠ b3 := by omega
  have l5 : h.size ≤ b5 := by omega
  have r4 : Re h p s l h4 (.ok (0, 0)) := ⟨⟨_, rfl, kp⟩, G4, by omega, sv, hl, Nat.zero_le _⟩
  obtain ⟨P, hP, ch⟩ := @head_chain l
  simp only at ch
  -- what is written: the reader's cells and the head's
  have T0 : Tn (fun d => d = p ∨ d = b5) h4 h4 := Tn.refl _ _
  have fp : ∀ {h h' : Hp}, Tn (· = p) h h' → Tn (fun d => d = p ∨ d = b5) h h' := fun f => f.mono fun d hd _ => .inl hd
  have fb : ∀ {h h' : Hp}, Only b5 h h' → Tn (fun d => d = p ∨ d = b5) h h' := fun f => f.fr.mono fun d hd _ => .inr hd
  simp only [add_blk, Nat.reduceAdd, Nat.zero_add]
  have last : ∀ (H : Hd) st s1 s2 s7 s8 h', Tn (fun d => d = p ∨ d = b5) h4 h' → Re h p s l h' st → B9 h' b5 H.k s1 s2 H.id H.de H.rows H.press s7 s8 → P H st → HdD h4.size h'.size h' H s1 s2 s7 s8 → J13_1 s ⟨b2, 0, none⟩ ⟨b3, 0, none⟩ ⟨p, 0, none⟩ ⟨b5, 0, none⟩ K Kp h' := by
    intro H st s1 s2 s7 s8 h' f r k5 q D
    have k2 := f.blk k2 (by omega)
    have k3 := f.blk k3 (by omega)
    have i4 := f.1
    have G : ∀ h'', Tn (fun d => d = b2 ∨ d = b3 ∨ d = p) h' h'' → Grw h h'' := fun h'' f' => Tn.grw0 (Tn.grw0 G4 f fun d hd => by omega) f' fun d hd => by omega
    refine last_e r k2 rfl k3 rfl k5 n2 n3 n25 n35 n23 n5 (hP H st q) D.h (fun e g h'' f' => he e g h'' (G h'' f')) fun g h'' f' => hk H g s1 s2 s7 s8 h'' (G h'' f') ?_
    exact D.fr f' (fun b h1 h2 e => by omega) (by omega) f'.1
  refine within_e (lo := 1) (hi := 3) r4 rfl rfl fun h5 f5 r5 => ?_
  have hn5 := stn_among (l := l) (lo := 1) (hi := 3) (st := .ok (0, 0)) (by show 0 ≤ 256; omega)
  generalize amongE l 1 3 (.ok (0, 0)) = q1 at r5 hn5 ch ⊢
  refine St_i (f5.blk k5 n5) (by simp) rfl fun h6 o6 k5 => ?_
  have f6 := (T0.trans (fp f5)).trans (fb o6)
  refine within_e (lo := 1) (hi := 1) (r5.fr o6.fr n5 l5) rfl rfl fun h7 f7 r7 => ?_
  have hn7 := stn_among (l := l) (lo := 1) (hi := 1) hn5
  generalize amongE l 1 1 q1.2 = q2 at r7 hn7 ch ⊢
  refine within_e (lo := 0) (hi := 0) r7 rfl rfl fun h8 f8 r8 => ?_
  have hn8 := stn_among (l := l) (lo := 0) (hi := 0) hn7
  generalize amongE l 0 0 q2.2 = q3 at r8 hn8 ch ⊢
  refine within_e (lo := 0) (hi := 0) r8 rfl rfl fun h9 f9 r9 => ?_
  have hn9 := stn_among (l := l) (lo := 0) (hi := 0) hn8
  generalize amongE l 0 0 q3.2 = q4 at r9 hn9 ch ⊢
  have f79 := (f7.trans f8).trans f9
  have k5 := f79.blk k5 n5
  have f9' := f6.trans (fp f79)
  obtain ⟨kk, st1⟩ := q1
  simp only at ch k5 ⊢
  have k5 : B9 h9 b5 kk Sl.nil Sl.nil 0 false 0 0 Sl.nil Sl.nil := by simp at k5; exact k5
  have i9 := f9'.1
  have nilD : ∀ {h : Hp} {H : Hd} {lo}, H.fs = [] → H.ms = [] → H.nodes = [] → H.bufs = [] → HdD lo h.size h H Sl.nil Sl.nil Sl.nil Sl.nil := fun e1 e2 e3 e4 => ⟨by rw [e1]; unfold FsD; rfl, by rw [e2]; exact Sh.nil _ _ _ _ _, by rw [e3]; exact Sh.nil _ _ _ _ _, by rw [e4]; exact Sh.nil _ _ _ _ _⟩
  refine Ld_blk k5 rfl (If_i (fun c => ?_) fun c => If_i (fun c2 => ?_) fun c2 => If_i (fun c3 => ?_) fun c3 => ?_)
  · simp only [decide_eq_true_eq, decide_eq_false_iff_not, beq_iff_eq, beq_eq_false_iff_ne, ne_eq, reduceCtorEq, true_iff, false_iff, Bool.not_eq_true', Bool.not_eq_false', bne_iff_ne, bne_eq_false_iff_eq, Bool.not_true, Bool.not_false, Decidable.not_not] at c
    have hk1 : kk = 1 := by omega
    subst hk1
    refine schema_e r9 hn9 fun fs ms st t1 t2 ha fa ra hna q hf ho => ?_
    refine St_i (fa.blk k5 n5) (by simp [vals9]) rfl fun hb ob k5 => St_i k5 (by simp [vals9]) rfl fun hc oc k5 => ?_
    have k5 : B9 hc b5 1 t1 t2 0 false 0 0 Sl.nil Sl.nil := by simp [vals9] at k5; exact k5
    have o := ob.trans oc
    refine last ⟨1, fs, ms, 0, false, 0, 0, [], []⟩ st t1 t2 Sl.nil Sl.nil hc ((f9'.trans (fp fa)).trans (fb o)) (ra.fr o.fr n5 l5) k5 (ch.1 rfl fs ms st q) ?_
    have ia := fa.1
    have D : HdD h9.size ha.size ha ⟨1, fs, ms, 0, false, 0, 0, [], []⟩ t1 t2 Sl.nil Sl.nil := ⟨hf, ho, Sh.nil _ _ _ _ _, Sh.nil _ _ _ _ _⟩
    exact D.fr o.fr (fun b h1 h2 e => by omega) (by omega) (by rw [o.1]; exact Nat.le_refl _)
  · simp only [decide_eq_true_eq, decide_eq_false_iff_not, beq_iff_eq, beq_eq_false_iff_ne, ne_eq, reduceCtorEq, true_iff, false_iff, Bool.not_eq_true', Bool.not_eq_false', bne_iff_ne, bne_eq_false_iff_eq, Bool.not_true, Bool.not_false, Decidable.not_not] at c2
    have hk2 : kk = 2 := by omega
    subst hk2
    have k5 : B9 h9 b5 2 Sl.nil Sl.nil 0 false 0 0 Sl.nil Sl.nil := k5
    have ch2 := ch.2.1 rfl
    refine number_e (w := 2) r9 rfl (by omega) fun ha fa ra => ?_
    have hna := stn_num (l := l) (w := 2) hn9
    generalize numE l 2 q4.2 = q5 at ra hna ch2 ⊢
    refine St_i (fa.blk k5 n5) (by simp [vals9]) rfl fun hb ob k5 => ?_
    refine within_e (lo := 0) (hi := 1) (ra.fr ob.fr n5 l5) rfl rfl fun hc fc rc => ?_
    have hnc := stn_among (l := l) (lo := 0) (hi := 1) hna
    generalize amongE l 0 1 q5.2 = q6 at rc hnc ch2 ⊢
    refine St_i (fc.blk k5 n5) (by simp [vals9]) rfl fun hd od k5 => ?_
    have e2 : ((q6.1 : Int) == 1) = (q6.1 == 1) := by
      rw [Bool.eq_iff_iff, beq_iff_eq, beq_iff_eq]; omega
    have k5 : B9 hd b5 2 Sl.nil Sl.nil q5.1 (q6.1 == 1) 0 0 Sl.nil Sl.nil := by rw [← e2]; simp [vals9] at k5; exact k5
    have fd := (((f9'.trans (fp fa)).trans (fb ob)).trans (fp fc)).trans (fb od)
    have id := fd.1
    refine Ld9_s k5 (body_e (rc.fr od.fr n5 l5) hnc fun rows press nodes bufs st t7 t8 he fe re hne q o7 o8 => ?_)
    refine St9_s (fe.blk k5 n5) rfl fun hf of k5 => ?_
    refine last ⟨2, [], [], q5.1, q6.1 == 1, rows, press, nodes, bufs⟩ st Sl.nil Sl.nil t7 t8 hf ((fd.trans (fp fe)).trans (fb of)) (re.fr of.fr n5 l5) k5 (ch2 _ st q) ?_
    have D : HdD hd.size he.size he ⟨2, [], [], q5.1, q6.1 == 1, rows, press, nodes, bufs⟩ Sl.nil Sl.nil t7 t8 := ⟨by unfold FsD; rfl, Sh.nil _ _ _ _ _, o7, o8⟩
    exact D.fr of.fr (fun b h1 h2 e => by omega) (by omega) (by rw [of.1]; exact Nat.le_refl _)
  · simp only [decide_eq_true_eq, decide_eq_false_iff_not, beq_iff_eq, beq_eq_false_iff_ne, ne_eq, reduceCtorEq, true_iff, false_iff, Bool.not_eq_true', Bool.not_eq_false', bne_iff_ne, bne_eq_false_iff_eq, Bool.not_true, Bool.not_false, Decidable.not_not] at c3
    have hk3 : kk = 3 := by omega
    subst hk3
    have k5 : B9 h9 b5 3 Sl.nil Sl.nil 0 false 0 0 Sl.nil Sl.nil := k5
    refine Ld9_s k5 (body_e r9 hn9 fun rows press nodes bufs st t7 t8 he fe re hne q o7 o8 => ?_)
    refine St9_s (fe.blk k5 n5) rfl fun hf of k5 => ?_
    refine last ⟨3, [], [], 0, false, rows, press, nodes, bufs⟩ st Sl.nil Sl.nil t7 t8 hf ((f9'.trans (fp fe)).trans (fb of)) (re.fr of.fr n5 l5) k5 (ch.2.2.1 rfl _ st q) ?_
    have D : HdD h9.size he.size he ⟨3, [], [], 0, false, rows, press, nodes, bufs⟩ Sl.nil Sl.nil t7 t8 := ⟨by unfold FsD; rfl, Sh.nil _ _ _ _ _, o7, o8⟩
    exact D.fr of.fr (fun b h1 h2 e => by omega) (by omega) (by rw [of.1]; exact Nat.le_refl _)
  · simp only [decide_eq_true_eq, decide_eq_false_iff_not, beq_iff_eq, beq_eq_false_iff_ne, ne_eq, reduceCtorEq, true_iff, false_iff, Bool.not_eq_true', Bool.not_eq_false', bne_iff_ne, bne_eq_false_iff_eq, Bool.not_true, Bool.not_false, Decidable.not_not] at c c2 c3
    exact last ⟨kk, [], [], 0, false, 0, 0, [], []⟩ q4.2 Sl.nil Sl.nil Sl.nil Sl.nil h9 f9' r9 k5 (ch.2.2.2 (by omega) (by omega) (by omega) _) (nilD rfl rfl rfl rfl)
end Go.Proofs.YtfomkkdijjfpiaaDoor
/- What the document's Get answers, in one word. -/
namespace Go.Proofs.YtfomkkdijjfpiaaDoor
open Go Go.Sh Go.WideShapes
theorem rget_r {h : Hp} {s : Sl} {l : List UInt8} {K : K12} {Kp : PK} (sv : Sv h s (bv l)) (hl : l.length ≤ 9223372036854775807)
    (hk : ∀ H e y, GetR l H e y → ∀ s1 s2 s7 s8 h', Grw h h' → HdD h.size h'.size h' H s1 s2 s7 s8 → K H.k s1 s2 H.id H.de H.rows H.press s7 s8 e Sl.nil y h') : Fn13 s h K Kp :=
  rget_c sv hl (fun e q h' g => hk HdZ e.1 e.2 (.err q) Sl.nil Sl.nil Sl.nil Sl.nil h' g HdZ_D) fun H q s1 s2 s7 s8 h' g D => hk H 0 0 (.okk q) s1 s2 s7 s8 h' g D
end Go.Proofs.YtfomkkdijjfpiaaDoor
/- Bytes are spoilt; Get answers with memory of its own. -/
namespace Go.Proofs.YtfomkkdijjfpiaaDoor
open Go Go.Sh Go.WideShapes
theorem spoilBytes_c {lo hi : Nat} {h : Hp} {s : Sl} {l : List UInt8} {K : HP} {Kp : PK} (o : Sh lo hi 1 h s (bv l) 5) (hlo : lo ≤ hi) (hhi : hi ≤ h.size) (hl : l.length ≤ 2 ^ 40) (hk : ∀ h', Tn (In lo hi) h h' → K h') : Fn18 s h K Kp := by
  have hn := o.n
  rw [bv_len] at hn
  have ins : ∀ b, s.at b → In lo hi b := fun b hb => o.at hb
  refine Fn18.of ?_
  unfold S18
  refine L18_3.rule (fun x h1 => ∃ (i : Nat) (vs : List Value), x = i ∧ i ≤ s.n ∧ Tn (In lo hi) h h1 ∧ Sh lo hi 1 h1 s vs 5) (fun x _ => s.n - x.toNat) ⟨0, _, rfl, by omega, Tn.refl _ _, o⟩ ?_
  rintro x h1 ⟨i, vs, rfl, hi1, f1, o1⟩ N1 hN
  unfold T18_3
  refine If_i (fun c => ?_) fun c => ?_
  · simp only [decide_eq_true_eq, decide_eq_false_iff_not, beq_iff_eq, beq_eq_false_iff_ne, ne_eq, reduceCtorEq, true_iff, false_iff, Bool.not_eq_true', Bool.not_eq_false', bne_iff_ne, bne_eq_false_iff_eq, Bool.not_true, Bool.not_false, Decidable.not_not] at c
    refine Wr_any (Lt_any ?_)
    refine o1.wr0 (by omega) (i := i) rfl (by omega) rfl fun h2 v2 f2 o2 => Wr_i64 (by omega) (by omega) (hN _ _ ⟨i + 1, v2, by omega, by omega, f1.trans (f2.mono fun d hd _ => ins d hd), o2⟩ (by omega))
  clear hN c
  have z1 := f1.1
  refine J18_1.of ?_
  unfold JT18_1
  refine L18_2.rule (fun t x h2 => ∃ (i : Nat) (vs : List Value), x = i ∧ i ≤ 20 ∧ Tn (In lo hi) h h2 ∧ Sh lo h2.size 1 h2 t vs 5 ∧ t.n = s.n + i ∧ (∀ d, t.at d → In lo hi d ∨ h.size ≤ d)) (fun _ x _ => 20 - x.toNat)
    ⟨0, _, rfl, by omega, f1, o1.wide (Nat.le_refl _) (by omega), by omega, fun d hd => .inl (ins d hd)⟩ ?_
  rintro t x h2 ⟨i, ws, rfl, hi2, f2, o2, hn2, r2⟩ N1 hN
  unfold T18_2
  have z2 := f2.1
  refine If_i (fun c => ?_) fun c => ?_
  · simp only [decide_eq_true_eq, decide_eq_false_iff_not, beq_iff_eq, beq_eq_false_iff_ne, ne_eq, reduceCtorEq, true_iff, false_iff, Bool.not_eq_true', Bool.not_eq_false', bne_iff_ne, bne_eq_false_iff_eq, Bool.not_true, Bool.not_false, Decidable.not_not] at c
    refine Wr_any (Wr_any (New_i fun b h3 e3 g3 k3 _ => ?_))
    have z3 := g3.1
    refine Ap_sh ((o2.grw g3).wide (Nat.le_refl _) z3) (by omega) rfl (new := [_]) rfl (by simp [one]) (rd_blk k3 rfl) (by omega) (by omega) fun t' h4 f4 a4 o4 n4 => ?_
    refine Wr_i64 (by omega) (by omega) (hN _ _ _ ⟨i + 1, _, by omega, by omega, (f2.trans (Tn.of_grw g3)).trans' f4 fun d hd hlt => ?_, o4, by omega, fun d hd => ?_⟩ (by omega))
    · rcases r2 d hd with q | q
      · exact q
      · omega
    · rcases a4 d hd with q | q
      · exact r2 d q
      · exact .inr (by omega)
  · refine MkS_i (by omega) (by omega) (by omega) fun u h3 g3 ou z3 => ?_
    have z3' := g3.1
    have su : Sv h3 u (List.replicate (Int.toNat 90) (.int .u8 0)) := (Sh.of_own (lo := 0) (hi := h2.size + 1) ou (Nat.zero_le _) (by omega)).sv
    have nu := su.1
    simp only [List.length_replicate] at nu
    have e90 : Int.toNat 90 = 90 := rfl
    rw [e90] at nu
    refine Ap_sh ((o2.grw g3).wide (Nat.le_refl _) z3') (by omega) rfl (new := List.replicate (Int.toNat 90) (.int .u8 0)) (by rw [List.length_replicate, e90]; omega) (fun v hv => by rw [List.eq_of_mem_replicate hv]; rfl) (Sv.rd su) (by omega) (by omega) fun t' h4 f4 a4 o4 n4 => ?_
    refine hk h4 ((f2.trans (Tn.of_grw g3)).trans' f4 fun d hd hlt => ?_)
    rcases r2 d hd with q | q
    · exact q
    · omega
/-- a list of one's own, cut -/
theorem OwnS.cut {h : Hp} {s : Sl} {b : Nat} {vs : List Value} {el : TypeId} (o : OwnS 1 h s b vs el) {n : Nat} (hn : n ≤ s.n) : OwnS 1 h ⟨some ⟨b, 0, none⟩, n, s.c⟩ b (vs.take n) el := by
  obtain ⟨h1, h2, cs, h3, h4, h5, h6⟩ := o
  refine ⟨rfl, by simp; omega, cs, h3, by simp only; omega, h5, fun i hi => ?_⟩
  simp only at hi
  rw [h6 i (by omega), List.getElem?_take, if_pos (by omega)]
theorem OwnS.sv {h : Hp} {s : Sl} {b : Nat} {vs : List Value} {el : TypeId} (o : OwnS 1 h s b vs el) : Sv h s vs := (Sh.sv (lo := 0) (hi := b + 1) (.inr ⟨b, Nat.zero_le _, by omega, o⟩))
theorem Slc_own {h : Hp} {s : Sl} {b : Nat} {vs : List Value} {el : TypeId} (o : OwnS 1 h s b vs el) {x : Int} {n : Nat} (hx : x = n) (hn : n ≤ s.n) {K : Sl → Prop} (hk : K ⟨some ⟨b, 0, none⟩, n, s.c⟩) : Slc s 1 none (some x) none K := by
  subst hx
  obtain ⟨h1, h2, cs, h3, h4, h5, h6⟩ := o
  refine ⟨by simp, by simp, by simp; omega, by simp, ?_⟩
  simp only [Option.getD_none, Option.getD_some, Int.toNat_natCast, Nat.sub_zero]
  have e : slAt s.a (Int.toNat 0) s.c 1 = some ⟨b, 0, none⟩ := by
    unfold slAt
    rw [h1]
    split
    · rfl
    · simp [Addr.add]
  rw [e]; exact hk
def nine : List UInt8 := (List.range 9).map fun (i : Nat) => b8 (160 + (i : Int))
theorem nine_get {i : Nat} (hi : i < 9) : nine[i]? = some (b8 (160 + (i : Int))) := by
  unfold nine
  rw [List.getElem?_map, List.getElem?_range hi]; rfl
theorem GetR.cnt {l : List UInt8} {H : Hd} {e y : Int} (a : GetR l H e y) : (H.fs.length ≤ 70000 ∧ lns H.fs) ∧ H.ms.length ≤ 70000 ∧ H.nodes.length ≤ 70000 ∧ H.bufs.length ≤ 70000 := by
  unfold GetR at a
  cases hq : getD l with
  | error er => rw [hq] at a; obtain ⟨rfl, _⟩ := a; exact ⟨⟨by decide, by unfold HdZ lns; trivial⟩, by decide, by decide, by decide⟩
  | ok X =>
    rw [hq] at a
    obtain ⟨rfl, _⟩ := a
    obtain ⟨h1, h2, n', h3⟩ := getD_headD hq
    have := h1.cnt
    rcases h3 with h3 | ⟨_, _, h3⟩
    · exact ⟨headD_lns h3, this.2⟩
    · exact ⟨headD_lns h3, this.2⟩
end Go.Proofs.YtfomkkdijjfpiaaDoor
/- Get's answers have memory of their own; bytes written over and asked again. -/
namespace Go.Proofs.YtfomkkdijjfpiaaDoor
open Go Go.Sh Go.WideShapes
theorem bv_set (l : List UInt8) (i : Nat) (b : UInt8) : (bv l).set i (.int .u8 b.toNat) = bv (l.set i b) := by simp [bv, List.map_set]
/-- a byte is turned, and both are asked again -/
theorem asked_c {l : List UInt8} {h0 h : Hp} {b3 b10 b : Nat} {x7 : Sl} {H : Hd} {s1 s2 s7 s8 t1 t2 t7 t8 : Sl} {lo hi lo' hi' : Nat} {K : Bool → HP} {Kp : PK} (hl : l.length ≤ 2 ^ 47) (tb : KTab h0) (g : Grw h0 h) (hb : h0.size ≤ b) (o : OwnS 1 h x7 b (bv l) 5)
    (k3 : B9 h b3 H.k s1 s2 H.id H.de H.rows H.press s7 s8) (k10 : B9 h b10 H.k t1 t2 H.id H.de H.rows H.press t7 t8) (D1 : HdD lo hi h H s1 s2 s7 s8) (D3 : HdD lo' hi' h H t1 t2 t7 t8) (n3 : b3 ≠ b) (n10 : b10 ≠ b) (d1 : hi ≤ b) (d3 : b < lo') (sz : H.sz)
    (hk : ∀ h', Grw h0 h' → K true h') : J20_4 ⟨b3, 0, none⟩ x7 ⟨b10, 0, none⟩ K Kp h := by
  have hn := o.2.1
  rw [bv_len, Nat.mul_one] at hn
  refine J20_4.of ?_
  unfold JT20_4
  refine If_i (fun c => hk h g) fun c => ?_
  simp only [decide_eq_true_eq, decide_eq_false_iff_not, beq_iff_eq, beq_eq_false_iff_ne, ne_eq, reduceCtorEq, true_iff, false_iff, Bool.not_eq_true', Bool.not_eq_false', bne_iff_ne, bne_eq_false_iff_eq, Bool.not_true, Bool.not_false, Decidable.not_not] at c
  have hd2 : Int.tdiv (x7.n : Int) 2 = ((l.length / 2 : Nat) : Int) := by rw [Int.tdiv_eq_ediv_of_nonneg (by omega)]; omega
  rw [hd2]
  have hi2 : l.length / 2 < l.length := by omega
  have ei : l[l.length / 2]? = some l[l.length / 2] := List.getElem?_eq_getElem hi2
  generalize l[l.length / 2] = u at ei
  refine Dv_i (by decide) (Wr_i64 (by omega) (by omega) (o.ix (by omega) (by omega) ?_))
  rw [Int.toNat_natCast, Nat.mul_one]
  refine o.ld (i := l.length / 2) (by omega) (mk := Value.int .u8) (x := (u.toNat : Int)) (by rw [bv, List.getElem?_map, ei]; rfl) (Lt_any (o.ix (by omega) (by omega) ?_))
  rw [Int.toNat_natCast, Nat.mul_one]
  obtain ⟨u', hu'⟩ : ∃ u' : UInt8, bitsV .xor .u8 (u.toNat : Int) 1 = (u'.toNat : Int) := ⟨_, b8_v _⟩
  rw [hu']
  refine o.st (i := l.length / 2) (by omega) rfl fun h1 oo o1 => ?_
  rw [bv_set] at o1
  have g1 := oo.grw g hb
  have k3 := oo.blk k3 n3
  have k10 := oo.blk k10 n10
  have D1 := D1.fr oo.fr (fun d h1 h2 e => by omega) (Nat.le_refl _) (Nat.le_refl _)
  have D3 := D3.fr oo.fr (fun d h1 h2 e => by omega) (Nat.le_refl _) (Nat.le_refl _)
  have hl' : (l.set (l.length / 2) u').length ≤ 9223372036854775807 := by rw [List.length_set]; omega
  refine rget_r (OwnS.sv o1) hl' fun G e y q r1 r2 r7 r8 h2 g2 E2 => ?_
  refine New_i fun b14 h3 e14 g3 k14 _ => New_i fun b15 h4 e15 g4 k15 _ => ?_
  have k14 := k14.grw g4
  have i14 := k14.lt
  have z3 := g3.1
  refine St9_i k14 rfl fun h5 o5 k14 => St3_i (o5.blk k15 (by omega)) rfl fun h6 o6 k15 => ?_
  have k14 := o6.blk k14 (by omega)
  have g26 : Grw h2 h6 := o6.grw (o5.grw (Grw.trans g3 g4) (by omega)) (by omega)
  have g16 := Grw.trans g2 g26
  refine get_r (tb.grw (Grw.trans g1 g16)) ((OwnS.sv o1).grw g16) hl' fun G' e' y' q' u1 u2 u7 u8 h7 g7 E7 => ?_
  obtain ⟨rfl, rfl, rfl⟩ := q.eq q'
  refine New_i fun b16 h8 e16 g8 k16 _ => New_i fun b17 h9 e17 g9 k17 _ => ?_
  have k16 := k16.grw g9
  have i16 := k16.lt
  have z8 := g8.1
  refine St9_i k16 rfl fun ha oa k16 => St3_i (oa.blk k17 (by omega)) rfl fun hb ob k17 => ?_
  have k16 := ob.blk k16 (by omega)
  have g7b : Grw h7 hb := ob.grw (oa.grw (Grw.trans g8 g9) (by omega)) (by omega)
  have g6b := Grw.trans g7 g7b
  have g1b := Grw.trans g16 g6b
  refine Ld3_i k17 (Ld3_i (k15.grw g6b) (fault_same rfl rfl fun hc gc => If_t rfl (Ld9_i (k16.grw gc) (Ld9_i ((k14.grw g6b).grw gc) ?_))))
  refine head_same q.sz (Grw.refl _) ((E7.h.grw g7b).grw gc) ((E2.h.grw (Grw.trans g26 g6b)).grw gc) fun hd gd => ?_
  have gcd := Grw.trans g1b (Grw.trans gc gd)
  refine J20_5.of ?_
  unfold JT20_5
  refine If_t rfl (Ld9_i (k10.grw gcd) (Ld9_i (k3.grw gcd) (head_same sz (Grw.refl _) (D3.h.grw gcd) (D1.h.grw gcd) fun he ge => hk he (Grw.trans g1 (Grw.trans gcd ge)))))
/-- the bytes behind are as they were -/
theorem look_c {l : List UInt8} {h0 h : Hp} {b3 b10 b : Nat} {x0 x5 : Sl} {H : Hd} {s1 s2 s7 s8 t1 t2 t7 t8 : Sl} {lo hi lo' hi' : Nat} {K : Bool → HP} {Kp : PK} (hl : l.length ≤ 2 ^ 47) (tb : KTab h0) (g : Grw h0 h) (hb : h0.size ≤ b) (o : OwnS 1 h x5 b (bv (l ++ nine)) 5) (s0 : Sv h x0 (bv l))
    (k3 : B9 h b3 H.k s1 s2 H.id H.de H.rows H.press s7 s8) (k10 : B9 h b10 H.k t1 t2 H.id H.de H.rows H.press t7 t8) (D1 : HdD lo hi h H s1 s2 s7 s8) (D3 : HdD lo' hi' h H t1 t2 t7 t8) (n3 : b3 ≠ b) (n10 : b10 ≠ b) (d1 : hi ≤ b) (d3 : b < lo') (sz : H.sz)
    (hk : ∀ h', Grw h0 h' → K true h') : L20_7 x0 ⟨b3, 0, none⟩ x5 ⟨some ⟨b, 0, none⟩, l.length, x5.c⟩ ⟨b10, 0, none⟩ K Kp 0 h := by
  have n0 := s0.1
  rw [bv_len] at n0
  have n5 := o.2.1
  have h9 : nine.length = 9 := rfl
  rw [bv_len, List.length_append, h9, Nat.mul_one] at n5
  have s5 := OwnS.sv o
  refine L20_7.rule (fun x h' => h = h' ∧ ∃ i : Nat, x = i ∧ i ≤ l.length) (fun x _ => l.length - x.toNat) ⟨rfl, 0, rfl, by omega⟩ ?_
  rintro x h' ⟨rfl, i, rfl, hi1⟩ N1 hN
  unfold T20_7
  refine If_i (fun c => ?_) fun c => ?_
  · simp only [decide_eq_true_eq, decide_eq_false_iff_not, beq_iff_eq, beq_eq_false_iff_ne, ne_eq, reduceCtorEq, true_iff, false_iff, Bool.not_eq_true', Bool.not_eq_false', bne_iff_ne, bne_eq_false_iff_eq, Bool.not_true, Bool.not_false, Decidable.not_not] at c
    have ei : l[i]? = some l[i] := List.getElem?_eq_getElem (by omega)
    generalize l[i] = u at ei
    refine s5.ix (by omega) (by omega) (v := .int .u8 (u.toNat : Int)) (by rw [Int.toNat_natCast, bv, List.getElem?_map, List.getElem?_append_left (by omega), ei]; rfl) fun pa ca => ?_
    refine ⟨_, ca, s0.ix (by omega) (by omega) (v := .int .u8 (u.toNat : Int)) (by rw [Int.toNat_natCast, bv, List.getElem?_map, ei]; rfl) fun pb cb => ⟨_, cb, If_f (by simp) (Wr_i64 (by omega) (by omega) (hN _ _ ⟨rfl, i + 1, by omega, by omega⟩ (by omega)))⟩⟩
  clear hN c
  refine J20_3.of ?_
  unfold JT20_3
  refine L20_6.rule (fun x h' => h = h' ∧ ∃ i : Nat, x = i ∧ i ≤ 9) (fun x _ => 9 - x.toNat) ⟨rfl, 0, rfl, by omega⟩ ?_
  rintro x h' ⟨rfl, j, rfl, hj1⟩ N1 hN
  unfold T20_6
  refine If_i (fun c => ?_) fun c => ?_
  · simp only [decide_eq_true_eq, decide_eq_false_iff_not, beq_iff_eq, beq_eq_false_iff_ne, ne_eq, reduceCtorEq, true_iff, false_iff, Bool.not_eq_true', Bool.not_eq_false', bne_iff_ne, bne_eq_false_iff_eq, Bool.not_true, Bool.not_false, Decidable.not_not] at c
    have e1 : (x0.n : Int) + (j : Int) = ((l.length + j : Nat) : Int) := by omega
    rw [e1]
    refine Wr_i64 (by omega) (by omega) (s5.ix (by omega) (by omega) (v := .int .u8 ((b8 (160 + (j : Int))).toNat : Int)) (by rw [Int.toNat_natCast, bv, List.getElem?_map, List.getElem?_append_right (by omega), Nat.add_sub_cancel_left, nine_get (by omega)]; rfl) fun pa ca => ?_)
    refine ⟨_, ca, Wr_i64 (by omega) (by omega) (Wr_any ?_)⟩
    rw [b8_v]
    exact If_f (by simp) (Wr_i64 (by omega) (by omega) (hN _ _ ⟨rfl, j + 1, by omega, by omega⟩ (by omega)))
  · have oc := OwnS.cut o (n := l.length) (by omega)
    have e : (bv (l ++ nine)).take l.length = bv l := by rw [bv_append]; exact List.take_left' (bv_len l)
    rw [e] at oc
    exact asked_c hl tb g hb oc k3 k10 D1 D3 n3 n10 d1 d3 sz hk
/-- asked twice, one of the answers spoilt -/
theorem twice_c {l : List UInt8} {h0 h : Hp} {b3 b4 b : Nat} {x0 x5 : Sl} {H : Hd} {e y : Int} {s1 s2 s7 s8 : Sl} {lo hi : Nat} {K : Bool → HP} {Kp : PK} (hl : l.length ≤ 2 ^ 47) (tb : KTab h0) (g : Grw h0 h) (hb : h0.size ≤ b) (o : OwnS 1 h x5 b (bv (l ++ nine)) 5) (s0 : Sv h0 x0 (bv l)) (q : GetR l H e y)
    (k3 : B9 h b3 H.k s1 s2 H.id H.de H.rows H.press s7 s8) (k4 : B3 h b4 e Sl.nil y) (D1 : HdD lo hi h H s1 s2 s7 s8) (n3 : b3 ≠ b) (d1 : hi ≤ b)
    (hk : ∀ h', Grw h0 h' → K true h') : J20_1 x0 ⟨b3, 0, none⟩ ⟨b4, 0, none⟩ x5 K Kp h := by
  have n0 := s0.1
  rw [bv_len] at n0
  have n5 := o.2.1
  have h9 : nine.length = 9 := rfl
  rw [bv_len, List.length_append, h9, Nat.mul_one] at n5
  have ib := o.lt
  have i3 := k3.lt
  refine J20_1.of ?_
  unfold JT20_1
  refine Slc_own o (n := l.length) (by omega) (by omega) ?_
  have oc := OwnS.cut o (n := l.length) (by omega)
  have ee : (bv (l ++ nine)).take l.length = bv l := by rw [bv_append]; exact List.take_left' (bv_len l)
  rw [ee] at oc
  have sv := OwnS.sv oc
  refine get_r (tb.grw g) sv (by omega) fun H1 e1 y1 q1 u1 u2 u7 u8 h1 g1 E1 => ?_
  obtain ⟨rfl, rfl, rfl⟩ := q.eq q1
  refine New_i fun b8 h2 e8 g2 k8 _ => New_i fun b9 h3 e9 g3 k9 _ => ?_
  have k8 := k8.grw g3
  have i8 := k8.lt
  have z2 := g2.1
  refine St9_i k8 rfl fun h4 o4 k8 => St3_i (o4.blk k9 (by omega)) rfl fun h5 o5 k9 => ?_
  have k8 := o5.blk k8 (by omega)
  have g15 : Grw h1 h5 := o5.grw (o4.grw (Grw.trans g2 g3) (by omega)) (by omega)
  have gh5 := Grw.trans g1 g15
  refine get_r (tb.grw (Grw.trans g gh5)) (sv.grw gh5) (by omega) fun H2 e2 y2 q2 r1 r2 r7 r8 h6 g6 E6 => ?_
  obtain ⟨rfl, rfl, rfl⟩ := q.eq q2
  refine New_i fun b10 h7 e10 g7 k10 _ => New_i fun b11 h8 e11 g8 k11 _ => ?_
  have k10 := k10.grw g8
  have i10 := k10.lt
  have z7 := g7.1
  refine St9_i k10 rfl fun h9' o9 k10 => St3_i (o9.blk k11 (by omega)) rfl fun ha oa k11 => ?_
  have k10 := oa.blk k10 (by omega)
  have g6a : Grw h6 ha := oa.grw (o9.grw (Grw.trans g7 g8) (by omega)) (by omega)
  have g5a := Grw.trans g6 g6a
  have gha := Grw.trans gh5 g5a
  refine Ld3_i (k9.grw g5a) (Ld3_i (k4.grw gha) (fault_same rfl rfl fun hb' gb => If_f rfl ?_))
  refine Ld3_i (k11.grw gb) (Ld3_i ((k4.grw gha).grw gb) (fault_same rfl rfl fun hc gc => ?_))
  have gac := Grw.trans gb gc
  have ghc := Grw.trans gha gac
  refine J20_8.of ?_
  unfold JT20_8
  have k8c := (k8.grw g5a).grw gac
  have k3c := k3.grw ghc
  have E1c := E1.fr (S := No) (Tn.of_grw (Grw.trans g15 (Grw.trans g5a gac))) (fun _ _ _ q => q) (Nat.le_refl _) (Nat.le_refl _)
  have D1c := D1.fr (S := No) (Tn.of_grw ghc) (fun _ _ _ q => q) (Nat.le_refl _) (Nat.le_refl _)
  have E6c := E6.fr (S := No) (Tn.of_grw (Grw.trans g6a gac)) (fun _ _ _ q => q) (Nat.le_refl _) (Nat.le_refl _)
  refine If_f rfl (Ld9_i k8c (Ld9_i k3c (head_same q.sz (Grw.refl _) E1c.h D1c.h fun hd gd => If_f rfl ?_)))
  have ghd := Grw.trans ghc gd
  have k8d := k8c.grw gd
  have E1d := E1c.fr (S := No) (Tn.of_grw gd) (fun _ _ _ q => q) (Nat.le_refl _) (Nat.le_refl _)
  have D1d := D1c.fr (S := No) (Tn.of_grw gd) (fun _ _ _ q => q) (Nat.le_refl _) (Nat.le_refl _)
  have E6d := E6c.fr (S := No) (Tn.of_grw gd) (fun _ _ _ q => q) (Nat.le_refl _) (Nat.le_refl _)
  have k10d := (k10.grw gac).grw gd
  have k3d := k3c.grw gd
  have od := oc.grw ghd
  have o5d := o.grw ghd
  have w1 := g1.1; have w15 := g15.1; have w6 := g6.1; have w6a := g6a.1; have wac := gac.1; have wd := gd.1; have wg := g.1
  refine J20_2.of ?_
  unfold JT20_2
  obtain ⟨cn1, cn2, cn3, cn4⟩ := q.cnt
  refine Ld9_i k8d (spoil_c E1d (by omega) (by omega) cn1 cn2 cn3 cn4 fun he fe => ?_)
  have k10e := fe.blk k10d (fun q => by have := q.2; omega)
  have k3e := fe.blk k3d (fun q => by have := q.1; omega)
  have D1e := D1d.fr fe (fun d h1 h2 q => by have := q.1; omega) (Nat.le_refl _) (Nat.le_refl _)
  have E6e := E6d.fr fe (fun d h1 h2 q => by have := q.2; omega) (Nat.le_refl _) (Nat.le_refl _)
  have o5e := o5d.fr fe (fun q => by have := q.1; omega)
  have gge : Grw h0 he := Tn.grw0 (Grw.trans g ghd) fe fun d hd => by have := hd.1; omega
  refine Ld9_i k10e (Ld9_i k3e (head_same q.sz (Grw.refl _) E6e.h D1e.h fun hf gf => If_f rfl ?_))
  have D1f := D1e.fr (S := No) (Tn.of_grw gf) (fun _ _ _ q => q) (Nat.le_refl _) (Nat.le_refl _)
  have E6f := E6e.fr (S := No) (Tn.of_grw gf) (fun _ _ _ q => q) (Nat.le_refl _) (Nat.le_refl _)
  have ggf := Grw.trans gge gf
  exact look_c hl tb ggf hb (o5e.grw gf) (s0.grw ggf) (k3e.grw gf) (k10e.grw gf) D1f E6f n3 (by omega) d1 (by omega) q.sz hk
theorem keepsBytes_c {l : List UInt8} {h : Hp} {s : Sl} {K : Bool → HP} {Kp : PK} (tb : KTab h) (sv : Sv h s (bv l)) (hl : l.length ≤ 2 ^ 47) (hk : ∀ h', Grw h h' → K true h') : Fn20 s h K Kp := by
  refine Fn20.of ?_
  unfold S20
  refine rget_r sv (by omega) fun H e y q s1 s2 s7 s8 h1 g1 D1 => ?_
  refine New_i fun b3 h2 e3 g2 k3 _ => New_i fun b4 h3 e4 g3 k4 _ => ?_
  have k3 := k3.grw g3
  have i3 := k3.lt
  have z2 := g2.1
  refine St9_i k3 rfl fun h4 o4 k3 => St3_i (o4.blk k4 (by omega)) rfl fun h5 o5 k4 => ?_
  have k3 := o5.blk k3 (by omega)
  have g15 : Grw h1 h5 := o5.grw (o4.grw (Grw.trans g2 g3) (by omega)) (by omega)
  have g05 := Grw.trans g1 g15
  have i4 := k4.lt
  have i3 := k3.lt
  have w1 := g1.1
  have w15 := g15.1
  refine Ap_copy (sv.grw g05) hl fun t1 h6 g6 o6 => ?_
  refine L20_9.rule (fun t x h7 => ∃ i : Nat, x = i ∧ i ≤ 9 ∧ Sh h5.size h7.size 1 h7 t (bv (l ++ nine.take i)) 5 ∧ Grw h5 h7) (fun _ x _ => 9 - x.toNat) ⟨0, rfl, by omega, by simpa using o6, g6⟩ ?_
  rintro t x h7 ⟨i, rfl, hi, o7, g7⟩ N1 hN
  unfold T20_9
  have nn := o7.n
  rw [bv_len, List.length_append, Nat.mul_one] at nn
  have h9 : nine.length = 9 := rfl
  have nt : (nine.take i).length = i := by rw [List.length_take]; omega
  refine If_i (fun c => ?_) fun c => ?_
  · simp only [decide_eq_true_eq, decide_eq_false_iff_not, beq_iff_eq, beq_eq_false_iff_ne, ne_eq, reduceCtorEq, true_iff, false_iff, Bool.not_eq_true', Bool.not_eq_false', bne_iff_ne, bne_eq_false_iff_eq, Bool.not_true, Bool.not_false, Decidable.not_not] at c
    refine Wr_i64 (by omega) (by omega) (Wr_any ?_)
    rw [b8_v]
    refine New_i fun bx h8 ex g8 kx _ => ?_
    have y8 := g8.1
    have y7 := g7.1
    refine Ap_sh ((o7.grw g8).wide (Nat.le_refl _) y8) (by omega) rfl (new := bv [b8 (160 + (i : Int))]) rfl (by simp [bv, one]) (rd_blk kx rfl) (by omega) (by omega) fun t' h9' f9 a9 o9 n9 => ?_
    have e : bv (l ++ nine.take i) ++ bv [b8 (160 + (i : Int))] = bv (l ++ nine.take (i + 1)) := by
      rw [← bv_append, List.append_assoc, List.take_add_one, nine_get (by omega)]; rfl
    rw [e] at o9
    refine Wr_i64 (by omega) (by omega) (hN _ _ _ ⟨i + 1, by omega, by omega, o9, Tn.grw0 (Grw.trans g7 g8) f9 fun d hd => (o7.at hd).1⟩ (by omega))
  · simp only [decide_eq_true_eq, decide_eq_false_iff_not, beq_iff_eq, beq_eq_false_iff_ne, ne_eq, reduceCtorEq, true_iff, false_iff, Bool.not_eq_true', Bool.not_eq_false', bne_iff_ne, bne_eq_false_iff_eq, Bool.not_true, Bool.not_false, Decidable.not_not] at c
    have : i = 9 := by omega
    subst this
    rcases o7 with ⟨_, q7⟩ | ⟨b, hb1, hb2, o7⟩
    · have := congrArg List.length q7
      rw [bv_len, List.length_append, nt] at this
      simp at this
    have g07 := Grw.trans g05 g7
    have D1' := D1.fr (S := No) (Tn.of_grw (Grw.trans g15 g7)) (fun _ _ _ q => q) (Nat.le_refl _) (Nat.le_refl _)
    exact twice_c hl tb g07 (by omega) o7 sv q (k3.grw g7) (k4.grw g7) D1' (by omega) (by omega) hk
end Go.Proofs.YtfomkkdijjfpiaaDoor
/- MetaKeeps as a contract. -/
namespace Go.Proofs.YtfomkkdijjfpiaaDoor
open Go Go.Sh Go.WideShapes
theorem placesU_lns {cs : List Fld} {d : Nat} {ins : Bool} (IH : ∀ f ∈ cs, ∀ (n : Nat) (ids : List Int), AllR n ids (f.places d [] ins) → f.lns) : ∀ {n : Nat} {ids : List Int}, AllR n ids (placesU d ins cs) → lns cs := by
  induction cs with
  | nil => intro n ids _; unfold lns; trivial
  | cons f fs ih =>
    intro n ids h
    simp only [placesU, AllR_append] at h
    have h1 := IH f (by simp) n ids h.1
    have h2 := ih (fun g hg => IH g (by simp [hg])) h.2
    unfold lns
    exact ⟨h1, h2⟩
theorem places_lns : ∀ (f : Fld) (d : Nat) (ins : Bool) (n : Nat) (ids : List Int), AllR n ids (f.places d [] ins) → f.lns
  | .mk nm nul k w id ix cs, d, ins, n, ids, h => by
    have IH : ∀ f ∈ cs, ∀ (n : Nat) (ids : List Int), AllR n ids (f.places (d + 1) [] (ins || k == 19)) → f.lns := fun f _ n ids => places_lns f (d + 1) (ins || k == 19) n ids
    have hd : d ≤ 64 := by unfold Fld.places at h; exact h.1.1
    rw [places_cons hd] at h
    have h1 := h.1
    have h2 := (AllR_0.1 h.2).2
    have h3 := placesU_lns IH h2
    have hsh := h1.2.2.2.2.1
    simp only [Fld.k, Fld.w, Fld.id, Fld.ix, Fld.cs] at hsh
    unfold Shaped at hsh
    unfold Fld.lns
    exact ⟨by omega, h3⟩
theorem HdOk.lns {H : Hd} (h : HdOk H) : lns H.fs := by
  rcases h with ⟨_, _, _, _, _, _, _, _, _, _, _, q⟩ | ⟨_, h1, _⟩
  · exact placesU_lns (fun f _ n ids => places_lns f 1 false n ids) q
  · rw [List.eq_nil_of_length_eq_zero h1]; unfold YtfomkkdijjfpiaaDoor.lns; trivial
theorem law7 {H : Hd} (hsm : smls H.fs) {h : Hp} {s1 s2 s7 s8 sb : Sl} {lb : List UInt8} {K : Bool → HP} {Kp : PK} (tb : KTab h) (hh : HdH h H s1 s2 s7 s8) (svb : Sv h sb (bv lb)) (hb : lb.length ≤ 2 ^ 47) (hk : ∀ h', Grw h h' → K true h') : Fn7 H.k s1 s2 H.id H.de H.rows H.press s7 s8 sb h K Kp := by
  classical
  have fin : ∀ h1, Grw h h1 → Fn20 sb h1 (fun t79 h3 => If t79 (Fn11 h3 (fun t81 h4 => K t81 h4) Kp) (K false h3)) Kp := fun h1 g1 =>
    keepsBytes_c (tb.grw g1) (svb.grw g1) hb fun h2 g2 => If_t rfl (fixed_c (tb.grw (Grw.trans g1 g2)) fun h3 g3 => hk h3 (Grw.trans (Grw.trans g1 g2) g3))
  refine Fn7.of ?_
  unfold S7
  refine New_i fun b2 h1 e2 g1 k2 _ => Ld9_i k2 ?_
  refine rmay_c (m := decide (HdOk H)) (by rw [decide_eq_true_eq]) g1 hh fun h2 g2 => ?_
  refine If_i (fun c => ?_) fun c => fin h2 (Grw.trans g1 g2)
  have hok : HdOk H := of_decide_eq_true c
  have he := (Hd.nn_ok hok).2
  have cn := hok.cnt
  have hsz := hok.sz hsm
  have g02 := Grw.trans g1 g2
  refine Ld9_i (k2.grw g2) (rput_all (hh.grw g02) (fun q => (q hok).elim) fun _ t h3 g3 o3 => ?_)
  have g03 := Grw.trans g02 g3
  refine Ld9_i ((k2.grw g2).grw g3) (wide_c ⟨cn.1, hok.lns⟩ cn.2.1 cn.2.2.1 cn.2.2.2 g03 hh fun t1 t2 t7 t8 h4 g4 D4 => ?_)
  refine New_i fun b8 h5 e8 g5 k8 _ => St9_i k8 rfl fun h6 o6 k8 => ?_
  have g46 : Grw h4 h6 := o6.grw g5 (by omega)
  have g36 := Grw.trans g4 g46
  have g06 := Grw.trans g03 g36
  have D6 := D4.grw g46
  refine Ld9_i k8 (put_all hsm (tb.grw g06) D6.h (fun q => (q hok).elim) fun _ x h7 g7 o7 => ?_)
  have g07 := Grw.trans g06 g7
  refine Ld9_i (k8.grw g7) (put_all hsm (tb.grw g07) (D6.grw g7).h (fun q => (q hok).elim) fun _ y h8 g8 o8 => ?_)
  have g68 := Grw.trans g7 g8
  have g08 := Grw.trans g07 g8
  have want : ∀ {h'}, Grw h6 h' → Sv h' t (bv H.enc) := fun g => (o3.grw g36).sv.grw g
  refine If_f rfl ?_
  refine J7_4.of ?_
  unfold JT7_4
  refine If_f rfl (sameBytes_c (la := H.enc) (lb := H.enc) (o7.grw g8).sv (want g68) (by omega) fun r hr => ?_)
  rw [hr.2 rfl]
  refine If_f rfl ?_
  refine J7_1.of ?_
  unfold JT7_1
  have z7 := g7.1
  have z8 := g8.1
  refine spoilBytes_c (o7.grw g8) (by omega) (by omega) (by omega) fun h9 f9 => ?_
  have g69 : Grw h6 h9 := Tn.grw0 g68 f9 fun d hd => hd.1
  have g09 := Grw.trans g06 g69
  have o9 := o8.fr f9 fun b h1 h2 q => by have := q.2; omega
  refine sameBytes_c (la := H.enc) (lb := H.enc) o9.sv (want g69) (by omega) fun r hr => ?_
  rw [hr.2 rfl]
  refine If_f rfl (Ld9_i (k8.grw g69) (Ld9_i (k2.grw (Grw.trans (Grw.trans (Grw.trans g2 g3) g36) g69)) ?_))
  refine kept_c ⟨cn.1, hok.lns⟩ cn.2.1 cn.2.2.1 cn.2.2.2 hsz (Grw.refl _) (D6.grw g69) (hh.grw g09) fun ha ga => ?_
  refine If_f rfl ?_
  refine J7_2.of ?_
  unfold JT7_2
  have g6a := Grw.trans g69 ga
  have g0a := Grw.trans g09 ga
  refine Ld9_i (k8.grw g6a) (put_all hsm (tb.grw g0a) (D6.grw g6a).h (fun q => (q hok).elim) fun _ z hc gc oc => ?_)
  have g6c := Grw.trans g6a gc
  refine If_f rfl (sameBytes_c (la := H.enc) (lb := H.enc) oc.sv (want g6c) (by omega) fun r hr => ?_)
  rw [hr.2 rfl]
  refine J7_3.of ?_
  unfold JT7_3
  refine If_f rfl (sameBytes_c (la := H.enc) (lb := H.enc) ((o9.grw ga).grw gc).sv (want g6c) (by omega) fun r hr => ?_)
  rw [hr.2 rfl]
  exact If_f rfl (fin hc (Grw.trans g0a gc))
end Go.Proofs.YtfomkkdijjfpiaaDoor
