import Derived.Test.YtfomkkdijjfpiaaDoorKeepsJ1
import Derived.Test.YtfomkkdijjfpiaaDoorKeepsS12
import Derived.MapKept
import Derived.Test.YtfomkkdijjfpiaaDoorKeepsS15
import Derived.Test.YtfomkkdijjfpiaaDoorKeepsS8
import Derived.Test.YtfomkkdijjfpiaaDoorKeepsS1
import Derived.Test.YtfomkkdijjfpiaaDoorShGlue
import Derived.SizedLaws
import Derived.Test.YtfomkkdijjfpiaaDoorCards
import Derived.Test.YtfomkkdijjfpiaaDoorTie
set_option linter.unusedSimpArgs false
set_option linter.unusedVariables false
/- The document's asking of a head. -/
namespace Go.Proofs.YtfomkkdijjfpiaaDoor
open Go Go.Sh Go.WideShapes
theorem slotL_c {bufs : List Bf} {h0 h : Hp} {b1 : Nat} {k id rows press : Int} {s1 s2 s7 s8 : Sl} {de : Bool} {K : Bool → HP} {Kp : PK} (g : Grw h0 h) (hs : RsH h0 s8 3 (bufs.map bfRow)) (k1 : B9 h b1 k s1 s2 id de rows press s7 s8) (hl : bufs.length ≤ 1536)
    (hk : ∀ b h', Grw h h' → (b = true ↔ ∀ (j : Nat) x, bufs[j]? = some x → BfOk x) → K b h') : L16_6 ⟨b1, 0, none⟩ K Kp 0 h := by
  have hn : s8.n = bufs.length := by simpa using hs.1
  refine L16_6.rule (fun x h' => ∃ i : Nat, x = i ∧ i ≤ bufs.length ∧ Grw h h' ∧ ∀ (j : Nat) v, j < i → bufs[j]? = some v → BfOk v) (fun x _ => bufs.length - x.toNat) ⟨0, rfl, by omega, Grw.refl _, fun j v hj => by omega⟩ ?_
  rintro x h1 ⟨i, rfl, hi, g1, hall⟩ N1 hN
  have k1 := k1.grw g1
  unfold T16_6
  simp only [add_blk, Nat.reduceAdd]
  refine Ld_blk k1 rfl (If_i (fun c => ?_) fun c => ?_)
  · simp only [decide_eq_true_eq, decide_eq_false_iff_not, beq_iff_eq, beq_eq_false_iff_ne, ne_eq, reduceCtorEq, true_iff, false_iff, Bool.not_eq_true', Bool.not_eq_false', bne_iff_ne, bne_eq_false_iff_eq, Bool.not_true, Bool.not_false, Decidable.not_not] at c
    have hi' : i < bufs.length := by omega
    have ei : bufs[i]? = some bufs[i] := List.getElem?_eq_getElem hi'
    generalize bufs[i] = v at ei
    refine Ld_blk k1 rfl (hs.ix rfl ei fun a ha => ?_)
    have G := Grw.trans g g1
    refine ⟨_, G.cell (Cs.c0 (v := .int .i64 v.1) ha), _, G.cell (ha 1 _ rfl), _, G.cell (ha 2 _ rfl), ?_⟩
    have lc := SyH.start No h1
    refine lc.new fun b6 _ hb6 _ lc => ?_
    repeat (first | refine lc.ldo 0 rfl rfl ?_ | refine lc.ld 0 rfl rfl ?_ | refine lc.ldo 1 rfl rfl ?_ | refine lc.ld 1 rfl rfl ?_ | refine lc.ldo 2 rfl rfl ?_ | refine lc.ld 2 rfl rfl ?_ | refine lc.ldo 3 rfl rfl ?_ | refine lc.ld 3 rfl rfl ?_ | refine lc.ldo 4 rfl rfl ?_ | refine lc.ld 4 rfl rfl ?_ | refine lc.ldo 5 rfl rfl ?_ | refine lc.ld 5 rfl rfl ?_ | refine lc.ldo 6 rfl rfl ?_ | refine lc.ld 6 rfl rfl ?_ | (refine lc.sto 0 rfl rfl rfl fun _ _ lc => ?_; simp only [Nat.zero_add, List.set_cons_zero, List.set_cons_succ, List.setIfInBounds_toArray] at lc) | (refine lc.st 0 rfl rfl rfl fun _ _ lc => ?_; simp only [Nat.zero_add, List.set_cons_zero, List.set_cons_succ, List.setIfInBounds_toArray] at lc) | (refine lc.sto 1 rfl rfl rfl fun _ _ lc => ?_; simp only [Nat.zero_add, List.set_cons_zero, List.set_cons_succ, List.setIfInBounds_toArray] at lc) | (refine lc.st 1 rfl rfl rfl fun _ _ lc => ?_; simp only [Nat.zero_add, List.set_cons_zero, List.set_cons_succ, List.setIfInBounds_toArray] at lc) | (refine lc.sto 2 rfl rfl rfl fun _ _ lc => ?_; simp only [Nat.zero_add, List.set_cons_zero, List.set_cons_succ, List.setIfInBounds_toArray] at lc) | (refine lc.st 2 rfl rfl rfl fun _ _ lc => ?_; simp only [Nat.zero_add, List.set_cons_zero, List.set_cons_succ, List.setIfInBounds_toArray] at lc) | (refine lc.sto 3 rfl rfl rfl fun _ _ lc => ?_; simp only [Nat.zero_add, List.set_cons_zero, List.set_cons_succ, List.setIfInBounds_toArray] at lc) | (refine lc.st 3 rfl rfl rfl fun _ _ lc => ?_; simp only [Nat.zero_add, List.set_cons_zero, List.set_cons_succ, List.setIfInBounds_toArray] at lc) | (refine lc.sto 4 rfl rfl rfl fun _ _ lc => ?_; simp only [Nat.zero_add, List.set_cons_zero, List.set_cons_succ, List.setIfInBounds_toArray] at lc) | (refine lc.st 4 rfl rfl rfl fun _ _ lc => ?_; simp only [Nat.zero_add, List.set_cons_zero, List.set_cons_succ, List.setIfInBounds_toArray] at lc) | (refine lc.sto 5 rfl rfl rfl fun _ _ lc => ?_; simp only [Nat.zero_add, List.set_cons_zero, List.set_cons_succ, List.setIfInBounds_toArray] at lc) | (refine lc.st 5 rfl rfl rfl fun _ _ lc => ?_; simp only [Nat.zero_add, List.set_cons_zero, List.set_cons_succ, List.setIfInBounds_toArray] at lc) | (refine lc.sto 6 rfl rfl rfl fun _ _ lc => ?_; simp only [Nat.zero_add, List.set_cons_zero, List.set_cons_succ, List.setIfInBounds_toArray] at lc) | (refine lc.st 6 rfl rfl rfl fun _ _ lc => ?_; simp only [Nat.zero_add, List.set_cons_zero, List.set_cons_succ, List.setIfInBounds_toArray] at lc) | refine lc.ldo 0 (x := Sl.nil) rfl rfl ?_ | refine lc.ld 0 (x := Sl.nil) rfl rfl ?_ | refine lc.ldo 1 (x := Sl.nil) rfl rfl ?_ | refine lc.ld 1 (x := Sl.nil) rfl rfl ?_ | refine lc.ldo 2 (x := Sl.nil) rfl rfl ?_ | refine lc.ld 2 (x := Sl.nil) rfl rfl ?_ | refine lc.ldo 3 (x := Sl.nil) rfl rfl ?_ | refine lc.ld 3 (x := Sl.nil) rfl rfl ?_ | refine lc.ldo 4 (x := Sl.nil) rfl rfl ?_ | refine lc.ld 4 (x := Sl.nil) rfl rfl ?_ | refine lc.ldo 5 (x := Sl.nil) rfl rfl ?_ | refine lc.ld 5 (x := Sl.nil) rfl rfl ?_ | refine lc.ldo 6 (x := Sl.nil) rfl rfl ?_ | refine lc.ld 6 (x := Sl.nil) rfl rfl ?_ | refine Wr_i64 (by omega) (by omega) ?_ | refine If_t rfl ?_ | refine If_f rfl ?_)
    have k6 : Blk _ b6 #[.int .i64 v.1, .int .i64 v.2.1, .int .i64 v.2.2] 57 := lc.blk (i := 0) rfl
    have g2 := Grw.trans g1 lc.grw
    clear lc
    have hF : ¬ BfOk v → K false _ := fun q => hk false _ g2 ⟨by simp, fun x => (q (x i v ei)).elim⟩
    have hS : BfOk v → Wr .i64 ((i : Int) + 1) fun t159 => N1 (mk16_6 ⟨b1, 0, none⟩ t159) _ := fun q => by
      refine Wr_i64 (by omega) (by omega) (hN _ _ ⟨i + 1, by simp, by omega, g2, fun j' v' hlt ej => ?_⟩ (by omega))
      by_cases e : j' = i
      · subst e; rw [ei] at ej; cases ej; exact q
      · exact hall j' v' (by omega) ej
    unfold BfOk at hF hS
    repeat' (first | ((with_reducible refine J16_7.of ?_); unfold JT16_7; (try simp only [add_blk, Nat.reduceAdd])) | ((with_reducible refine J16_8.of ?_); unfold JT16_8; (try simp only [add_blk, Nat.reduceAdd])) | ((with_reducible refine J16_9.of ?_); unfold JT16_9; (try simp only [add_blk, Nat.reduceAdd])) | ((with_reducible refine J16_10.of ?_); unfold JT16_10; (try simp only [add_blk, Nat.reduceAdd])) | ((with_reducible refine If_t (by first | rfl | (simp only [decide_eq_true_eq, decide_eq_false_iff_not, beq_iff_eq, beq_eq_false_iff_ne, ne_eq, reduceCtorEq, true_iff, false_iff, Bool.not_eq_true', Bool.not_eq_false', bne_iff_ne, bne_eq_false_iff_eq, Bool.not_true, Bool.not_false, Decidable.not_not]; omega)) ?_)) | ((with_reducible refine If_f (by first | rfl | (simp only [decide_eq_true_eq, decide_eq_false_iff_not, beq_iff_eq, beq_eq_false_iff_ne, ne_eq, reduceCtorEq, true_iff, false_iff, Bool.not_eq_true', Bool.not_eq_false', bne_iff_ne, bne_eq_false_iff_eq, Bool.not_true, Bool.not_false, Decidable.not_not]; omega)) ?_)) | (((with_reducible refine If_i (fun c => ?_) (fun c => ?_)) <;> (try simp only [decide_eq_true_eq, decide_eq_false_iff_not, beq_iff_eq, beq_eq_false_iff_ne, ne_eq, reduceCtorEq, true_iff, false_iff, Bool.not_eq_true', Bool.not_eq_false', bne_iff_ne, bne_eq_false_iff_eq, Bool.not_true, Bool.not_false, Decidable.not_not] at c))) | ((refine Ld_blk k6 rfl ?_)))
    all_goals first | refine hF ?_ | refine hS ?_
    all_goals try simp only [decide_eq_true_eq, decide_eq_false_iff_not, beq_iff_eq, beq_eq_false_iff_ne, ne_eq, reduceCtorEq, true_iff, false_iff, Bool.not_eq_true', Bool.not_eq_false', bne_iff_ne, bne_eq_false_iff_eq, Bool.not_true, Bool.not_false, Decidable.not_not] at *
    all_goals omega
  · simp only [decide_eq_true_eq, decide_eq_false_iff_not, beq_iff_eq, beq_eq_false_iff_ne, ne_eq, reduceCtorEq, true_iff, false_iff, Bool.not_eq_true', Bool.not_eq_false', bne_iff_ne, bne_eq_false_iff_eq, Bool.not_true, Bool.not_false, Decidable.not_not] at c
    exact hk true h1 g1 ⟨fun _ j v ej => hall j v (by have := (List.getElem?_eq_some_iff.1 ej).1; omega) ej, fun _ => rfl⟩
theorem nodesL_c {nodes : List Nd} {bufs : List Bf} {h0 h : Hp} {b1 : Nat} {k id rows press : Int} {s1 s2 s7 s8 : Sl} {de : Bool} {K : Bool → HP} {Kp : PK} (g : Grw h0 h) (hs7 : RsH h0 s7 2 (nodes.map ndRow)) (hs : RsH h0 s8 3 (bufs.map bfRow)) (k1 : B9 h b1 k s1 s2 id de rows press s7 s8) (hl7 : nodes.length ≤ 512) (hl : bufs.length ≤ 1536)
    (hk : ∀ b h', Grw h h' → (b = true ↔ (∀ (j : Nat) x, nodes[j]? = some x → NdOk x) ∧ ∀ (j : Nat) x, bufs[j]? = some x → BfOk x) → K b h') : L16_11 ⟨b1, 0, none⟩ K Kp 0 h := by
  have hn : s7.n = nodes.length := by simpa using hs7.1
  refine L16_11.rule (fun x h' => ∃ i : Nat, x = i ∧ i ≤ nodes.length ∧ Grw h h' ∧ ∀ (j : Nat) v, j < i → nodes[j]? = some v → NdOk v) (fun x _ => nodes.length - x.toNat) ⟨0, rfl, by omega, Grw.refl _, fun j v hj => by omega⟩ ?_
  rintro x h1 ⟨i, rfl, hi, g1, hall⟩ N1 hN
  have k1 := k1.grw g1
  unfold T16_11
  simp only [add_blk, Nat.reduceAdd]
  refine Ld_blk k1 rfl (If_i (fun c => ?_) fun c => ?_)
  · simp only [decide_eq_true_eq, decide_eq_false_iff_not, beq_iff_eq, beq_eq_false_iff_ne, ne_eq, reduceCtorEq, true_iff, false_iff, Bool.not_eq_true', Bool.not_eq_false', bne_iff_ne, bne_eq_false_iff_eq, Bool.not_true, Bool.not_false, Decidable.not_not] at c
    have hi' : i < nodes.length := by omega
    have ei : nodes[i]? = some nodes[i] := List.getElem?_eq_getElem hi'
    generalize nodes[i] = v at ei
    refine Ld_blk k1 rfl (hs7.ix rfl ei fun a ha => ?_)
    have G := Grw.trans g g1
    refine ⟨_, G.cell (Cs.c0 (v := .int .i64 v.1) ha), _, G.cell (ha 1 _ rfl), ?_⟩
    have lc := SyH.start No h1
    refine lc.new fun b6 _ hb6 _ lc => ?_
    repeat (first | refine lc.ldo 0 rfl rfl ?_ | refine lc.ld 0 rfl rfl ?_ | refine lc.ldo 1 rfl rfl ?_ | refine lc.ld 1 rfl rfl ?_ | refine lc.ldo 2 rfl rfl ?_ | refine lc.ld 2 rfl rfl ?_ | refine lc.ldo 3 rfl rfl ?_ | refine lc.ld 3 rfl rfl ?_ | refine lc.ldo 4 rfl rfl ?_ | refine lc.ld 4 rfl rfl ?_ | refine lc.ldo 5 rfl rfl ?_ | refine lc.ld 5 rfl rfl ?_ | refine lc.ldo 6 rfl rfl ?_ | refine lc.ld 6 rfl rfl ?_ | (refine lc.sto 0 rfl rfl rfl fun _ _ lc => ?_; simp only [Nat.zero_add, List.set_cons_zero, List.set_cons_succ, List.setIfInBounds_toArray] at lc) | (refine lc.st 0 rfl rfl rfl fun _ _ lc => ?_; simp only [Nat.zero_add, List.set_cons_zero, List.set_cons_succ, List.setIfInBounds_toArray] at lc) | (refine lc.sto 1 rfl rfl rfl fun _ _ lc => ?_; simp only [Nat.zero_add, List.set_cons_zero, List.set_cons_succ, List.setIfInBounds_toArray] at lc) | (refine lc.st 1 rfl rfl rfl fun _ _ lc => ?_; simp only [Nat.zero_add, List.set_cons_zero, List.set_cons_succ, List.setIfInBounds_toArray] at lc) | (refine lc.sto 2 rfl rfl rfl fun _ _ lc => ?_; simp only [Nat.zero_add, List.set_cons_zero, List.set_cons_succ, List.setIfInBounds_toArray] at lc) | (refine lc.st 2 rfl rfl rfl fun _ _ lc => ?_; simp only [Nat.zero_add, List.set_cons_zero, List.set_cons_succ, List.setIfInBounds_toArray] at lc) | (refine lc.sto 3 rfl rfl rfl fun _ _ lc => ?_; simp only [Nat.zero_add, List.set_cons_zero, List.set_cons_succ, List.setIfInBounds_toArray] at lc) | (refine lc.st 3 rfl rfl rfl fun _ _ lc => ?_; simp only [Nat.zero_add, List.set_cons_zero, List.set_cons_succ, List.setIfInBounds_toArray] at lc) | (refine lc.sto 4 rfl rfl rfl fun _ _ lc => ?_; simp only [Nat.zero_add, List.set_cons_zero, List.set_cons_succ, List.setIfInBounds_toArray] at lc) | (refine lc.st 4 rfl rfl rfl fun _ _ lc => ?_; simp only [Nat.zero_add, List.set_cons_zero, List.set_cons_succ, List.setIfInBounds_toArray] at lc) | (refine lc.sto 5 rfl rfl rfl fun _ _ lc => ?_; simp only [Nat.zero_add, List.set_cons_zero, List.set_cons_succ, List.setIfInBounds_toArray] at lc) | (refine lc.st 5 rfl rfl rfl fun _ _ lc => ?_; simp only [Nat.zero_add, List.set_cons_zero, List.set_cons_succ, List.setIfInBounds_toArray] at lc) | (refine lc.sto 6 rfl rfl rfl fun _ _ lc => ?_; simp only [Nat.zero_add, List.set_cons_zero, List.set_cons_succ, List.setIfInBounds_toArray] at lc) | (refine lc.st 6 rfl rfl rfl fun _ _ lc => ?_; simp only [Nat.zero_add, List.set_cons_zero, List.set_cons_succ, List.setIfInBounds_toArray] at lc) | refine lc.ldo 0 (x := Sl.nil) rfl rfl ?_ | refine lc.ld 0 (x := Sl.nil) rfl rfl ?_ | refine lc.ldo 1 (x := Sl.nil) rfl rfl ?_ | refine lc.ld 1 (x := Sl.nil) rfl rfl ?_ | refine lc.ldo 2 (x := Sl.nil) rfl rfl ?_ | refine lc.ld 2 (x := Sl.nil) rfl rfl ?_ | refine lc.ldo 3 (x := Sl.nil) rfl rfl ?_ | refine lc.ld 3 (x := Sl.nil) rfl rfl ?_ | refine lc.ldo 4 (x := Sl.nil) rfl rfl ?_ | refine lc.ld 4 (x := Sl.nil) rfl rfl ?_ | refine lc.ldo 5 (x := Sl.nil) rfl rfl ?_ | refine lc.ld 5 (x := Sl.nil) rfl rfl ?_ | refine lc.ldo 6 (x := Sl.nil) rfl rfl ?_ | refine lc.ld 6 (x := Sl.nil) rfl rfl ?_ | refine Wr_i64 (by omega) (by omega) ?_ | refine If_t rfl ?_ | refine If_f rfl ?_)
    have k6 : Blk _ b6 #[.int .i64 v.1, .int .i64 v.2] 55 := lc.blk (i := 0) rfl
    have g2 := Grw.trans g1 lc.grw
    clear lc
    have hF : ¬ NdOk v → K false _ := fun q => hk false _ g2 ⟨by simp, fun x => (q (x.1 i v ei)).elim⟩
    have hS : NdOk v → Wr .i64 ((i : Int) + 1) fun t159 => N1 (mk16_11 ⟨b1, 0, none⟩ t159) _ := fun q => by
      refine Wr_i64 (by omega) (by omega) (hN _ _ ⟨i + 1, by simp, by omega, g2, fun j' v' hlt ej => ?_⟩ (by omega))
      by_cases e : j' = i
      · subst e; rw [ei] at ej; cases ej; exact q
      · exact hall j' v' (by omega) ej
    unfold NdOk at hF hS
    repeat' (first | ((with_reducible refine J16_12.of ?_); unfold JT16_12; (try simp only [add_blk, Nat.reduceAdd])) | ((with_reducible refine J16_13.of ?_); unfold JT16_13; (try simp only [add_blk, Nat.reduceAdd])) | ((with_reducible refine If_t (by first | rfl | (simp only [decide_eq_true_eq, decide_eq_false_iff_not, beq_iff_eq, beq_eq_false_iff_ne, ne_eq, reduceCtorEq, true_iff, false_iff, Bool.not_eq_true', Bool.not_eq_false', bne_iff_ne, bne_eq_false_iff_eq, Bool.not_true, Bool.not_false, Decidable.not_not]; omega)) ?_)) | ((with_reducible refine If_f (by first | rfl | (simp only [decide_eq_true_eq, decide_eq_false_iff_not, beq_iff_eq, beq_eq_false_iff_ne, ne_eq, reduceCtorEq, true_iff, false_iff, Bool.not_eq_true', Bool.not_eq_false', bne_iff_ne, bne_eq_false_iff_eq, Bool.not_true, Bool.not_false, Decidable.not_not]; omega)) ?_)) | (((with_reducible refine If_i (fun c => ?_) (fun c => ?_)) <;> (try simp only [decide_eq_true_eq, decide_eq_false_iff_not, beq_iff_eq, beq_eq_false_iff_ne, ne_eq, reduceCtorEq, true_iff, false_iff, Bool.not_eq_true', Bool.not_eq_false', bne_iff_ne, bne_eq_false_iff_eq, Bool.not_true, Bool.not_false, Decidable.not_not] at c))) | ((refine Ld_blk k6 rfl ?_)))
    all_goals first | refine hF ?_ | refine hS ?_
    all_goals try simp only [decide_eq_true_eq, decide_eq_false_iff_not, beq_iff_eq, beq_eq_false_iff_ne, ne_eq, reduceCtorEq, true_iff, false_iff, Bool.not_eq_true', Bool.not_eq_false', bne_iff_ne, bne_eq_false_iff_eq, Bool.not_true, Bool.not_false, Decidable.not_not] at *
    all_goals omega
  · simp only [decide_eq_true_eq, decide_eq_false_iff_not, beq_iff_eq, beq_eq_false_iff_ne, ne_eq, reduceCtorEq, true_iff, false_iff, Bool.not_eq_true', Bool.not_eq_false', bne_iff_ne, bne_eq_false_iff_eq, Bool.not_true, Bool.not_false, Decidable.not_not] at c
    refine J16_5.of ?_
    unfold JT16_5
    refine slotL_c (Grw.trans g g1) hs k1 hl fun b h' g2 hb => hk b h' (Grw.trans g1 g2) (hb.trans ⟨fun q => ⟨fun j v ej => hall j v (by have := (List.getElem?_eq_some_iff.1 ej).1; omega) ej, q⟩, fun q => q.2⟩)
theorem rmay_c {H : Hd} {m : Bool} (hm : m = true ↔ HdOk H) : RMayC H m := by
  obtain ⟨k, fs, ms, id, de, rows, press, nodes, bufs⟩ := H
  intro h0 h s1 s2 s7 s8 K Kp g hh hk
  simp only at hh ⊢
  have n1 : s1.n = fs.length := hh.fs.n.1
  have n2 : s2.n = ms.length := by simpa using hh.ms.1
  have n7 : s7.n = nodes.length := by simpa using hh.nodes.1
  have n8 : s8.n = bufs.length := by simpa using hh.bufs.1
  have hk : ∀ b h', Grw h h' → (b = true ↔ HdOk ⟨k, fs, ms, id, de, rows, press, nodes, bufs⟩) → K b h' := fun b h' g q => by
    have e : b = m := by cases b <;> cases m <;> simp_all
    exact e ▸ hk h' g
  clear hm
  have hF : ¬ HdOk ⟨k, fs, ms, id, de, rows, press, nodes, bufs⟩ → ∀ h', Grw h h' → K false h' := fun q h' g => hk false h' g ⟨by simp, fun x => (q x).elim⟩
  refine Fn16.of ?_
  unfold S16
  refine New_i fun b1 h1 e1 g1 k1 _ => ?_
  simp only [add_blk, Nat.reduceAdd]
  refine Ld_blk k1 rfl ?_
  unfold HdOk at hk hF
  simp only at hk hF
  have hF := fun q => hF q h1 g1
  refine If_i (fun c => ?_) fun c => ?_
  · simp only [decide_eq_true_eq, decide_eq_false_iff_not, beq_iff_eq, beq_eq_false_iff_ne, ne_eq, reduceCtorEq, true_iff, false_iff, Bool.not_eq_true', Bool.not_eq_false', bne_iff_ne, bne_eq_false_iff_eq, Bool.not_true, Bool.not_false, Decidable.not_not] at c
    have hF1 : ¬ (id = 0 ∧ de = false ∧ rows = 0 ∧ press = 0 ∧ nodes.length = 0 ∧ bufs.length = 0) → K false h1 := fun q => hF (by
      rintro (⟨_, a1, a2, a3, a4, a5, a6, _⟩ | ⟨a1, _⟩)
      · exact q ⟨a1, a2, a3, a4, a5, a6⟩
      · omega)
    clear hF
    cases de
    · simp only [true_and] at hF1
      repeat' (first | ((with_reducible refine J16_21.of ?_); unfold JT16_21; (try simp only [add_blk, Nat.reduceAdd])) | ((with_reducible refine J16_22.of ?_); unfold JT16_22; (try simp only [add_blk, Nat.reduceAdd])) | ((with_reducible refine J16_23.of ?_); unfold JT16_23; (try simp only [add_blk, Nat.reduceAdd])) | ((with_reducible refine J16_24.of ?_); unfold JT16_24; (try simp only [add_blk, Nat.reduceAdd])) | ((with_reducible refine If_t (by first | rfl | (simp only [decide_eq_true_eq, decide_eq_false_iff_not, beq_iff_eq, beq_eq_false_iff_ne, ne_eq, reduceCtorEq, true_iff, false_iff, Bool.not_eq_true', Bool.not_eq_false', bne_iff_ne, bne_eq_false_iff_eq, Bool.not_true, Bool.not_false, Decidable.not_not]; omega)) ?_)) | ((with_reducible refine If_f (by first | rfl | (simp only [decide_eq_true_eq, decide_eq_false_iff_not, beq_iff_eq, beq_eq_false_iff_ne, ne_eq, reduceCtorEq, true_iff, false_iff, Bool.not_eq_true', Bool.not_eq_false', bne_iff_ne, bne_eq_false_iff_eq, Bool.not_true, Bool.not_false, Decidable.not_not]; omega)) ?_)) | (((with_reducible refine If_i (fun c => ?_) (fun c => ?_)) <;> (try simp only [decide_eq_true_eq, decide_eq_false_iff_not, beq_iff_eq, beq_eq_false_iff_ne, ne_eq, reduceCtorEq, true_iff, false_iff, Bool.not_eq_true', Bool.not_eq_false', bne_iff_ne, bne_eq_false_iff_eq, Bool.not_true, Bool.not_false, Decidable.not_not] at c))) | ((refine Ld_blk k1 rfl ?_)))
      all_goals first
        | (refine hF1 ?_
           simp only [decide_eq_true_eq, decide_eq_false_iff_not, beq_iff_eq, beq_eq_false_iff_ne, ne_eq, reduceCtorEq, true_iff, false_iff, Bool.not_eq_true', Bool.not_eq_false', bne_iff_ne, bne_eq_false_iff_eq, Bool.not_true, Bool.not_false, Decidable.not_not] at *
           omega)
        | (refine schema_may (Grw.trans g g1) hh.fs hh.ms fun b h' g2 hb => hk b h' (Grw.trans g1 g2) (hb.trans ⟨fun q => .inl ⟨by omega, by omega, rfl, by omega, by omega, by omega, by omega, q⟩, ?_⟩)
           rintro (⟨_, _, _, _, _, _, _, q⟩ | ⟨q, _⟩)
           · exact q
           · omega)
    · have hF1 := hF1 (by simp)
      repeat' (first | ((with_reducible refine J16_21.of ?_); unfold JT16_21; (try simp only [add_blk, Nat.reduceAdd])) | ((with_reducible refine J16_22.of ?_); unfold JT16_22; (try simp only [add_blk, Nat.reduceAdd])) | ((with_reducible refine J16_23.of ?_); unfold JT16_23; (try simp only [add_blk, Nat.reduceAdd])) | ((with_reducible refine J16_24.of ?_); unfold JT16_24; (try simp only [add_blk, Nat.reduceAdd])) | ((with_reducible refine If_t (by first | rfl | (simp only [decide_eq_true_eq, decide_eq_false_iff_not, beq_iff_eq, beq_eq_false_iff_ne, ne_eq, reduceCtorEq, true_iff, false_iff, Bool.not_eq_true', Bool.not_eq_false', bne_iff_ne, bne_eq_false_iff_eq, Bool.not_true, Bool.not_false, Decidable.not_not]; omega)) ?_)) | ((with_reducible refine If_f (by first | rfl | (simp only [decide_eq_true_eq, decide_eq_false_iff_not, beq_iff_eq, beq_eq_false_iff_ne, ne_eq, reduceCtorEq, true_iff, false_iff, Bool.not_eq_true', Bool.not_eq_false', bne_iff_ne, bne_eq_false_iff_eq, Bool.not_true, Bool.not_false, Decidable.not_not]; omega)) ?_)) | (((with_reducible refine If_i (fun c => ?_) (fun c => ?_)) <;> (try simp only [decide_eq_true_eq, decide_eq_false_iff_not, beq_iff_eq, beq_eq_false_iff_ne, ne_eq, reduceCtorEq, true_iff, false_iff, Bool.not_eq_true', Bool.not_eq_false', bne_iff_ne, bne_eq_false_iff_eq, Bool.not_true, Bool.not_false, Decidable.not_not] at c))) | ((refine Ld_blk k1 rfl ?_)))
      all_goals first | exact hF1 | (simp only [decide_eq_true_eq, decide_eq_false_iff_not, beq_iff_eq, beq_eq_false_iff_ne, ne_eq, reduceCtorEq, true_iff, false_iff, Bool.not_eq_true', Bool.not_eq_false', bne_iff_ne, bne_eq_false_iff_eq, Bool.not_true, Bool.not_false, Decidable.not_not] at *; omega)
  · simp only [decide_eq_true_eq, decide_eq_false_iff_not, beq_iff_eq, beq_eq_false_iff_ne, ne_eq, reduceCtorEq, true_iff, false_iff, Bool.not_eq_true', Bool.not_eq_false', bne_iff_ne, bne_eq_false_iff_eq, Bool.not_true, Bool.not_false, Decidable.not_not] at c
    refine J16_1.of ?_
    unfold JT16_1
    refine Ld_blk k1 rfl ?_
    have hF1 : ¬ ((k = 2 ∧ 0 ≤ id ∧ id ≤ 31 ∨ k = 3 ∧ id = 0 ∧ de = false) ∧ fs.length = 0 ∧ ms.length = 0 ∧ 0 ≤ rows ∧ rows ≤ 4096 ∧ 0 ≤ press ∧ press ≤ 2 ∧ nodes.length ≤ 512 ∧ bufs.length ≤ 1536) → K false h1 := fun q => hF (by
      rintro (⟨a, _⟩ | ⟨a1, a2, a3, a4, a5, a6, a7, a8, a9, _⟩)
      · omega
      · exact q ⟨a1, a2, a3, a4, a5, a6, a7, a8, a9⟩)
    have fin : (k = 2 ∧ 0 ≤ id ∧ id ≤ 31 ∨ k = 3 ∧ id = 0 ∧ de = false) → fs.length = 0 → ms.length = 0 → 0 ≤ rows → rows ≤ 4096 → 0 ≤ press → press ≤ 2 → nodes.length ≤ 512 → bufs.length ≤ 1536 → J16_4 ⟨b1, 0, none⟩ K Kp h1 := by
      intro a1 a2 a3 a4 a5 a6 a7 a8 a9
      refine J16_4.of ?_
      unfold JT16_4
      refine nodesL_c (Grw.trans g g1) hh.nodes hh.bufs k1 a8 a9 fun b h' g2 hb => hk b h' (Grw.trans g1 g2) (hb.trans ⟨fun q => .inr ⟨a1, a2, a3, a4, a5, a6, a7, a8, a9, q⟩, ?_⟩)
      rintro (⟨q, _⟩ | ⟨_, _, _, _, _, _, _, _, _, q⟩)
      · omega
      · exact q
    clear hF hk
    have e8 : ∀ {h'}, h' = h1 → Blk h' b1 (vals9 k s1 s2 id de rows press s7 s8) 29 := fun e => e ▸ k1
    cases de
    · simp only [reduceCtorEq, and_true] at hF1 fin
      repeat' (first | ((with_reducible refine J16_19.of ?_); unfold JT16_19; (try simp only [add_blk, Nat.reduceAdd])) | ((with_reducible refine J16_20.of ?_); unfold JT16_20; (try simp only [add_blk, Nat.reduceAdd])) | ((with_reducible refine J16_2.of ?_); unfold JT16_2; (try simp only [add_blk, Nat.reduceAdd])) | ((with_reducible refine J16_15.of ?_); unfold JT16_15; (try simp only [add_blk, Nat.reduceAdd])) | ((with_reducible refine J16_16.of ?_); unfold JT16_16; (try simp only [add_blk, Nat.reduceAdd])) | ((with_reducible refine J16_17.of ?_); unfold JT16_17; (try simp only [add_blk, Nat.reduceAdd])) | ((with_reducible refine J16_18.of ?_); unfold JT16_18; (try simp only [add_blk, Nat.reduceAdd])) | ((with_reducible refine J16_3.of ?_); unfold JT16_3; (try simp only [add_blk, Nat.reduceAdd])) | ((with_reducible refine J16_14.of ?_); unfold JT16_14; (try simp only [add_blk, Nat.reduceAdd])) | ((with_reducible refine If_t (by first | rfl | (simp only [decide_eq_true_eq, decide_eq_false_iff_not, beq_iff_eq, beq_eq_false_iff_ne, ne_eq, reduceCtorEq, true_iff, false_iff, Bool.not_eq_true', Bool.not_eq_false', bne_iff_ne, bne_eq_false_iff_eq, Bool.not_true, Bool.not_false, Decidable.not_not]; omega)) ?_)) | ((with_reducible refine If_f (by first | rfl | (simp only [decide_eq_true_eq, decide_eq_false_iff_not, beq_iff_eq, beq_eq_false_iff_ne, ne_eq, reduceCtorEq, true_iff, false_iff, Bool.not_eq_true', Bool.not_eq_false', bne_iff_ne, bne_eq_false_iff_eq, Bool.not_true, Bool.not_false, Decidable.not_not]; omega)) ?_)) | (((with_reducible refine If_i (fun c => ?_) (fun c => ?_)) <;> (try simp only [decide_eq_true_eq, decide_eq_false_iff_not, beq_iff_eq, beq_eq_false_iff_ne, ne_eq, reduceCtorEq, true_iff, false_iff, Bool.not_eq_true', Bool.not_eq_false', bne_iff_ne, bne_eq_false_iff_eq, Bool.not_true, Bool.not_false, Decidable.not_not] at c))) | ((refine Ld_blk k1 rfl ?_)))
      all_goals first | refine hF1 ?_ | apply fin
      all_goals try simp only [decide_eq_true_eq, decide_eq_false_iff_not, beq_iff_eq, beq_eq_false_iff_ne, ne_eq, reduceCtorEq, true_iff, false_iff, Bool.not_eq_true', Bool.not_eq_false', bne_iff_ne, bne_eq_false_iff_eq, Bool.not_true, Bool.not_false, Decidable.not_not] at *
      all_goals omega
    · simp only [reduceCtorEq, and_false, or_false] at hF1 fin
      repeat' (first | ((with_reducible refine J16_19.of ?_); unfold JT16_19; (try simp only [add_blk, Nat.reduceAdd])) | ((with_reducible refine J16_20.of ?_); unfold JT16_20; (try simp only [add_blk, Nat.reduceAdd])) | ((with_reducible refine J16_2.of ?_); unfold JT16_2; (try simp only [add_blk, Nat.reduceAdd])) | ((with_reducible refine J16_15.of ?_); unfold JT16_15; (try simp only [add_blk, Nat.reduceAdd])) | ((with_reducible refine J16_16.of ?_); unfold JT16_16; (try simp only [add_blk, Nat.reduceAdd])) | ((with_reducible refine J16_17.of ?_); unfold JT16_17; (try simp only [add_blk, Nat.reduceAdd])) | ((with_reducible refine J16_18.of ?_); unfold JT16_18; (try simp only [add_blk, Nat.reduceAdd])) | ((with_reducible refine J16_3.of ?_); unfold JT16_3; (try simp only [add_blk, Nat.reduceAdd])) | ((with_reducible refine J16_14.of ?_); unfold JT16_14; (try simp only [add_blk, Nat.reduceAdd])) | ((with_reducible refine If_t (by first | rfl | (simp only [decide_eq_true_eq, decide_eq_false_iff_not, beq_iff_eq, beq_eq_false_iff_ne, ne_eq, reduceCtorEq, true_iff, false_iff, Bool.not_eq_true', Bool.not_eq_false', bne_iff_ne, bne_eq_false_iff_eq, Bool.not_true, Bool.not_false, Decidable.not_not]; omega)) ?_)) | ((with_reducible refine If_f (by first | rfl | (simp only [decide_eq_true_eq, decide_eq_false_iff_not, beq_iff_eq, beq_eq_false_iff_ne, ne_eq, reduceCtorEq, true_iff, false_iff, Bool.not_eq_true', Bool.not_eq_false', bne_iff_ne, bne_eq_false_iff_eq, Bool.not_true, Bool.not_false, Decidable.not_not]; omega)) ?_)) | (((with_reducible refine If_i (fun c => ?_) (fun c => ?_)) <;> (try simp only [decide_eq_true_eq, decide_eq_false_iff_not, beq_iff_eq, beq_eq_false_iff_ne, ne_eq, reduceCtorEq, true_iff, false_iff, Bool.not_eq_true', Bool.not_eq_false', bne_iff_ne, bne_eq_false_iff_eq, Bool.not_true, Bool.not_false, Decidable.not_not] at c))) | ((refine Ld_blk k1 rfl ?_)))
      all_goals first | refine hF1 ?_ | apply fin
      all_goals try simp only [decide_eq_true_eq, decide_eq_false_iff_not, beq_iff_eq, beq_eq_false_iff_ne, ne_eq, reduceCtorEq, true_iff, false_iff, Bool.not_eq_true', Bool.not_eq_false', bne_iff_ne, bne_eq_false_iff_eq, Bool.not_true, Bool.not_false, Decidable.not_not] at *
      all_goals omega
end Go.Proofs.YtfomkkdijjfpiaaDoor
/- The package's asking: nodes and slots; a map of numbers; what is wrong with a field. -/
namespace Go.Proofs.YtfomkkdijjfpiaaDoor
open Go Go.Sh Go.WideShapes
theorem nodesMay_c {nodes : List Nd} {bufs : List Bf} {h0 h : Hp} {k id rows press : Int} {s1 s2 s7 s8 : Sl} {de : Bool} {K : Bool → HP} {Kp : PK} (g : Grw h0 h) (hs7 : RsH h0 s7 2 (nodes.map ndRow)) (hs : RsH h0 s8 3 (bufs.map bfRow))
    (hk : ∀ b h', Grw h h' → (b = true ↔ nodes.length ≤ 512 ∧ bufs.length ≤ 1536 ∧ (∀ (j : Nat) x, nodes[j]? = some x → NdOk x) ∧ ∀ (j : Nat) x, bufs[j]? = some x → BfOk x) → K b h') : Fn42 k s1 s2 id de rows press s7 s8 h K Kp := by
  have hn7 : s7.n = nodes.length := by simpa using hs7.1
  have hn : s8.n = bufs.length := by simpa using hs.1
  refine Fn42.of ?_
  unfold S42
  refine New_i fun b1 h1 e1 g1 k1 _ => ?_
  simp only [add_blk, Nat.reduceAdd]
  refine Ld_blk k1 rfl (If_i (fun c => ?_) fun c => ?_)
  · simp only [decide_eq_true_eq, decide_eq_false_iff_not, beq_iff_eq, beq_eq_false_iff_ne, ne_eq, reduceCtorEq, true_iff, false_iff, Bool.not_eq_true', Bool.not_eq_false', bne_iff_ne, bne_eq_false_iff_eq, Bool.not_true, Bool.not_false, Decidable.not_not] at c
    exact hk false _ g1 ⟨by simp, fun q => by omega⟩
  refine Ld_blk k1 rfl (If_i (fun c2 => ?_) fun c2 => ?_)
  · simp only [decide_eq_true_eq, decide_eq_false_iff_not, beq_iff_eq, beq_eq_false_iff_ne, ne_eq, reduceCtorEq, true_iff, false_iff, Bool.not_eq_true', Bool.not_eq_false', bne_iff_ne, bne_eq_false_iff_eq, Bool.not_true, Bool.not_false, Decidable.not_not] at c2
    exact hk false _ g1 ⟨by simp, fun q => by omega⟩
  simp only [decide_eq_true_eq, decide_eq_false_iff_not, beq_iff_eq, beq_eq_false_iff_ne, ne_eq, reduceCtorEq, true_iff, false_iff, Bool.not_eq_true', Bool.not_eq_false', bne_iff_ne, bne_eq_false_iff_eq, Bool.not_true, Bool.not_false, Decidable.not_not] at c c2
  have G1 := Grw.trans g g1
  have hk : ∀ b h', Grw h1 h' → (b = true ↔ (∀ (j : Nat) x, nodes[j]? = some x → NdOk x) ∧ ∀ (j : Nat) x, bufs[j]? = some x → BfOk x) → K b h' := fun b h' g q => hk b h' (Grw.trans g1 g) (q.trans ⟨fun q => ⟨by omega, by omega, q⟩, fun q => q.2.2⟩)
  refine J42_1.of ?_
  unfold JT42_1
  simp only [add_blk, Nat.reduceAdd]
  refine Ld_blk k1 rfl ?_
  refine L42_5.rule (fun x h' => ∃ i : Nat, x = i ∧ i ≤ nodes.length ∧ Grw h1 h' ∧ ∀ (j : Nat) v, j < i → nodes[j]? = some v → NdOk v) (fun x _ => nodes.length - x.toNat) ⟨0, rfl, by omega, Grw.refl _, fun j v hj => by omega⟩ ?_
  rintro x h2 ⟨i, rfl, hi, g2, hall⟩ N1 hN
  have k1 := k1.grw g2
  unfold T42_5
  refine If_i (fun c => ?_) fun c => ?_
  · simp only [decide_eq_true_eq, decide_eq_false_iff_not, beq_iff_eq, beq_eq_false_iff_ne, ne_eq, reduceCtorEq, true_iff, false_iff, Bool.not_eq_true', Bool.not_eq_false', bne_iff_ne, bne_eq_false_iff_eq, Bool.not_true, Bool.not_false, Decidable.not_not] at c
    have hi' : i < nodes.length := by omega
    have ei : nodes[i]? = some nodes[i] := List.getElem?_eq_getElem hi'
    generalize nodes[i] = v at ei
    refine hs7.ix rfl ei fun a ha => ?_
    have G := Grw.trans G1 g2
    refine ⟨_, G.cell (Cs.c0 (v := .int .i64 v.1) ha), _, G.cell (ha 1 _ rfl), ?_⟩
    have lc := SyH.start No h2
    refine lc.new fun b6 _ hb6 _ lc => ?_
    repeat (first | refine lc.ldo 0 rfl rfl ?_ | refine lc.ld 0 rfl rfl ?_ | refine lc.ldo 1 rfl rfl ?_ | refine lc.ld 1 rfl rfl ?_ | refine lc.ldo 2 rfl rfl ?_ | refine lc.ld 2 rfl rfl ?_ | refine lc.ldo 3 rfl rfl ?_ | refine lc.ld 3 rfl rfl ?_ | refine lc.ldo 4 rfl rfl ?_ | refine lc.ld 4 rfl rfl ?_ | refine lc.ldo 5 rfl rfl ?_ | refine lc.ld 5 rfl rfl ?_ | refine lc.ldo 6 rfl rfl ?_ | refine lc.ld 6 rfl rfl ?_ | (refine lc.sto 0 rfl rfl rfl fun _ _ lc => ?_; simp only [Nat.zero_add, List.set_cons_zero, List.set_cons_succ, List.setIfInBounds_toArray] at lc) | (refine lc.st 0 rfl rfl rfl fun _ _ lc => ?_; simp only [Nat.zero_add, List.set_cons_zero, List.set_cons_succ, List.setIfInBounds_toArray] at lc) | (refine lc.sto 1 rfl rfl rfl fun _ _ lc => ?_; simp only [Nat.zero_add, List.set_cons_zero, List.set_cons_succ, List.setIfInBounds_toArray] at lc) | (refine lc.st 1 rfl rfl rfl fun _ _ lc => ?_; simp only [Nat.zero_add, List.set_cons_zero, List.set_cons_succ, List.setIfInBounds_toArray] at lc) | (refine lc.sto 2 rfl rfl rfl fun _ _ lc => ?_; simp only [Nat.zero_add, List.set_cons_zero, List.set_cons_succ, List.setIfInBounds_toArray] at lc) | (refine lc.st 2 rfl rfl rfl fun _ _ lc => ?_; simp only [Nat.zero_add, List.set_cons_zero, List.set_cons_succ, List.setIfInBounds_toArray] at lc) | (refine lc.sto 3 rfl rfl rfl fun _ _ lc => ?_; simp only [Nat.zero_add, List.set_cons_zero, List.set_cons_succ, List.setIfInBounds_toArray] at lc) | (refine lc.st 3 rfl rfl rfl fun _ _ lc => ?_; simp only [Nat.zero_add, List.set_cons_zero, List.set_cons_succ, List.setIfInBounds_toArray] at lc) | (refine lc.sto 4 rfl rfl rfl fun _ _ lc => ?_; simp only [Nat.zero_add, List.set_cons_zero, List.set_cons_succ, List.setIfInBounds_toArray] at lc) | (refine lc.st 4 rfl rfl rfl fun _ _ lc => ?_; simp only [Nat.zero_add, List.set_cons_zero, List.set_cons_succ, List.setIfInBounds_toArray] at lc) | (refine lc.sto 5 rfl rfl rfl fun _ _ lc => ?_; simp only [Nat.zero_add, List.set_cons_zero, List.set_cons_succ, List.setIfInBounds_toArray] at lc) | (refine lc.st 5 rfl rfl rfl fun _ _ lc => ?_; simp only [Nat.zero_add, List.set_cons_zero, List.set_cons_succ, List.setIfInBounds_toArray] at lc) | (refine lc.sto 6 rfl rfl rfl fun _ _ lc => ?_; simp only [Nat.zero_add, List.set_cons_zero, List.set_cons_succ, List.setIfInBounds_toArray] at lc) | (refine lc.st 6 rfl rfl rfl fun _ _ lc => ?_; simp only [Nat.zero_add, List.set_cons_zero, List.set_cons_succ, List.setIfInBounds_toArray] at lc) | refine lc.ldo 0 (x := Sl.nil) rfl rfl ?_ | refine lc.ld 0 (x := Sl.nil) rfl rfl ?_ | refine lc.ldo 1 (x := Sl.nil) rfl rfl ?_ | refine lc.ld 1 (x := Sl.nil) rfl rfl ?_ | refine lc.ldo 2 (x := Sl.nil) rfl rfl ?_ | refine lc.ld 2 (x := Sl.nil) rfl rfl ?_ | refine lc.ldo 3 (x := Sl.nil) rfl rfl ?_ | refine lc.ld 3 (x := Sl.nil) rfl rfl ?_ | refine lc.ldo 4 (x := Sl.nil) rfl rfl ?_ | refine lc.ld 4 (x := Sl.nil) rfl rfl ?_ | refine lc.ldo 5 (x := Sl.nil) rfl rfl ?_ | refine lc.ld 5 (x := Sl.nil) rfl rfl ?_ | refine lc.ldo 6 (x := Sl.nil) rfl rfl ?_ | refine lc.ld 6 (x := Sl.nil) rfl rfl ?_ | refine Wr_i64 (by omega) (by omega) ?_ | refine If_t rfl ?_ | refine If_f rfl ?_)
    have k6 : Blk _ b6 #[.int .i64 v.1, .int .i64 v.2] 55 := lc.blk (i := 0) rfl
    have g3 := Grw.trans g2 lc.grw
    clear lc
    have hF : ¬ NdOk v → K false _ := fun q => hk false _ g3 ⟨by simp, fun x => (q (x.1 i v ei)).elim⟩
    have hS : NdOk v → Wr .i64 ((i : Int) + 1) fun t159 => N1 (mk42_5 ⟨b1, 0, none⟩ s7 s7.n t159) _ := fun q => by
      refine Wr_i64 (by omega) (by omega) (hN _ _ ⟨i + 1, by simp, by omega, g3, fun j' v' hlt ej => ?_⟩ (by omega))
      by_cases e : j' = i
      · subst e; rw [ei] at ej; cases ej; exact q
      · exact hall j' v' (by omega) ej
    unfold NdOk at hF hS
    repeat' (first | ((with_reducible refine J42_6.of ?_); unfold JT42_6; (try simp only [add_blk, Nat.reduceAdd])) | ((with_reducible refine J42_7.of ?_); unfold JT42_7; (try simp only [add_blk, Nat.reduceAdd])) | ((with_reducible refine If_t (by first | rfl | (simp only [decide_eq_true_eq, decide_eq_false_iff_not, beq_iff_eq, beq_eq_false_iff_ne, ne_eq, reduceCtorEq, true_iff, false_iff, Bool.not_eq_true', Bool.not_eq_false', bne_iff_ne, bne_eq_false_iff_eq, Bool.not_true, Bool.not_false, Decidable.not_not]; omega)) ?_)) | ((with_reducible refine If_f (by first | rfl | (simp only [decide_eq_true_eq, decide_eq_false_iff_not, beq_iff_eq, beq_eq_false_iff_ne, ne_eq, reduceCtorEq, true_iff, false_iff, Bool.not_eq_true', Bool.not_eq_false', bne_iff_ne, bne_eq_false_iff_eq, Bool.not_true, Bool.not_false, Decidable.not_not]; omega)) ?_)) | (((with_reducible refine If_i (fun c => ?_) (fun c => ?_)) <;> (try simp only [decide_eq_true_eq, decide_eq_false_iff_not, beq_iff_eq, beq_eq_false_iff_ne, ne_eq, reduceCtorEq, true_iff, false_iff, Bool.not_eq_true', Bool.not_eq_false', bne_iff_ne, bne_eq_false_iff_eq, Bool.not_true, Bool.not_false, Decidable.not_not] at c))) | ((refine Ld_blk k6 rfl ?_)))
    all_goals first | refine hF ?_ | refine hS ?_
    all_goals try simp only [decide_eq_true_eq, decide_eq_false_iff_not, beq_iff_eq, beq_eq_false_iff_ne, ne_eq, reduceCtorEq, true_iff, false_iff, Bool.not_eq_true', Bool.not_eq_false', bne_iff_ne, bne_eq_false_iff_eq, Bool.not_true, Bool.not_false, Decidable.not_not] at *
    all_goals omega
  · simp only [decide_eq_true_eq, decide_eq_false_iff_not, beq_iff_eq, beq_eq_false_iff_ne, ne_eq, reduceCtorEq, true_iff, false_iff, Bool.not_eq_true', Bool.not_eq_false', bne_iff_ne, bne_eq_false_iff_eq, Bool.not_true, Bool.not_false, Decidable.not_not] at c
    have hnd : ∀ (j : Nat) x, nodes[j]? = some x → NdOk x := fun j v ej => hall j v (by have := (List.getElem?_eq_some_iff.1 ej).1; omega) ej
    refine J42_2.of ?_
    unfold JT42_2
    simp only [add_blk, Nat.reduceAdd]
    refine Ld_blk k1 rfl ?_
    refine L42_3.rule (fun x h' => ∃ i : Nat, x = i ∧ i ≤ bufs.length ∧ Grw h1 h' ∧ ∀ (j : Nat) v, j < i → bufs[j]? = some v → BfOk v) (fun x _ => bufs.length - x.toNat) ⟨0, rfl, by omega, g2, fun j v hj => by omega⟩ ?_
    rintro x h3 ⟨i, rfl, hi, g3, hall2⟩ N2 hN2
    unfold T42_3
    refine If_i (fun c => ?_) fun c => ?_
    · simp only [decide_eq_true_eq, decide_eq_false_iff_not, beq_iff_eq, beq_eq_false_iff_ne, ne_eq, reduceCtorEq, true_iff, false_iff, Bool.not_eq_true', Bool.not_eq_false', bne_iff_ne, bne_eq_false_iff_eq, Bool.not_true, Bool.not_false, Decidable.not_not] at c
      have hi' : i < bufs.length := by omega
      have ei : bufs[i]? = some bufs[i] := List.getElem?_eq_getElem hi'
      generalize bufs[i] = v at ei
      refine hs.ix rfl ei fun a ha => ?_
      have G := Grw.trans G1 g3
      refine ⟨_, G.cell (Cs.c0 (v := .int .i64 v.1) ha), _, G.cell (ha 1 _ rfl), _, G.cell (ha 2 _ rfl), ?_⟩
      have lc := SyH.start No h3
      refine lc.new fun b6 _ hb6 _ lc => ?_
      repeat (first | refine lc.ldo 0 rfl rfl ?_ | refine lc.ld 0 rfl rfl ?_ | refine lc.ldo 1 rfl rfl ?_ | refine lc.ld 1 rfl rfl ?_ | refine lc.ldo 2 rfl rfl ?_ | refine lc.ld 2 rfl rfl ?_ | refine lc.ldo 3 rfl rfl ?_ | refine lc.ld 3 rfl rfl ?_ | refine lc.ldo 4 rfl rfl ?_ | refine lc.ld 4 rfl rfl ?_ | refine lc.ldo 5 rfl rfl ?_ | refine lc.ld 5 rfl rfl ?_ | refine lc.ldo 6 rfl rfl ?_ | refine lc.ld 6 rfl rfl ?_ | (refine lc.sto 0 rfl rfl rfl fun _ _ lc => ?_; simp only [Nat.zero_add, List.set_cons_zero, List.set_cons_succ, List.setIfInBounds_toArray] at lc) | (refine lc.st 0 rfl rfl rfl fun _ _ lc => ?_; simp only [Nat.zero_add, List.set_cons_zero, List.set_cons_succ, List.setIfInBounds_toArray] at lc) | (refine lc.sto 1 rfl rfl rfl fun _ _ lc => ?_; simp only [Nat.zero_add, List.set_cons_zero, List.set_cons_succ, List.setIfInBounds_toArray] at lc) | (refine lc.st 1 rfl rfl rfl fun _ _ lc => ?_; simp only [Nat.zero_add, List.set_cons_zero, List.set_cons_succ, List.setIfInBounds_toArray] at lc) | (refine lc.sto 2 rfl rfl rfl fun _ _ lc => ?_; simp only [Nat.zero_add, List.set_cons_zero, List.set_cons_succ, List.setIfInBounds_toArray] at lc) | (refine lc.st 2 rfl rfl rfl fun _ _ lc => ?_; simp only [Nat.zero_add, List.set_cons_zero, List.set_cons_succ, List.setIfInBounds_toArray] at lc) | (refine lc.sto 3 rfl rfl rfl fun _ _ lc => ?_; simp only [Nat.zero_add, List.set_cons_zero, List.set_cons_succ, List.setIfInBounds_toArray] at lc) | (refine lc.st 3 rfl rfl rfl fun _ _ lc => ?_; simp only [Nat.zero_add, List.set_cons_zero, List.set_cons_succ, List.setIfInBounds_toArray] at lc) | (refine lc.sto 4 rfl rfl rfl fun _ _ lc => ?_; simp only [Nat.zero_add, List.set_cons_zero, List.set_cons_succ, List.setIfInBounds_toArray] at lc) | (refine lc.st 4 rfl rfl rfl fun _ _ lc => ?_; simp only [Nat.zero_add, List.set_cons_zero, List.set_cons_succ, List.setIfInBounds_toArray] at lc) | (refine lc.sto 5 rfl rfl rfl fun _ _ lc => ?_; simp only [Nat.zero_add, List.set_cons_zero, List.set_cons_succ, List.setIfInBounds_toArray] at lc) | (refine lc.st 5 rfl rfl rfl fun _ _ lc => ?_; simp only [Nat.zero_add, List.set_cons_zero, List.set_cons_succ, List.setIfInBounds_toArray] at lc) | (refine lc.sto 6 rfl rfl rfl fun _ _ lc => ?_; simp only [Nat.zero_add, List.set_cons_zero, List.set_cons_succ, List.setIfInBounds_toArray] at lc) | (refine lc.st 6 rfl rfl rfl fun _ _ lc => ?_; simp only [Nat.zero_add, List.set_cons_zero, List.set_cons_succ, List.setIfInBounds_toArray] at lc) | refine lc.ldo 0 (x := Sl.nil) rfl rfl ?_ | refine lc.ld 0 (x := Sl.nil) rfl rfl ?_ | refine lc.ldo 1 (x := Sl.nil) rfl rfl ?_ | refine lc.ld 1 (x := Sl.nil) rfl rfl ?_ | refine lc.ldo 2 (x := Sl.nil) rfl rfl ?_ | refine lc.ld 2 (x := Sl.nil) rfl rfl ?_ | refine lc.ldo 3 (x := Sl.nil) rfl rfl ?_ | refine lc.ld 3 (x := Sl.nil) rfl rfl ?_ | refine lc.ldo 4 (x := Sl.nil) rfl rfl ?_ | refine lc.ld 4 (x := Sl.nil) rfl rfl ?_ | refine lc.ldo 5 (x := Sl.nil) rfl rfl ?_ | refine lc.ld 5 (x := Sl.nil) rfl rfl ?_ | refine lc.ldo 6 (x := Sl.nil) rfl rfl ?_ | refine lc.ld 6 (x := Sl.nil) rfl rfl ?_ | refine Wr_i64 (by omega) (by omega) ?_ | refine If_t rfl ?_ | refine If_f rfl ?_)
      have k6 : Blk _ b6 #[.int .i64 v.1, .int .i64 v.2.1, .int .i64 v.2.2] 57 := lc.blk (i := 0) rfl
      rename_i h9 _
      have g4 := Grw.trans g3 lc.grw
      clear lc
      have hF : ¬ BfOk v → K false _ := fun q => hk false _ g4 ⟨by simp, fun x => (q (x.2 i v ei)).elim⟩
      have hS : BfOk v → Wr .i64 ((i : Int) + 1) fun t159 => N2 (mk42_3 s8 s8.n t159) _ := fun q => by
        refine Wr_i64 (by omega) (by omega) (hN2 _ _ ⟨i + 1, by simp, by omega, g4, fun j' v' hlt ej => ?_⟩ (by omega))
        by_cases e : j' = i
        · subst e; rw [ei] at ej; cases ej; exact q
        · exact hall2 j' v' (by omega) ej
      refine L42_4.rule (fun x h' => h' = h9 ∧ (x = 0 ∨ (x = 1 ∨ (x = 2 ∨ x = 3 ∧ 0 ≤ v.2.2 ∧ v.2.2 ≤ 4194304) ∧ 0 ≤ v.2.1 ∧ v.2.1 ≤ 4194304) ∧ 0 ≤ v.1 ∧ v.1 ≤ 4194304)) (fun x _ => 3 - x.toNat) ⟨rfl, .inl rfl⟩ ?_
      rintro x h' ⟨rfl, hx⟩ N3 hN3
      unfold T42_4
      unfold BfOk at hF hS
      refine If_i (fun c => ?_) fun c => ?_
      · simp only [decide_eq_true_eq, decide_eq_false_iff_not, beq_iff_eq, beq_eq_false_iff_ne, ne_eq, reduceCtorEq, true_iff, false_iff, Bool.not_eq_true', Bool.not_eq_false', bne_iff_ne, bne_eq_false_iff_eq, Bool.not_true, Bool.not_false, Decidable.not_not] at c
        rcases (by omega : x = 0 ∨ x = 1 ∨ x = 2) with rfl | rfl | rfl
        all_goals refine ⟨by omega, by omega, _, rfl, ?_⟩
        all_goals refine If_i (fun c => ?_) fun c => ?_
        all_goals simp only [decide_eq_true_eq, decide_eq_false_iff_not, beq_iff_eq, beq_eq_false_iff_ne, ne_eq, reduceCtorEq, true_iff, false_iff, Bool.not_eq_true', Bool.not_eq_false', bne_iff_ne, bne_eq_false_iff_eq, Bool.not_true, Bool.not_false, Decidable.not_not] at c
        all_goals first
          | (refine hF ?_; omega)
          | (refine If_i (fun c2 => ?_) fun c2 => ?_
             all_goals simp only [decide_eq_true_eq, decide_eq_false_iff_not, beq_iff_eq, beq_eq_false_iff_ne, ne_eq, reduceCtorEq, true_iff, false_iff, Bool.not_eq_true', Bool.not_eq_false', bne_iff_ne, bne_eq_false_iff_eq, Bool.not_true, Bool.not_false, Decidable.not_not] at c2
             · refine hF ?_; omega
             · refine Wr_i64 (by omega) (by omega) (hN3 _ _ ⟨rfl, by omega⟩ (by omega)))
      · simp only [decide_eq_true_eq, decide_eq_false_iff_not, beq_iff_eq, beq_eq_false_iff_ne, ne_eq, reduceCtorEq, true_iff, false_iff, Bool.not_eq_true', Bool.not_eq_false', bne_iff_ne, bne_eq_false_iff_eq, Bool.not_true, Bool.not_false, Decidable.not_not] at c
        exact hS (by omega)
    · simp only [decide_eq_true_eq, decide_eq_false_iff_not, beq_iff_eq, beq_eq_false_iff_ne, ne_eq, reduceCtorEq, true_iff, false_iff, Bool.not_eq_true', Bool.not_eq_false', bne_iff_ne, bne_eq_false_iff_eq, Bool.not_true, Bool.not_false, Decidable.not_not] at c
      exact hk true h3 g3 ⟨fun _ => ⟨hnd, fun j v ej => hall2 j v (by have := (List.getElem?_eq_some_iff.1 ej).1; omega) ej⟩, fun _ => rfl⟩
/-! ### a map of numbers -/
def MapI (h : Hp) (r : Nat) (ids : List Int) : Prop := ∃ es c, h[r]? = some (.map es c) ∧ (∀ e ∈ es.toList, ∃ x v : Int, e.key = .int .i64 x ∧ e.val = .int .i64 v) ∧ ∀ x : Int, (∃ e ∈ es.toList, e.key = .int .i64 x) ↔ x ∈ ids
theorem MapI.fr {S : Nat → Prop} {h h' : Hp} {r : Nat} {ids : List Int} (m : MapI h r ids) (f : Tn S h h') (hn : ¬ S r) : MapI h' r ids := by
  obtain ⟨es, c, e, q⟩ := m
  exact ⟨es, c, (f.2 r (Array.getElem?_eq_some_iff.1 e).1 hn).trans e, q⟩
theorem MapI.grw {h h' : Hp} {r : Nat} {ids : List Int} (m : MapI h r ids) (g : Grw h h') : MapI h' r ids := m.fr (S := No) (Tn.of_grw g) id
theorem MapI.find {es : Array MapEntry} (hv : ∀ e ∈ es.toList, ∃ x v : Int, e.key = .int .i64 x ∧ e.val = .int .i64 v) (t : Int) : (Instr.findNow (.int .i64) (.int .i64 t) es.toList 0 = some none ∧ ¬ ∃ e ∈ es.toList, e.key = .int .i64 t) ∨
    ∃ (j : Nat) (v : Int), Instr.findNow (.int .i64) (.int .i64 t) es.toList 0 = some (some (j, .int .i64 v)) ∧ ∃ e, es.toList[j]? = some e ∧ e.key = .int .i64 t := by
  rcases MapKept.findNow_spec (d := .int .i64) (k := .int .i64 t) rfl es.toList 0 (fun x hx => by obtain ⟨a, _, e, _⟩ := hv x hx; rw [e]; rfl) with ⟨h1, h2⟩ | ⟨j, e, h1, h2, h3⟩
  · exact .inl ⟨h1, fun ⟨e, he, q⟩ => h2 e he q⟩
  · obtain ⟨_, v, _, e2⟩ := hv e (List.mem_of_getElem? h2)
    rw [Nat.zero_add, e2] at h1
    exact .inr ⟨j, v, h1, e, h2, h3⟩
theorem Lk_i {h : Hp} {r : Nat} {ids : List Int} {t : Int} {K : Int → Bool → Prop} (m : MapI h r ids) (hk : ∀ x b, (b = true ↔ t ∈ ids) → K x b) : Lk h (some r) (.int .i64) (.int .i64 t) (.int .i64 (0:Int)) (Value.int .i64) K := by
  obtain ⟨es, c, e, hv, hm⟩ := m
  rcases MapI.find hv t with ⟨h1, h2⟩ | ⟨j, v, h1, e', h2, h3⟩
  · exact ⟨es, c, _, e, h1, 0, rfl, hk 0 false ⟨by simp, fun q => (h2 ((hm t).2 q)).elim⟩⟩
  · exact ⟨es, c, _, e, h1, v, rfl, hk v true ⟨fun _ => (hm t).1 ⟨e', List.mem_of_getElem? h2, h3⟩, fun _ => rfl⟩⟩
theorem Up_i {h : Hp} {r : Nat} {ids : List Int} {t v : Int} {K : HP} (m : MapI h r ids) (hk : ∀ h', Only r h h' → MapI h' r (ids ++ [t]) → K h') : Up h (some r) (.int .i64) (.int .i64 t) (.int .i64 v) K := by
  obtain ⟨es, c, e, hv, hm⟩ := m
  have hlt := (Array.getElem?_eq_some_iff.1 e).1
  have onl : ∀ o, Only r h (h.setIfInBounds r o) := fun o => ⟨by simp, fun b hb => by rw [Array.getElem?_setIfInBounds, if_neg (fun q => hb q.symm)]⟩
  have get : ∀ o, (h.setIfInBounds r o)[r]? = some o := fun o => by rw [Array.getElem?_setIfInBounds]; simp [hlt]
  rcases MapI.find hv t with ⟨h1, h2⟩ | ⟨j, v0, h1, e', h2, h3⟩
  · refine ⟨es, c, _, e, h1, hk _ (onl _) ⟨_, _, get _, fun x hx => ?_, fun x => ?_⟩⟩
    · simp only [Array.toList_push, List.mem_append, List.mem_singleton] at hx
      rcases hx with hx | rfl
      · exact hv x hx
      · exact ⟨t, v, rfl, rfl⟩
    · rw [List.mem_append, ← hm x]
      simp only [Array.toList_push, List.mem_append, List.mem_singleton]
      constructor
      · rintro ⟨y, hy | rfl, q⟩
        · exact .inl ⟨y, hy, q⟩
        · simp only [Value.int.injEq, true_and] at q; exact .inr q.symm
      · rintro (⟨y, hy, q⟩ | rfl)
        · exact ⟨y, .inl hy, q⟩
        · exact ⟨_, .inr rfl, rfl⟩
  · refine ⟨es, c, _, e, h1, hk _ (onl _) ⟨_, _, get _, fun x hx => ?_, fun x => ?_⟩⟩
    · rw [Array.toList_modify] at hx
      obtain ⟨i, hi⟩ := List.mem_iff_getElem?.1 hx
      rw [List.getElem?_modify] at hi
      cases hh : es.toList[i]? with
      | none => simp [hh] at hi
      | some y =>
        have hy := hv y (List.mem_of_getElem? hh)
        rw [hh] at hi
        split at hi <;> replace hi := Option.some.inj hi
        · subst hi; exact ⟨t, v, rfl, rfl⟩
        · subst hi; exact hy
    · rw [List.mem_append, ← hm x, Array.toList_modify]
      constructor
      · rintro ⟨y, hy, q⟩
        obtain ⟨i, hi⟩ := List.mem_iff_getElem?.1 hy
        rw [List.getElem?_modify] at hi
        cases hh : es.toList[i]? with
        | none => simp [hh] at hi
        | some z =>
          rw [hh] at hi
          split at hi <;> replace hi := Option.some.inj hi
          · subst hi; simp only [Value.int.injEq, true_and] at q; exact .inr (by simp [q])
          · subst hi; exact .inl ⟨z, List.mem_of_getElem? hh, q⟩
      · rintro (⟨y, hy, q⟩ | hx)
        · obtain ⟨i, hi⟩ := List.mem_iff_getElem?.1 hy
          by_cases e2 : j = i
          · subst e2
            rw [h2] at hi; cases hi
            refine ⟨_, List.mem_of_getElem? (i := j) (by rw [List.getElem?_modify, h2]; simp; rfl), ?_⟩
            rw [← q, h3]
          · exact ⟨y, List.mem_of_getElem? (i := i) (by rw [List.getElem?_modify, hi]; simp [e2]), q⟩
        · simp only [List.mem_singleton] at hx
          subst hx
          exact ⟨_, List.mem_of_getElem? (i := j) (by rw [List.getElem?_modify, h2]; simp; rfl), rfl⟩
end Go.Proofs.YtfomkkdijjfpiaaDoor
/- The package's asking: what is wrong with a field. -/
namespace Go.Proofs.YtfomkkdijjfpiaaDoor
open Go Go.Sh Go.WideShapes
abbrev M63 : Nat := 9223372036854775807
theorem wrong_c {x : Pl} {n r : Nat} {ids : List Int} {h0 h : Hp} {sp sa sf : Sl} {K : Int → HP} {Kp : PK} (g : Grw h0 h) (ht : KTab h0) (hp : sp.n = x.deep) (ha : FsH h0 sa x.ahead) (hf : FsH h0 sf x.f.cs) (hal : x.ahead.length ≤ M63) (hnm : x.f.name.size ≤ M63) (hm : MapI h r ids)
    (hk : ∀ e h', Grw h h' → (e = 0 ↔ Right n ids x) → K e h') : Fn57 sp sa x.f.name x.f.nul x.f.k x.f.w x.f.id x.f.ix sf x.ins (n : Int) (some r) h K Kp := by
  have hsf := hf.n
  refine Fn57.of ?_
  unfold S57
  have hF : ¬ Right n ids x → ∀ (e : Int) h', e ≠ 0 → Grw h h' → K e h' := fun q e h' ne g => hk e h' g ⟨fun y => (ne y).elim, fun y => (q y).elim⟩
  refine New_i fun b3 h1 e3 g3 k3 _ => ?_
  simp only [add_blk, Nat.reduceAdd]
  refine Ld_blk k3 rfl (Ld_blk k3 rfl (Ld_blk k3 rfl (Ld_blk k3 rfl (Ld_blk k3 rfl ?_))))
  have lc := SyH.start No h1
  refine lc.new fun b7 _ hb7 _ lc => ?_
  repeat (first | refine lc.ldo 0 rfl rfl ?_ | refine lc.ld 0 rfl rfl ?_ | refine lc.ldo 1 rfl rfl ?_ | refine lc.ld 1 rfl rfl ?_ | refine lc.ldo 2 rfl rfl ?_ | refine lc.ld 2 rfl rfl ?_ | refine lc.ldo 3 rfl rfl ?_ | refine lc.ld 3 rfl rfl ?_ | refine lc.ldo 4 rfl rfl ?_ | refine lc.ld 4 rfl rfl ?_ | refine lc.ldo 5 rfl rfl ?_ | refine lc.ld 5 rfl rfl ?_ | refine lc.ldo 6 rfl rfl ?_ | refine lc.ld 6 rfl rfl ?_ | (refine lc.sto 0 rfl rfl rfl fun _ _ lc => ?_; simp only [Nat.zero_add, List.set_cons_zero, List.set_cons_succ, List.setIfInBounds_toArray] at lc) | (refine lc.st 0 rfl rfl rfl fun _ _ lc => ?_; simp only [Nat.zero_add, List.set_cons_zero, List.set_cons_succ, List.setIfInBounds_toArray] at lc) | (refine lc.sto 1 rfl rfl rfl fun _ _ lc => ?_; simp only [Nat.zero_add, List.set_cons_zero, List.set_cons_succ, List.setIfInBounds_toArray] at lc) | (refine lc.st 1 rfl rfl rfl fun _ _ lc => ?_; simp only [Nat.zero_add, List.set_cons_zero, List.set_cons_succ, List.setIfInBounds_toArray] at lc) | (refine lc.sto 2 rfl rfl rfl fun _ _ lc => ?_; simp only [Nat.zero_add, List.set_cons_zero, List.set_cons_succ, List.setIfInBounds_toArray] at lc) | (refine lc.st 2 rfl rfl rfl fun _ _ lc => ?_; simp only [Nat.zero_add, List.set_cons_zero, List.set_cons_succ, List.setIfInBounds_toArray] at lc) | (refine lc.sto 3 rfl rfl rfl fun _ _ lc => ?_; simp only [Nat.zero_add, List.set_cons_zero, List.set_cons_succ, List.setIfInBounds_toArray] at lc) | (refine lc.st 3 rfl rfl rfl fun _ _ lc => ?_; simp only [Nat.zero_add, List.set_cons_zero, List.set_cons_succ, List.setIfInBounds_toArray] at lc) | (refine lc.sto 4 rfl rfl rfl fun _ _ lc => ?_; simp only [Nat.zero_add, List.set_cons_zero, List.set_cons_succ, List.setIfInBounds_toArray] at lc) | (refine lc.st 4 rfl rfl rfl fun _ _ lc => ?_; simp only [Nat.zero_add, List.set_cons_zero, List.set_cons_succ, List.setIfInBounds_toArray] at lc) | (refine lc.sto 5 rfl rfl rfl fun _ _ lc => ?_; simp only [Nat.zero_add, List.set_cons_zero, List.set_cons_succ, List.setIfInBounds_toArray] at lc) | (refine lc.st 5 rfl rfl rfl fun _ _ lc => ?_; simp only [Nat.zero_add, List.set_cons_zero, List.set_cons_succ, List.setIfInBounds_toArray] at lc) | (refine lc.sto 6 rfl rfl rfl fun _ _ lc => ?_; simp only [Nat.zero_add, List.set_cons_zero, List.set_cons_succ, List.setIfInBounds_toArray] at lc) | (refine lc.st 6 rfl rfl rfl fun _ _ lc => ?_; simp only [Nat.zero_add, List.set_cons_zero, List.set_cons_succ, List.setIfInBounds_toArray] at lc) | refine lc.ldo 0 (x := Sl.nil) rfl rfl ?_ | refine lc.ld 0 (x := Sl.nil) rfl rfl ?_ | refine lc.ldo 1 (x := Sl.nil) rfl rfl ?_ | refine lc.ld 1 (x := Sl.nil) rfl rfl ?_ | refine lc.ldo 2 (x := Sl.nil) rfl rfl ?_ | refine lc.ld 2 (x := Sl.nil) rfl rfl ?_ | refine lc.ldo 3 (x := Sl.nil) rfl rfl ?_ | refine lc.ld 3 (x := Sl.nil) rfl rfl ?_ | refine lc.ldo 4 (x := Sl.nil) rfl rfl ?_ | refine lc.ld 4 (x := Sl.nil) rfl rfl ?_ | refine lc.ldo 5 (x := Sl.nil) rfl rfl ?_ | refine lc.ld 5 (x := Sl.nil) rfl rfl ?_ | refine lc.ldo 6 (x := Sl.nil) rfl rfl ?_ | refine lc.ld 6 (x := Sl.nil) rfl rfl ?_ | refine Wr_i64 (by omega) (by omega) ?_ | refine If_t rfl ?_ | refine If_f rfl ?_)
  have k7 : B61 _ b7 x.f.k x.f.w x.f.id x.f.ix sf := lc.blk (i := 0) rfl
  have k3 := k3.grw lc.grw
  have g7 := Grw.trans g3 lc.grw
  clear lc e3
  rename_i h7 _
  refine Lk_i (hm.grw g7) fun tv ok hok => ?_
  refine Ld_blk k3 rfl (If_i (fun c => hF (fun q => ?_) _ _ (by decide) g7) fun c => ?_)
  · simp only [decide_eq_true_eq, decide_eq_false_iff_not, beq_iff_eq, beq_eq_false_iff_ne, ne_eq, reduceCtorEq, true_iff, false_iff, Bool.not_eq_true', Bool.not_eq_false', bne_iff_ne, bne_eq_false_iff_eq, Bool.not_true, Bool.not_false, Decidable.not_not] at c; have := q.1; omega
  simp only [decide_eq_true_eq, decide_eq_false_iff_not, beq_iff_eq, beq_eq_false_iff_ne, ne_eq, reduceCtorEq, true_iff, false_iff, Bool.not_eq_true', Bool.not_eq_false', bne_iff_ne, bne_eq_false_iff_eq, Bool.not_true, Bool.not_false, Decidable.not_not] at c
  refine If_i (fun c2 => hF (fun q => ?_) _ _ (by decide) g7) fun c2 => ?_
  · simp only [decide_eq_true_eq, decide_eq_false_iff_not, beq_iff_eq, beq_eq_false_iff_ne, ne_eq, reduceCtorEq, true_iff, false_iff, Bool.not_eq_true', Bool.not_eq_false', bne_iff_ne, bne_eq_false_iff_eq, Bool.not_true, Bool.not_false, Decidable.not_not] at c2; have := q.2.1; omega
  simp only [decide_eq_true_eq, decide_eq_false_iff_not, beq_iff_eq, beq_eq_false_iff_ne, ne_eq, reduceCtorEq, true_iff, false_iff, Bool.not_eq_true', Bool.not_eq_false', bne_iff_ne, bne_eq_false_iff_eq, Bool.not_true, Bool.not_false, Decidable.not_not] at c2
  refine Ld_blk k3 rfl (named_c hnm fun b hb => ?_)
  cases b
  · exact If_t rfl (hF (fun q => absurd (hb.2 q.2.2.1) (by simp)) _ _ (by decide) g7)
  have hname := hb.1 rfl
  clear hb
  refine If_f rfl (Ld_blk k3 rfl ?_)
  refine again_c (Grw.trans g g7) ha hal (n := x.f.name) (by rw [add_blk, cell_blk k3]; rfl) fun b h8 g8 hb => ?_
  have G8 := Grw.trans g7 g8
  have k3 := k3.grw g8
  have k7 := k7.grw g8
  cases b
  rotate_left
  · obtain ⟨f, hf1, hf2⟩ := hb.1 rfl
    exact If_t rfl (hF (fun q => q.2.2.2.1 f hf1 hf2) _ _ (by decide) G8)
  have hap : ∀ f ∈ x.ahead, f.name ≠ x.f.name := fun f hf e => absurd (hb.2 ⟨f, hf, e⟩) (by simp)
  clear hb
  refine If_f rfl (Ld_blk k7 rfl (Ld_blk k7 rfl (Ld_blk k7 rfl (Ld_blk k7 rfl (Ld_blk k7 rfl ?_)))))
  refine fits_c (ht.grw (Grw.trans g G8)) fun b h9 g9 hb => ?_
  have G9 := Grw.trans G8 g9
  have k3 := k3.grw g9
  have k7 := k7.grw g9
  rw [hsf.1] at hb
  cases b
  · exact If_t rfl (hF (fun q => absurd (hb.2 q.2.2.2.2.1) (by simp)) _ _ (by decide) G9)
  have hsh := hb.1 rfl
  clear hb
  refine If_f rfl (Ld_blk k3 rfl (Ld_blk k3 rfl (Ld_blk k3 rfl (Ld_blk k3 rfl (Ld_blk k3 rfl (Ld_blk k3 rfl (Ld_blk k3 rfl ?_)))))))
  refine nulls_c (Grw.trans g G9) hf (fun e => by unfold Shaped at hsh; omega) fun b h10 g10 hb => ?_
  have G10 := Grw.trans G9 g10
  have k3 := k3.grw g10
  have k7 := k7.grw g10
  cases b
  · exact If_t rfl (hF (fun q => absurd (hb.2 q.2.2.2.2.2.1) (by simp)) _ _ (by decide) G10)
  have hnu := hb.1 rfl
  clear hb
  have hT : ¬ (x.ins = true ∧ (x.f.k = 19 ∨ x.f.k = 20)) → (x.f.k = 19 → (∃ c, x.f.cs[0]? = some c ∧ c.nul = false) ∧ x.f.id ∉ ids) → K 0 h10 := fun a b => hk 0 h10 G10 ⟨fun _ => ⟨by omega, by omega, hname, hap, hsh, hnu, a, b⟩, fun _ => rfl⟩
  have hF := fun q => hF q 36 h10 (by decide) G10
  have j1 : ∀ b, (b = true ↔ x.ins = true ∧ (x.f.k = 19 ∨ x.f.k = 20)) → J57_1 ⟨b7, 0, none⟩ ok b K Kp h10 := by
    intro b hb
    refine J57_1.of ?_
    unfold JT57_1
    simp only [add_blk, Nat.reduceAdd]
    cases b
    · have hb : ¬ (x.ins = true ∧ (x.f.k = 19 ∨ x.f.k = 20)) := fun q => absurd (hb.2 q) (by simp)
      refine If_f rfl (Ld_blk k7 rfl (If_i (fun c => ?_) fun c => ?_))
      · simp only [decide_eq_true_eq, decide_eq_false_iff_not, beq_iff_eq, beq_eq_false_iff_ne, ne_eq, reduceCtorEq, true_iff, false_iff, Bool.not_eq_true', Bool.not_eq_false', bne_iff_ne, bne_eq_false_iff_eq, Bool.not_true, Bool.not_false, Decidable.not_not] at c
        have hpos : 0 < x.f.cs.length := by unfold Shaped at hsh; omega
        obtain ⟨f, hj⟩ : ∃ f, x.f.cs[0]? = some f := ⟨x.f.cs[0], List.getElem?_eq_getElem hpos⟩
        refine Ld_blk k7 rfl (hf.ix rfl hj fun a ha => ?_)
        obtain ⟨u, _, _, c1, _⟩ := ha.cells
        refine ⟨_, (Grw.trans g G10).cell c1, ?_⟩
        refine If_i (fun e5 => ?_) fun e5 => ?_
        · refine hF fun q => ?_
          obtain ⟨y, hy, q⟩ := (q.2.2.2.2.2.2.2 c).1
          rw [hj] at hy; cases hy
          simp [e5] at q
        · cases ok
          · exact If_f rfl (hT hb fun _ => ⟨⟨f, hj, by simpa using e5⟩, fun q => absurd (hok.2 q) (by simp)⟩)
          · exact If_t rfl (hF fun q => (q.2.2.2.2.2.2.2 c).2 (hok.1 rfl))
      · simp only [decide_eq_true_eq, decide_eq_false_iff_not, beq_iff_eq, beq_eq_false_iff_ne, ne_eq, reduceCtorEq, true_iff, false_iff, Bool.not_eq_true', Bool.not_eq_false', bne_iff_ne, bne_eq_false_iff_eq, Bool.not_true, Bool.not_false, Decidable.not_not] at c
        exact hT hb fun q => (c q).elim
    · exact If_t rfl (If_t rfl (hF fun q => q.2.2.2.2.2.2.1 (hb.1 rfl)))
  refine If_f rfl (Ld_blk k3 rfl (If_i (fun e => ?_) fun e => ?_))
  · refine Ld_blk k7 rfl (If_i (fun c => j1 _ ?_) fun c => ?_)
    · simp only [decide_eq_true_eq, decide_eq_false_iff_not, beq_iff_eq, beq_eq_false_iff_ne, ne_eq, reduceCtorEq, true_iff, false_iff, Bool.not_eq_true', Bool.not_eq_false', bne_iff_ne, bne_eq_false_iff_eq, Bool.not_true, Bool.not_false, Decidable.not_not] at c; simp [c, e]
    · refine Ld_blk k7 rfl (j1 _ ?_)
      simp only [decide_eq_true_eq, decide_eq_false_iff_not, beq_iff_eq, beq_eq_false_iff_ne, ne_eq, reduceCtorEq, true_iff, false_iff, Bool.not_eq_true', Bool.not_eq_false', bne_iff_ne, bne_eq_false_iff_eq, Bool.not_true, Bool.not_false, Decidable.not_not] at c; simp [c, e]
  · exact j1 _ (by simp [e])
end Go.Proofs.YtfomkkdijjfpiaaDoor
/- The package's way through all fields. -/
namespace Go.Proofs.YtfomkkdijjfpiaaDoor
open Go Go.Sh Go.WideShapes
theorem clone_c {lo : Nat} {h : Hp} {s : Sl} {vs : List Value} {K : Sl → HP} {Kp : PK} (o : Sh lo h.size 1 h s vs 3) (hv : ∀ v ∈ vs, one v = true) (hl : vs.length ≤ 1000)
    (hk : ∀ s' h', Grw h h' → Sh h.size h'.size 1 h' s' vs 3 → K s' h') : Fn65 s h K Kp := by
  refine Fn65.of ?_
  unfold S65
  have hn := o.n
  rcases o with ⟨rfl, rfl⟩ | ⟨b, h1, h2, o⟩
  · exact If_t rfl (hk _ h (Grw.refl _) (Sh.nil _ _ _ _ _))
  · obtain ⟨e1, e2, cs, k, e3, e4, e5⟩ := o
    refine If_f (by rw [e1]; rfl) (New_i fun b5 h3 eb g3 k3 esz => ?_)
    have o5 : Sh h.size h3.size 1 h3 ⟨some ⟨b5, 0, none⟩, 0, 0⟩ [] 3 := .inr ⟨b5, by omega, by omega, rfl, rfl, _, k3, Nat.le_refl _, rfl, fun i hi => by simp at hi⟩
    refine Ap_sh o5 g3.1 rfl (new := vs) (by omega) hv (by rw [e1]; exact ⟨by omega, fun i v hi => by
      have hi' := (List.getElem?_eq_some_iff.1 hi).1
      rw [add_blk, cell_blk (k.grw g3), Nat.zero_add, e5 i (by omega)]; exact hi⟩) (by simp only; omega) (by simp only; omega) fun s' h4 f4 at4 o4 hn4 => ?_
    have g4 : Grw h h4 := ((Tn.of_grw g3 : Tn No h h3).trans' f4 fun d ⟨a, ha, hd⟩ hlt => by simp only [Option.some.injEq] at ha; subst ha; simp only at hd; omega).grw
    exact hk s' h4 g4 (by simpa using o4)
/-- one more step on a way -/
theorem way_c {lo : Nat} {h : Hp} {s : Sl} {vs : List Value} {x : Int} {K : Sl → HP} (o : Sh lo h.size 1 h s vs 3) (hlo : lo ≤ h.size) (hl : vs.length ≤ 1000)
    (hk : ∀ s' h', Tn (In lo h.size) h h' → Sh lo h'.size 1 h' s' (vs ++ [.int .i64 x]) 3 → s'.n = vs.length + 1 → K s' h') :
    New h #[(.int .i64 x)] 3 fun a23 h2 => Ap h2 3 #[(.int .i64 (0:Int))] 1 8 s 1 (rd h2 (some a23) (1 * 1)) fun t24 h3 => K t24 h3 := by
  have hn := o.n
  refine New_i fun b h2 e2 g2 k2 _ => ?_
  have o2 := (o.grw g2).wide (Nat.le_refl lo) g2.1
  refine Ap_sh o2 (by have := g2.1; omega) rfl (new := [.int .i64 x]) rfl (by simp [one]) (rd_blk k2 rfl) (by omega) (by omega) fun s' h4 f4 at4 o4 hn4 => ?_
  exact hk s' h4 ((Tn.of_grw g2 : Tn (In lo h.size) h h2).trans' f4 fun d hd hlt => ⟨(o.at hd).1, hlt⟩) o4 (by omega)
theorem placesL_append {a b : List Fld} {d : Nat} {ins : Bool} : ∀ {ahead : List Fld}, placesL d ahead ins (a ++ b) = placesL d ahead ins a ++ placesL d (ahead ++ a) ins b := by
  induction a with
  | nil => intro ahead; simp [placesL]
  | cons f fs ih => intro ahead; simp only [List.cons_append, placesL, ih, List.append_assoc, List.singleton_append, List.nil_append]
theorem FrH.take {h : Hp} {a : Addr} : ∀ {fs : List Fld} {i j : Nat}, FrH h a i fs → FrH h a i (fs.take j)
  | [], _, j, hh => by cases j <;> simpa using hh
  | f :: fs, _, 0, hh => by simp [FrH]
  | f :: fs, _, j + 1, hh => by
    unfold FrH at hh
    simp only [List.take_succ_cons, FrH]
    exact ⟨hh.1, FrH.take hh.2⟩
/-- a beginning of a slice of fields -/
theorem FsH.take {h : Hp} {s : Sl} {fs : List Fld} (hh : FsH h s fs) {j : Nat} (hj : j ≤ fs.length) {s' : Sl} (ha : s'.a = s.a) (hn : s'.n = j) (hc : s'.c = s.c) : FsH h s' (fs.take j) := by
  have hsn := hh.n
  cases fs with
  | nil => simp at hj; subst hj; simp only [List.take_nil, FsH]; omega
  | cons f fs =>
    cases j with
    | zero => simp only [List.take_zero, FsH]; omega
    | succ j =>
      simp only [List.length_cons] at hj hsn
      unfold FsH at hh
      obtain ⟨_, _, a, e, h1, h2⟩ := hh
      simp only [List.take_succ_cons, FsH, List.length_take]
      exact ⟨by omega, by omega, a, ha.trans e, h1, h2.take⟩
mutual
/-- lists and names that a machine can hold -/
def Fld.sml : Fld → Prop
  | .mk n _ _ _ _ _ cs => n.size ≤ M63 ∧ cs.length ≤ M63 ∧ smls cs
def smls : List Fld → Prop
  | [] => True
  | f :: fs => f.sml ∧ smls fs
end
theorem smls.get : ∀ {fs : List Fld}, smls fs → ∀ f ∈ fs, f.sml
  | [], _, _, h => by simp at h
  | g :: gs, hh, f, h => by
    unfold smls at hh
    rcases List.mem_cons.1 h with rfl | h
    · exact hh.1
    · exact smls.get hh.2 f h
end Go.Proofs.YtfomkkdijjfpiaaDoor
/- The package's way through all fields: down. -/
namespace Go.Proofs.YtfomkkdijjfpiaaDoor
open Go Go.Sh Go.WideShapes
/-- which arguments of a round stand for a field at its place -/
def PlE (h0 : Hp) (x : Pl) (y0 y1 : Sl) (y2 : ByteArray) (y3 : Bool) (y4 y5 y6 y7 : Int) (y8 : Sl) (y9 : Bool) : Prop :=
  y0.n = x.deep ∧ FsH h0 y1 x.ahead ∧ y2 = x.f.name ∧ y3 = x.f.nul ∧ y4 = x.f.k ∧ y5 = x.f.w ∧ y6 = x.f.id ∧ y7 = x.f.ix ∧ FsH h0 y8 x.f.cs ∧ y9 = x.ins ∧ x.f.name.size ≤ M63 ∧ x.ahead.length ≤ M63
def PlA (h0 : Hp) (x : Pl) (args : List Value) : Prop := ∃ y0 y1 y2 y3 y4 y5 y6 y7 y8 y9, args = [(.agg #[(Sl.v y0), (Sl.v y1), (.string y2), (.bool y3), (.int .i64 y4), (.int .i64 y5), (.int .i64 y6), (.int .i64 y7), (Sl.v y8), (.bool y9)])] ∧ PlE h0 x y0 y1 y2 y3 y4 y5 y6 y7 y8 y9
def downF (a3 a4 : Nat) (c1 : Addr) : Value := .func (.func 64) #[] #[(.pointer (some ⟨a3, 0, none⟩)), (.pointer (some c1)), (.pointer (some ⟨a4, 0, none⟩))]
/-- what the way holds to -/
structure WayC (h0 : Hp) (lb a3 a4 : Nat) (c1 : Addr) (xs : List Pl) (J Jx : List Pl → HP) : Prop where
  pre : ∀ p h1, J p h1 → Grw h0 h1 ∧ cell h1 c1 = some (.int .i64 65)
  grw : ∀ p h1 h2, Grw h1 h2 → J p h1 → J p h2
  grwx : ∀ p h1 h2, Grw h1 h2 → Jx p h1 → Jx p h2
  y : ∀ p x suf h1 args, PlA h0 x args → xs = p ++ x :: suf → J p h1 → YieldH Tryd.prog lb args h1 (fun v h2 => Tn (fun c => c ≤ lb) h1 h2 ∧ ((v = .bool true ∧ J (p ++ [x]) h2) ∨ (v = .bool false ∧ Jx (p ++ [x]) h2))) NoP
  l3 : lb < a3
  l4 : lb < a4
/-- the way's own cells -/
structure Own34 (h : Hp) (a3 a4 lb : Nat) (c1 : Addr) : Prop where
  k3 : Blk h a3 #[.func (.yield lb) #[] #[]] 109
  k4 : Blk h a4 #[downF a3 a4 c1] 110
theorem Own34.fr {S : Nat → Prop} {h h' : Hp} {a3 a4 lb : Nat} {c1 : Addr} (o : Own34 h a3 a4 lb c1) (f : Tn S h h') (h3 : ¬ S a3) (h4 : ¬ S a4) : Own34 h' a3 a4 lb c1 := ⟨f.blk o.k3 h3, f.blk o.k4 h4⟩
theorem Own34.grw {h h' : Hp} {a3 a4 lb : Nat} {c1 : Addr} (o : Own34 h a3 a4 lb c1) (g : Grw h h') : Own34 h' a3 a4 lb c1 := o.fr (S := No) (Tn.of_grw g) id id
def DownC (h0 : Hp) (lb a3 a4 : Nat) (c1 : Addr) (xs : List Pl) (J Jx : List Pl → HP) (cs : List Fld) : Prop :=
  ∀ {h1 : Hp} {path l : Sl} {vs : List Value} {ins : Bool} {d lo : Nat} {p suf : List Pl} {K : Bool → HP}, FsH h0 l cs → Sh lo h1.size 1 h1 path vs 3 → lb < lo → lo ≤ h1.size → (∀ v ∈ vs, one v = true) → vs.length = d → d ≤ 64 → Own34 h1 a3 a4 lb c1 → cs.length ≤ M63 → smls cs →
    xs = p ++ (placesL (d + 1) [] ins cs ++ suf) → J p h1 → (∀ h2, Tn (fun c => c ≤ lb) h1 h2 → J (p ++ placesL (d + 1) [] ins cs) h2 → K true h2) → (∀ h2 p' s', xs = p' ++ s' → Jx p' h2 → K false h2) →
    Fn64 path l ins ⟨a3, 0, none⟩ c1 ⟨a4, 0, none⟩ h1 K NoP
theorem down_c {h0 : Hp} {lb a3 a4 : Nat} {c1 : Addr} {xs : List Pl} {J Jx : List Pl → HP} (W : WayC h0 lb a3 a4 c1 xs J Jx) {cs : List Fld} (IH : ∀ f ∈ cs, DownC h0 lb a3 a4 c1 xs J Jx f.cs) : DownC h0 lb a3 a4 c1 xs J Jx cs := by
  intro h1 path l vs ins d lo p suf K hf op hlo hlo2 hvs hvl hd own hcl hsm hxs hJ hT hX
  have hfn := hf.n
  have hcl : cs.length ≤ 9223372036854775807 := hcl
  have hok : okFn Tryd.prog 64 = true := by kernel_rfl
  refine Fn64.of ?_
  unfold S64
  refine J64_1.of ?_
  unfold JT64_1
  refine L64_2.rule (fun x h' => ∃ i : Nat, x = (i : Int) ∧ i ≤ cs.length ∧ Tn (fun c => c ≤ lb) h1 h' ∧ J (p ++ placesL (d + 1) [] ins (cs.take i)) h') (fun x _ => cs.length - x.toNat) ⟨0, rfl, by omega, Tn.refl _ _, by simpa [placesL] using hJ⟩ ?_
  rintro x h2 ⟨i, rfl, hi, f2, hJ2⟩ N1 hN
  have op2 := op.fr f2 fun b hb _ (e : b ≤ lb) => by omega
  have op2 := op2.wide (Nat.le_refl _) f2.1
  have own2 := own.fr f2 (by have := W.l3; show ¬ a3 ≤ lb; omega) (by have := W.l4; show ¬ a4 ≤ lb; omega)
  have hlo3 : lo ≤ h2.size := Nat.le_trans hlo2 f2.1
  have hlb2 : lb < h2.size := by have := own2.k3.lt; have := W.l3; omega
  unfold T64_2
  refine J64_3.of ?_
  unfold JT64_3
  refine If_i (fun c => ?_) fun c => ?_
  · simp only [decide_eq_true_eq, decide_eq_false_iff_not, beq_iff_eq, beq_eq_false_iff_ne, ne_eq, reduceCtorEq, true_iff, false_iff, Bool.not_eq_true', Bool.not_eq_false', bne_iff_ne, bne_eq_false_iff_eq, Bool.not_true, Bool.not_false, Decidable.not_not] at c
    have hi' : i < cs.length := by omega
    have hj : cs[i]? = some cs[i] := List.getElem?_eq_getElem hi'
    have htk : cs.take (i + 1) = cs.take i ++ [cs[i]] := List.take_succ_eq_append_getElem hi'
    have hall : cs = cs.take i ++ (cs[i] :: cs.drop (i + 1)) := by rw [← List.drop_eq_getElem_cons hi', List.take_append_drop]
    have hmem : cs[i] ∈ cs := List.getElem_mem hi'
    generalize cs[i] = f at hj htk hall hmem
    have hpl : placesL (d + 1) [] ins cs = placesL (d + 1) [] ins (cs.take i) ++ (f.places (d + 1) (cs.take i) ins ++ placesL (d + 1) (cs.take i ++ [f]) ins (cs.drop (i + 1))) := by
      have q := congrArg (placesL (d + 1) [] ins) hall
      rw [q, placesL_append]; simp [placesL]
    have hpl2 : placesL (d + 1) [] ins (cs.take (i + 1)) = placesL (d + 1) [] ins (cs.take i) ++ f.places (d + 1) (cs.take i) ins := by rw [htk, placesL_append]; simp [placesL]
    have hsf := hsm.get f hmem
    have hfp : f.places (d + 1) (cs.take i) ins = ⟨d + 1, cs.take i, f, ins⟩ :: (if d + 1 < 65 then placesL (d + 2) [] (ins || f.k == 19) f.cs else []) := by cases f; rfl
    have hsz : f.name.size ≤ M63 ∧ f.cs.length ≤ M63 ∧ smls f.cs := by cases f; unfold Fld.sml at hsf; exact hsf
    have IHf : DownC h0 lb a3 a4 c1 xs J Jx f.cs := IH f hmem
    refine hf.ix rfl hj fun a ha => ?_
    obtain ⟨u, hu, c0, c1', c2, c3, c4, c5, c6⟩ := ha.cells
    have G := (W.pre _ _ hJ2).1
    refine ⟨_, G.cell c0, _, G.cell c1', _, G.cell c2, _, G.cell c3, _, G.cell c4, _, G.cell c5, _, G.cell c6, ?_⟩
    have lc := SyH.start No h2
    refine lc.new fun b11 _ hb11 _ lc => ?_
    repeat (first | refine lc.ldo 0 rfl rfl ?_ | refine lc.ld 0 rfl rfl ?_ | refine lc.ldo 1 rfl rfl ?_ | refine lc.ld 1 rfl rfl ?_ | refine lc.ldo 2 rfl rfl ?_ | refine lc.ld 2 rfl rfl ?_ | refine lc.ldo 3 rfl rfl ?_ | refine lc.ld 3 rfl rfl ?_ | refine lc.ldo 4 rfl rfl ?_ | refine lc.ld 4 rfl rfl ?_ | refine lc.ldo 5 rfl rfl ?_ | refine lc.ld 5 rfl rfl ?_ | refine lc.ldo 6 rfl rfl ?_ | refine lc.ld 6 rfl rfl ?_ | (refine lc.sto 0 rfl rfl rfl fun _ _ lc => ?_; simp only [Nat.zero_add, List.set_cons_zero, List.set_cons_succ, List.setIfInBounds_toArray] at lc) | (refine lc.st 0 rfl rfl rfl fun _ _ lc => ?_; simp only [Nat.zero_add, List.set_cons_zero, List.set_cons_succ, List.setIfInBounds_toArray] at lc) | (refine lc.sto 1 rfl rfl rfl fun _ _ lc => ?_; simp only [Nat.zero_add, List.set_cons_zero, List.set_cons_succ, List.setIfInBounds_toArray] at lc) | (refine lc.st 1 rfl rfl rfl fun _ _ lc => ?_; simp only [Nat.zero_add, List.set_cons_zero, List.set_cons_succ, List.setIfInBounds_toArray] at lc) | (refine lc.sto 2 rfl rfl rfl fun _ _ lc => ?_; simp only [Nat.zero_add, List.set_cons_zero, List.set_cons_succ, List.setIfInBounds_toArray] at lc) | (refine lc.st 2 rfl rfl rfl fun _ _ lc => ?_; simp only [Nat.zero_add, List.set_cons_zero, List.set_cons_succ, List.setIfInBounds_toArray] at lc) | (refine lc.sto 3 rfl rfl rfl fun _ _ lc => ?_; simp only [Nat.zero_add, List.set_cons_zero, List.set_cons_succ, List.setIfInBounds_toArray] at lc) | (refine lc.st 3 rfl rfl rfl fun _ _ lc => ?_; simp only [Nat.zero_add, List.set_cons_zero, List.set_cons_succ, List.setIfInBounds_toArray] at lc) | (refine lc.sto 4 rfl rfl rfl fun _ _ lc => ?_; simp only [Nat.zero_add, List.set_cons_zero, List.set_cons_succ, List.setIfInBounds_toArray] at lc) | (refine lc.st 4 rfl rfl rfl fun _ _ lc => ?_; simp only [Nat.zero_add, List.set_cons_zero, List.set_cons_succ, List.setIfInBounds_toArray] at lc) | (refine lc.sto 5 rfl rfl rfl fun _ _ lc => ?_; simp only [Nat.zero_add, List.set_cons_zero, List.set_cons_succ, List.setIfInBounds_toArray] at lc) | (refine lc.st 5 rfl rfl rfl fun _ _ lc => ?_; simp only [Nat.zero_add, List.set_cons_zero, List.set_cons_succ, List.setIfInBounds_toArray] at lc) | (refine lc.sto 6 rfl rfl rfl fun _ _ lc => ?_; simp only [Nat.zero_add, List.set_cons_zero, List.set_cons_succ, List.setIfInBounds_toArray] at lc) | (refine lc.st 6 rfl rfl rfl fun _ _ lc => ?_; simp only [Nat.zero_add, List.set_cons_zero, List.set_cons_succ, List.setIfInBounds_toArray] at lc) | refine lc.ldo 0 (x := Sl.nil) rfl rfl ?_ | refine lc.ld 0 (x := Sl.nil) rfl rfl ?_ | refine lc.ldo 1 (x := Sl.nil) rfl rfl ?_ | refine lc.ld 1 (x := Sl.nil) rfl rfl ?_ | refine lc.ldo 2 (x := Sl.nil) rfl rfl ?_ | refine lc.ld 2 (x := Sl.nil) rfl rfl ?_ | refine lc.ldo 3 (x := Sl.nil) rfl rfl ?_ | refine lc.ld 3 (x := Sl.nil) rfl rfl ?_ | refine lc.ldo 4 (x := Sl.nil) rfl rfl ?_ | refine lc.ld 4 (x := Sl.nil) rfl rfl ?_ | refine lc.ldo 5 (x := Sl.nil) rfl rfl ?_ | refine lc.ld 5 (x := Sl.nil) rfl rfl ?_ | refine lc.ldo 6 (x := Sl.nil) rfl rfl ?_ | refine lc.ld 6 (x := Sl.nil) rfl rfl ?_)
    rename_i h3 _
    have k11 : Blk h3 b11 #[.string f.name, .bool f.nul, .int .i64 f.k, .int .i64 f.w, .int .i64 f.id, .int .i64 f.ix, Sl.v u] 63 := lc.blk (i := 0) rfl
    have g3 : Grw h2 h3 := lc.grw
    have hb113 := k11.lt
    clear lc
    refine J64_4.of ?_
    unfold JT64_4
    refine clone_c ((op2.grw g3).wide (Nat.le_refl _) g3.1) hvs (by omega) fun t21 h4 g4 o4 => ?_
    have g4 := Grw.trans g3 g4
    have k11 := k11.grw (Grw.trans (Grw.refl _) ‹Grw h3 h4›)
    refine way_c (lo := h3.size) o4 ‹Grw h3 h4›.1 (by omega) fun way h5 f5 o5 hn5 => ?_
    have k11 := f5.blk k11 (fun q => by have := q.1; omega)
    have g5 : Grw h2 h5 := ((Tn.of_grw g4 : Tn No h2 h4).trans' f5 fun c hc hlt => by have := hc.1; have := g3.1; omega).grw
    have own5 := own2.grw g5
    have hJ5 := W.grw _ _ _ g5 hJ2
    have G5 := (W.pre _ _ hJ5).1
    refine J64_5.of ?_
    unfold JT64_5
    simp only [add_blk, Nat.reduceAdd]
    refine Ld_blk (x := Value.func (.yield lb) #[] #[]) own5.k3 rfl ?_
    refine ⟨by simp, by simp, by simp; try omega, by simp; try omega, ?_⟩
    refine Ld_blk k11 rfl (Ld_blk k11 rfl (Ld_blk k11 rfl (Ld_blk k11 rfl (Ld_blk k11 rfl (Ld_blk k11 rfl (Ld_blk k11 rfl ?_))))))
    have hE : PlE h0 ⟨d + 1, cs.take i, f, ins⟩ way ⟨slAt l.a ((none : Option Int).getD 0).toNat ((none : Option Int).getD l.c).toNat 7, ((some (i : Int)).getD l.n).toNat - ((none : Option Int).getD 0).toNat, ((none : Option Int).getD l.c).toNat - ((none : Option Int).getD 0).toNat⟩ f.name f.nul f.k f.w f.id f.ix u ins := by
      refine ⟨show way.n = d + 1 by omega, hf.take hi ?_ ?_ ?_, rfl, rfl, rfl, rfl, rfl, rfl, hu, rfl, hsz.1, by simp only [List.length_take]; omega⟩
      · simp only [slAt, Option.getD_none, Int.toNat_zero, Nat.zero_mul]
        split
        · rfl
        · cases l.a with
          | none => rfl
          | some a => simp [add_zero']
      · simp
      · simp
    unfold CallV
    refine YieldH.mono (W.y _ _ ((if d + 1 < 65 then placesL (d + 2) [] (ins || f.k == 19) f.cs else []) ++ (placesL (d + 1) (cs.take i ++ [f]) ins (cs.drop (i + 1)) ++ suf)) _ _ ⟨_, _, _, _, _, _, _, _, _, _, rfl, hE⟩ (by rw [hxs, hpl, hfp]; simp) hJ5) (fun v h6 hv => ?_) (fun _ _ q => q)
    obtain ⟨f6, (⟨rfl, hJ6⟩ | ⟨rfl, hX6⟩)⟩ := hv
    · refine ⟨true, rfl, If_f rfl ?_⟩
      have f26 := (Tn.of_grw g5 : Tn (fun c => c ≤ lb) h2 h5).trans f6
      have k11 := f6.blk k11 (show ¬ b11 ≤ lb by omega)
      have own6 := own5.fr f6 (by have := W.l3; show ¬ a3 ≤ lb; omega) (by have := W.l4; show ¬ a4 ≤ lb; omega)
      have o6 := (o5.fr f6 fun b hb _ (e : b ≤ lb) => by have := g3.1; omega).wide (Nat.le_refl _) f6.1
      have hc65 := (W.pre _ _ hJ6).2
      refine J64_6.of ?_
      unfold JT64_6
      simp only [add_blk, Nat.reduceAdd]
      refine ⟨_, hc65, ?_⟩
      have fin : ∀ h7, Tn (fun c => c ≤ lb) h2 h7 → J (p ++ placesL (d + 1) [] ins (cs.take (i + 1))) h7 → Wr .i64 ((i : Int) + 1) fun t55 => N1 (mk64_2 path l ins ⟨a3, 0, none⟩ c1 ⟨a4, 0, none⟩ l (l.n : Int) t55) h7 := fun h7 f7 j7 =>
        Wr_i64 (by omega) (by omega) (hN _ _ ⟨i + 1, by simp, by omega, f2.trans f7, j7⟩ (by omega))
      refine If_i (fun c => ?_) fun c => ?_
      · simp only [decide_eq_true_eq, decide_eq_false_iff_not, beq_iff_eq, beq_eq_false_iff_ne, ne_eq, reduceCtorEq, true_iff, false_iff, Bool.not_eq_true', Bool.not_eq_false', bne_iff_ne, bne_eq_false_iff_eq, Bool.not_true, Bool.not_false, Decidable.not_not] at c
        have hd65 : d + 1 < 65 := by omega
        rw [if_pos hd65] at hfp
        have rcall : ∀ (b : Bool), b = (ins || f.k == 19) → CallV Tryd.prog (downF a3 a4 c1) [Sl.v way, Sl.v u, .bool b] h6 (fun r h1 => ∃ t52 : Bool, r = .bool t52 ∧ If (!t52) (K false h1) (Wr .i64 ((i : Int) + 1) fun t55 => N1 (mk64_2 path l ins ⟨a3, 0, none⟩ c1 ⟨a4, 0, none⟩ l (l.n : Int) t55) h1)) NoP := by
          intro b hb
          unfold CallV downF
          simp only [hok, cond_true]
          refine IHf (h1 := h6) (path := way) (d := d + 1) (ins := b) (lo := h3.size) (p := p ++ placesL (d + 1) [] ins (cs.take i) ++ [⟨d + 1, cs.take i, f, ins⟩]) (suf := placesL (d + 1) (cs.take i ++ [f]) ins (cs.drop (i + 1)) ++ suf)
            (K := fun t52 h1 => If (!t52) (K false h1) (Wr .i64 ((i : Int) + 1) fun t55 => N1 (mk64_2 path l ins ⟨a3, 0, none⟩ c1 ⟨a4, 0, none⟩ l (l.n : Int) t55) h1)) hu o6 (by have := g3.1; omega) (by have := g5.1; have := f6.1; have := ‹Grw h3 h4›.1; have := f5.1; omega)
            (fun v hv => by rcases List.mem_append.1 hv with q | q; exact hvs v q; simp only [List.mem_singleton] at q; subst q; rfl) (by simp; omega) (by omega) own6 hsz.2.1 hsz.2.2 (by rw [hxs, hpl, hfp, hb]; simp) hJ6 (fun h7 f7 j7 => ?_) (fun h7 p' s' e j => ?_)
          · refine If_f rfl (fin h7 (f26.trans f7) ?_)
            rw [hpl2, hfp, ← hb]
            simpa using j7
          · exact If_t rfl (hX h7 p' s' e j)
        refine Ld_blk (x := downF a3 a4 c1) own6.k4 rfl (Ld_blk k11 rfl ?_)
        cases ins
        · refine If_f rfl (Ld_blk k11 rfl ?_)
          exact rcall _ (by simp)
        · exact If_t rfl (rcall _ (by simp))
      · simp only [decide_eq_true_eq, decide_eq_false_iff_not, beq_iff_eq, beq_eq_false_iff_ne, ne_eq, reduceCtorEq, true_iff, false_iff, Bool.not_eq_true', Bool.not_eq_false', bne_iff_ne, bne_eq_false_iff_eq, Bool.not_true, Bool.not_false, Decidable.not_not] at c
        refine fin h6 f26 ?_
        rw [if_neg (by omega)] at hfp
        rw [hpl2, hfp]
        simpa using hJ6
    · exact ⟨false, rfl, If_t rfl (hX h6 _ ((if d + 1 < 65 then placesL (d + 2) [] (ins || f.k == 19) f.cs else []) ++ (placesL (d + 1) (cs.take i ++ [f]) ins (cs.drop (i + 1)) ++ suf)) (by rw [hxs, hpl, hfp]; simp) hX6)⟩
  · simp only [decide_eq_true_eq, decide_eq_false_iff_not, beq_iff_eq, beq_eq_false_iff_ne, ne_eq, reduceCtorEq, true_iff, false_iff, Bool.not_eq_true', Bool.not_eq_false', bne_iff_ne, bne_eq_false_iff_eq, Bool.not_true, Bool.not_false, Decidable.not_not] at c
    have : i = cs.length := by omega
    subst this
    rw [List.take_length] at hJ2
    exact hT h2 f2 hJ2
theorem down_all {h0 : Hp} {lb a3 a4 : Nat} {c1 : Addr} {xs : List Pl} {J Jx : List Pl → HP} (W : WayC h0 lb a3 a4 c1 xs J Jx) : ∀ f : Fld, DownC h0 lb a3 a4 c1 xs J Jx f.cs
  | .mk _ _ _ _ _ _ cs => down_c W (cs := cs) fun f _ => down_all W f
end Go.Proofs.YtfomkkdijjfpiaaDoor
/- The package's asking of a schema: the way of all fields as an iterator. -/
namespace Go.Proofs.YtfomkkdijjfpiaaDoor
open Go Go.Sh Go.WideShapes
def allF (c1 c2 : Addr) : Value := .func (.func 63) #[] #[(.pointer (some c1)), (.pointer (some c2))]
theorem down_list {h0 : Hp} {lb a3 a4 : Nat} {c1 : Addr} {xs : List Pl} {J Jx : List Pl → HP} (W : WayC h0 lb a3 a4 c1 xs J Jx) (cs : List Fld) : DownC h0 lb a3 a4 c1 xs J Jx cs := down_c W fun f _ => down_all W f
theorem all_iter {h0 : Hp} {c1 c2 : Addr} {l : Sl} {cs : List Fld} (hf : FsH h0 l cs) (hcl : cs.length ≤ M63) (hsm : smls cs) :
    IterR Tryd.prog (allF c1 c2) (placesL 1 [] false cs) (PlA h0) (fun h => Grw h0 h ∧ cell h c1 = some (.int .i64 65) ∧ cell h c2 = some (Sl.v l)) := by
  intro lb J Jx h hsz hJ0 hPre hG hGx Y
  have hok : okFn Tryd.prog 63 = true := by kernel_rfl
  have hok2 : okFn Tryd.prog 64 = true := by kernel_rfl
  unfold CallF allF
  simp only [hok, cond_true, List.nil_append, List.cons_append]
  refine CallH.mono (Fn63.of (K := fun h2 => J (placesL 1 [] false cs) h2 ∨ ∃ pre suf, placesL 1 [] false cs = pre ++ suf ∧ Jx pre h2) (Kp := NoP) ?_) (fun _ _ hh => hh.2) (fun _ _ hh => hh)
  unfold S63
  refine New_i fun a3 h1 e3 g1 k3 _ => New_i fun a4 h2 e4 g2 k4 _ => ?_
  have k3 := k3.grw g2
  have hne : a3 ≠ a4 := by have := k3.lt; have := g1.1; omega
  refine ⟨rfl, ?_⟩
  refine St_i k4 (by simp) rfl fun h3 o3 k4 => ?_
  have k3 := o3.blk k3 hne
  have hg : Grw h h3 := Only.grw (Grw.trans g1 g2) o3 (by have := g1.1; omega)
  have hJ3 := hG _ _ _ hg hJ0
  refine Ld_blk (x := downF a3 a4 c1) k4 rfl ⟨_, (hPre _ _ hJ3).2.2, ?_⟩
  have W : WayC h0 lb a3 a4 c1 (placesL 1 [] false cs) J Jx := ⟨fun p h1 j => ⟨(hPre p h1 j).1, (hPre p h1 j).2.1⟩, hG, hGx, fun p x suf h1 args hA e j => Y p x suf h1 args hA e j, by omega, by have := g1.1; omega⟩
  unfold CallV downF
  simp only [hok2, cond_true]
  refine CallH.mono (down_list W cs (h1 := h3) (path := Sl.nil) (l := l) (vs := []) (ins := false) (d := 0) (lo := h3.size) (p := []) (suf := []) (K := fun _ h2 => J (placesL 1 [] false cs) h2 ∨ ∃ pre suf, placesL 1 [] false cs = pre ++ suf ∧ Jx pre h2) hf (Sh.nil _ _ _ _ _) (by have := hg.1; omega) (Nat.le_refl _) (by simp) rfl (by omega) ⟨k3, k4⟩ hcl hsm (by simp) hJ3
    (fun h4 _ j => .inl (by simpa using j)) (fun h4 p' s' e j => .inr ⟨p', s', e, j⟩)) (fun _ _ hh => ?_) (fun _ _ hh => hh)
  obtain ⟨b, rfl, hh⟩ := hh
  exact ⟨b, rfl, hh⟩
theorem Tw.back {l : Nat} {h1 h11 h12 : Hp} (g : Grw h1 h11) (t : Tw l h11 h12) (hl : ∃ r, h1[l]? = some (.loop r)) : ∃ h', Tw l h1 h' ∧ h12[l]? = h'[l]? := by
  obtain ⟨r, hr⟩ := hl
  obtain ⟨_, _, r', st, pd, e1, e2⟩ := t
  rw [grw_loop g hr] at e1
  cases e1
  refine ⟨h1.setIfInBounds l (.loop { r with state := st, pending := pd }), tw_set hr, ?_⟩
  rw [e2, Array.getElem?_setIfInBounds]; simp [(Array.getElem?_eq_some_iff.1 hr).1]
end Go.Proofs.YtfomkkdijjfpiaaDoor
/- The package's asking of a schema, of a head. -/
namespace Go.Proofs.YtfomkkdijjfpiaaDoor
open Go Go.Sh Go.WideShapes
abbrev B39 (h : Hp) (b : Nat) (e : Int) (s : Sl) (n : Int) : Prop := Blk h b #[.int .i64 e, Sl.v s, .int .i64 n] 39
theorem rangeC {fs : List Fld} {h0 h : Hp} {a2 a5 a6 r : Nat} {s1 s7 : Sl} {c1 c2 : Addr} {K : Int → Sl → Int → HP} {Kp : PK} (ht : KTab h0) (hf : FsH h0 s1 fs) (hcl : fs.length ≤ M63) (hsm : smls fs) (g : Grw h0 h)
    (l2 : h0.size ≤ a2) (l5 : h0.size ≤ a5) (lr : h0.size ≤ r) (k2 : B39 h a2 0 s7 0) (k5 : Blk h a5 #[.int .i64 0] 3) (k6 : Blk h a6 #[.map (some r)] 99) (hm : MapI h r []) (n25 : a2 ≠ a5) (n26 : a2 ≠ a6) (n56 : a5 ≠ a6) (n2r : a2 ≠ r) (n5r : a5 ≠ r) (n6r : a6 ≠ r) (hc1 : cell h c1 = some (.int .i64 65)) (hc2 : cell h c2 = some (Sl.v s1))
    (d12 : c1.block ≠ a2) (d15 : c1.block ≠ a5) (d1r : c1.block ≠ r) (d22 : c2.block ≠ a2) (d25 : c2.block ≠ a5) (d2r : c2.block ≠ r)
    (hk : ∀ (e : Int) s n h', Grw h0 h' → (e = 0 ↔ AllR 0 [] (placesL 1 [] false fs)) → K e s n h') : R41_3 ⟨a2, 0, none⟩ ⟨a5, 0, none⟩ ⟨a6, 0, none⟩ (allF c1 c2) K Kp h := by
  have hit := all_iter (c1 := c1) (c2 := c2) hf hcl hsm
  have i2 := k2.lt
  have i5 := k5.lt
  have i6 := k6.lt
  have ir : r < h.size := by obtain ⟨_, _, e, _⟩ := hm; exact (Array.getElem?_eq_some_iff.1 e).1
  refine R41_3.rule (α := Pl) (xs := placesL 1 [] false fs) (PlE h0) hit
    (fun pre h1 => Tn (fun c => c = a5 ∨ c = r) h h1 ∧ Blk h1 a5 #[.int .i64 (pre.length : Int)] 3 ∧ MapI h1 r (idsOf [] pre) ∧ AllR 0 [] pre)
    (fun pre h1 => Tn (fun c => c = a2 ∨ c = a5 ∨ c = r) h h1 ∧ ∃ (e : Int) (s : Sl), B39 h1 a2 e s 0 ∧ e ≠ 0 ∧ ¬ AllR 0 [] pre) ⟨Tn.refl _ _, k5, hm, trivial⟩ ?_ ?_ ?_ ?_ ?_ ?_ ?_ ?_
  · rintro pre h1 h2 g ⟨f, b, m, a⟩
    exact ⟨f.trans' (Tn.of_grw (S := No) g) fun _ t => t.elim, b.grw g, m.grw g, a⟩
  · rintro l pre h1 h2 hl t ⟨f, b, m, a⟩
    exact ⟨f.trans' t.only.fr fun d hd hlt => by omega, t.only.blk b (by omega), m.fr t.only.fr (by omega), a⟩
  · rintro pre h1 ⟨f, _⟩
    refine ⟨⟨Nat.le_trans g.1 f.1, fun c hc => (f.2 c (by have := g.1; omega) (by omega)).trans (g.2 c hc)⟩, f.cell hc1 (by omega), f.cell hc2 (by omega)⟩
  · rintro pre h1 h2 g ⟨f, e, s, b, q⟩
    exact ⟨f.trans' (Tn.of_grw (S := No) g) fun _ t => t.elim, e, s, b.grw g, q⟩
  · rintro l pre h1 h2 hl t ⟨f, e, s, b, q⟩
    exact ⟨f.trans' t.only.fr fun d hd hlt => by omega, e, s, t.only.blk b (by omega), q⟩
  · rintro l pre x suf h1 y0 y1 y2 y3 y4 y5 y6 y7 y8 y9 hE hxs hl hrec ⟨f1, b5, m1, a1⟩ N X hN hX
    obtain ⟨hp, ha, rfl, rfl, rfl, rfl, rfl, rfl, hsf, rfl, hnm, hal⟩ := hE
    have hl1 : l < h1.size := by obtain ⟨q, hq⟩ := hrec; exact (Array.getElem?_eq_some_iff.1 hq).1
    have G1 : Grw h0 h1 := ⟨Nat.le_trans g.1 f1.1, fun c hc => (f1.2 c (by have := g.1; omega) (by omega)).trans (g.2 c hc)⟩
    have b6 : Blk h1 a6 #[.map (some r)] 99 := f1.blk k6 (by omega)
    have b2 : B39 h1 a2 0 s7 0 := f1.blk k2 (by omega)
    have hlen := AllR_len a1 (by omega)
    unfold RT41_3
    have lc := SyH.start No h1
    refine lc.new fun b7 _ hb7 _ lc => ?_
    refine lc.st 0 rfl rfl rfl fun _ _ lc => ?_; simp only [Nat.zero_add, List.set_cons_zero, List.set_cons_succ, List.setIfInBounds_toArray] at lc; refine lc.sto 0 rfl rfl rfl fun _ _ lc => ?_; simp only [Nat.zero_add, List.set_cons_zero, List.set_cons_succ, List.setIfInBounds_toArray] at lc; refine lc.sto 0 rfl rfl rfl fun _ _ lc => ?_; simp only [Nat.zero_add, List.set_cons_zero, List.set_cons_succ, List.setIfInBounds_toArray] at lc; refine lc.sto 0 rfl rfl rfl fun _ _ lc => ?_; simp only [Nat.zero_add, List.set_cons_zero, List.set_cons_succ, List.setIfInBounds_toArray] at lc; refine lc.sto 0 rfl rfl rfl fun _ _ lc => ?_; simp only [Nat.zero_add, List.set_cons_zero, List.set_cons_succ, List.setIfInBounds_toArray] at lc; refine lc.sto 0 rfl rfl rfl fun _ _ lc => ?_; simp only [Nat.zero_add, List.set_cons_zero, List.set_cons_succ, List.setIfInBounds_toArray] at lc; refine lc.sto 0 rfl rfl rfl fun _ _ lc => ?_; simp only [Nat.zero_add, List.set_cons_zero, List.set_cons_succ, List.setIfInBounds_toArray] at lc; refine lc.sto 0 rfl rfl rfl fun _ _ lc => ?_; simp only [Nat.zero_add, List.set_cons_zero, List.set_cons_succ, List.setIfInBounds_toArray] at lc; refine lc.sto 0 rfl rfl rfl fun _ _ lc => ?_; simp only [Nat.zero_add, List.set_cons_zero, List.set_cons_succ, List.setIfInBounds_toArray] at lc; refine lc.sto 0 rfl rfl rfl fun _ _ lc => ?_; simp only [Nat.zero_add, List.set_cons_zero, List.set_cons_succ, List.setIfInBounds_toArray] at lc
    rename_i h11 _
    have k7 : Blk h11 b7 #[Sl.v y0, Sl.v y1, .string x.f.name, .bool x.f.nul, .int .i64 x.f.k, .int .i64 x.f.w, .int .i64 x.f.id, .int .i64 x.f.ix, Sl.v y8, .bool x.ins] 104 := lc.blk (i := 0) rfl
    have g11 : Grw h1 h11 := lc.grw
    clear lc
    refine ⟨(g11.2 l hl1), fun h12 t12 => ?_⟩
    have o12 := t12.only
    have k7 := o12.blk k7 (by omega)
    have b5 := o12.blk (b5.grw g11) (by omega)
    have b6 := o12.blk (b6.grw g11) (by omega)
    have b2 := o12.blk (b2.grw g11) (by omega)
    have m1 := (m1.grw g11).fr o12.fr (by omega)
    obtain ⟨h', t', e'⟩ := Tw.back g11 t12 hrec
    have f12 : Tn (fun c => c = l) h1 h12 := (Tn.of_grw g11 : Tn (fun c => c = l) h1 h11).trans' o12.fr fun d hd _ => hd
    have G12 : Grw h0 h12 := ⟨Nat.le_trans G1.1 f12.1, fun c hc => (f12.2 c (by have := G1.1; omega) (by have := g.1; omega)).trans (G1.2 c hc)⟩
    clear o12
    simp only [add_blk, Nat.reduceAdd]
    refine Ld_blk k7 rfl (Ld_blk k7 rfl (Ld_blk k7 rfl (Ld_blk k7 rfl (Ld_blk k7 rfl (Ld_blk k7 rfl (Ld_blk k7 rfl (Ld_blk k7 rfl (Ld_blk k7 rfl (Ld_blk k7 rfl ?_)))))))))
    refine Ld_blk b5 rfl (Ld_blk (x := some r) b6 rfl ?_)
    refine wrong_c G12 ht hp ha hsf hal hnm m1 fun e h13 g13 he => ?_
    have f13 : Tn (fun c => c = l) h1 h13 := f12.trans' (Tn.of_grw (S := No) g13) fun _ t => t.elim
    have k7 := k7.grw g13
    have b5 := b5.grw g13
    have b6 := b6.grw g13
    have b2 := b2.grw g13
    have m1 := m1.grw g13
    have el : h13[l]? = h'[l]? := (g13.2 l (by have := f12.1; omega)).trans e'
    have hpre : AllR 0 [] (pre ++ [x]) ↔ e = 0 := by
      rw [AllR_append]
      simp only [AllR, and_true, Nat.zero_add]
      exact ⟨fun q => he.2 q.2, fun q => ⟨a1, he.1 q⟩⟩
    refine If_i (fun c => ?_) fun c => ?_
    · simp only [decide_eq_true_eq, decide_eq_false_iff_not, beq_iff_eq, beq_eq_false_iff_ne, ne_eq, reduceCtorEq, true_iff, false_iff, Bool.not_eq_true', Bool.not_eq_false', bne_iff_ne, bne_eq_false_iff_eq, Bool.not_true, Bool.not_false, Decidable.not_not] at c
      refine Ld_blk k7 rfl ?_
      refine St_i b2 (by simp) rfl fun h14 o14 b2 => ?_
      refine St_i b2 (by simp) rfl fun h15 o15 b2 => ?_
      refine St_i b2 (by simp) rfl fun h16 o16 b2 => ?_
      have o := (o14.trans o15).trans o16
      have f16 : Tn (fun c => c = l ∨ c = a2) h1 h16 := (f13.mono fun d hd _ => .inl hd).trans' o.fr fun d hd _ => .inr hd
      exact hX h' h16 t' ((o.2 l (by omega)).trans el) (f16.mono fun d hd _ => by omega)
        ⟨(f1.mono (T := fun c => c = a2 ∨ c = a5 ∨ c = r) fun d hd _ => .inr hd).trans' f16 fun d hd hlt => by omega, e, y0, by simpa using b2, c, fun q => c (hpre.1 q)⟩
    · simp only [decide_eq_true_eq, decide_eq_false_iff_not, beq_iff_eq, beq_eq_false_iff_ne, ne_eq, reduceCtorEq, true_iff, false_iff, Bool.not_eq_true', Bool.not_eq_false', bne_iff_ne, bne_eq_false_iff_eq, Bool.not_true, Bool.not_false, Decidable.not_not] at c
      refine Ld_blk b5 rfl (Wr_i64 (by omega) (by omega) (St_i b5 (by simp) rfl fun h14 o14 b5 => ?_))
      have k7 := o14.blk k7 (by omega)
      have b6 := o14.blk b6 (by omega)
      have m1 := m1.fr o14.fr (by omega)
      have f14 : Tn (fun c => c = l ∨ c = a5) h1 h14 := (f13.mono fun d hd _ => .inl hd).trans' o14.fr fun d hd _ => .inr hd
      have b5 : Blk h14 a5 #[.int .i64 ((pre ++ [x]).length : Int)] 3 := by simpa using b5
      have a2' := hpre.2 c
      refine Ld_blk k7 rfl (If_i (fun c19 => ?_) fun c19 => ?_)
      · simp only [decide_eq_true_eq, decide_eq_false_iff_not, beq_iff_eq, beq_eq_false_iff_ne, ne_eq, reduceCtorEq, true_iff, false_iff, Bool.not_eq_true', Bool.not_eq_false', bne_iff_ne, bne_eq_false_iff_eq, Bool.not_true, Bool.not_false, Decidable.not_not] at c19
        refine Ld_blk (x := some r) b6 rfl (Ld_blk k7 rfl (Ld_blk b5 rfl ?_))
        refine Up_i m1 fun h15 o15 m2 => ?_
        have f15 : Tn (fun c => c = l ∨ c = a5 ∨ c = r) h1 h15 := (f14.mono fun d hd _ => by omega).trans' o15.fr fun d hd _ => .inr (.inr hd)
        refine hN h' h15 t' ((o15.2 l (by omega)).trans ((o14.2 l (by omega)).trans el)) (f15.mono fun d hd _ => by omega) ⟨f1.trans' f15 fun d hd hlt => by omega, o15.blk b5 (by omega), ?_, a2'⟩
        rw [idsOf_append]
        simpa [idsOf, nextIds, c19] using m2
      · simp only [decide_eq_true_eq, decide_eq_false_iff_not, beq_iff_eq, beq_eq_false_iff_ne, ne_eq, reduceCtorEq, true_iff, false_iff, Bool.not_eq_true', Bool.not_eq_false', bne_iff_ne, bne_eq_false_iff_eq, Bool.not_true, Bool.not_false, Decidable.not_not] at c19
        refine hN h' h14 t' ((o14.2 l (by omega)).trans el) (f14.mono fun d hd _ => by omega) ⟨f1.trans' f14 fun d hd hlt => by omega, b5, ?_, a2'⟩
        rw [idsOf_append]
        simpa [idsOf, nextIds, c19] using m1
  · rintro h1 ⟨f1, b5, m1, a1⟩
    have b2 : B39 h1 a2 0 s7 0 := f1.blk k2 (by omega)
    have G1 : Grw h0 h1 := ⟨Nat.le_trans g.1 f1.1, fun c hc => (f1.2 c (by have := g.1; omega) (by omega)).trans (g.2 c hc)⟩
    unfold RD41_3
    simp only [add_blk, Nat.reduceAdd]
    refine St_i b2 (by simp) rfl fun h14 o14 b2 => ?_
    refine St_i b2 (by simp) rfl fun h15 o15 b2 => ?_
    refine St_i b2 (by simp) rfl fun h16 o16 b2 => ?_
    have b2 : B39 h16 a2 0 Sl.nil 0 := by simp at b2; exact b2
    refine Ld_blk b2 rfl (Ld_blk b2 rfl (Ld_blk b2 rfl ?_))
    exact hk _ _ _ _ (Only.grw G1 ((o14.trans o15).trans o16) l2) ⟨fun _ => a1, fun _ => rfl⟩
  · rintro pre suf h1 hxs ⟨f1, e, s, b2, he, na⟩
    have G1 : Grw h0 h1 := ⟨Nat.le_trans g.1 f1.1, fun c hc => (f1.2 c (by have := g.1; omega) (by omega)).trans (g.2 c hc)⟩
    unfold RX41_3_ret
    simp only [add_blk, Nat.reduceAdd]
    refine Ld_blk b2 rfl (Ld_blk b2 rfl (Ld_blk b2 rfl ?_))
    refine hk _ _ _ _ G1 ⟨fun q => absurd q he, fun q => ?_⟩
    rw [hxs, AllR_append] at q
    exact absurd q.1 na
theorem NewM_i {h : Hp} {K : Nat → HP} (hk : ∀ r h', r = h.size → Grw h h' → MapI h' r [] → K r h') : NewM h K :=
  hk _ _ rfl (Grw.push _ _) ⟨#[], 0, by simp, by simp, by simp⟩
theorem check_c {fs : List Fld} {ms : List Md} {h0 h : Hp} {s1 s2 : Sl} {K : Int → Sl → Int → HP} {Kp : PK} (ht : KTab h0) (hsm : smls fs) (g : Grw h0 h) (hf : FsH h0 s1 fs) (h2 : RsH h0 s2 2 (ms.map mdRow))
    (hk : ∀ (e : Int) s n h', Grw h0 h' → (e = 0 ↔ SchOk fs ms) → K e s n h') : Fn41 s1 s2 h K Kp := by
  refine Fn41.of ?_
  unfold S41
  have hn1 := hf.n
  have hn2 : s2.n = ms.length := by simpa using h2.1
  refine New_i fun b1 h3 e1 g1 k1 _ => New_i fun b2 h4 e2 g2 k2 _ => ?_
  have k1 := k1.grw g2
  have g4 := Grw.trans g (Grw.trans g1 g2)
  have l2 : h0.size ≤ b2 := by have := g.1; have := g1.1; omega
  have l12 : b1 < b2 := by have := k1.lt; have := g1.1; omega
  simp only [add_blk, Nat.reduceAdd]
  have k2 : B39 h4 b2 0 Sl.nil 0 := k2
  have fault : ∀ (e n : Int) (h5 : Hp) (s7 : Sl) (e7 n7 : Int), e ≠ 0 → ¬ SchOk fs ms → B39 h5 b2 e7 s7 n7 → Grw h0 h5 → St h5 ⟨b2, 0, none⟩ (.int .i64 e) fun h3 => St h3 ⟨b2, 1, none⟩ (.slice none 0 0) fun h4 => St h4 ⟨b2, 2, none⟩ (.int .i64 n) fun h5 => Ld h5 ⟨b2, 0, none⟩ (Value.int .i64) fun r0_0 => Ld h5 ⟨b2, 1, none⟩ (Sl.v) fun r0_1 => Ld h5 ⟨b2, 2, none⟩ (Value.int .i64) fun r0_2 => K r0_0 r0_1 r0_2 h5 := by
    intro e n h5 s7 e7 n7 he hno k g5
    refine St_i k (by simp) rfl fun h14 o14 k => ?_
    refine St_i k (by simp) rfl fun h15 o15 k => ?_
    refine St_i k (by simp) rfl fun h16 o16 k => ?_
    have k : B39 h16 b2 e Sl.nil n := by simp at k; exact k
    refine Ld_blk k rfl (Ld_blk k rfl (Ld_blk k rfl ?_))
    exact hk _ _ _ _ (Only.grw g5 ((o14.trans o15).trans o16) l2) ⟨fun q => absurd q he, fun q => absurd q hno⟩
  refine Ld_blk k1 rfl (If_i (fun c => ?_) fun c => ?_)
  · simp only [decide_eq_true_eq, decide_eq_false_iff_not, beq_iff_eq, beq_eq_false_iff_ne, ne_eq, reduceCtorEq, true_iff, false_iff, Bool.not_eq_true', Bool.not_eq_false', bne_iff_ne, bne_eq_false_iff_eq, Bool.not_true, Bool.not_false, Decidable.not_not] at c
    exact fault _ _ _ _ _ _ (by decide) (fun q => by have := q.1; omega) k2 g4
  refine Ld_blk k1 rfl (If_i (fun c2 => ?_) fun c2 => ?_)
  · simp only [decide_eq_true_eq, decide_eq_false_iff_not, beq_iff_eq, beq_eq_false_iff_ne, ne_eq, reduceCtorEq, true_iff, false_iff, Bool.not_eq_true', Bool.not_eq_false', bne_iff_ne, bne_eq_false_iff_eq, Bool.not_true, Bool.not_false, Decidable.not_not] at c2
    exact fault _ _ _ _ _ _ (by decide) (fun q => by have := q.2.1; omega) k2 g4
  simp only [decide_eq_true_eq, decide_eq_false_iff_not, beq_iff_eq, beq_eq_false_iff_ne, ne_eq, reduceCtorEq, true_iff, false_iff, Bool.not_eq_true', Bool.not_eq_false', bne_iff_ne, bne_eq_false_iff_eq, Bool.not_true, Bool.not_false, Decidable.not_not] at c c2
  refine J41_1.of ?_
  unfold JT41_1
  simp only [add_blk, Nat.reduceAdd]
  refine Ld_blk k1 rfl ?_
  refine L41_4.rule (fun x h' => Grw h4 h' ∧ ∃ i : Nat, x = i ∧ i ≤ ms.length ∧ ∀ (j : Nat) v, j < i → ms[j]? = some v → MdOk v) (fun x _ => ms.length - x.toNat) ⟨Grw.refl _, 0, rfl, by omega, fun j v hj => by omega⟩ ?_
  rintro x h5 ⟨g5, i, rfl, hi, hall⟩ N1 hN
  have k1 := k1.grw g5
  have k2 := k2.grw g5
  have G5 := Grw.trans g4 g5
  unfold T41_4
  simp only [add_blk, Nat.reduceAdd]
  refine If_i (fun c3 => ?_) fun c3 => ?_
  · simp only [decide_eq_true_eq, decide_eq_false_iff_not, beq_iff_eq, beq_eq_false_iff_ne, ne_eq, reduceCtorEq, true_iff, false_iff, Bool.not_eq_true', Bool.not_eq_false', bne_iff_ne, bne_eq_false_iff_eq, Bool.not_true, Bool.not_false, Decidable.not_not] at c3
    have hi' : i < ms.length := by omega
    have ei : ms[i]? = some ms[i] := List.getElem?_eq_getElem hi'
    generalize ms[i] = v at ei
    refine h2.ix rfl ei fun a ha => ?_
    refine ⟨_, G5.cell (Cs.c0 (v := .string v.1) ha), _, G5.cell (ha 1 _ rfl), ?_⟩
    have lc := SyH.start No h5
    refine lc.new fun b6 _ hb6 _ lc => ?_
    refine lc.st 0 rfl rfl rfl fun _ _ lc => ?_; simp only [Nat.zero_add, List.set_cons_zero, List.set_cons_succ, List.setIfInBounds_toArray] at lc; refine lc.sto 0 rfl rfl rfl fun _ _ lc => ?_; simp only [Nat.zero_add, List.set_cons_zero, List.set_cons_succ, List.setIfInBounds_toArray] at lc
    rename_i h6 _
    have k6 : Blk h6 b6 #[.string v.1, .string v.2] 66 := lc.blk (i := 0) rfl
    have g6 := lc.grw
    clear lc
    simp only [add_blk, Nat.reduceAdd]
    refine Ld_blk k6 rfl (If_i (fun c4 => ?_) fun c4 => ?_)
    · simp only [decide_eq_true_eq, decide_eq_false_iff_not, beq_iff_eq, beq_eq_false_iff_ne, ne_eq, reduceCtorEq, true_iff, false_iff, Bool.not_eq_true', Bool.not_eq_false', bne_iff_ne, bne_eq_false_iff_eq, Bool.not_true, Bool.not_false, Decidable.not_not] at c4
      exact fault _ _ _ _ _ _ (by decide) (fun q => by have := (q.2.2.1 i v ei).1; omega) (k2.grw g6) (Grw.trans G5 g6)
    refine Ld_blk k6 rfl (If_i (fun c5 => ?_) fun c5 => ?_)
    · simp only [decide_eq_true_eq, decide_eq_false_iff_not, beq_iff_eq, beq_eq_false_iff_ne, ne_eq, reduceCtorEq, true_iff, false_iff, Bool.not_eq_true', Bool.not_eq_false', bne_iff_ne, bne_eq_false_iff_eq, Bool.not_true, Bool.not_false, Decidable.not_not] at c5
      exact fault _ _ _ _ _ _ (by decide) (fun q => by have := (q.2.2.1 i v ei).2; omega) (k2.grw g6) (Grw.trans G5 g6)
    simp only [decide_eq_true_eq, decide_eq_false_iff_not, beq_iff_eq, beq_eq_false_iff_ne, ne_eq, reduceCtorEq, true_iff, false_iff, Bool.not_eq_true', Bool.not_eq_false', bne_iff_ne, bne_eq_false_iff_eq, Bool.not_true, Bool.not_false, Decidable.not_not] at c4 c5
    refine Wr_i64 (by omega) (by omega) (hN _ _ ⟨Grw.trans g5 g6, i + 1, by simp, by omega, fun j' v' hlt ej => ?_⟩ (by omega))
    by_cases e : j' = i
    · subst e; rw [ei] at ej; cases ej; exact ⟨by omega, by omega⟩
    · exact hall j' v' (by omega) ej
  · simp only [decide_eq_true_eq, decide_eq_false_iff_not, beq_iff_eq, beq_eq_false_iff_ne, ne_eq, reduceCtorEq, true_iff, false_iff, Bool.not_eq_true', Bool.not_eq_false', bne_iff_ne, bne_eq_false_iff_eq, Bool.not_true, Bool.not_false, Decidable.not_not] at c3
    have hms : ∀ (j : Nat) m, ms[j]? = some m → MdOk m := fun j v ej => hall j v (by have := (List.getElem?_eq_some_iff.1 ej).1; omega) ej
    refine J41_2.of ?_
    unfold JT41_2
    refine New_i fun a5 h6 e5 g6 k5 _ => ?_
    refine St_i k5 (by simp) rfl fun h7 o7 k5 => ?_
    have k5 : Blk h7 a5 #[.int .i64 0] 3 := by simpa using k5
    have s7 : h7.size = h6.size := o7.1
    have g7 : Grw h5 h7 := Only.grw g6 o7 (by omega)
    refine NewM_i fun r h8 er g8 hm => ?_
    subst er
    have hr8 : h7.size < h8.size := by obtain ⟨_, _, e, _⟩ := hm; exact (Array.getElem?_eq_some_iff.1 e).1
    refine New_i fun a6 h9 e6 g9 k6 _ => ?_
    refine St_i k6 (by simp) rfl fun h10 o10 k6 => ?_
    have k6 : Blk h10 a6 #[.map (some h7.size)] 99 := by simpa using k6
    have g10 : Grw h8 h10 := Only.grw g9 o10 (by omega)
    have G10 := Grw.trans g7 (Grw.trans g8 g10)
    have k1 := k1.grw G10
    have i2 := k2.lt
    have i5 := k5.lt
    have i65 := g6.1
    refine Ld_blk k1 rfl ?_
    refine Fn56.of ?_
    unfold S56
    refine New_i fun c2 h11 ec2 g11 kc2 _ => New_i fun c1 h12 ec1 g12 kc1 _ => ?_
    have G12 := Grw.trans g11 g12
    have kc2 := kc2.grw g12
    have := g10.1
    have := g11.1
    have i6 := k6.lt
    refine rangeC (c1 := ⟨c1, 0, none⟩) (c2 := ⟨c2, 0, none⟩) ht hf (by show _ ≤ 9223372036854775807; omega) hsm (Grw.trans G5 (Grw.trans G10 G12)) l2 (by have := G5.1; omega) (by have := G5.1; omega) (k2.grw (Grw.trans G10 G12)) (k5.grw (Grw.trans g8 (Grw.trans g10 G12))) (k6.grw G12) (hm.grw (Grw.trans g10 G12))
      (by omega) (by omega) (by omega) (by omega) (by omega) (by omega) (by rw [cell_blk kc1]; rfl) (by rw [cell_blk kc2]; rfl) (by simp only; omega) (by simp only; omega) (by simp only; omega) (by simp only; omega) (by simp only; omega) (by simp only; omega) fun e s n h' g' he => hk e s n h' g' (he.trans ?_)
    rw [AllR_0]
    exact ⟨fun q => ⟨by omega, by omega, hms, q⟩, fun q => q.2.2.2⟩
end Go.Proofs.YtfomkkdijjfpiaaDoor
/- The package's asking of a head. -/
namespace Go.Proofs.YtfomkkdijjfpiaaDoor
open Go Go.Sh Go.WideShapes
mutual
theorem FsH.grw {h h' : Hp} (g : Grw h h') : ∀ {s : Sl} (fs : List Fld), FsH h s fs → FsH h' s fs
  | _, [], hh => by unfold FsH at hh ⊢; exact hh
  | _, f :: fs, hh => by
    unfold FsH at hh ⊢
    obtain ⟨a, b, p, e, x, y⟩ := hh
    exact ⟨a, b, p, e, FldH.grw g f x, FrH.grw g fs y⟩
theorem FrH.grw {h h' : Hp} (g : Grw h h') : ∀ {a : Addr} {i : Nat} (fs : List Fld), FrH h a i fs → FrH h' a i fs
  | _, _, [], hh => by unfold FrH at hh ⊢; exact hh
  | _, _, f :: fs, hh => by
    unfold FrH at hh ⊢
    exact ⟨FldH.grw g f hh.1, FrH.grw g fs hh.2⟩
theorem FldH.grw {h h' : Hp} (g : Grw h h') : ∀ {a : Addr} (f : Fld), FldH h a f → FldH h' a f
  | _, .mk n nul k w id ix cs, hh => by
    unfold FldH at hh ⊢
    obtain ⟨s, c, x⟩ := hh
    exact ⟨s, c.grw g, FsH.grw g cs x⟩
end
theorem RsH.grw {h h' : Hp} {s : Sl} {sz : Nat} {rows : List (List Value)} (hh : RsH h s sz rows) (g : Grw h h') : RsH h' s sz rows :=
  ⟨hh.1, hh.2.1, fun j r hj => by obtain ⟨a, e, c⟩ := hh.2.2 j r hj; exact ⟨a, e, c.grw g⟩⟩
theorem may_c {H : Hd} {m : Bool} (hm : m = true ↔ HdOk H) (hsm : smls H.fs) : MayC H m := by
  obtain ⟨k, fs, ms, id, de, rows, press, nodes, bufs⟩ := H
  intro h0 h s1 s2 s7 s8 K Kp htab g hh hk
  simp only at hh hsm ⊢
  have n1 : s1.n = fs.length := hh.fs.n.1
  have n2 : s2.n = ms.length := by simpa using hh.ms.1
  have n7 : s7.n = nodes.length := by simpa using hh.nodes.1
  have n8 : s8.n = bufs.length := by simpa using hh.bufs.1
  have hk : ∀ b h', Grw h h' → (b = true ↔ HdOk ⟨k, fs, ms, id, de, rows, press, nodes, bufs⟩) → K b h' := fun b h' g q => by
    have e : b = m := by cases b <;> cases m <;> simp_all
    exact e ▸ hk h' g
  clear hm
  have hF : ¬ HdOk ⟨k, fs, ms, id, de, rows, press, nodes, bufs⟩ → ∀ h', Grw h h' → K false h' := fun q h' g => hk false h' g ⟨by simp, fun x => (q x).elim⟩
  refine Fn21.of ?_
  unfold S21
  refine New_i fun b1 h1 e1 g1 k1 _ => ?_
  simp only [add_blk, Nat.reduceAdd]
  refine Ld_blk k1 rfl ?_
  unfold HdOk at hk hF
  simp only at hk hF
  have hF := fun q => hF q h1 g1
  have G1 := Grw.trans g g1
  refine If_i (fun c => ?_) fun c => ?_
  · simp only [decide_eq_true_eq, decide_eq_false_iff_not, beq_iff_eq, beq_eq_false_iff_ne, ne_eq, reduceCtorEq, true_iff, false_iff, Bool.not_eq_true', Bool.not_eq_false', bne_iff_ne, bne_eq_false_iff_eq, Bool.not_true, Bool.not_false, Decidable.not_not] at c
    have hF1 : ¬ (id = 0 ∧ de = false ∧ rows = 0 ∧ press = 0 ∧ nodes.length = 0 ∧ bufs.length = 0) → K false h1 := fun q => hF (by
      rintro (⟨_, a1, a2, a3, a4, a5, a6, _⟩ | ⟨a1, _⟩)
      · exact q ⟨a1, a2, a3, a4, a5, a6⟩
      · omega)
    clear hF
    cases de
    · simp only [true_and] at hF1
      repeat' (first | ((with_reducible refine J21_7.of ?_); unfold JT21_7; (try simp only [add_blk, Nat.reduceAdd])) | ((with_reducible refine J21_8.of ?_); unfold JT21_8; (try simp only [add_blk, Nat.reduceAdd])) | ((with_reducible refine J21_9.of ?_); unfold JT21_9; (try simp only [add_blk, Nat.reduceAdd])) | ((with_reducible refine J21_10.of ?_); unfold JT21_10; (try simp only [add_blk, Nat.reduceAdd])) | ((with_reducible refine If_t (by first | rfl | (simp only [decide_eq_true_eq, decide_eq_false_iff_not, beq_iff_eq, beq_eq_false_iff_ne, ne_eq, reduceCtorEq, true_iff, false_iff, Bool.not_eq_true', Bool.not_eq_false', bne_iff_ne, bne_eq_false_iff_eq, Bool.not_true, Bool.not_false, Decidable.not_not]; omega)) ?_)) | ((with_reducible refine If_f (by first | rfl | (simp only [decide_eq_true_eq, decide_eq_false_iff_not, beq_iff_eq, beq_eq_false_iff_ne, ne_eq, reduceCtorEq, true_iff, false_iff, Bool.not_eq_true', Bool.not_eq_false', bne_iff_ne, bne_eq_false_iff_eq, Bool.not_true, Bool.not_false, Decidable.not_not]; omega)) ?_)) | (((with_reducible refine If_i (fun c => ?_) (fun c => ?_)) <;> (try simp only [decide_eq_true_eq, decide_eq_false_iff_not, beq_iff_eq, beq_eq_false_iff_ne, ne_eq, reduceCtorEq, true_iff, false_iff, Bool.not_eq_true', Bool.not_eq_false', bne_iff_ne, bne_eq_false_iff_eq, Bool.not_true, Bool.not_false, Decidable.not_not] at c))) | ((refine Ld_blk k1 rfl ?_)))
      all_goals first
        | (refine hF1 ?_
           try simp only [decide_eq_true_eq, decide_eq_false_iff_not, beq_iff_eq, beq_eq_false_iff_ne, ne_eq, reduceCtorEq, true_iff, false_iff, Bool.not_eq_true', Bool.not_eq_false', bne_iff_ne, bne_eq_false_iff_eq, Bool.not_true, Bool.not_false, Decidable.not_not] at *
           omega)
        | (refine check_c (htab.grw G1) hsm (Grw.refl _) (hh.fs.grw G1) (hh.ms.grw G1) fun e s n h' g2 he => hk _ h' (Grw.trans g1 g2) ?_
           rw [beq_iff_eq]
           refine he.trans ⟨fun q => .inl ⟨by omega, by omega, rfl, by omega, by omega, by omega, by omega, q⟩, ?_⟩
           rintro (⟨_, _, _, _, _, _, _, q⟩ | ⟨q, _⟩)
           · exact q
           · omega)
    · have hF1 := hF1 (by simp)
      repeat' (first | ((with_reducible refine J21_7.of ?_); unfold JT21_7; (try simp only [add_blk, Nat.reduceAdd])) | ((with_reducible refine J21_8.of ?_); unfold JT21_8; (try simp only [add_blk, Nat.reduceAdd])) | ((with_reducible refine J21_9.of ?_); unfold JT21_9; (try simp only [add_blk, Nat.reduceAdd])) | ((with_reducible refine J21_10.of ?_); unfold JT21_10; (try simp only [add_blk, Nat.reduceAdd])) | ((with_reducible refine If_t (by first | rfl | (simp only [decide_eq_true_eq, decide_eq_false_iff_not, beq_iff_eq, beq_eq_false_iff_ne, ne_eq, reduceCtorEq, true_iff, false_iff, Bool.not_eq_true', Bool.not_eq_false', bne_iff_ne, bne_eq_false_iff_eq, Bool.not_true, Bool.not_false, Decidable.not_not]; omega)) ?_)) | ((with_reducible refine If_f (by first | rfl | (simp only [decide_eq_true_eq, decide_eq_false_iff_not, beq_iff_eq, beq_eq_false_iff_ne, ne_eq, reduceCtorEq, true_iff, false_iff, Bool.not_eq_true', Bool.not_eq_false', bne_iff_ne, bne_eq_false_iff_eq, Bool.not_true, Bool.not_false, Decidable.not_not]; omega)) ?_)) | (((with_reducible refine If_i (fun c => ?_) (fun c => ?_)) <;> (try simp only [decide_eq_true_eq, decide_eq_false_iff_not, beq_iff_eq, beq_eq_false_iff_ne, ne_eq, reduceCtorEq, true_iff, false_iff, Bool.not_eq_true', Bool.not_eq_false', bne_iff_ne, bne_eq_false_iff_eq, Bool.not_true, Bool.not_false, Decidable.not_not] at c))) | ((refine Ld_blk k1 rfl ?_)))
      all_goals first | exact hF1 | (simp only [decide_eq_true_eq, decide_eq_false_iff_not, beq_iff_eq, beq_eq_false_iff_ne, ne_eq, reduceCtorEq, true_iff, false_iff, Bool.not_eq_true', Bool.not_eq_false', bne_iff_ne, bne_eq_false_iff_eq, Bool.not_true, Bool.not_false, Decidable.not_not] at *; omega)
  · simp only [decide_eq_true_eq, decide_eq_false_iff_not, beq_iff_eq, beq_eq_false_iff_ne, ne_eq, reduceCtorEq, true_iff, false_iff, Bool.not_eq_true', Bool.not_eq_false', bne_iff_ne, bne_eq_false_iff_eq, Bool.not_true, Bool.not_false, Decidable.not_not] at c
    have hF1 : ¬ ((k = 2 ∧ 0 ≤ id ∧ id ≤ 31 ∨ k = 3 ∧ id = 0 ∧ de = false) ∧ fs.length = 0 ∧ ms.length = 0 ∧ 0 ≤ rows ∧ rows ≤ 4096 ∧ 0 ≤ press ∧ press ≤ 2) → K false h1 := fun q => hF (by
      rintro (⟨a, _⟩ | ⟨a1, a2, a3, a4, a5, a6, a7, a8, a9, _⟩)
      · omega
      · exact q ⟨a1, a2, a3, a4, a5, a6, a7⟩)
    have fin : (k = 2 ∧ 0 ≤ id ∧ id ≤ 31 ∨ k = 3 ∧ id = 0 ∧ de = false) → fs.length = 0 → ms.length = 0 → 0 ≤ rows → rows ≤ 4096 → 0 ≤ press → press ≤ 2 → Fn42 k s1 s2 id de rows press s7 s8 h1 (fun t101 h1 => K t101 h1) Kp := by
      intro a1 a2 a3 a4 a5 a6 a7
      refine nodesMay_c G1 hh.nodes hh.bufs fun b h' g2 hb => hk b h' (Grw.trans g1 g2) (hb.trans ⟨fun q => .inr ⟨a1, a2, a3, a4, a5, a6, a7, q⟩, ?_⟩)
      rintro (⟨q, _⟩ | ⟨_, _, _, _, _, _, _, q⟩)
      · omega
      · exact q
    clear hF hk
    cases de
    · simp only [reduceCtorEq, and_true] at hF1 fin
      repeat' (first | ((with_reducible refine J21_1.of ?_); unfold JT21_1; (try simp only [add_blk, Nat.reduceAdd])) | ((with_reducible refine J21_2.of ?_); unfold JT21_2; (try simp only [add_blk, Nat.reduceAdd])) | ((with_reducible refine J21_3.of ?_); unfold JT21_3; (try simp only [add_blk, Nat.reduceAdd])) | ((with_reducible refine J21_4.of ?_); unfold JT21_4; (try simp only [add_blk, Nat.reduceAdd])) | ((with_reducible refine J21_5.of ?_); unfold JT21_5; (try simp only [add_blk, Nat.reduceAdd])) | ((with_reducible refine J21_6.of ?_); unfold JT21_6; (try simp only [add_blk, Nat.reduceAdd])) | ((with_reducible refine If_t (by first | rfl | (simp only [decide_eq_true_eq, decide_eq_false_iff_not, beq_iff_eq, beq_eq_false_iff_ne, ne_eq, reduceCtorEq, true_iff, false_iff, Bool.not_eq_true', Bool.not_eq_false', bne_iff_ne, bne_eq_false_iff_eq, Bool.not_true, Bool.not_false, Decidable.not_not]; omega)) ?_)) | ((with_reducible refine If_f (by first | rfl | (simp only [decide_eq_true_eq, decide_eq_false_iff_not, beq_iff_eq, beq_eq_false_iff_ne, ne_eq, reduceCtorEq, true_iff, false_iff, Bool.not_eq_true', Bool.not_eq_false', bne_iff_ne, bne_eq_false_iff_eq, Bool.not_true, Bool.not_false, Decidable.not_not]; omega)) ?_)) | (((with_reducible refine If_i (fun c => ?_) (fun c => ?_)) <;> (try simp only [decide_eq_true_eq, decide_eq_false_iff_not, beq_iff_eq, beq_eq_false_iff_ne, ne_eq, reduceCtorEq, true_iff, false_iff, Bool.not_eq_true', Bool.not_eq_false', bne_iff_ne, bne_eq_false_iff_eq, Bool.not_true, Bool.not_false, Decidable.not_not] at c))) | ((refine Ld_blk k1 rfl ?_)))
      all_goals first | refine hF1 ?_ | apply fin
      all_goals try simp only [decide_eq_true_eq, decide_eq_false_iff_not, beq_iff_eq, beq_eq_false_iff_ne, ne_eq, reduceCtorEq, true_iff, false_iff, Bool.not_eq_true', Bool.not_eq_false', bne_iff_ne, bne_eq_false_iff_eq, Bool.not_true, Bool.not_false, Decidable.not_not] at *
      all_goals omega
    · simp only [reduceCtorEq, and_false, or_false] at hF1 fin
      repeat' (first | ((with_reducible refine J21_1.of ?_); unfold JT21_1; (try simp only [add_blk, Nat.reduceAdd])) | ((with_reducible refine J21_2.of ?_); unfold JT21_2; (try simp only [add_blk, Nat.reduceAdd])) | ((with_reducible refine J21_3.of ?_); unfold JT21_3; (try simp only [add_blk, Nat.reduceAdd])) | ((with_reducible refine J21_4.of ?_); unfold JT21_4; (try simp only [add_blk, Nat.reduceAdd])) | ((with_reducible refine J21_5.of ?_); unfold JT21_5; (try simp only [add_blk, Nat.reduceAdd])) | ((with_reducible refine J21_6.of ?_); unfold JT21_6; (try simp only [add_blk, Nat.reduceAdd])) | ((with_reducible refine If_t (by first | rfl | (simp only [decide_eq_true_eq, decide_eq_false_iff_not, beq_iff_eq, beq_eq_false_iff_ne, ne_eq, reduceCtorEq, true_iff, false_iff, Bool.not_eq_true', Bool.not_eq_false', bne_iff_ne, bne_eq_false_iff_eq, Bool.not_true, Bool.not_false, Decidable.not_not]; omega)) ?_)) | ((with_reducible refine If_f (by first | rfl | (simp only [decide_eq_true_eq, decide_eq_false_iff_not, beq_iff_eq, beq_eq_false_iff_ne, ne_eq, reduceCtorEq, true_iff, false_iff, Bool.not_eq_true', Bool.not_eq_false', bne_iff_ne, bne_eq_false_iff_eq, Bool.not_true, Bool.not_false, Decidable.not_not]; omega)) ?_)) | (((with_reducible refine If_i (fun c => ?_) (fun c => ?_)) <;> (try simp only [decide_eq_true_eq, decide_eq_false_iff_not, beq_iff_eq, beq_eq_false_iff_ne, ne_eq, reduceCtorEq, true_iff, false_iff, Bool.not_eq_true', Bool.not_eq_false', bne_iff_ne, bne_eq_false_iff_eq, Bool.not_true, Bool.not_false, Decidable.not_not] at c))) | ((refine Ld_blk k1 rfl ?_)))
      all_goals first | refine hF1 ?_ | apply fin
      all_goals try simp only [decide_eq_true_eq, decide_eq_false_iff_not, beq_iff_eq, beq_eq_false_iff_ne, ne_eq, reduceCtorEq, true_iff, false_iff, Bool.not_eq_true', Bool.not_eq_false', bne_iff_ne, bne_eq_false_iff_eq, Bool.not_true, Bool.not_false, Decidable.not_not] at *
      all_goals omega
end Go.Proofs.YtfomkkdijjfpiaaDoor
/- Put: its bytes' number; the same bytes; the fixed call; the law of Put. -/
namespace Go.Proofs.YtfomkkdijjfpiaaDoor
open Go Go.Sh Go.WideShapes
theorem len2 {α : Type} {l : List α} (h : l.length = 2) : ∃ a0 a1, l = [a0, a1] := by
  match l, h with
  | [a0, a1], _ => exact ⟨_, _, rfl⟩
theorem len3 {α : Type} {l : List α} (h : l.length = 3) : ∃ a0 a1 a2, l = [a0, a1, a2] := by
  match l, h with
  | [a0, a1, a2], _ => exact ⟨_, _, _, rfl⟩
theorem len4 {α : Type} {l : List α} (h : l.length = 4) : ∃ a0 a1 a2 a3, l = [a0, a1, a2, a3] := by
  match l, h with
  | [_, _, _, _], _ => exact ⟨_, _, _, _, rfl⟩
theorem len7 {α : Type} {l : List α} (h : l.length = 7) : ∃ a0 a1 a2 a3 a4 a5 a6, l = [a0, a1, a2, a3, a4, a5, a6] := by
  match l, h with
  | [a0, a1, a2, a3, a4, a5, a6], _ => exact ⟨_, _, _, _, _, _, _, rfl⟩
theorem len9 {α : Type} {l : List α} (h : l.length = 9) : ∃ a0 a1 a2 a3 a4 a5 a6 a7 a8, l = [a0, a1, a2, a3, a4, a5, a6, a7, a8] := by
  match l, h with
  | [a0, a1, a2, a3, a4, a5, a6, a7, a8], _ => exact ⟨_, _, _, _, _, _, _, _, _, rfl⟩
theorem encsU_len {cs : List Fld} {d : Nat} {ins : Bool} (IH : ∀ f ∈ cs, ∀ (n : Nat) (ids : List Int), AllR n ids (f.places d [] ins) → f.enc.length ≤ 54 * (f.places d [] ins).length ∧ f.nn) : ∀ {n : Nat} {ids : List Int}, AllR n ids (placesU d ins cs) → (encs cs).length ≤ 54 * (placesU d ins cs).length ∧ nns cs := by
  induction cs with
  | nil => intro n ids _; simp [encs, placesU, nns]
  | cons f fs ih =>
    intro n ids h
    simp only [placesU, AllR_append] at h
    have h1 := IH f (by simp) n ids h.1
    have h2 := ih (fun g hg => IH g (by simp [hg])) h.2
    simp only [encs, placesU, List.length_append, nns]
    exact ⟨by omega, h1.2, h2.2⟩
theorem enc_len : ∀ (f : Fld) (d : Nat) (ins : Bool) (n : Nat) (ids : List Int), AllR n ids (f.places d [] ins) → f.enc.length ≤ 54 * (f.places d [] ins).length ∧ f.nn
  | .mk nm nul k w id ix cs, d, ins, n, ids, h => by
    have IH : ∀ f ∈ cs, ∀ (n : Nat) (ids : List Int), AllR n ids (f.places (d + 1) [] (ins || k == 19)) → f.enc.length ≤ 54 * (f.places (d + 1) [] (ins || k == 19)).length ∧ f.nn := fun f _ n ids => enc_len f (d + 1) (ins || k == 19) n ids
    have hd : d ≤ 64 := by unfold Fld.places at h; exact h.1.1
    rw [places_cons hd] at h ⊢
    have h1 := h.1
    have h2 := (AllR_0.1 h.2).2
    have h3 := encsU_len IH h2
    have hnm := h1.2.2.1.2.1
    have hsh := h1.2.2.2.2.1
    simp only [Fld.name] at hnm
    simp only [Fld.k, Fld.w, Fld.id, Fld.ix, Fld.cs] at hsh
    simp only [Fld.enc, Fld.nn, List.length_append, num_len, List.length_cons, L_len]
    have hns : nm.data.toList.length = nm.size := rfl
    have hmid : (if k = 14 ∨ k = 16 then num w 2 else if k = 19 then num id 2 ++ num ix 1 else if k = 17 ∨ k = 18 then num (cs.length : Int) 1 else []).length ≤ 3 := by
      split
      · rw [num_len]; omega
      · split
        · rw [List.length_append, num_len, num_len]; decide
        · split
          · rw [num_len]; omega
          · simp
    unfold Shaped at hsh
    unfold i63
    refine ⟨by omega, by omega, by omega, by omega, by omega, h3.2⟩
theorem mds_len {ms : List Md} (h : ∀ (j : Nat) m, ms[j]? = some m → MdOk m) : (mdsEnc ms).length ≤ 516 * ms.length := by
  induction ms with
  | nil => simp [mdsEnc]
  | cons m ms ih =>
    have e : mdsEnc (m :: ms) = mdEnc m ++ mdsEnc ms := by simp [mdsEnc]
    have h0 := h 0 m rfl
    have := ih fun j m hj => h (j + 1) m (by simpa using hj)
    unfold MdOk at h0
    rw [e, List.length_append, mdEnc, List.length_append, text2_len, text2_len, List.length_cons]
    omega
theorem nds_len (ms : List Nd) : (ndsEnc ms).length = 8 * ms.length := by
  induction ms with
  | nil => simp [ndsEnc]
  | cons m ms ih =>
    have e : ndsEnc (m :: ms) = ndEnc m ++ ndsEnc ms := by simp [ndsEnc]
    rw [e, List.length_append, ih, ndEnc, List.length_append, num_len, num_len, List.length_cons]; omega
theorem bfs_len (ms : List Bf) : (bfsEnc ms).length = 12 * ms.length := by
  induction ms with
  | nil => simp [bfsEnc]
  | cons m ms ih =>
    have e : bfsEnc (m :: ms) = bfEnc m ++ bfsEnc ms := by simp [bfsEnc]
    rw [e, List.length_append, ih, bfEnc, List.length_append, List.length_append, num_len, num_len, num_len, List.length_cons]; omega
theorem Hd.nn_ok {H : Hd} (h : HdOk H) : H.nn ∧ H.enc.length ≤ 65536 := by
  obtain ⟨k, fs, ms, id, de, rows, press, nodes, bufs⟩ := H
  unfold HdOk at h
  simp only at h
  rcases h with ⟨h1, h2, h3, h4, h5, h6, h7, h8⟩ | ⟨h1, h2, h3, h4, h5, h6, h7, h8, h9, h10, h11⟩
  · have e6 := List.eq_nil_of_length_eq_zero h6
    have e7 := List.eq_nil_of_length_eq_zero h7
    subst e6 e7
    obtain ⟨q1, q2, q3, q4, q5⟩ := h8
    have l1 := encsU_len (fun f _ n ids => enc_len f 1 false n ids) q5
    have l2 := AllR_len q5 (by omega)
    have l3 := mds_len q3
    refine ⟨⟨l1.2, by unfold i63; simp only; omega, by unfold i63; simp only; omega, by unfold i63; simp only; omega, by simp, by simp⟩, ?_⟩
    simp only [Hd.enc, List.length_append, num_len, if_pos h1, schemaEnc]
    omega
  · have e2 := List.eq_nil_of_length_eq_zero h2
    have e3 := List.eq_nil_of_length_eq_zero h3
    subst e2 e3
    refine ⟨⟨by unfold nns; trivial, by unfold i63; simp only; omega, by unfold i63; simp only; omega, by unfold i63; simp only; omega, fun x hx => ?_, fun x hx => ?_⟩, ?_⟩
    · obtain ⟨j, hj⟩ := List.mem_iff_getElem?.1 hx
      have := h10 j x hj
      unfold NdOk at this; unfold Nd.nn i63; omega
    · obtain ⟨j, hj⟩ := List.mem_iff_getElem?.1 hx
      have := h11 j x hj
      unfold BfOk at this; unfold Bf.nn i63; omega
    · have hb : (if k = 2 then num id 2 ++ num (if de then 1 else 0) 1 else []).length ≤ 3 := by
        split
        · rw [List.length_append, num_len, num_len]; decide
        · simp
      simp only [Hd.enc, List.length_append, num_len, if_neg (show ¬ k = 1 by omega), tailEnc, nds_len, bfs_len]
      omega
theorem put_all {H : Hd} (hsm : smls H.fs) {h : Hp} {s1 s2 s7 s8 : Sl} {K : Sl → Int → HP} {Kp : PK} (htab : KTab h) (hh : HdH h H s1 s2 s7 s8) (hf : ¬ HdOk H → ∀ h', Grw h h' → K Sl.nil 50 h') (ht : HdOk H → PutK h H.enc K) :
    Fn8 H.k s1 s2 H.id H.de H.rows H.press s7 s8 h K Kp := by
  classical
  refine put_c (m := decide (HdOk H)) (may_c (by rw [decide_eq_true_eq]) hsm) htab hh (fun e => ?_) (fun e => hf (by simpa using e)) (fun e => ht (by simpa using e))
  have := (Hd.nn_ok (by simpa using e : HdOk H)).2; omega
theorem rput_all {H : Hd} {h : Hp} {s1 s2 s7 s8 : Sl} {K : Sl → Int → HP} {Kp : PK} (hh : HdH h H s1 s2 s7 s8) (hf : ¬ HdOk H → ∀ h', Grw h h' → K Sl.nil 50 h') (ht : HdOk H → PutK h H.enc K) :
    Fn9 H.k s1 s2 H.id H.de H.rows H.press s7 s8 h K Kp := by
  classical
  refine rput_c (m := decide (HdOk H)) (rmay_c (by rw [decide_eq_true_eq])) hh (fun e => (Hd.nn_ok (by simpa using e)).1) (fun e => ?_) (fun e => hf (by simpa using e)) (fun e => ht (by simpa using e))
  have := (Hd.nn_ok (by simpa using e : HdOk H)).2; omega
theorem sameBytes_c {a b : Sl} {la lb : List UInt8} {h : Hp} {K : Bool → HP} {Kp : PK} (ha : Sv h a (bv la)) (hb : Sv h b (bv lb)) (hl : la.length ≤ 9223372036854775807) (hk : ∀ r, (r = true ↔ la = lb) → K r h) : Fn10 a b h K Kp := by
  refine Fn10.of ?_
  unfold S10
  have na : a.n = la.length := by rw [ha.1, bv_len]
  have nb : b.n = lb.length := by rw [hb.1, bv_len]
  refine If_i (fun c => ?_) fun c => ?_
  · simp only [decide_eq_true_eq, decide_eq_false_iff_not, beq_iff_eq, beq_eq_false_iff_ne, ne_eq, reduceCtorEq, true_iff, false_iff, Bool.not_eq_true', Bool.not_eq_false', bne_iff_ne, bne_eq_false_iff_eq, Bool.not_true, Bool.not_false, Decidable.not_not] at c
    exact hk false ⟨by simp, fun e => by subst e; omega⟩
  simp only [decide_eq_true_eq, decide_eq_false_iff_not, beq_iff_eq, beq_eq_false_iff_ne, ne_eq, reduceCtorEq, true_iff, false_iff, Bool.not_eq_true', Bool.not_eq_false', bne_iff_ne, bne_eq_false_iff_eq, Bool.not_true, Bool.not_false, Decidable.not_not] at c
  have hlen : la.length = lb.length := by omega
  refine L10_1.rule (fun x h' => h' = h ∧ ∃ i : Nat, x = i ∧ i ≤ la.length ∧ ∀ j, j < i → la[j]? = lb[j]?) (fun x _ => la.length - x.toNat) ⟨rfl, 0, rfl, by omega, fun j hj => by omega⟩ ?_
  rintro x h1 ⟨rfl, i, rfl, hi, hall⟩ N1 hN
  unfold T10_1
  refine If_i (fun c => ?_) fun c => ?_
  · simp only [decide_eq_true_eq, decide_eq_false_iff_not, beq_iff_eq, beq_eq_false_iff_ne, ne_eq, reduceCtorEq, true_iff, false_iff, Bool.not_eq_true', Bool.not_eq_false', bne_iff_ne, bne_eq_false_iff_eq, Bool.not_true, Bool.not_false, Decidable.not_not] at c
    have hi' : i < la.length := by omega
    have hj' : i < lb.length := by omega
    have ei : la[i]? = some la[i] := List.getElem?_eq_getElem hi'
    have ej : lb[i]? = some lb[i] := List.getElem?_eq_getElem hj'
    generalize la[i] = x at ei
    generalize lb[i] = y at ej
    refine ha.ix (v := .int .u8 (x.toNat : Int)) (by omega) (by omega) (by rw [Int.toNat_natCast, bv, List.getElem?_map, ei]; rfl) fun pa ca => ?_
    refine ⟨_, ca, ?_⟩
    refine hb.ix (v := .int .u8 (y.toNat : Int)) (by omega) (by omega) (by rw [Int.toNat_natCast, bv, List.getElem?_map, ej]; rfl) fun pb cb => ?_
    refine ⟨_, cb, ?_⟩
    refine If_i (fun c => ?_) fun c => ?_
    · simp only [decide_eq_true_eq, decide_eq_false_iff_not, beq_iff_eq, beq_eq_false_iff_ne, ne_eq, reduceCtorEq, true_iff, false_iff, Bool.not_eq_true', Bool.not_eq_false', bne_iff_ne, bne_eq_false_iff_eq, Bool.not_true, Bool.not_false, Decidable.not_not] at c
      refine hk false ⟨by simp, fun e => ?_⟩
      subst e; rw [ei] at ej; cases ej; exact (c rfl).elim
    · simp only [decide_eq_true_eq, decide_eq_false_iff_not, beq_iff_eq, beq_eq_false_iff_ne, ne_eq, reduceCtorEq, true_iff, false_iff, Bool.not_eq_true', Bool.not_eq_false', bne_iff_ne, bne_eq_false_iff_eq, Bool.not_true, Bool.not_false, Decidable.not_not] at c
      refine Wr_i64 (by omega) (by omega) (hN _ _ ⟨rfl, i + 1, by simp, by omega, fun j hlt => ?_⟩ (by omega))
      by_cases e : j = i
      · subst e; rw [ei, ej, UInt8.toNat_inj.1 (by omega : x.toNat = y.toNat)]
      · exact hall j (by omega)
  · simp only [decide_eq_true_eq, decide_eq_false_iff_not, beq_iff_eq, beq_eq_false_iff_ne, ne_eq, reduceCtorEq, true_iff, false_iff, Bool.not_eq_true', Bool.not_eq_false', bne_iff_ne, bne_eq_false_iff_eq, Bool.not_true, Bool.not_false, Decidable.not_not] at c
    refine hk true ⟨fun _ => List.ext_getElem? fun j => ?_, fun _ => rfl⟩
    rcases Nat.lt_or_ge j la.length with q | q
    · exact hall j (by omega)
    · rw [List.getElem?_eq_none q, List.getElem?_eq_none (by omega)]
def Hd0 : Hd := ⟨1, [], [], 0, false, 0, 0, [], []⟩
theorem HdH0 (h : Hp) : HdH h Hd0 Sl.nil Sl.nil Sl.nil Sl.nil := ⟨by unfold Hd0 FsH; exact ⟨rfl, Nat.le_refl _⟩, ⟨rfl, Nat.le_refl _, fun j r hj => by simp [Hd0] at hj⟩, ⟨rfl, Nat.le_refl _, fun j r hj => by simp [Hd0] at hj⟩, ⟨rfl, Nat.le_refl _, fun j r hj => by simp [Hd0] at hj⟩⟩
theorem Hd0_ok : HdOk Hd0 := .inl ⟨rfl, rfl, rfl, rfl, rfl, rfl, rfl, by simp [Hd0], by simp [Hd0], fun j m hj => by simp [Hd0] at hj, fun i j a b _ hj => by simp [Hd0] at hj, by simp [Hd0, placesU, AllR]⟩
theorem Hd0_enc : Hd0.enc = [1, 1, 0, 0, 0, 0, 0, 0] := by decide
theorem fixed_c {h : Hp} {K : Bool → HP} {Kp : PK} (htab : KTab h) (hk : ∀ h', Grw h h' → K true h') : Fn11 h K Kp := by
  refine Fn11.of ?_
  unfold S11
  refine put_all (H := Hd0) (by unfold Hd0 smls; trivial) htab (HdH0 h) (fun q => (q Hd0_ok).elim) fun _ s h1 g1 o1 => ?_
  refine If_t rfl (New_i fun b h2 e2 g2 k2 _ => ?_)
  refine sameBytes_c (la := Hd0.enc) (lb := Hd0.enc) (o1.grw g2).sv ⟨rfl, Nat.le_refl _, fun x _ => ⟨_, rfl, fun i v hv => ?_⟩⟩ (by rw [Hd0_enc]; decide) fun r hr => ?_
  · rw [add_blk, cell_blk k2, ← hv, Hd0_enc, Nat.zero_add, List.getElem?_toArray]; rfl
  · rw [hr.2 rfl]; exact hk _ (Grw.trans g1 g2)
end Go.Proofs.YtfomkkdijjfpiaaDoor
/- What the rows of this seat ask of a call: reading the arguments, the table of kinds. -/
namespace Go.Proofs.YtfomkkdijjfpiaaDoor
open Go Go.Sh Go.ChangeShapes Go.WideShapes Go.RowKit
theorem own : ownKnob Tryd.prog.godebug = none := by kernel_rfl
theorem laidOut : laidOutB Tryd.prog = true := by kernel_rfl
theorem mapsR : mapsRowed Tryd.prog = true := by kernel_rfl
theorem slicesFull : ((List.range Tryd.prog.types.size).all fun t => match Tryd.prog.underlying t with | some (.slice e) => decide (0 < Tryd.prog.cellsOf e) | _ => true) = true := by kernel_rfl
theorem c3 : Tryd.prog.cellsOf 3 = 1 := by kernel_rfl
theorem c4 : Tryd.prog.cellsOf 4 = 1 := by kernel_rfl
theorem c5 : Tryd.prog.cellsOf 5 = 1 := by kernel_rfl
theorem c9 : Tryd.prog.cellsOf 9 = 1 := by kernel_rfl
theorem c22 : Tryd.prog.cellsOf 22 = 1 := by kernel_rfl
theorem c23 : Tryd.prog.cellsOf 23 = 1 := by kernel_rfl
theorem c25 : Tryd.prog.cellsOf 25 = 2 := by kernel_rfl
theorem c26 : Tryd.prog.cellsOf 26 = 1 := by kernel_rfl
theorem c27 : Tryd.prog.cellsOf 27 = 1 := by kernel_rfl
theorem c29 : Tryd.prog.cellsOf 29 = 9 := by kernel_rfl
theorem c55 : Tryd.prog.cellsOf 55 = 2 := by kernel_rfl
theorem c57 : Tryd.prog.cellsOf 57 = 3 := by kernel_rfl
theorem c61 : Tryd.prog.cellsOf 61 = 5 := by kernel_rfl
theorem c63 : Tryd.prog.cellsOf 63 = 7 := by kernel_rfl
theorem c66 : Tryd.prog.cellsOf 66 = 2 := by kernel_rfl
theorem list_of {α : Type} {Q : Nat → α → Prop} : ∀ {n : Nat}, (∀ i, i < n → ∃ v, Q i v) → ∃ l : List α, l.length = n ∧ ∀ (i : Nat) v, l[i]? = some v → Q i v
  | 0, _ => ⟨[], rfl, fun i v h => by simp at h⟩
  | n + 1, h => by
    obtain ⟨l, hl, hi⟩ := list_of (n := n) fun i hi => h i (by omega)
    obtain ⟨v, hv⟩ := h n (by omega)
    refine ⟨l ++ [v], by simp [hl], fun i u hu => ?_⟩
    by_cases hin : i < n
    · rw [List.getElem?_append_left (by omega)] at hu; exact hi i u hu
    · have : i = n := by have := (List.getElem?_eq_some_iff.1 hu).1; simp at this; omega
      subst this
      rw [List.getElem?_append_right (by omega), hl] at hu
      simp only [Nat.sub_self, List.getElem?_cons_zero, Option.some.injEq] at hu
      subst hu; exact hv
section
variable {H : Type} {enc : TypeId × Value → H} {W : World} {fuel : Nat} {cs : List Value} {x : DataW H × List MemPlace}
abbrev Rd (enc : TypeId × Value → H) (W : World) (fuel : Nat) (t : TypeId) (cs : List Value) (x : DataW H × List MemPlace) : Prop := DataW.trod enc Tryd.prog W 0 (fun _ => true) true fuel t cs = some x
theorem rd_slice {t e : TypeId} (ht : Tryd.prog.underlying t = some (.slice e)) (h : Rd enc W fuel t cs x) :
    ∃ (s : Sl) (n : Nat), cs = [s.v] ∧ fuel = n + 1 ∧ s.n ≤ s.c ∧ s.n ≤ M63 ∧ ∀ i, i < s.n → ∃ a cs' y, s.a = some a ∧ cs'.length = Tryd.prog.cellsOf e ∧ Cs (hpz W) (a.add (i * Tryd.prog.cellsOf e)) cs' ∧ Rd enc W n e cs' y := by
  obtain ⟨s, els, rest, n, rfl, rfl, hn, hc, _, hes⟩ := open_slice ht h
  refine ⟨s, n, rfl, rfl, hc, ?_, fun i hi => ?_⟩
  · rcases DataW.trod_slice ht h with ⟨e1, _⟩ | ⟨a, len, cap, _, _, _, _, e1, _, _, h1, h2, _⟩
    · simp only [Sl.v, List.cons.injEq, Value.slice.injEq, and_true] at e1; omega
    · simp only [Sl.v, List.cons.injEq, Value.slice.injEq, and_true] at e1
      have : maxLen = 9223372036854775807 := by decide
      show s.n ≤ 9223372036854775807; omega
  · obtain ⟨a, cs', h1, h2, h3, h4⟩ := hes i els[i] (List.getElem?_eq_getElem (by omega))
    exact ⟨a, cs', els[i], h1, h2, h3, h4⟩
theorem rd_struct {t : TypeId} {fs : Array Field} (ht : Tryd.prog.underlying t = some (.struct fs)) (h : Rd enc W fuel t cs x) :
    ∃ n, fuel = n + 1 ∧ cs.length = Tryd.prog.cellsOf t ∧ ∀ (i : Nat) (f : Field), fs[i]? = some f → ∃ y, Rd enc W n f.type ((cs.drop f.offset).take (Tryd.prog.cellsOf f.type)) y := by
  obtain ⟨xs, n, rfl, rfl, hl, hlen, hf⟩ := DataW.trod_struct ht h
  refine ⟨n, rfl, hl, fun i f hi => ?_⟩
  have hlt : i < xs.length := by have := (Array.getElem?_eq_some_iff.1 hi).1; omega
  have := hf i f hi
  rw [List.getElem?_eq_getElem hlt] at this
  exact ⟨xs[i], this⟩
theorem rd_int (h : Rd enc W fuel 3 cs x) : ∃ v, cs = [.int .i64 v] := by
  obtain ⟨v, rfl, _⟩ := DataW.trod_int Tryd.underlying3 h; exact ⟨v, rfl⟩
theorem rd_bool (h : Rd enc W fuel 4 cs x) : ∃ v, cs = [.bool v] := by
  obtain ⟨v, rfl, _⟩ := DataW.trod_bool Tryd.underlying4 h; exact ⟨v, rfl⟩
theorem rd_str (h : Rd enc W fuel 9 cs x) : ∃ v : ByteArray, cs = [.string v] ∧ v.size ≤ M63 := by
  obtain ⟨v, rfl, _, hl⟩ := DataW.trod_string Tryd.underlying9 h
  have : maxLen = 9223372036854775807 := by decide
  exact ⟨v, rfl, by show _ ≤ 9223372036854775807; omega⟩
theorem rd_rows {α : Type} {row : α → List Value} {t e : TypeId} {sz : Nat} (ht : Tryd.prog.underlying t = some (.slice e)) (hsz : Tryd.prog.cellsOf e = sz) (hel : ∀ n cs y, Rd enc W n e cs y → ∃ v, cs = row v) (h : Rd enc W fuel t cs x) :
    ∃ (s : Sl) (l : List α), cs = [s.v] ∧ RsH (hpz W) s sz (l.map row) := by
  obtain ⟨s, n, rfl, rfl, hc, hm, hes⟩ := rd_slice ht h
  obtain ⟨l, hl, hi⟩ := list_of (Q := fun i v => ∃ a, s.a = some a ∧ Cs (hpz W) (a.add (i * sz)) (row v)) fun i hi => by
    obtain ⟨a, cs', y, h1, h2, h3, h4⟩ := hes i hi
    obtain ⟨v, rfl⟩ := hel _ _ _ h4
    exact ⟨v, a, h1, by rw [← hsz]; exact h3⟩
  refine ⟨s, l, rfl, by simp [hl], hc, fun j r hj => ?_⟩
  rw [List.getElem?_map, Option.map_eq_some_iff] at hj
  obtain ⟨v, hv, rfl⟩ := hj
  exact hi j v hv
theorem FrH.of {h : Hp} {a : Addr} : ∀ {fs : List Fld} {i : Nat}, (∀ (j : Nat) f, fs[j]? = some f → FldH h (a.add ((i + j) * 7)) f) → FrH h a i fs
  | [], _, _ => by unfold FrH; trivial
  | f :: fs, i, hh => by
    unfold FrH
    refine ⟨hh 0 f rfl, FrH.of fun j g hj => ?_⟩
    have := hh (j + 1) g (by simpa using hj)
    have e : i + 1 + j = i + (j + 1) := by omega
    rw [e]; exact this
theorem FsH.of {h : Hp} {s : Sl} {fs : List Fld} (hn : s.n = fs.length) (hc : s.n ≤ s.c) (hh : ∀ (j : Nat) f, fs[j]? = some f → ∃ a, s.a = some a ∧ FldH h (a.add (j * 7)) f) : FsH h s fs := by
  cases fs with
  | nil => unfold FsH; exact ⟨hn, hc⟩
  | cons f fs =>
    unfold FsH
    obtain ⟨a, ha, h0⟩ := hh 0 f rfl
    refine ⟨hn, hc, a, ha, by simpa [add_zero'] using h0, FrH.of fun j g hj => ?_⟩
    obtain ⟨a', ha', h1⟩ := hh (j + 1) g (by simpa using hj)
    rw [ha] at ha'; cases ha'
    have e : 1 + j = j + 1 := by omega
    rw [e]; exact h1
theorem smls.of : ∀ {fs : List Fld}, (∀ (j : Nat) f, fs[j]? = some f → f.sml) → smls fs
  | [], _ => by unfold smls; trivial
  | f :: fs, h => by unfold smls; exact ⟨h 0 f rfl, smls.of fun j g hj => h (j + 1) g (by simpa using hj)⟩
theorem rd_flds : ∀ (fuel : Nat) {cs : List Value} {x : DataW H × List MemPlace}, Rd enc W fuel 22 cs x → ∃ (s : Sl) (fs : List Fld), cs = [s.v] ∧ FsH (hpz W) s fs ∧ smls fs ∧ fs.length ≤ M63 := by
  intro fuel
  induction fuel using Nat.strongRecOn with
  | _ fuel ih =>
    intro cs x h
    obtain ⟨s, n, rfl, rfl, hc, hm, hes⟩ := rd_slice Tryd.underlying22 h
    obtain ⟨l, hl, hi⟩ := list_of (Q := fun i (f : Fld) => (∃ a, s.a = some a ∧ FldH (hpz W) (a.add (i * 7)) f) ∧ f.sml) fun i hi => by
      obtain ⟨a, cs', y, h1, h2, h3, h4⟩ := hes i hi
      rw [c63] at h2 h3
      obtain ⟨n1, rfl, _, hf⟩ := rd_struct Tryd.underlying63 h4
      obtain ⟨v0, v1, v2, v3, v4, v5, v6, rfl⟩ := len7 h2
      obtain ⟨y0, t0⟩ := hf 0 _ rfl
      obtain ⟨y1, t1⟩ := hf 1 _ rfl
      obtain ⟨y2, t2⟩ := hf 2 _ rfl
      obtain ⟨nm, e0, q0⟩ := rd_str t0
      obtain ⟨nul, e1⟩ := rd_bool t1
      obtain ⟨n2, rfl, _, hg⟩ := rd_struct Tryd.underlying61 t2
      obtain ⟨z0, u0⟩ := hg 0 _ rfl
      obtain ⟨z1, u1⟩ := hg 1 _ rfl
      obtain ⟨z2, u2⟩ := hg 2 _ rfl
      obtain ⟨z3, u3⟩ := hg 3 _ rfl
      obtain ⟨z4, u4⟩ := hg 4 _ rfl
      obtain ⟨k, e2⟩ := rd_int u0
      obtain ⟨w, e3⟩ := rd_int u1
      obtain ⟨id, e4⟩ := rd_int u2
      obtain ⟨ix, e5⟩ := rd_int u3
      obtain ⟨u, ds, e6, f1, f2, f3⟩ := ih n2 (by omega) u4
      simp [c3, c4, c9, c22, c61] at e0 e1 e2 e3 e4 e5 e6
      subst e0 e1 e2 e3 e4 e5 e6
      exact ⟨.mk nm nul k w id ix ds, ⟨a, h1, by unfold FldH; exact ⟨u, h3, f1⟩⟩, by unfold Fld.sml; exact ⟨q0, f3, f2⟩⟩
    exact ⟨s, l, rfl, FsH.of hl.symm hc fun j f hj => (hi j f hj).1, smls.of fun j f hj => (hi j f hj).2, by omega⟩
/-- a head -/
theorem rd_head (h : Rd enc W fuel 29 cs x) : ∃ (H : Hd) (s1 s2 s7 s8 : Sl), cs = [.int .i64 H.k, s1.v, s2.v, .int .i64 H.id, .bool H.de, .int .i64 H.rows, .int .i64 H.press, s7.v, s8.v] ∧ HdH (hpz W) H s1 s2 s7 s8 ∧ smls H.fs := by
  obtain ⟨n, rfl, hl, hf⟩ := rd_struct Tryd.underlying29 h
  rw [c29] at hl
  obtain ⟨v0, v1, v2, v3, v4, v5, v6, v7, v8, rfl⟩ := len9 hl
  obtain ⟨y0, t0⟩ := hf 0 _ rfl
  obtain ⟨y1, t1⟩ := hf 1 _ rfl
  obtain ⟨y2, t2⟩ := hf 2 _ rfl
  obtain ⟨y3, t3⟩ := hf 3 _ rfl
  obtain ⟨y4, t4⟩ := hf 4 _ rfl
  obtain ⟨y5, t5⟩ := hf 5 _ rfl
  obtain ⟨y6, t6⟩ := hf 6 _ rfl
  obtain ⟨y7, t7⟩ := hf 7 _ rfl
  obtain ⟨n2, rfl, _, hg⟩ := rd_struct Tryd.underlying25 t1
  obtain ⟨z0, u0⟩ := hg 0 _ rfl
  obtain ⟨z1, u1⟩ := hg 1 _ rfl
  obtain ⟨k, e0⟩ := rd_int t0
  obtain ⟨id, e3⟩ := rd_int t2
  obtain ⟨de, e4⟩ := rd_bool t3
  obtain ⟨rows, e5⟩ := rd_int t4
  obtain ⟨press, e6⟩ := rd_int t5
  obtain ⟨s1, fs, e1, f1, f2, f3⟩ := rd_flds _ u0
  obtain ⟨s2, ms, e2, m1⟩ := rd_rows (row := mdRow) Tryd.underlying23 c66 (fun n cs y hy => by
    obtain ⟨n, rfl, hl, hf⟩ := rd_struct Tryd.underlying66 hy
    rw [c66] at hl
    obtain ⟨v0, v1, rfl⟩ := len2 hl
    obtain ⟨y0, t0⟩ := hf 0 _ rfl
    obtain ⟨y1, t1⟩ := hf 1 _ rfl
    obtain ⟨a, e0, _⟩ := rd_str t0
    obtain ⟨b, e1, _⟩ := rd_str t1
    simp [c9] at e0 e1
    subst e0 e1
    exact ⟨(a, b), rfl⟩) u1
  obtain ⟨s7, nodes, e7, m7⟩ := rd_rows (row := ndRow) Tryd.underlying26 c55 (fun n cs y hy => by
    obtain ⟨n, rfl, hl, hf⟩ := rd_struct Tryd.underlying55 hy
    rw [c55] at hl
    obtain ⟨v0, v1, rfl⟩ := len2 hl
    obtain ⟨y0, t0⟩ := hf 0 _ rfl
    obtain ⟨y1, t1⟩ := hf 1 _ rfl
    obtain ⟨a, e0⟩ := rd_int t0
    obtain ⟨b, e1⟩ := rd_int t1
    simp [c3] at e0 e1
    subst e0 e1
    exact ⟨(a, b), rfl⟩) t6
  obtain ⟨s8, bufs, e8, m8⟩ := rd_rows (row := bfRow) Tryd.underlying27 c57 (fun n cs y hy => by
    obtain ⟨n, rfl, hl, hf⟩ := rd_struct Tryd.underlying57 hy
    rw [c57] at hl
    obtain ⟨v0, v1, v2, rfl⟩ := len3 hl
    obtain ⟨y0, t0⟩ := hf 0 _ rfl
    obtain ⟨y1, t1⟩ := hf 1 _ rfl
    obtain ⟨y2, t2⟩ := hf 2 _ rfl
    obtain ⟨a, e0⟩ := rd_int t0
    obtain ⟨b, e1⟩ := rd_int t1
    obtain ⟨c, e2⟩ := rd_int t2
    simp [c3] at e0 e1 e2
    subst e0 e1 e2
    exact ⟨(a, b, c), rfl⟩) t7
  simp [c3, c4, c22, c23, c25, c26, c27] at e0 e1 e2 e3 e4 e5 e6 e7 e8
  subst e0 e1 e2 e3 e4 e5 e6 e7 e8
  exact ⟨⟨k, fs, ms, id, de, rows, press, nodes, bufs⟩, s1, s2, s7, s8, rfl, ⟨f1, m1, m7, m8⟩, f2⟩
/-- bytes, up to 2^63 of them -/
theorem rd_bytes (h : Rd enc W fuel 30 cs x) : ∃ (s : Sl) (l : List UInt8), cs = [s.v] ∧ Sv (hpz W) s (bv l) ∧ l.length ≤ M63 := by
  obtain ⟨s, n, rfl, rfl, hc, hm, hes⟩ := rd_slice Tryd.underlying30 h
  obtain ⟨l, hl, hi⟩ := list_of (Q := fun i (b : UInt8) => ∃ a, s.a = some a ∧ cell (hpz W) (a.add i) = some (.int .u8 b.toNat)) fun i hi => by
    obtain ⟨a, cs', y, h1, h2, h3, h4⟩ := hes i hi
    obtain ⟨v, rfl, _, hw⟩ := DataW.trod_int Tryd.underlying5 h4
    have hv := bounds_u8 hw
    refine ⟨UInt8.ofNat v.toNat, a, h1, ?_⟩
    have := Cs.c0 h3
    rw [c5, Nat.mul_one] at this
    rw [this, UInt8.toNat_ofNat']
    have e : ((v.toNat % 2 ^ 8 : Nat) : Int) = v := by omega
    rw [e]
  refine ⟨s, l, rfl, ⟨by rw [bv_len]; omega, hc, fun k hk => ?_⟩, by omega⟩
  obtain ⟨a, ha, _⟩ := hi 0 l[0] (List.getElem?_eq_getElem (by omega))
  refine ⟨a, ha, fun i v hv => ?_⟩
  rw [bv, List.getElem?_map, Option.map_eq_some_iff] at hv
  obtain ⟨u, hu, rfl⟩ := hv
  obtain ⟨a', ha', hc'⟩ := hi i u hu
  rw [ha] at ha'; cases ha'; exact hc'
/-- what is handed over takes no more than addresses reach -/
theorem bytes_reach {d : DataW H} {ps : List MemPlace} {s : Sl} {l : List UInt8} {h' : Hp} (h : Rd enc W fuel 30 cs (d, ps)) (hc : cs = [s.v]) (hb : Sv h' s (bv l)) {ts : List TypeId} {ds : List (DataW H)} (hw : (DataW.weightsEach Tryd.prog ts ds).all (· ≤ reachBytes) = true) {j : Nat} (ht : ts[j]? = some 30) (hd : ds[j]? = some d) : l.length ≤ 2 ^ 47 := by
  have hn := hb.1
  rw [bv_len] at hn
  subst hc
  rcases DataW.trod_slice Tryd.underlying30 h with ⟨e1, _⟩ | ⟨a, len, cap, els, rest, _, _, e1, e2, _, _, _, h3, _⟩
  · simp only [Sl.v, List.cons.injEq, Value.slice.injEq, and_true] at e1; omega
  · simp only [Sl.v, List.cons.injEq, Value.slice.injEq, and_true] at e1
    simp only [Prod.mk.injEq] at e2
    rw [e2.1] at hd
    have := sized_slice hw ht hd Tryd.underlying30
    have hb5 : Tryd.prog.bytesOf 5 = 1 := by kernel_rfl
    rw [hb5, List.length_map] at this
    have := reachBytes_lt
    omega
end
def saysName : String := Rows.metaPutsRow.named.headD ""
theorem gTab : Tryd.prog.globalNamed saysName = some 0 := by kernel_rfl
theorem gTabType : (Tryd.prog.globals[0]?).map (·.type) = some 120 := by kernel_rfl
theorem c119 : Tryd.prog.cellsOf 119 = 4 := by kernel_rfl
theorem says_at : ∀ (i : Nat) (d : DataW Unit), i < 21 → (match (Rows.laid_colonnade_kind_says : DataW Unit) with | .agg l => l[i]? | _ => none) = some d → ∃ a b c, d = .agg [a, b, c, .lit (.bool (decide (3 ≤ i ∧ i ≤ 10)))] := by
  intro i d hi h
  rcases i with _ | _ | _ | _ | _ | _ | _ | _ | _ | _ | _ | _ | _ | _ | _ | _ | _ | _ | _ | _ | _ | i
  all_goals first | (obtain rfl := Option.some.inj h; exact ⟨_, _, _, rfl⟩) | omega
theorem ktab_of {W : World} (h : laidMetH Tryd.prog Rows.metaPutsRow.laid W) : KTab (hpz W) := by
  have h : laidMet Tryd.prog [(saysName, Rows.laid_colonnade_kind_says)] W := h
  obtain ⟨ps, ⟨g', t', cs, fuel, p, q, hg', ht', hvar, hd, _, _⟩, _⟩ := h
  obtain rfl := Option.some.inj (gTab.symm.trans hg')
  obtain rfl := Option.some.inj (gTabType.symm.trans ht')
  obtain ⟨xs, m, rfl, hx, hl, hxl, hi⟩ := DataW.trod_array Tryd.underlying120 hd
  rw [c119] at hi
  intro i hi21
  have hx1 : Rows.laid_colonnade_kind_says = DataW.agg (xs.map (·.1)) := congrArg Prod.fst hx
  have hxi : xs[i]? = some xs[i] := List.getElem?_eq_getElem (by omega)
  have h1 := hi i hi21
  rw [hxi] at h1
  generalize xs[i] = y at hxi h1
  obtain ⟨a, b, c, hy⟩ := says_at i y.1 hi21 (by rw [hx1]; simp [hxi])
  obtain ⟨ys, n, rfl, hz, hcl, hyl, hf⟩ := DataW.trod_struct Tryd.underlying119 h1
  have hz1 : y.1 = DataW.agg (ys.map (·.1)) := by rw [hz]
  rw [hy] at hz1
  have e3 := hf 3 _ rfl
  have hy3 : (ys.map (·.1))[3]? = some (.lit (.bool (decide (3 ≤ i ∧ i ≤ 10)))) := by
    have := (DataW.agg.inj hz1).symm
    rw [this]; rfl
  rw [List.getElem?_map, Option.map_eq_some_iff] at hy3
  obtain ⟨z, hz3, hz4⟩ := hy3
  rw [hz3] at e3
  obtain ⟨b', e4, e5⟩ := DataW.trod_bool Tryd.underlying4 e3
  rw [e5] at hz4
  simp only [DataW.lit.injEq, Lit.bool.injEq] at hz4
  rw [c119] at hcl
  obtain ⟨v0, v1, v2, v3, e6⟩ := len4 hcl
  rw [e6] at e4
  simp [c4] at e4
  have e7 : cs[i * 4 + 3]? = some v3 := by
    have := congrArg (·[3]?) e6
    simpa [List.getElem?_take, List.getElem?_drop] using this
  rw [cell_hpz]
  have := World.var?_cell gTab hvar (i * 4 + 3)
  rw [this, e7, e4, hz4]
end Go.Proofs.YtfomkkdijjfpiaaDoor
/- Reading a head: the plain decoder; fields that stand in a stretch of blocks. -/
namespace Go.Proofs.YtfomkkdijjfpiaaDoor
open Go Go.Sh Go.WideShapes
abbrev Er := Int × Int
def leN : List UInt8 → Nat
  | [] => 0
  | b :: bs => b.toNat + 256 * leN bs
def takeD (l : List UInt8) (n a : Nat) : Except Er (List UInt8 × Nat) := if n ≤ l.length - a then .ok ((l.drop a).take n, a + n) else .error (51, a)
def numD (l : List UInt8) (w a : Nat) : Except Er (Nat × Nat) := match takeD l w a with | .error e => .error e | .ok (x, a') => .ok (leN x, a')
def amongD (l : List UInt8) (lo hi a : Nat) : Except Er (Nat × Nat) := match numD l 1 a with | .error e => .error e | .ok (x, a') => if lo ≤ x ∧ x ≤ hi then .ok (x, a') else .error (8, a)
def textD (l : List UInt8) (w a : Nat) : Except Er (ByteArray × Nat) := match numD l w a with
  | .error e => .error e
  | .ok (n, a1) => match takeD l n a1 with | .error e => .error e | .ok (x, a2) => .ok (bs x, a2)
/-- what a kind has ahead of its children: width, number, index; how many children -/
def midD (l : List UInt8) (k a : Nat) : Except Er ((Nat × Nat × Nat × Nat) × Nat) :=
  if k = 14 then (match numD l 2 a with | .error e => .error e | .ok (w, a1) => .ok ((w, 0, 0, 0), a1))
  else if k = 16 then (match numD l 2 a with | .error e => .error e | .ok (w, a1) => .ok ((w, 0, 0, 1), a1))
  else if k = 19 then (match numD l 2 a with | .error e => .error e | .ok (i, a1) => match numD l 1 a1 with | .error e => .error e | .ok (x, a2) => .ok ((0, i, x, 1), a2))
  else if k = 17 ∨ k = 18 then (match numD l 1 a with | .error e => .error e | .ok (c, a1) => .ok ((0, 0, 0, c), a1))
  else if k = 15 ∨ k = 20 then .ok ((0, 0, 0, 1), a)
  else .ok ((0, 0, 0, 0), a)
def repD {α : Type} (f : Nat → Nat → Except Er (α × Nat × Nat)) : Nat → Nat → Nat → Except Er (List α × Nat × Nat)
  | 0, a, n => .ok ([], a, n)
  | k + 1, a, n => match f a n with
    | .error e => .error e
    | .ok (x, a1, n1) => match repD f k a1 n1 with | .error e => .error e | .ok (xs, a2, n2) => .ok (x :: xs, a2, n2)
def fieldD (l : List UInt8) : Nat → Nat → Nat → Except Er (Fld × Nat × Nat)
  | 0, a, _ => .error (50, a)
  | fuel + 1, a, n => if n + 1 > 256 then .error (50, a) else match textD l 1 a with
    | .error e => .error e
    | .ok (nm, a1) => match amongD l 0 1 a1 with
      | .error e => .error e
      | .ok (nul, a2) => match amongD l 1 20 a2 with
        | .error e => .error e
        | .ok (k, a3) => match midD l k a3 with
          | .error e => .error e
          | .ok ((w, i, x, c), a4) => match repD (fieldD l fuel) c a4 (n + 1) with
            | .error e => .error e
            | .ok (cs, a5, n5) => .ok (.mk nm (nul == 1) k w i x cs, a5, n5)
def noteD (l : List UInt8) (a n : Nat) : Except Er (Md × Nat × Nat) := match textD l 2 a with
  | .error e => .error e
  | .ok (x, a1) => match textD l 2 a1 with | .error e => .error e | .ok (y, a2) => .ok ((x, y), a2, n)
def nodeD (l : List UInt8) (a n : Nat) : Except Er (Nd × Nat × Nat) := match numD l 4 a with
  | .error e => .error e
  | .ok (x, a1) => match numD l 4 a1 with | .error e => .error e | .ok (y, a2) => .ok (((x : Int), (y : Int)), a2, n)
def slotD (l : List UInt8) (a n : Nat) : Except Er (Bf × Nat × Nat) := match numD l 4 a with
  | .error e => .error e
  | .ok (x, a1) => match numD l 4 a1 with
    | .error e => .error e
    | .ok (y, a2) => match numD l 4 a2 with | .error e => .error e | .ok (z, a3) => .ok (((x : Int), (y : Int), (z : Int)), a3, n)
def schemaD (l : List UInt8) (a n : Nat) : Except Er ((List Fld × List Md) × Nat × Nat) := match numD l 2 a with
  | .error e => .error e
  | .ok (c, a1) => match repD (fieldD l 64) c a1 n with
    | .error e => .error e
    | .ok (fs, a2, n2) => match numD l 2 a2 with
      | .error e => .error e
      | .ok (c, a3) => match repD (noteD l) c a3 n2 with | .error e => .error e | .ok (ms, a4, n4) => .ok ((fs, ms), a4, n4)
def bodyD (l : List UInt8) (k : Int) (id : Int) (de : Bool) (a n : Nat) : Except Er (Hd × Nat × Nat) := match numD l 4 a with
  | .error e => .error e
  | .ok (rows, a1) => match numD l 1 a1 with
    | .error e => .error e
    | .ok (press, a2) => match numD l 2 a2 with
      | .error e => .error e
      | .ok (c, a3) => match repD (nodeD l) c a3 n with
        | .error e => .error e
        | .ok (nodes, a4, n4) => match numD l 2 a4 with
          | .error e => .error e
          | .ok (c, a5) => match repD (slotD l) c a5 n4 with
            | .error e => .error e
            | .ok (bufs, a6, n6) => .ok (⟨k, [], [], id, de, rows, press, nodes, bufs⟩, a6, n6)
def restD (l : List UInt8) (k a : Nat) : Except Er (Hd × Nat × Nat) :=
  if k = 1 then (match schemaD l a 0 with | .error e => .error e | .ok (x, a5, n5) => .ok (⟨1, x.1, x.2, 0, false, 0, 0, [], []⟩, a5, n5))
  else if k = 2 then (match numD l 2 a with
    | .error e => .error e
    | .ok (id, a5) => match amongD l 0 1 a5 with | .error e => .error e | .ok (de, a6) => bodyD l 2 id (de == 1) a6 0)
  else bodyD l 3 0 false a 0
def headD (l : List UInt8) : Except Er (Hd × Nat × Nat) := match amongD l 1 3 0 with
  | .error e => .error e
  | .ok (k, a1) => match amongD l 1 1 a1 with
    | .error e => .error e
    | .ok (_, a2) => match amongD l 0 0 a2 with
      | .error e => .error e
      | .ok (_, a3) => match amongD l 0 0 a3 with
        | .error e => .error e
        | .ok (_, a4) => restD l k a4
open Classical in
/-- **WHAT GET ANSWERS.** -/
noncomputable def getD (l : List UInt8) : Except Er Hd := match headD l with
  | .error e => .error e
  | .ok (H, a, _) => if a < l.length then .error (52, a) else if HdOk H then .ok H else .error (50, 0)
/-! ### places stay within the bytes -/
theorem takeD_le {l x : List UInt8} {n a a' : Nat} (h : takeD l n a = .ok (x, a')) (ha : a ≤ l.length) : a' = a + n ∧ a' ≤ l.length ∧ x = (l.drop a).take n ∧ x.length = n := by
  unfold takeD at h
  split at h
  · cases h; exact ⟨rfl, by omega, rfl, by simp; omega⟩
  · cases h
theorem leN_lt : ∀ l : List UInt8, leN l < 256 ^ l.length
  | [] => by simp [leN]
  | b :: bs => by
    have := leN_lt bs
    have h2 := b.toNat_lt
    simp only [leN, List.length_cons, Nat.pow_succ]
    omega
theorem numD_le {l : List UInt8} {w a x a' : Nat} (h : numD l w a = .ok (x, a')) (ha : a ≤ l.length) : a' = a + w ∧ a' ≤ l.length ∧ x < 256 ^ w := by
  unfold numD at h
  cases ht : takeD l w a with
  | error e => rw [ht] at h; cases h
  | ok y =>
    obtain ⟨y, a1⟩ := y
    rw [ht] at h
    cases h
    obtain ⟨h1, h2, rfl, h4⟩ := takeD_le ht ha
    refine ⟨h1, h2, ?_⟩
    have := leN_lt (List.take w (List.drop a l))
    rwa [h4] at this
theorem amongD_le {l : List UInt8} {lo hi a x a' : Nat} (h : amongD l lo hi a = .ok (x, a')) (ha : a ≤ l.length) : a' = a + 1 ∧ a' ≤ l.length ∧ lo ≤ x ∧ x ≤ hi := by
  unfold amongD at h
  cases hn : numD l 1 a with
  | error e => rw [hn] at h; cases h
  | ok y =>
    obtain ⟨y, a1⟩ := y
    rw [hn] at h
    simp only at h
    split at h
    · rename_i q; cases h; exact ⟨(numD_le hn ha).1, (numD_le hn ha).2.1, q.1, q.2⟩
    · cases h
/-! ### fields that stand in some blocks alone, each list in a block of its own -/
mutual
def FsD (D : Nat → Prop) (h : Hp) (s : Sl) : List Fld → Prop
  | [] => s = Sl.nil
  | f :: fs => s.n = fs.length + 1 ∧ s.n ≤ s.c ∧ ∃ (b : Nat) (cs : Array Value) (E : Nat → Prop), s.a = some ⟨b, 0, none⟩ ∧ D b ∧ Blk h b cs 63 ∧ cs.size = s.c * 7 ∧ (∀ d, E d → D d ∧ d ≠ b) ∧ FldD E h ⟨b, 0, none⟩ f ∧ FrD (fun d => (D d ∧ d ≠ b) ∧ ¬ E d) h ⟨b, 0, none⟩ 1 fs
def FrD (D : Nat → Prop) (h : Hp) (a : Addr) (i : Nat) : List Fld → Prop
  | [] => True
  | f :: fs => ∃ E : Nat → Prop, (∀ d, E d → D d) ∧ FldD E h (a.add (i * 7)) f ∧ FrD (fun d => D d ∧ ¬ E d) h a (i + 1) fs
def FldD (D : Nat → Prop) (h : Hp) (a : Addr) : Fld → Prop
  | .mk n nul k w id ix cs => ∃ s, Cs h a (vals7 n nul k w id ix s) ∧ FsD D h s cs
end
theorem add_block (a : Addr) (i : Nat) : (a.add i).block = a.block := by unfold Addr.add; split <;> rfl
theorem Cs.fr {S : Nat → Prop} {h h' : Hp} {a : Addr} {vs : List Value} (c : Cs h a vs) (f : Tn S h h') (hn : ¬ S a.block) : Cs h' a vs := fun i v hv => f.cell (c i v hv) (by rw [add_block]; exact hn)
mutual
theorem FsD.fr {S D D' : Nat → Prop} {h h' : Hp} (f : Tn S h h') (hD : ∀ d, D d → ¬ S d ∧ D' d) : ∀ {s : Sl} (fs : List Fld), FsD D h s fs → FsD D' h' s fs
  | _, [], hh => by unfold FsD at hh ⊢; exact hh
  | _, g :: fs, hh => by
    unfold FsD at hh ⊢
    obtain ⟨a, b, p, cs, E, e, d, k, z, hE, x, y⟩ := hh
    exact ⟨a, b, p, cs, E, e, (hD _ d).2, f.blk k (hD _ d).1, z, fun q hq => ⟨(hD _ (hE q hq).1).2, (hE q hq).2⟩, FldD.fr f (fun q hq => ⟨(hD _ (hE q hq).1).1, hq⟩) (hD _ d).1 g x, FrD.fr f (fun q hq => ⟨(hD _ hq.1.1).1, ⟨(hD _ hq.1.1).2, hq.1.2⟩, hq.2⟩) (hD _ d).1 fs y⟩
theorem FrD.fr {S D D' : Nat → Prop} {h h' : Hp} (f : Tn S h h') (hD : ∀ d, D d → ¬ S d ∧ D' d) : ∀ {a : Addr} (_ : ¬ S a.block) {i : Nat} (fs : List Fld), FrD D h a i fs → FrD D' h' a i fs
  | _, _, _, [], hh => by unfold FrD at hh ⊢; exact hh
  | a, d, i, g :: fs, hh => by
    unfold FrD at hh ⊢
    obtain ⟨E, hE, x, y⟩ := hh
    exact ⟨E, fun q hq => (hD _ (hE q hq)).2, FldD.fr f (fun q hq => ⟨(hD _ (hE q hq)).1, hq⟩) (a := a.add (i * 7)) (by rw [add_block]; exact d) g x, FrD.fr f (fun q hq => ⟨(hD _ hq.1).1, (hD _ hq.1).2, hq.2⟩) d fs y⟩
theorem FldD.fr {S D D' : Nat → Prop} {h h' : Hp} (f : Tn S h h') (hD : ∀ d, D d → ¬ S d ∧ D' d) : ∀ {a : Addr} (_ : ¬ S a.block) (g : Fld), FldD D h a g → FldD D' h' a g
  | _, d, .mk n nul k w id ix cs, hh => by
    unfold FldD at hh ⊢
    obtain ⟨s, c, x⟩ := hh
    exact ⟨s, Cs.fr c f d, FsD.fr f hD cs x⟩
end
mutual
theorem FsD.h {D : Nat → Prop} {h : Hp} : ∀ {s : Sl} (fs : List Fld), FsD D h s fs → FsH h s fs
  | _, [], hh => by unfold FsD at hh; subst hh; unfold FsH; exact ⟨rfl, Nat.le_refl _⟩
  | _, g :: fs, hh => by
    unfold FsD at hh
    unfold FsH
    obtain ⟨a, b, p, cs, E, e, _, _, _, _, x, y⟩ := hh
    exact ⟨a, b, _, e, FldD.h g x, FrD.h fs y⟩
theorem FrD.h {D : Nat → Prop} {h : Hp} : ∀ {a : Addr} {i : Nat} (fs : List Fld), FrD D h a i fs → FrH h a i fs
  | _, _, [], hh => by unfold FrH; trivial
  | _, _, g :: fs, hh => by
    unfold FrD at hh
    unfold FrH
    obtain ⟨E, _, x, y⟩ := hh
    exact ⟨FldD.h g x, FrD.h fs y⟩
theorem FldD.h {D : Nat → Prop} {h : Hp} : ∀ {a : Addr} (g : Fld), FldD D h a g → FldH h a g
  | _, .mk n nul k w id ix cs, hh => by
    unfold FldD at hh
    unfold FldH
    obtain ⟨s, c, x⟩ := hh
    exact ⟨s, c, FsD.h cs x⟩
end
theorem FrD.of {h : Hp} {a : Addr} {E : Nat → Nat → Prop} (hdis : ∀ i j, i ≠ j → ∀ d, E i d → ¬ E j d) : ∀ {fs : List Fld} {i : Nat} {D : Nat → Prop}, (∀ (j : Nat) f, fs[j]? = some f → FldD (E (i + j)) h (a.add ((i + j) * 7)) f) → (∀ j, i ≤ j → ∀ d, E j d → D d) → FrD D h a i fs
  | [], _, _, _, _ => by unfold FrD; trivial
  | f :: fs, i, D, hh, hE => by
    unfold FrD
    refine ⟨E i, hE i (Nat.le_refl _), hh 0 f rfl, FrD.of hdis (fun j g hj => ?_) fun j hj d hd => ⟨hE j (by omega) d hd, fun q => hdis i j (by omega) d q hd⟩⟩
    have := hh (j + 1) g (by simpa using hj)
    have e : i + 1 + j = i + (j + 1) := by omega
    rw [e]; exact this
theorem FsD.of {D : Nat → Prop} {h : Hp} {s : Sl} {fs : List Fld} {b : Nat} {cs : Array Value} {E : Nat → Nat → Prop} (hf : fs ≠ []) (hn : s.n = fs.length) (hc : s.n ≤ s.c) (ha : s.a = some ⟨b, 0, none⟩) (hb : D b) (hk : Blk h b cs 63) (hz : cs.size = s.c * 7) (hdis : ∀ i j, i ≠ j → ∀ d, E i d → ¬ E j d) (hE : ∀ i d, E i d → D d ∧ d ≠ b)
    (hh : ∀ (j : Nat) f, fs[j]? = some f → FldD (E j) h ((⟨b, 0, none⟩ : Addr).add (j * 7)) f) : FsD D h s fs := by
  cases fs with
  | nil => exact absurd rfl hf
  | cons f fs =>
    unfold FsD
    refine ⟨hn, hc, b, cs, E 0, ha, hb, hk, hz, fun d hd => hE 0 d hd, by simpa [add_zero'] using hh 0 f rfl, FrD.of hdis (fun j g hj => ?_) fun j hj d hd => ⟨hE j d hd, fun q => hdis 0 j (by omega) d q hd⟩⟩
    have := hh (j + 1) g (by simpa using hj)
    have e : 1 + j = j + 1 := by omega
    rw [e]; exact this
/-- a slice of fields that grows: its block b, and what the fields stand in apart from it -/
def Acc (D : Nat → Prop) (lo : Nat) (h : Hp) (s : Sl) (fs : List Fld) : Prop := (s = Sl.nil ∧ fs = []) ∨ ∃ (b : Nat) (sls : List Sl) (E : Nat → Nat → Prop), fs ≠ [] ∧ lo ≤ b ∧ b < h.size ∧ ¬ D b ∧ OwnS 7 h s b ((List.zipWith (fun (f : Fld) sl => vals7 f.name f.nul f.k f.w f.id f.ix sl) fs sls).flatten) 63 ∧ sls.length = fs.length ∧
  (∀ i d, E i d → D d) ∧ (∀ i j, i ≠ j → ∀ d, E i d → ¬ E j d) ∧ ∀ (i : Nat) f sl, fs[i]? = some f → sls[i]? = some sl → FsD (E i) h sl f.cs
end Go.Proofs.YtfomkkdijjfpiaaDoor
/- Slices of fields and of rows that grow. -/
namespace Go.Proofs.YtfomkkdijjfpiaaDoor
open Go Go.Sh Go.WideShapes
def rowF (f : Fld) (sl : Sl) : List Value := vals7 f.name f.nul f.k f.w f.id f.ix sl
theorem flat_get {n : Nat} : ∀ {rows : List (List Value)} (_ : ∀ r ∈ rows, r.length = n) (i : Nat) {r : List Value}, rows[i]? = some r → ∀ j, j < n → rows.flatten[i * n + j]? = r[j]?
  | [], _, i, r, h => by simp at h
  | x :: xs, hl, i, r, h => by
    intro j hj
    have hx := hl x (by simp)
    cases i with
    | zero =>
      simp only [List.getElem?_cons_zero, Option.some.injEq] at h
      subst h
      rw [List.flatten_cons, Nat.zero_mul, Nat.zero_add, List.getElem?_append_left (by omega)]
    | succ i =>
      have := flat_get (rows := xs) (fun r hr => hl r (by simp [hr])) i (by simpa using h) j hj
      rw [List.flatten_cons, List.getElem?_append_right (by rw [hx, Nat.add_mul]; omega), hx]
      have e : (i + 1) * n + j - n = i * n + j := by rw [Nat.add_mul]; omega
      rw [e]; exact this
theorem flat_len {n : Nat} : ∀ {rows : List (List Value)} (_ : ∀ r ∈ rows, r.length = n), rows.flatten.length = rows.length * n
  | [], _ => by simp
  | x :: xs, hl => by
    have := flat_len (rows := xs) fun r hr => hl r (by simp [hr])
    rw [List.flatten_cons, List.length_append, this, hl x (by simp), List.length_cons, Nat.add_mul]; omega
/-- the i-th row of an owned slice -/
theorem OwnS.row {n : Nat} {h : Hp} {s : Sl} {b : Nat} {rows : List (List Value)} {el : TypeId} (o : OwnS n h s b rows.flatten el) (hl : ∀ r ∈ rows, r.length = n) {i : Nat} {r : List Value} (hi : rows[i]? = some r) : Cs h ((⟨b, 0, none⟩ : Addr).add (i * n)) r := by
  obtain ⟨e1, e2, cs, k, e3, e4, e5⟩ := o
  intro j v hv
  have hj : j < r.length := (List.getElem?_eq_some_iff.1 hv).1
  have hr := hl r (List.mem_of_getElem? hi)
  have hi' : i < rows.length := (List.getElem?_eq_some_iff.1 hi).1
  rw [add_blk, add_blk, Nat.zero_add, cell_blk k]
  rw [flat_len hl] at e2
  have hm : (i + 1) * n ≤ rows.length * n := Nat.mul_le_mul_right n hi'
  rw [Nat.add_mul] at hm
  rw [e5 _ (by omega), flat_get hl i hi j (by omega)]
  exact hv
/-- rows that grow -/
theorem Sh.rsh {n lo hi : Nat} {h : Hp} {s : Sl} {rows : List (List Value)} {el : TypeId} (o : Sh lo hi n h s rows.flatten el) (hn : 0 < n) (hl : ∀ r ∈ rows, r.length = n) : RsH h s n rows := by
  rcases o with ⟨rfl, e⟩ | ⟨b, _, _, o⟩
  · have : rows = [] := by
      cases rows with
      | nil => rfl
      | cons r rs =>
        have := hl r (by simp)
        rw [List.flatten_cons] at e
        have e3 := congrArg List.length e
        rw [List.length_append, List.length_nil] at e3; omega
    subst this
    exact ⟨rfl, Nat.le_refl _, fun j r hj => by simp at hj⟩
  · have e2 := o.2.1
    rw [flat_len hl] at e2
    have e : s.n = rows.length := Nat.eq_of_mul_eq_mul_right hn e2.symm
    refine ⟨e, ?_, fun j r hj => ⟨_, o.1, OwnS.row o hl hj⟩⟩
    obtain ⟨_, _, cs, _, e3, _⟩ := o
    exact e3
theorem rows_len {fs : List Fld} {sls : List Sl} : ∀ r ∈ List.zipWith rowF fs sls, r.length = 7 := by
  intro r hr
  obtain ⟨i, hi⟩ := List.mem_iff_getElem?.1 hr
  rw [List.getElem?_zipWith] at hi
  cases h1 : fs[i]? with
  | none => rw [h1] at hi; cases h2 : sls[i]? <;> simp [h2] at hi
  | some f =>
    cases h2 : sls[i]? with
    | none => simp [h1, h2] at hi
    | some sl => simp only [h1, h2, Option.some.injEq] at hi; subst hi; rfl
theorem Acc.nil {D : Nat → Prop} {lo : Nat} {h : Hp} : Acc D lo h Sl.nil [] := .inl ⟨rfl, rfl⟩
theorem Acc.n {D : Nat → Prop} {lo : Nat} {h : Hp} {s : Sl} {fs : List Fld} (A : Acc D lo h s fs) : s.n = fs.length := by
  rcases A with ⟨rfl, rfl⟩ | ⟨b, sls, _, _, _, _, _, o, hl, _⟩
  · rfl
  · have e2 := o.2.1
    have := flat_len (rows_len (fs := fs) (sls := sls))
    rw [show (fun (f : Fld) sl => vals7 f.name f.nul f.k f.w f.id f.ix sl) = rowF from rfl, this] at e2
    simp only [List.length_zipWith, hl, Nat.min_self] at e2
    omega
theorem Acc.at {D : Nat → Prop} {lo : Nat} {h : Hp} {s : Sl} {fs : List Fld} (A : Acc D lo h s fs) {c : Nat} (hc : s.at c) : ¬ D c ∧ lo ≤ c ∧ c < h.size := by
  rcases A with ⟨rfl, _⟩ | ⟨b, _, _, _, h1, h2, h3, o, _⟩
  · exact absurd hc (Sl.at_nil c)
  · obtain ⟨a, ha, hb⟩ := hc
    rw [o.1] at ha; cases ha; simp only at hb; subst hb; exact ⟨h3, h1, h2⟩
theorem Acc.fsd {D : Nat → Prop} {lo : Nat} {h : Hp} {s : Sl} {fs : List Fld} (A : Acc D lo h s fs) {D' : Nat → Prop} (hD : ∀ d, D d → D' d) (hD' : ∀ d, lo ≤ d → d < h.size → D' d) : FsD D' h s fs := by
  have hn := A.n
  rcases A with ⟨rfl, rfl⟩ | ⟨b, sls, E, hfs, h1, h2, h3, o, hl, hE, hdis, hf⟩
  · unfold FsD; rfl
  · obtain ⟨ha, hv, cs, hk, hc, hz, hcs⟩ := id o
    · refine FsD.of hfs hn hc ha (hD' _ h1 h2) hk hz hdis (fun i d hd => ⟨hD _ (hE i d hd), fun q => h3 (q ▸ hE i d hd)⟩) fun j f hj => ?_
      have hj' : j < sls.length := by rw [hl]; exact (List.getElem?_eq_some_iff.1 hj).1
      have hs : sls[j]? = some sls[j] := List.getElem?_eq_getElem hj'
      generalize sls[j] = sl at hs
      have hr : (List.zipWith rowF fs sls)[j]? = some (rowF f sl) := by rw [List.getElem?_zipWith, hj, hs]
      have hc7 := OwnS.row (rows := List.zipWith rowF fs sls) o rows_len hr
      have hfd := hf j f sl hj hs
      obtain ⟨n, nul, k, w, id, ix, cs⟩ := f
      unfold FldD
      exact ⟨sl, hc7, hfd⟩
theorem Acc.fr {S D D' : Nat → Prop} {lo : Nat} {h h' : Hp} {s : Sl} {fs : List Fld} (A : Acc D lo h s fs) (f : Tn S h h') (hS : ∀ d, D d → ¬ S d) (hlo : ∀ d, lo ≤ d → d < h.size → ¬ S d) (hD : ∀ d, D d → D' d) (hD' : ∀ d, D' d → D d ∨ h.size ≤ d) : Acc D' lo h' s fs := by
  rcases A with A | ⟨b, sls, E, hfs, h1, h2, h3, o, hl, hE, hdis, hf⟩
  · exact .inl A
  · refine .inr ⟨b, sls, E, hfs, h1, Nat.lt_of_lt_of_le h2 f.1, fun q => ?_, o.fr f (hlo b h1 h2), hl, fun i d hd => hD _ (hE i d hd), hdis, fun i g sl e1 e2 => FsD.fr f (fun d hd => ⟨hS d (hE i d hd), hd⟩) g.cs (hf i g sl e1 e2)⟩
    rcases hD' b q with q | q
    · exact h3 q
    · omega
/-- one field more -/
theorem Acc.ap {D X : Nat → Prop} {lo bx : Nat} {h : Hp} {s sl : Sl} {fs : List Fld} {f : Fld} {K : Sl → HP} (A : Acc D lo h s fs) (hs : FsD X h sl f.cs) (hDl : ∀ d, D d ∨ X d → d < h.size) (hX : ∀ d, X d → ¬ D d ∧ ¬ s.at d) (hlo : lo ≤ h.size) (k : Blk h bx #[.string f.name, .bool f.nul, .int .i64 f.k, .int .i64 f.w, .int .i64 f.id, .int .i64 f.ix, Sl.v sl] 63) (hn : fs.length ≤ 70000)
    (hk : ∀ s' h', Tn (fun c => s.at c ∧ lo ≤ c) h h' → Acc (fun d => D d ∨ X d) lo h' s' (fs ++ [f]) → K s' h') : Ap h 63 #[(.string (bs [])), (.bool false), (.int .i64 (0:Int)), (.int .i64 (0:Int)), (.int .i64 (0:Int)), (.int .i64 (0:Int)), (.slice none 0 0)] 7 80 s 1 (rd h (some ⟨bx, 0, none⟩) (1 * 7)) K := by
  have hnn := A.n
  have hat := fun c hc => A.at (c := c) hc
  obtain ⟨sls, E, hl, o, hE, hdis, hf⟩ : ∃ (sls : List Sl) (E : Nat → Nat → Prop), sls.length = fs.length ∧ Sh lo h.size 7 h s (List.zipWith rowF fs sls).flatten 63 ∧ (∀ i d, E i d → D d) ∧ (∀ i j, i ≠ j → ∀ d, E i d → ¬ E j d) ∧ ∀ (i : Nat) g sl, fs[i]? = some g → sls[i]? = some sl → FsD (E i) h sl g.cs := by
    rcases A with ⟨rfl, rfl⟩ | ⟨b, sls, E, hfs, h1, h2, h3, o, hl, hE, hdis, hf⟩
    · exact ⟨[], fun _ _ => False, rfl, .inl ⟨rfl, rfl⟩, fun _ _ q => q.elim, fun _ _ _ _ q => q.elim, fun i g sl e => by simp at e⟩
    · exact ⟨sls, E, hl, .inr ⟨b, h1, h2, o⟩, hE, hdis, hf⟩
  refine Ap_sh o hlo rfl (new := rowF f sl) rfl (by simp [rowF, vals7, one, Sl.v]) ?_ (by omega) (by omega) fun s' h2 f2 at2 o2 hn2 => ?_
  · have := rd_blk k rfl; exact this
  · have o3 : Sh lo h2.size 7 h2 s' (List.zipWith rowF (fs ++ [f]) (sls ++ [sl])).flatten 63 := by
      rw [List.zipWith_append hl.symm]; simpa using o2
    refine hk s' h2 (f2.mono fun d hd _ => ⟨hd, (hat d hd).2.1⟩) ?_
    rcases o3 with ⟨rfl, e⟩ | ⟨b, h1, h2', o3⟩
    · simp [Sl.nil] at hn2
    · refine .inr ⟨b, sls ++ [sl], fun i => if i = fs.length then X else E i, by simp, h1, h2', fun q => ?_, o3, by simp [hl], fun i d hd => ?_, fun i j hij d hi hj => ?_, fun i g sl' e1 e2 => ?_⟩
      · rcases at2 b ⟨_, o3.1, rfl⟩ with q2 | q2
        · rcases q with q | q
          · exact (hat b q2).1 q
          · exact (hX b q).2 q2
        · have := hDl b q; omega
      · simp only at hd
        split at hd
        · exact .inr hd
        · exact .inl (hE i d hd)
      · simp only at hi hj
        split at hi
        · split at hj
          · omega
          · exact (hX d hi).1 (hE j d hj)
        · split at hj
          · exact (hX d hj).1 (hE i d hi)
          · exact hdis i j hij d hi hj
      · have keep : ∀ {E : Nat → Prop} {sl : Sl} (cs : List Fld), (∀ d, E d → ¬ s.at d) → FsD E h sl cs → FsD E h2 sl cs := fun cs hE x => FsD.fr f2 (fun d hd => ⟨hE d hd, hd⟩) cs x
        have hi : i < (fs ++ [f]).length := (List.getElem?_eq_some_iff.1 e1).1
        simp only [List.length_append, List.length_cons, List.length_nil] at hi
        by_cases hlt : i < fs.length
        · rw [List.getElem?_append_left hlt] at e1
          rw [List.getElem?_append_left (by omega)] at e2
          simp only
          rw [if_neg (by omega)]
          exact keep _ (fun d hd q => (hat d q).1 (hE i d hd)) (hf i g sl' e1 e2)
        · have : i = fs.length := by omega
          subst this
          rw [List.getElem?_append_right (Nat.le_refl _)] at e1
          rw [List.getElem?_append_right (by omega)] at e2
          simp only [Nat.sub_self, List.getElem?_cons_zero, Option.some.injEq] at e1
          rw [hl, Nat.sub_self] at e2
          simp only [List.getElem?_cons_zero, Option.some.injEq] at e2
          subst e1 e2
          simp only
          rw [if_pos trivial]
          exact keep _ (fun d hd => (hX d hd).2) hs
end Go.Proofs.YtfomkkdijjfpiaaDoor
/- The package's reader: numbers, texts. -/
namespace Go.Proofs.YtfomkkdijjfpiaaDoor
open Go Go.Sh Go.WideShapes
def stopV (e : Er) : List PanicEntry := [{ v := (.iface 69 (.agg #[(.int .i64 e.1), (.int .i64 e.2)])), recovered := false }]
/-- the package's reader at p -/
structure Rm (h0 : Hp) (p : Nat) (s : Sl) (l : List UInt8) (h : Hp) (a n : Nat) : Prop where
  blk : Blk h p #[Sl.v s, .int .i64 a, .int .i64 n] 73
  g : Grw h0 h
  hp : h0.size ≤ p
  sv : Sv h0 s (bv l)
  hl : l.length ≤ 9223372036854775807
  ha : a ≤ l.length
theorem Tn.old {p : Nat} {h0 h h' : Hp} (hp : h0.size ≤ p) (g : Grw h0 h) (f : Tn (· = p) h h') : Grw h0 h' := ⟨Nat.le_trans g.1 f.1, fun c hc => (f.2 c (Nat.lt_of_lt_of_le hc g.1) (by omega)).trans (g.2 c hc)⟩
theorem Rm.grw {h0 : Hp} {p : Nat} {s : Sl} {l : List UInt8} {h h' : Hp} {a n : Nat} (r : Rm h0 p s l h a n) (g : Grw h h') : Rm h0 p s l h' a n := ⟨r.blk.grw g, Grw.trans r.g g, r.hp, r.sv, r.hl, r.ha⟩
theorem Rm.fr {h0 : Hp} {p : Nat} {s : Sl} {l : List UInt8} {h h' : Hp} {a n b : Nat} (r : Rm h0 p s l h a n) (f : Tn (· = b) h h') (hb : b ≠ p) (hb0 : h0.size ≤ b) : Rm h0 p s l h' a n := ⟨f.blk r.blk fun e => hb e.symm, Tn.old hb0 r.g f, r.hp, r.sv, r.hl, r.ha⟩
/-- a stretch of a slice -/
theorem Sv.cut {h : Hp} {s : Sl} {l : List UInt8} (sv : Sv h s (bv l)) {lo hi : Nat} (h1 : lo ≤ hi) (h2 : hi ≤ l.length) {x y : Int} (hx : x = lo) (hy : y = hi) {K : Sl → Prop} (hk : ∀ t : Sl, t.n = hi - lo → Sv h t (bv ((l.drop lo).take (hi - lo))) → K t) : Slc s 1 (some x) (some y) none K := by
  subst hx hy
  obtain ⟨hn, hc, hs⟩ := sv
  rw [bv_len] at hn
  refine ⟨by simp, by simp; omega, by simp; omega, by simp, hk _ (by simp) ⟨?_, ?_, fun x hx => ?_⟩⟩
  · simp only [bv_len, List.length_take, List.length_drop, Option.getD_some, Option.getD_none, Int.toNat_natCast]; omega
  · simp only [Option.getD_some, Option.getD_none, Int.toNat_natCast]; omega
  simp only [Option.getD_some, Option.getD_none, Int.toNat_natCast] at hx ⊢
  obtain ⟨a, ha, hcs⟩ := hs (s.n - 1) (by omega)
  unfold slAt
  rw [ha, if_neg (by omega)]
  refine ⟨_, rfl, fun i v hv => ?_⟩
  rw [bv, List.getElem?_map, List.getElem?_take] at hv
  split at hv
  · have := hcs (lo + i) v (by rw [bv, List.getElem?_map, ← List.getElem?_drop]; exact hv)
    have e : (a.add (lo * 1)).add i = a.add (lo + i) := by
      unfold Addr.add
      by_cases hm : lo * 1 = 0 <;> by_cases hn : i = 0 <;> simp_all [Nat.add_assoc]
    rw [e]; exact this
  · simp at hv
theorem take_c {h0 : Hp} {p : Nat} {s : Sl} {l : List UInt8} {h : Hp} {a nn n : Nat} {x : Int} {K : Sl → HP} {Kp : PK} (r : Rm h0 p s l h a nn) (hx : x = n) (hn : n < 2 ^ 40)
    (he : ∀ e, takeD l n a = .error e → Kp (stopV e) h) (hk : ∀ y a', takeD l n a = .ok (y, a') → ∀ t h', Tn (· = p) h h' → Rm h0 p s l h' a' nn → Sv h' t (bv y) → t.n = n → K t h') : Fn60 (some ⟨p, 0, none⟩) x h K Kp := by
  subst hx
  have hs := r.sv.1
  rw [bv_len] at hs
  have hl := r.hl
  have ha := r.ha
  refine Fn60.of ?_
  unfold S60
  simp only [NN_some, add_blk, Nat.zero_add]
  refine Ld_blk r.blk rfl (Ld_blk r.blk rfl (Wr_i64 (by omega) (by omega) (If_i (fun c => ?_) fun c => ?_)))
  · simp only [decide_eq_true_eq, decide_eq_false_iff_not, beq_iff_eq, beq_eq_false_iff_ne, ne_eq, reduceCtorEq, true_iff, false_iff, Bool.not_eq_true', Bool.not_eq_false', bne_iff_ne, bne_eq_false_iff_eq, Bool.not_true, Bool.not_false, Decidable.not_not] at c
    exact Ld_blk r.blk rfl (he (51, a) (by unfold takeD; rw [if_neg (by omega)]))
  · simp only [decide_eq_true_eq, decide_eq_false_iff_not, beq_iff_eq, beq_eq_false_iff_ne, ne_eq, reduceCtorEq, true_iff, false_iff, Bool.not_eq_true', Bool.not_eq_false', bne_iff_ne, bne_eq_false_iff_eq, Bool.not_true, Bool.not_false, Decidable.not_not] at c
    have hok : takeD l n a = .ok ((l.drop a).take n, a + n) := by unfold takeD; rw [if_pos (by omega)]
    refine J60_1.of ?_
    unfold JT60_1
    simp only [NN_some, add_blk, Nat.zero_add]
    refine Ld_blk r.blk rfl (Wr_i64 (by omega) (by omega) (St_i r.blk (by simp) rfl fun h1 o1 k1 => ?_))
    have r1 : Rm h0 p s l h1 (a + n) nn := ⟨by simpa using k1, Tn.old r.hp r.g o1.fr, r.hp, r.sv, r.hl, by omega⟩
    refine Ld_blk r1.blk rfl (Ld_blk r1.blk rfl (Wr_i64 (by omega) (by omega) (Ld_blk r1.blk rfl ?_)))
    refine Sv.cut (r.sv.grw r1.g) (lo := a) (hi := a + n) (by omega) (by omega) (by omega) (by omega) fun t ht hv => ?_
    have e : a + n - a = n := by omega
    rw [e] at hv ht
    exact hk _ _ hok t h1 o1.fr r1 hv ht
theorem or64 (x y : Nat) (hx : x < 2 ^ 62) (hy : y < 2 ^ 62) : bitsV .or .i64 (x : Int) (y : Int) = ((x ||| y : Nat) : Int) := by
  have h : x ||| y < 2 ^ 62 := Nat.or_lt_two_pow hx hy
  have e : (BitVec.ofInt 64 (x : Int) ||| BitVec.ofInt 64 (y : Int)).toNat = x ||| y := by
    rw [BitVec.toNat_or, BitVec.ofInt_natCast, BitVec.ofInt_natCast, BitVec.toNat_ofNat, BitVec.toNat_ofNat, Nat.mod_eq_of_lt (by omega), Nat.mod_eq_of_lt (by omega)]
  show IntKind.i64.wrap ((BitVec.ofInt 64 (x : Int) ||| BitVec.ofInt 64 (y : Int)).toNat : Int) = _
  rw [e, IntKind.wrap_i64]
  omega
theorem leN_append (a b : List UInt8) : leN (a ++ b) = leN a + 256 ^ a.length * leN b := by
  induction a with
  | nil => simp [leN]
  | cons x xs ih =>
    simp only [List.cons_append, leN, ih, List.length_cons, Nat.pow_succ, Nat.mul_add]
    rw [Nat.add_assoc, Nat.mul_comm (256 ^ xs.length) 256, Nat.mul_assoc]
theorem number_m {h0 : Hp} {p : Nat} {s : Sl} {l : List UInt8} {h : Hp} {a nn w : Nat} {x : Int} {K : Int → HP} {Kp : PK} (r : Rm h0 p s l h a nn) (hx : x = w) (hw : w ≤ 4)
    (he : ∀ e, numD l w a = .error e → Kp (stopV e) h) (hk : ∀ y a', numD l w a = .ok (y, a') → ∀ h', Tn (· = p) h h' → Rm h0 p s l h' a' nn → K y h') : Fn47 (some ⟨p, 0, none⟩) x h K Kp := by
  refine Fn47.of ?_
  unfold S47
  refine take_c r hx (by omega) (fun e q => he e (by unfold numD; rw [q])) fun y a' q t h1 f1 r1 hv ht => ?_
  have hkk := hk (leN y) a' (by unfold numD; rw [q]) h1 f1 r1
  have hyl : y.length = w := (takeD_le q r.ha).2.2.2
  clear he hk
  refine L47_1.rule (fun acc k h' => h' = h1 ∧ ∃ i : Nat, k = i ∧ i ≤ w ∧ acc = (leN (y.take i) : Int)) (fun _ k _ => w - k.toNat) ⟨rfl, 0, rfl, by omega, rfl⟩ ?_
  rintro acc k h2 ⟨rfl, i, rfl, hi, rfl⟩ N1 hN
  unfold T47_1
  refine If_i (fun c => ?_) fun c => ?_
  · simp only [decide_eq_true_eq, decide_eq_false_iff_not, beq_iff_eq, beq_eq_false_iff_ne, ne_eq, reduceCtorEq, true_iff, false_iff, Bool.not_eq_true', Bool.not_eq_false', bne_iff_ne, bne_eq_false_iff_eq, Bool.not_true, Bool.not_false, Decidable.not_not] at c
    have hi' : i < y.length := by omega
    have ei : y[i]? = some y[i] := List.getElem?_eq_getElem hi'
    have htk : y.take (i + 1) = y.take i ++ [y[i]] := List.take_succ_eq_append_getElem hi'
    generalize y[i] = b at ei htk
    have hb := b.toNat_lt
    have hacc := leN_lt (y.take i)
    have hlen : (y.take i).length = i := by simp; omega
    rw [hlen] at hacc
    have hp : (256 : Nat) ^ i = 2 ^ (8 * i) := by rw [show (256 : Nat) = 2 ^ 8 from rfl, ← Nat.pow_mul]
    have hp2 : (2 : Nat) ^ (8 * i) ≤ 2 ^ 24 := Nat.pow_le_pow_right (by omega) (by omega)
    refine hv.ix (v := .int .u8 (b.toNat : Int)) (by omega) (by omega) (by rw [Int.toNat_natCast, bv, List.getElem?_map, ei]; rfl) fun pa ca => ?_
    refine ⟨_, ca, Wr_i64 (by omega) (by omega) (Wr_i64 (by omega) (by omega) (Nn_i (by omega) ?_))⟩
    have e1 : (min (Int.toNat (8 * (i : Int))) (IntKind.bits .i64)) = 8 * i := by
      have : IntKind.bits .i64 = 64 := rfl
      omega
    rw [e1]
    have hm : b.toNat * 2 ^ (8 * i) ≤ 255 * 2 ^ 24 := Nat.mul_le_mul (by omega) hp2
    have e2 : ((b.toNat : Int) * 2 ^ (8 * i)) = ((b.toNat * 2 ^ (8 * i) : Nat) : Int) := by rw [Int.natCast_mul, Int.natCast_pow]; rfl
    rw [e2]
    refine Wr_i64 (by omega) (by omega) (Lt_any (Wr_i64 (by omega) (by omega) ?_))
    rw [or64 _ _ (by omega) (by omega)]
    refine hN _ _ _ ⟨rfl, i + 1, by simp, by omega, ?_⟩ (by omega)
    rw [htk, leN_append, hlen, hp]
    have e3 : leN [b] = b.toNat := by simp [leN]
    rw [e3, Nat.or_comm, Nat.mul_comm b.toNat, ← Nat.two_pow_add_eq_or_of_lt (by omega : leN (y.take i) < 2 ^ (8 * i))]
    omega
  · simp only [decide_eq_true_eq, decide_eq_false_iff_not, beq_iff_eq, beq_eq_false_iff_ne, ne_eq, reduceCtorEq, true_iff, false_iff, Bool.not_eq_true', Bool.not_eq_false', bne_iff_ne, bne_eq_false_iff_eq, Bool.not_true, Bool.not_false, Decidable.not_not] at c
    have : i = w := by omega
    subst this
    rw [← hyl, List.take_length]
    exact hkk
theorem among_m {h0 : Hp} {p : Nat} {s : Sl} {l : List UInt8} {h : Hp} {a nn lo hi : Nat} {x y : Int} {K : Int → HP} {Kp : PK} (r : Rm h0 p s l h a nn) (hx : x = lo) (hy : y = hi)
    (he : ∀ e, amongD l lo hi a = .error e → ∀ h', Tn (· = p) h h' → Kp (stopV e) h') (hk : ∀ z a', amongD l lo hi a = .ok (z, a') → ∀ h', Tn (· = p) h h' → Rm h0 p s l h' a' nn → K z h') : Fn45 (some ⟨p, 0, none⟩) x y h K Kp := by
  subst hx hy
  refine Fn45.of ?_
  unfold S45
  simp only [NN_some, add_blk, Nat.zero_add]
  refine Ld_blk r.blk rfl ?_
  refine number_m (w := 1) r rfl (by omega) (fun e q => he e (by unfold amongD; rw [q]) h (Tn.refl _ _)) fun z a' q h1 f1 r1 => ?_
  refine If_i (fun c => ?_) fun c => ?_
  · simp only [decide_eq_true_eq, decide_eq_false_iff_not, beq_iff_eq, beq_eq_false_iff_ne, ne_eq, reduceCtorEq, true_iff, false_iff, Bool.not_eq_true', Bool.not_eq_false', bne_iff_ne, bne_eq_false_iff_eq, Bool.not_true, Bool.not_false, Decidable.not_not] at c
    exact he (8, a) (by unfold amongD; rw [q]; exact if_neg (by omega)) h1 f1
  refine If_i (fun c2 => ?_) fun c2 => ?_
  · simp only [decide_eq_true_eq, decide_eq_false_iff_not, beq_iff_eq, beq_eq_false_iff_ne, ne_eq, reduceCtorEq, true_iff, false_iff, Bool.not_eq_true', Bool.not_eq_false', bne_iff_ne, bne_eq_false_iff_eq, Bool.not_true, Bool.not_false, Decidable.not_not] at c2
    exact he (8, a) (by unfold amongD; rw [q]; exact if_neg (by omega)) h1 f1
  · simp only [decide_eq_true_eq, decide_eq_false_iff_not, beq_iff_eq, beq_eq_false_iff_ne, ne_eq, reduceCtorEq, true_iff, false_iff, Bool.not_eq_true', Bool.not_eq_false', bne_iff_ne, bne_eq_false_iff_eq, Bool.not_true, Bool.not_false, Decidable.not_not] at c c2
    exact hk z a' (by unfold amongD; rw [q]; exact if_pos (by omega)) h1 f1 r1
theorem Bts_i {h : Hp} {s : Sl} {l : List UInt8} (sv : Sv h s (bv l)) {K : ByteArray → Prop} (hk : K (bs l)) : Bts h s K := by
  refine ⟨l, ?_, hk⟩
  obtain ⟨h1, h2, h3⟩ := sv
  rw [bv_len] at h1
  unfold rd
  cases hs : s.a with
  | none =>
    cases l with
    | nil => rfl
    | cons x xs =>
      obtain ⟨a, ha, _⟩ := h3 (s.n - 1) (by simp at h1; omega)
      rw [hs] at ha; cases ha
  | some a =>
    refine ⟨by simp [h1], fun i v hv => ?_⟩
    have : i < l.length := by simpa using (List.getElem?_eq_some_iff.1 hv).1
    obtain ⟨a', ha, hc⟩ := h3 (s.n - 1) (by omega)
    rw [hs] at ha; cases ha
    exact hc i v hv
theorem text_m {h0 : Hp} {p : Nat} {s : Sl} {l : List UInt8} {h : Hp} {a nn w : Nat} {x : Int} {K : ByteArray → HP} {Kp : PK} (r : Rm h0 p s l h a nn) (hx : x = w) (hw : w ≤ 4)
    (he : ∀ e, textD l w a = .error e → ∀ h', Tn (· = p) h h' → Kp (stopV e) h') (hk : ∀ z a', textD l w a = .ok (z, a') → ∀ h', Tn (· = p) h h' → Rm h0 p s l h' a' nn → K z h') : Fn59 (some ⟨p, 0, none⟩) x h K Kp := by
  refine Fn59.of ?_
  unfold S59
  refine number_m r hx hw (fun e q => he e (by unfold textD; rw [q]) h (Tn.refl _ _)) fun z a' q h1 f1 r1 => ?_
  have hz := (numD_le q r.ha).2.2
  have h4 : (256 : Nat) ^ w ≤ 256 ^ 4 := Nat.pow_le_pow_right (by omega) hw
  refine take_c r1 rfl (by omega) (fun e q2 => he e (by unfold textD; rw [q]; simp only [q2]) h1 f1) fun y a2 q2 t h2 f2 r2 hv ht => ?_
  exact Bts_i hv (hk (bs y) a2 (by unfold textD; rw [q]; simp only [q2]) h2 (f1.trans f2) r2)
end Go.Proofs.YtfomkkdijjfpiaaDoor
/- The package's reader: fields. -/
namespace Go.Proofs.YtfomkkdijjfpiaaDoor
open Go Go.Sh Go.WideShapes
abbrev B63 (h : Hp) (b : Nat) (nm : ByteArray) (nul : Bool) (k w id ix : Int) (s : Sl) : Prop := Blk h b #[.string nm, .bool nul, .int .i64 k, .int .i64 w, .int .i64 id, .int .i64 ix, Sl.v s] 63
def preD {α : Type} (xs : List α) (r : Except Er (List α × Nat × Nat)) : Except Er (List α × Nat × Nat) := match r with | .error e => .error e | .ok (ys, a3, n3) => .ok (xs ++ ys, a3, n3)
theorem repD_snoc {α : Type} {f : Nat → Nat → Except Er (α × Nat × Nat)} {c i a n a' n' a2 n2 : Nat} {x : α} {xs : List α} (hi : i < c) (e : repD f c a n = preD xs (repD f (c - i) a' n')) (hf : f a' n' = .ok (x, a2, n2)) :
    repD f c a n = preD (xs ++ [x]) (repD f (c - (i + 1)) a2 n2) := by
  have hc : c - i = (c - (i + 1)) + 1 := by omega
  rw [e, hc, repD, hf]
  simp only [preD]
  cases repD f (c - (i + 1)) a2 n2 with
  | error e => rfl
  | ok y => obtain ⟨ys, a3, n3⟩ := y; simp
theorem repD_err {α : Type} {f : Nat → Nat → Except Er (α × Nat × Nat)} {c i a n a' n' : Nat} {xs : List α} {er : Er} (hi : i < c) (e : repD f c a n = preD xs (repD f (c - i) a' n')) (hf : f a' n' = .error er) :
    repD f c a n = .error er := by
  have hc : c - i = (c - (i + 1)) + 1 := by omega
  rw [e, hc, repD, hf]; rfl
theorem repD_end {α : Type} {f : Nat → Nat → Except Er (α × Nat × Nat)} {c a n a' n' : Nat} {xs : List α} (e : repD f c a n = preD xs (repD f (c - c) a' n')) :
    repD f c a n = .ok (xs, a', n') := by
  rw [e, Nat.sub_self, repD]; simp [preD]
theorem repD_start {α : Type} {f : Nat → Nat → Except Er (α × Nat × Nat)} {c a n : Nat} : repD f c a n = preD ([] : List α) (repD f (c - 0) a n) := by
  rw [Nat.sub_zero]
  unfold preD
  cases repD f c a n with
  | error e => rfl
  | ok y => rfl
/-- what the package's reader does with a field -/
def FieldM (h0 : Hp) (p : Nat) (s : Sl) (l : List UInt8) (fuel : Nat) : Prop := ∀ {h : Hp} {a n : Nat} {x : Int} {K : ByteArray → Bool → Int → Int → Int → Int → Sl → HP} {Kp : PK}, Rm h0 p s l h a n → n ≤ 256 → fuel ≤ 64 → x = 64 - (fuel : Int) →
  (∀ e, fieldD l fuel a n = .error e → ∀ h', Tn (· = p) h h' → Kp (stopV e) h') →
  (∀ f a' n', fieldD l fuel a n = .ok (f, a', n') → ∀ t h', Tn (· = p) h h' → Rm h0 p s l h' a' n' → n' ≤ 256 → FsD (In h.size h'.size) h' t f.cs → K f.name f.nul f.k f.w f.id f.ix t h') → Fn58 (some ⟨p, 0, none⟩) x h K Kp
theorem Keep_i {h h' : Hp} {b i : Nat} {X : Prop} {cs cs' : Array Value} {el el' : TypeId} (k : Blk h b cs el) (k' : Blk h' b cs' el') (he : cs'[i]? = cs[i]?) (hx : X) : Keep h h' ⟨b, i, none⟩ 1 X :=
  ⟨fun j hj => by obtain rfl : j = 0 := by omega
                  rw [add_zero', cell_blk k, cell_blk k', he], hx⟩
theorem childM {h0 : Hp} {p : Nat} {s : Sl} {l : List UInt8} {fuel : Nat} (IH : FieldM h0 p s l fuel) (hfu : fuel < 64) {h : Hp} {a n c b4 b5 : Nat} {x y : Int} {nm : ByteArray} {nul : Bool} {k w id ix : Int} {K : ByteArray → Bool → Int → Int → Int → Int → Sl → HP} {Kp : PK} (r : Rm h0 p s l h a n) (hn : n ≤ 256)
    (hx : x + 1 = 64 - (fuel : Int)) (hc : c < 256) (hy : y = c) (k4 : B63 h b4 (bs []) false 0 0 0 0 Sl.nil) (k5 : B63 h b5 nm nul k w id ix Sl.nil) (n45 : b4 ≠ b5) (n4 : b4 ≠ p) (n5 : b5 ≠ p) (l4 : h0.size ≤ b4) (l5 : h0.size ≤ b5)
    (he : ∀ e, repD (fieldD l fuel) c a n = .error e → ∀ h', Tn (fun d => d = p ∨ d = b4 ∨ d = b5) h h' → Kp (stopV e) h')
    (hk : ∀ cs a' n', repD (fieldD l fuel) c a n = .ok (cs, a', n') → ∀ t h', Tn (fun d => d = p ∨ d = b4 ∨ d = b5) h h' → Rm h0 p s l h' a' n' → n' ≤ 256 → FsD (In h.size h'.size) h' t cs → K nm nul k w id ix t h') : J58_3 (some ⟨p, 0, none⟩) x ⟨b4, 0, none⟩ ⟨b5, 0, none⟩ y K Kp h := by
  subst hy
  have i4 := k4.lt
  have i5 := k5.lt
  have ip := r.blk.lt
  refine J58_3.of ?_
  unfold JT58_3
  refine L58_4.rule (fun z h1 => ∃ (i : Nat) (xs : List Fld) (sl : Sl) (a' n' : Nat) (D : Nat → Prop), z = i ∧ i ≤ c ∧ xs.length = i ∧ Tn (fun d => d = p ∨ d = b4 ∨ d = b5) h h1 ∧ Rm h0 p s l h1 a' n' ∧ n' ≤ 256 ∧ B63 h1 b5 nm nul k w id ix sl ∧ B63 h1 b4 (bs []) false 0 0 0 0 Sl.nil ∧
    Acc D h.size h1 sl xs ∧ (∀ d, D d → h.size ≤ d ∧ d < h1.size) ∧ repD (fieldD l fuel) c a n = preD xs (repD (fieldD l fuel) (c - i) a' n')) (fun z _ => c - z.toNat)
    ⟨0, [], Sl.nil, a, n, No, rfl, by omega, rfl, Tn.refl _ _, r, hn, k5, k4, Acc.nil, fun _ q => q.elim, repD_start⟩ ?_
  rintro z h1 ⟨i, xs, sl, a1, n1, D, rfl, hi, hxs, f1, r1, hn1, k5, k4, A, hD, eq⟩ N1 hN
  unfold T58_4
  simp only [add_blk, Nat.reduceAdd]
  refine If_i (fun c1 => ?_) fun c1 => ?_
  · simp only [decide_eq_true_eq, decide_eq_false_iff_not, beq_iff_eq, beq_eq_false_iff_ne, ne_eq, reduceCtorEq, true_iff, false_iff, Bool.not_eq_true', Bool.not_eq_false', bne_iff_ne, bne_eq_false_iff_eq, Bool.not_true, Bool.not_false, Decidable.not_not] at c1
    refine Ld_blk k5 rfl (Wr_i64 (by omega) (by omega) ?_)
    refine IH r1 hn1 (by omega) hx (fun e q h2 f2 => he e (repD_err (by omega) eq q) h2 (f1.trans (f2.mono fun d hd _ => .inl hd))) fun f a2 n2 q t h2 f2 r2 hn2 hf => ?_
    have k5' := f2.blk k5 n5
    refine Keep_i k5 k5' rfl ?_
    refine New_i fun bx h3 ex g3 kx _ => ?_
    refine Keep_i k5' (k5'.grw g3) rfl ?_
    have hD2 : ∀ d, (D d ∨ In h1.size h2.size d) → h.size ≤ d ∧ d < h2.size := fun d hd => by
      rcases hd with hd | hd
      · have := hD d hd; have := f2.1; omega
      · have := f1.1; exact ⟨by have := hd.1; omega, hd.2⟩
    have A2 : Acc D h.size h2 sl xs := A.fr f2 (fun d hd e => by have := hD d hd; omega) (fun d h1 _ e => by omega) (fun _ q => q) (fun _ q => .inl q)
    have A3 : Acc D h.size h3 sl xs := A2.fr (S := No) (Tn.of_grw g3) (fun _ _ q => q) (fun _ _ _ q => q) (fun _ q => q) (fun _ q => .inl q)
    have hf3 : FsD (In h1.size h2.size) h3 t f.cs := FsD.fr (S := No) (Tn.of_grw g3) (fun d hd => ⟨fun q => q, hd⟩) f.cs hf
    refine Acc.ap A3 hf3 (fun d hd => Nat.lt_of_lt_of_le (hD2 d hd).2 g3.1) (fun d hd => ⟨fun q => by have := hD d q; have := hd.1; omega, fun q => by have := (A.at q).2; have := hd.1; omega⟩) (by have := f1.1; have := f2.1; have := g3.1; omega) kx (by omega) fun s' h4 f4 A4 => ?_
    have k5 := f4.blk (k5'.grw g3) (fun q => by have := q.2; omega)
    have k4 := f4.blk ((f2.blk k4 n4).grw g3) (fun q => by have := q.2; omega)
    refine St_i k5 (by simp) rfl fun h5 o5 k5 => ?_
    have f15 : Tn (fun d => d = p ∨ d = b4 ∨ d = b5) h h5 := (((f1.trans (f2.mono fun d hd _ => .inl hd)).trans' (Tn.of_grw (S := No) g3) (fun _ q => q.elim)).trans' f4 (fun d hd hlt => by have := hd.2; omega)).trans' o5.fr fun d hd _ => .inr (.inr hd)
    have r4 : Rm h0 p s l h4 a2 n2 := by
      have r3 := r2.grw g3
      exact ⟨f4.blk r3.blk (fun q => by have := q.2; omega), ⟨Nat.le_trans r3.g.1 f4.1, fun c hc => (f4.2 c (Nat.lt_of_lt_of_le hc r3.g.1) (fun q => by have := q.2; have := r.g.1; omega)).trans (r3.g.2 c hc)⟩, r.hp, r.sv, r.hl, r3.ha⟩
    refine Wr_i64 (by omega) (by omega) (hN _ _ ⟨i + 1, xs ++ [f], s', a2, n2, _, by simp, by omega, by simp [hxs], f15, r4.fr o5.fr n5 l5, hn2, by simpa using k5, o5.blk k4 n45, A4.fr o5.fr (fun d hd e => by have := hD2 d hd; omega) (fun d h1 _ e => by omega) (fun _ q => q) (fun _ q => .inl q), fun d hd => ?_, repD_snoc (by omega) eq q⟩ (by omega))
    have := hD2 d hd
    have := g3.1; have := f4.1; have := o5.1
    omega
  · simp only [decide_eq_true_eq, decide_eq_false_iff_not, beq_iff_eq, beq_eq_false_iff_ne, ne_eq, reduceCtorEq, true_iff, false_iff, Bool.not_eq_true', Bool.not_eq_false', bne_iff_ne, bne_eq_false_iff_eq, Bool.not_true, Bool.not_false, Decidable.not_not] at c1
    have : i = c := by omega
    subst this
    have hfs := A.fsd (D' := In h.size h1.size) (fun d hd => hD d hd) (fun d h1 h2 => ⟨h1, h2⟩)
    refine Ld_blk k5 rfl (Ld_blk k5 rfl (Ld_blk k5 rfl (Ld_blk k5 rfl (Ld_blk k5 rfl (Ld_blk k5 rfl (Ld_blk k5 rfl ?_))))))
    refine St_i k4 (by simp) rfl fun h2 o2 k4 => St_i k4 (by simp) rfl fun h3 o3 k4 => St_i k4 (by simp) rfl fun h4 o4 k4 => St_i k4 (by simp) rfl fun h5 o5 k4 => St_i k4 (by simp) rfl fun h6 o6 k4 => St_i k4 (by simp) rfl fun h7 o7 k4 => St_i k4 (by simp) rfl fun h8 o8 k4 => ?_
    have k4 : B63 h8 b4 nm nul k w id ix sl := by simp at k4; exact k4
    have o := ((((((o2.trans o3).trans o4).trans o5).trans o6).trans o7).trans o8)
    refine Ld_blk k4 rfl (Ld_blk k4 rfl (Ld_blk k4 rfl (Ld_blk k4 rfl (Ld_blk k4 rfl (Ld_blk k4 rfl (Ld_blk k4 rfl ?_))))))
    refine hk xs a1 n1 (repD_end eq) sl h8 (f1.trans' o.fr fun d hd _ => .inr (.inl hd)) (r1.fr o.fr n4 l4) hn1 (FsD.fr o.fr (fun d hd => ⟨fun e => by have := hd.1; omega, hd.1, by have := o.1; have := hd.2; omega⟩) xs hfs)
end Go.Proofs.YtfomkkdijjfpiaaDoor
