import Derived.Test.YtfomkkdijjfpiaaDoorPutsJ1
import Derived.Test.YtfomkkdijjfpiaaDoorS10
import Derived.Test.YtfomkkdijjfpiaaDoorS5
import Derived.Test.YtfomkkdijjfpiaaDoorS12
import Derived.MapKept
set_option linter.unusedSimpArgs false
set_option linter.unusedVariables false
/- Whether a head may be: kinds as the package asks, names apart. -/
namespace Go.Proofs.YtfomkkdijjfpiaaDoor
open Go Go.Sh Go.WideShapes
theorem fits_c {k w id ix : Int} {s : Sl} {h : Hp} {K : Bool → Hp → Prop} {Kp : List PanicEntry → Hp → Prop} (ht : KTab h) (hk : ∀ b h', Grw h h' → (b = true ↔ Shaped k w id ix s.n) → K b h') : Fn69 k w id ix s h K Kp := by
  refine Fn69.of ?_
  unfold S69
  refine New_i fun b1 h1 e1 g1 k1 _ => ?_
  have hk := fun b => hk b h1 g1
  have ht := ht.grw g1
  have tab : ∀ (K : Bool → Prop), 1 ≤ ix → ix ≤ 20 → K (decide (3 ≤ ix ∧ ix ≤ 10)) → Ix (some (⟨0, 0, none⟩)) 21 4 ix fun a67 => Ld h1 (a67.add 3) (Value.bool) fun t69 => K t69 := by
    intro K h1 h2 hK
    refine ⟨by omega, by omega, decide (3 ≤ ix ∧ ix ≤ 10), ?_, hK⟩
    rw [add_blk, add_blk, Nat.zero_add, ht ix.toNat (by omega)]
    congr 2
    rw [decide_eq_decide]
    omega
  clear ht e1
  unfold Shaped at hk
  refine Ld_blk k1 rfl ?_
  refine known_c fun b hb => ?_
  cases b
  · refine If_t rfl (hk _ ?_)
    simp only [decide_eq_true_eq, decide_eq_false_iff_not, beq_iff_eq, beq_eq_false_iff_ne, ne_eq, reduceCtorEq, true_iff, false_iff, Bool.not_eq_true', Bool.not_eq_false', bne_iff_ne, bne_eq_false_iff_eq, Bool.not_true, Bool.not_false, Decidable.not_not] at *
    omega
  refine If_f rfl (Ld_blk k1 rfl ?_)
  simp only [decide_eq_true_eq, decide_eq_false_iff_not, beq_iff_eq, beq_eq_false_iff_ne, ne_eq, reduceCtorEq, true_iff, false_iff, Bool.not_eq_true', Bool.not_eq_false', bne_iff_ne, bne_eq_false_iff_eq, Bool.not_true, Bool.not_false, Decidable.not_not] at hb
  rcases (by omega : k = 14 ∨ k = 15 ∨ k = 16 ∨ k = 17 ∨ k = 18 ∨ k = 19 ∨ k = 20 ∨ (k ≠ 14 ∧ k ≠ 15 ∧ k ≠ 16 ∧ k ≠ 17 ∧ k ≠ 18 ∧ k ≠ 19 ∧ k ≠ 20)) with e | e | e | e | e | e | e | e
  case inr.inr.inr.inr.inr.inl =>
    repeat' (first | ((with_reducible refine J69_1.of ?_); unfold JT69_1; (try simp only [add_blk, Nat.reduceAdd])) | ((with_reducible refine J69_2.of ?_); unfold JT69_2; (try simp only [add_blk, Nat.reduceAdd])) | ((with_reducible refine J69_3.of ?_); unfold JT69_3; (try simp only [add_blk, Nat.reduceAdd])) | ((with_reducible refine J69_7.of ?_); unfold JT69_7; (try simp only [add_blk, Nat.reduceAdd])) | ((with_reducible refine If_t (by first | rfl | (simp only [decide_eq_true_eq, decide_eq_false_iff_not, beq_iff_eq, beq_eq_false_iff_ne, ne_eq, reduceCtorEq, true_iff, false_iff, Bool.not_eq_true', Bool.not_eq_false', bne_iff_ne, bne_eq_false_iff_eq, Bool.not_true, Bool.not_false, Decidable.not_not]; omega)) ?_)) | ((with_reducible refine If_f (by first | rfl | (simp only [decide_eq_true_eq, decide_eq_false_iff_not, beq_iff_eq, beq_eq_false_iff_ne, ne_eq, reduceCtorEq, true_iff, false_iff, Bool.not_eq_true', Bool.not_eq_false', bne_iff_ne, bne_eq_false_iff_eq, Bool.not_true, Bool.not_false, Decidable.not_not]; omega)) ?_)) | (((with_reducible refine If_i (fun c => ?_) (fun c => ?_)) <;> (try simp only [decide_eq_true_eq, decide_eq_false_iff_not, beq_iff_eq, beq_eq_false_iff_ne, ne_eq, reduceCtorEq, true_iff, false_iff, Bool.not_eq_true', Bool.not_eq_false', bne_iff_ne, bne_eq_false_iff_eq, Bool.not_true, Bool.not_false, Decidable.not_not] at c))) | ((refine Ld_blk k1 rfl ?_)))
    all_goals simp only [decide_eq_true_eq, decide_eq_false_iff_not, beq_iff_eq, beq_eq_false_iff_ne, ne_eq, reduceCtorEq, true_iff, false_iff, Bool.not_eq_true', Bool.not_eq_false', bne_iff_ne, bne_eq_false_iff_eq, Bool.not_true, Bool.not_false, Decidable.not_not] at *
    all_goals first
      | (refine known_c fun b hb2 => ?_
         cases b
         · simp only [decide_eq_true_eq, decide_eq_false_iff_not, beq_iff_eq, beq_eq_false_iff_ne, ne_eq, reduceCtorEq, true_iff, false_iff, Bool.not_eq_true', Bool.not_eq_false', bne_iff_ne, bne_eq_false_iff_eq, Bool.not_true, Bool.not_false, Decidable.not_not] at hb2
           repeat' (first | ((with_reducible refine J69_8.of ?_); unfold JT69_8; (try simp only [add_blk, Nat.reduceAdd])) | ((with_reducible refine J69_4.of ?_); unfold JT69_4; (try simp only [add_blk, Nat.reduceAdd])) | ((with_reducible refine J69_5.of ?_); unfold JT69_5; (try simp only [add_blk, Nat.reduceAdd])) | ((with_reducible refine J69_6.of ?_); unfold JT69_6; (try simp only [add_blk, Nat.reduceAdd])) | ((with_reducible refine If_t (by first | rfl | (simp only [decide_eq_true_eq, decide_eq_false_iff_not, beq_iff_eq, beq_eq_false_iff_ne, ne_eq, reduceCtorEq, true_iff, false_iff, Bool.not_eq_true', Bool.not_eq_false', bne_iff_ne, bne_eq_false_iff_eq, Bool.not_true, Bool.not_false, Decidable.not_not]; omega)) ?_)) | ((with_reducible refine If_f (by first | rfl | (simp only [decide_eq_true_eq, decide_eq_false_iff_not, beq_iff_eq, beq_eq_false_iff_ne, ne_eq, reduceCtorEq, true_iff, false_iff, Bool.not_eq_true', Bool.not_eq_false', bne_iff_ne, bne_eq_false_iff_eq, Bool.not_true, Bool.not_false, Decidable.not_not]; omega)) ?_)) | (((with_reducible refine If_i (fun c => ?_) (fun c => ?_)) <;> (try simp only [decide_eq_true_eq, decide_eq_false_iff_not, beq_iff_eq, beq_eq_false_iff_ne, ne_eq, reduceCtorEq, true_iff, false_iff, Bool.not_eq_true', Bool.not_eq_false', bne_iff_ne, bne_eq_false_iff_eq, Bool.not_true, Bool.not_false, Decidable.not_not] at c))) | ((refine Ld_blk k1 rfl ?_)))
           all_goals refine hk _ ?_
           all_goals simp only [decide_eq_true_eq, decide_eq_false_iff_not, beq_iff_eq, beq_eq_false_iff_ne, ne_eq, reduceCtorEq, true_iff, false_iff, Bool.not_eq_true', Bool.not_eq_false', bne_iff_ne, bne_eq_false_iff_eq, Bool.not_true, Bool.not_false, Decidable.not_not] at *
           all_goals omega
         · simp only [decide_eq_true_eq, decide_eq_false_iff_not, beq_iff_eq, beq_eq_false_iff_ne, ne_eq, reduceCtorEq, true_iff, false_iff, Bool.not_eq_true', Bool.not_eq_false', bne_iff_ne, bne_eq_false_iff_eq, Bool.not_true, Bool.not_false, Decidable.not_not] at hb2
           refine J69_8.of ?_
           unfold JT69_8
           simp only [add_blk, Nat.reduceAdd]
           refine If_t rfl (Ld_blk k1 rfl ?_)
           refine tab (fun b => J69_4 ⟨b1, 0, none⟩ 1 1 _ b K Kp h1) (by omega) (by omega) ?_
           by_cases hx : 3 ≤ ix ∧ ix ≤ 10
           · rw [decide_eq_true hx]
             repeat' (first | ((with_reducible refine J69_4.of ?_); unfold JT69_4; (try simp only [add_blk, Nat.reduceAdd])) | ((with_reducible refine J69_5.of ?_); unfold JT69_5; (try simp only [add_blk, Nat.reduceAdd])) | ((with_reducible refine J69_6.of ?_); unfold JT69_6; (try simp only [add_blk, Nat.reduceAdd])) | ((with_reducible refine If_t (by first | rfl | (simp only [decide_eq_true_eq, decide_eq_false_iff_not, beq_iff_eq, beq_eq_false_iff_ne, ne_eq, reduceCtorEq, true_iff, false_iff, Bool.not_eq_true', Bool.not_eq_false', bne_iff_ne, bne_eq_false_iff_eq, Bool.not_true, Bool.not_false, Decidable.not_not]; omega)) ?_)) | ((with_reducible refine If_f (by first | rfl | (simp only [decide_eq_true_eq, decide_eq_false_iff_not, beq_iff_eq, beq_eq_false_iff_ne, ne_eq, reduceCtorEq, true_iff, false_iff, Bool.not_eq_true', Bool.not_eq_false', bne_iff_ne, bne_eq_false_iff_eq, Bool.not_true, Bool.not_false, Decidable.not_not]; omega)) ?_)) | (((with_reducible refine If_i (fun c => ?_) (fun c => ?_)) <;> (try simp only [decide_eq_true_eq, decide_eq_false_iff_not, beq_iff_eq, beq_eq_false_iff_ne, ne_eq, reduceCtorEq, true_iff, false_iff, Bool.not_eq_true', Bool.not_eq_false', bne_iff_ne, bne_eq_false_iff_eq, Bool.not_true, Bool.not_false, Decidable.not_not] at c))) | ((refine Ld_blk k1 rfl ?_)))
             all_goals refine hk _ ?_
             all_goals simp only [decide_eq_true_eq, decide_eq_false_iff_not, beq_iff_eq, beq_eq_false_iff_ne, ne_eq, reduceCtorEq, true_iff, false_iff, Bool.not_eq_true', Bool.not_eq_false', bne_iff_ne, bne_eq_false_iff_eq, Bool.not_true, Bool.not_false, Decidable.not_not] at *
             all_goals omega
           · rw [decide_eq_false hx]
             repeat' (first | ((with_reducible refine J69_4.of ?_); unfold JT69_4; (try simp only [add_blk, Nat.reduceAdd])) | ((with_reducible refine J69_5.of ?_); unfold JT69_5; (try simp only [add_blk, Nat.reduceAdd])) | ((with_reducible refine J69_6.of ?_); unfold JT69_6; (try simp only [add_blk, Nat.reduceAdd])) | ((with_reducible refine If_t (by first | rfl | (simp only [decide_eq_true_eq, decide_eq_false_iff_not, beq_iff_eq, beq_eq_false_iff_ne, ne_eq, reduceCtorEq, true_iff, false_iff, Bool.not_eq_true', Bool.not_eq_false', bne_iff_ne, bne_eq_false_iff_eq, Bool.not_true, Bool.not_false, Decidable.not_not]; omega)) ?_)) | ((with_reducible refine If_f (by first | rfl | (simp only [decide_eq_true_eq, decide_eq_false_iff_not, beq_iff_eq, beq_eq_false_iff_ne, ne_eq, reduceCtorEq, true_iff, false_iff, Bool.not_eq_true', Bool.not_eq_false', bne_iff_ne, bne_eq_false_iff_eq, Bool.not_true, Bool.not_false, Decidable.not_not]; omega)) ?_)) | (((with_reducible refine If_i (fun c => ?_) (fun c => ?_)) <;> (try simp only [decide_eq_true_eq, decide_eq_false_iff_not, beq_iff_eq, beq_eq_false_iff_ne, ne_eq, reduceCtorEq, true_iff, false_iff, Bool.not_eq_true', Bool.not_eq_false', bne_iff_ne, bne_eq_false_iff_eq, Bool.not_true, Bool.not_false, Decidable.not_not] at c))) | ((refine Ld_blk k1 rfl ?_)))
             all_goals refine hk _ ?_
             all_goals simp only [decide_eq_true_eq, decide_eq_false_iff_not, beq_iff_eq, beq_eq_false_iff_ne, ne_eq, reduceCtorEq, true_iff, false_iff, Bool.not_eq_true', Bool.not_eq_false', bne_iff_ne, bne_eq_false_iff_eq, Bool.not_true, Bool.not_false, Decidable.not_not] at *
             all_goals omega)
      | (repeat' (first | ((with_reducible refine J69_8.of ?_); unfold JT69_8; (try simp only [add_blk, Nat.reduceAdd])) | ((with_reducible refine J69_4.of ?_); unfold JT69_4; (try simp only [add_blk, Nat.reduceAdd])) | ((with_reducible refine J69_5.of ?_); unfold JT69_5; (try simp only [add_blk, Nat.reduceAdd])) | ((with_reducible refine J69_6.of ?_); unfold JT69_6; (try simp only [add_blk, Nat.reduceAdd])) | ((with_reducible refine If_t (by first | rfl | (simp only [decide_eq_true_eq, decide_eq_false_iff_not, beq_iff_eq, beq_eq_false_iff_ne, ne_eq, reduceCtorEq, true_iff, false_iff, Bool.not_eq_true', Bool.not_eq_false', bne_iff_ne, bne_eq_false_iff_eq, Bool.not_true, Bool.not_false, Decidable.not_not]; omega)) ?_)) | ((with_reducible refine If_f (by first | rfl | (simp only [decide_eq_true_eq, decide_eq_false_iff_not, beq_iff_eq, beq_eq_false_iff_ne, ne_eq, reduceCtorEq, true_iff, false_iff, Bool.not_eq_true', Bool.not_eq_false', bne_iff_ne, bne_eq_false_iff_eq, Bool.not_true, Bool.not_false, Decidable.not_not]; omega)) ?_)) | (((with_reducible refine If_i (fun c => ?_) (fun c => ?_)) <;> (try simp only [decide_eq_true_eq, decide_eq_false_iff_not, beq_iff_eq, beq_eq_false_iff_ne, ne_eq, reduceCtorEq, true_iff, false_iff, Bool.not_eq_true', Bool.not_eq_false', bne_iff_ne, bne_eq_false_iff_eq, Bool.not_true, Bool.not_false, Decidable.not_not] at c))) | ((refine Ld_blk k1 rfl ?_)))
         all_goals refine hk _ ?_
         all_goals simp only [decide_eq_true_eq, decide_eq_false_iff_not, beq_iff_eq, beq_eq_false_iff_ne, ne_eq, reduceCtorEq, true_iff, false_iff, Bool.not_eq_true', Bool.not_eq_false', bne_iff_ne, bne_eq_false_iff_eq, Bool.not_true, Bool.not_false, Decidable.not_not] at *
         all_goals omega)
  all_goals repeat' (first | ((with_reducible refine J69_1.of ?_); unfold JT69_1; (try simp only [add_blk, Nat.reduceAdd])) | ((with_reducible refine J69_2.of ?_); unfold JT69_2; (try simp only [add_blk, Nat.reduceAdd])) | ((with_reducible refine J69_3.of ?_); unfold JT69_3; (try simp only [add_blk, Nat.reduceAdd])) | ((with_reducible refine J69_4.of ?_); unfold JT69_4; (try simp only [add_blk, Nat.reduceAdd])) | ((with_reducible refine J69_5.of ?_); unfold JT69_5; (try simp only [add_blk, Nat.reduceAdd])) | ((with_reducible refine J69_6.of ?_); unfold JT69_6; (try simp only [add_blk, Nat.reduceAdd])) | ((with_reducible refine J69_7.of ?_); unfold JT69_7; (try simp only [add_blk, Nat.reduceAdd])) | ((with_reducible refine J69_8.of ?_); unfold JT69_8; (try simp only [add_blk, Nat.reduceAdd])) | ((with_reducible refine If_t (by first | rfl | (simp only [decide_eq_true_eq, decide_eq_false_iff_not, beq_iff_eq, beq_eq_false_iff_ne, ne_eq, reduceCtorEq, true_iff, false_iff, Bool.not_eq_true', Bool.not_eq_false', bne_iff_ne, bne_eq_false_iff_eq, Bool.not_true, Bool.not_false, Decidable.not_not]; omega)) ?_)) | ((with_reducible refine If_f (by first | rfl | (simp only [decide_eq_true_eq, decide_eq_false_iff_not, beq_iff_eq, beq_eq_false_iff_ne, ne_eq, reduceCtorEq, true_iff, false_iff, Bool.not_eq_true', Bool.not_eq_false', bne_iff_ne, bne_eq_false_iff_eq, Bool.not_true, Bool.not_false, Decidable.not_not]; omega)) ?_)) | (((with_reducible refine If_i (fun c => ?_) (fun c => ?_)) <;> (try simp only [decide_eq_true_eq, decide_eq_false_iff_not, beq_iff_eq, beq_eq_false_iff_ne, ne_eq, reduceCtorEq, true_iff, false_iff, Bool.not_eq_true', Bool.not_eq_false', bne_iff_ne, bne_eq_false_iff_eq, Bool.not_true, Bool.not_false, Decidable.not_not] at c))) | ((refine Ld_blk k1 rfl ?_)))
  all_goals refine hk _ ?_
  all_goals simp only [decide_eq_true_eq, decide_eq_false_iff_not, beq_iff_eq, beq_eq_false_iff_ne, ne_eq, reduceCtorEq, true_iff, false_iff, Bool.not_eq_true', Bool.not_eq_false', bne_iff_ne, bne_eq_false_iff_eq, Bool.not_true, Bool.not_false, Decidable.not_not] at *
  all_goals omega
end Go.Proofs.YtfomkkdijjfpiaaDoor
/- Whether a head may be: fields of one name, marks of null. -/
namespace Go.Proofs.YtfomkkdijjfpiaaDoor
open Go Go.Sh Go.WideShapes
def Fld.name : Fld → ByteArray | .mk n _ _ _ _ _ _ => n
def Fld.nul : Fld → Bool | .mk _ b _ _ _ _ _ => b
def Fld.k : Fld → Int | .mk _ _ k _ _ _ _ => k
def Fld.w : Fld → Int | .mk _ _ _ w _ _ _ => w
def Fld.id : Fld → Int | .mk _ _ _ _ i _ _ => i
def Fld.ix : Fld → Int | .mk _ _ _ _ _ i _ => i
def Fld.cs : Fld → List Fld | .mk _ _ _ _ _ _ cs => cs
/-- the cells of a field -/
theorem FldH.cells {h : Hp} {a : Addr} {f : Fld} (hf : FldH h a f) : ∃ s, FsH h s f.cs ∧ cell h a = some (.string f.name) ∧ cell h (a.add 1) = some (.bool f.nul) ∧ cell h (a.add 2) = some (.int .i64 f.k) ∧
    cell h (a.add 3) = some (.int .i64 f.w) ∧ cell h (a.add 4) = some (.int .i64 f.id) ∧ cell h (a.add 5) = some (.int .i64 f.ix) ∧ cell h (a.add 6) = some (Sl.v s) := by
  obtain ⟨n, nul, k, wd, id, ix, ds⟩ := f
  unfold FldH at hf
  obtain ⟨u, hc, hu⟩ := hf
  have c0 := hc 0 _ rfl
  rw [add_zero'] at c0
  exact ⟨u, hu, c0, hc 1 _ rfl, hc 2 _ rfl, hc 3 _ rfl, hc 4 _ rfl, hc 5 _ rfl, hc 6 _ rfl⟩
/-- the i-th field of a slice is reached -/
theorem FsH.ix {h0 : Hp} {s : Sl} {cs : List Fld} (hs : FsH h0 s cs) {x : Int} {i : Nat} (hx : x = (i : Int)) {f : Fld} (hj : cs[i]? = some f) {K : Addr → Prop} (hk : ∀ a, FldH h0 a f → K a) : Ix s.a s.n 7 x K := by
  obtain ⟨a, ha, hf⟩ := hs.get hj
  have hn := hs.n
  have hi : i < cs.length := (List.getElem?_eq_some_iff.1 hj).1
  subst hx
  rw [ha]
  exact ⟨by omega, by omega, by rw [Int.toNat_natCast]; exact hk _ hf⟩
def Nulls (k : Int) (nul : Bool) (cs : List Fld) : Prop := (k = 1 → nul = true) ∧ (k = 18 → nul = false) ∧ (k = 20 → ∃ c, cs[0]? = some c ∧ nul = c.nul)
theorem nulls_c {n : ByteArray} {nul : Bool} {k w id ix : Int} {s : Sl} {cs : List Fld} {h0 h : Hp} {K : Bool → Hp → Prop} {Kp : List PanicEntry → Hp → Prop} (g : Grw h0 h) (hs : FsH h0 s cs) (h1 : k = 20 → cs.length = 1) (hk : ∀ b h', Grw h h' → (b = true ↔ Nulls k nul cs) → K b h') : Fn70 n nul k w id ix s h K Kp := by
  refine Fn70.of ?_
  unfold S70
  refine New_i fun b1 h2 e1 g1 k1 _ => ?_
  have hk := fun b => hk b h2 g1
  unfold Nulls at hk
  simp only [add_blk, Nat.reduceAdd]
  refine Ld_blk k1 rfl ?_
  refine If_i (fun c => ?_) (fun c => ?_)
  · simp only [decide_eq_true_eq, decide_eq_false_iff_not, beq_iff_eq, beq_eq_false_iff_ne, ne_eq, reduceCtorEq, true_iff, false_iff, Bool.not_eq_true', Bool.not_eq_false', bne_iff_ne, bne_eq_false_iff_eq, Bool.not_true, Bool.not_false, Decidable.not_not] at c; subst c
    refine Ld_blk k1 rfl (hk _ ?_)
    simp
  refine If_i (fun c2 => ?_) (fun c2 => ?_)
  · simp only [decide_eq_true_eq, decide_eq_false_iff_not, beq_iff_eq, beq_eq_false_iff_ne, ne_eq, reduceCtorEq, true_iff, false_iff, Bool.not_eq_true', Bool.not_eq_false', bne_iff_ne, bne_eq_false_iff_eq, Bool.not_true, Bool.not_false, Decidable.not_not] at c2; subst c2
    refine Ld_blk k1 rfl (hk _ ?_)
    simp
  refine If_i (fun c3 => ?_) (fun c3 => ?_)
  · simp only [decide_eq_true_eq, decide_eq_false_iff_not, beq_iff_eq, beq_eq_false_iff_ne, ne_eq, reduceCtorEq, true_iff, false_iff, Bool.not_eq_true', Bool.not_eq_false', bne_iff_ne, bne_eq_false_iff_eq, Bool.not_true, Bool.not_false, Decidable.not_not] at c3; subst c3
    have hl := h1 rfl
    have hj : cs[0]? = some cs[0] := List.getElem?_eq_getElem (by omega)
    refine Ld_blk k1 rfl (Ld_blk k1 rfl ?_)
    generalize cs[0] = f at hj
    refine hs.ix rfl hj fun a ha => ?_
    obtain ⟨u, _, _, c1, _⟩ := ha.cells
    refine ⟨_, (Grw.trans g g1).cell c1, hk _ ?_⟩
    simp [hj]
  · simp only [decide_eq_true_eq, decide_eq_false_iff_not, beq_iff_eq, beq_eq_false_iff_ne, ne_eq, reduceCtorEq, true_iff, false_iff, Bool.not_eq_true', Bool.not_eq_false', bne_iff_ne, bne_eq_false_iff_eq, Bool.not_true, Bool.not_false, Decidable.not_not] at c c2 c3
    refine hk _ ?_
    simp [c, c2, c3]
/-- no two fields have one name -/
def Unlike (cs : List Fld) : Prop := ∀ (i j : Nat) a b, j < i → cs[i]? = some a → cs[j]? = some b → a.name ≠ b.name
theorem unlike_c {s : Sl} {cs : List Fld} {h0 h : Hp} {K : Bool → Hp → Prop} {Kp : List PanicEntry → Hp → Prop} (g : Grw h0 h) (hs : FsH h0 s cs) (hl : cs.length ≤ 9223372036854775807) (hk : ∀ b, (b = true ↔ Unlike cs) → K b h) : Fn51 s h K Kp := by
  refine Fn51.of ?_
  unfold S51
  have hn := hs.n
  refine L51_1.rule (fun x h' => h' = h ∧ ∃ i : Nat, x = i ∧ i ≤ cs.length ∧ ∀ (i' j : Nat) a b, i' < i → j < i' → cs[i']? = some a → cs[j]? = some b → a.name ≠ b.name) (fun x _ => cs.length - x.toNat) ⟨rfl, 0, rfl, by omega, fun i' j a b hi => by omega⟩ ?_
  rintro x h1 ⟨rfl, i, rfl, hi, hall⟩ N1 hN
  unfold T51_1
  refine If_i (fun c => ?_) (fun c => ?_)
  · simp only [decide_eq_true_eq, decide_eq_false_iff_not, beq_iff_eq, beq_eq_false_iff_ne, ne_eq, reduceCtorEq, true_iff, false_iff, Bool.not_eq_true', Bool.not_eq_false', bne_iff_ne, bne_eq_false_iff_eq, Bool.not_true, Bool.not_false, Decidable.not_not] at c
    have hi' : i < cs.length := by omega
    refine L51_2.rule (fun x h' => h' = h1 ∧ ∃ j : Nat, x = j ∧ j ≤ i ∧ ∀ (j' : Nat) a b, j' < j → cs[i]? = some a → cs[j']? = some b → a.name ≠ b.name) (fun x _ => i - x.toNat) ⟨rfl, 0, rfl, by omega, fun i' j a hi => by omega⟩ ?_
    rintro y h2 ⟨rfl, j, rfl, hj, hin⟩ N2 hN2
    unfold T51_2
    refine If_i (fun c2 => ?_) (fun c2 => ?_)
    · simp only [decide_eq_true_eq, decide_eq_false_iff_not, beq_iff_eq, beq_eq_false_iff_ne, ne_eq, reduceCtorEq, true_iff, false_iff, Bool.not_eq_true', Bool.not_eq_false', bne_iff_ne, bne_eq_false_iff_eq, Bool.not_true, Bool.not_false, Decidable.not_not] at c2
      have hj' : j < cs.length := by omega
      have ei : cs[i]? = some cs[i] := List.getElem?_eq_getElem hi'
      have ej : cs[j]? = some cs[j] := List.getElem?_eq_getElem hj'
      generalize cs[i] = a at ei
      generalize cs[j] = b at ej
      refine hs.ix rfl ei fun pa ha => ?_
      obtain ⟨_, _, ca, _⟩ := ha.cells
      refine ⟨_, g.cell ca, ?_⟩
      refine hs.ix rfl ej fun pb hb => ?_
      obtain ⟨_, _, cb, _⟩ := hb.cells
      refine ⟨_, g.cell cb, ?_⟩
      refine If_i (fun c3 => ?_) (fun c3 => ?_)
      · rw [bytes_eq] at c3
        exact hk false ⟨by simp, fun q => (q i j a b (by omega) ei ej c3).elim⟩
      · rw [Bool.eq_false_iff, ne_eq, bytes_eq] at c3
        refine Wr_i64 (by omega) (by omega) ?_
        refine hN2 _ _ ⟨rfl, j + 1, by simp, by omega, fun j' a' b' hlt ea eb => ?_⟩ (by omega)
        by_cases e : j' = j
        · subst e; rw [ei] at ea; rw [ej] at eb; cases ea; cases eb; exact c3
        · exact hin j' a' b' (by omega) ea eb
    · simp only [decide_eq_true_eq, decide_eq_false_iff_not, beq_iff_eq, beq_eq_false_iff_ne, ne_eq, reduceCtorEq, true_iff, false_iff, Bool.not_eq_true', Bool.not_eq_false', bne_iff_ne, bne_eq_false_iff_eq, Bool.not_true, Bool.not_false, Decidable.not_not] at c2
      refine Wr_i64 (by omega) (by omega) ?_
      refine hN _ _ ⟨rfl, i + 1, by simp, by omega, fun i' j' a' b' h1 h2 ea eb => ?_⟩ (by omega)
      by_cases e : i' = i
      · subst e; exact hin j' a' b' (by omega) ea eb
      · exact hall i' j' a' b' (by omega) h2 ea eb
  · simp only [decide_eq_true_eq, decide_eq_false_iff_not, beq_iff_eq, beq_eq_false_iff_ne, ne_eq, reduceCtorEq, true_iff, false_iff, Bool.not_eq_true', Bool.not_eq_false', bne_iff_ne, bne_eq_false_iff_eq, Bool.not_true, Bool.not_false, Decidable.not_not] at c
    refine hk true ⟨fun _ i' j a b h1 ea eb => ?_, fun _ => rfl⟩
    exact hall i' j a b (by have := (List.getElem?_eq_some_iff.1 ea).1; omega) h1 ea eb
/-- is a name among those of the fields ahead? -/
theorem again_c {s : Sl} {cs : List Fld} {h0 h : Hp} {a3 : Addr} {n : ByteArray} {K : Bool → Hp → Prop} {Kp : List PanicEntry → Hp → Prop} (g : Grw h0 h) (hs : FsH h0 s cs) (hl : cs.length ≤ 9223372036854775807) (hn : cell h (a3.add 2) = some (.string n))
    (hk : ∀ b h', Grw h h' → (b = true ↔ ∃ c ∈ cs, c.name = n) → K b h') : Fn67 s (.func (.func 68) #[] #[(.pointer (some a3))]) h K Kp := by
  refine Fn67.of ?_
  unfold S67
  refine Fn72.of ?_
  unfold S72
  have hsn := hs.n
  have hok : okFn Tryd.prog 68 = true := by kernel_rfl
  refine L72_1.rule (fun x h' => Grw h h' ∧ ∃ i : Nat, x = i ∧ i ≤ cs.length ∧ ∀ (j : Nat) a, j < i → cs[j]? = some a → a.name ≠ n) (fun x _ => cs.length - x.toNat) ⟨Grw.refl _, 0, rfl, by omega, fun j a hi => by omega⟩ ?_
  rintro x h1 ⟨g1, i, rfl, hi, hall⟩ N1 hN
  unfold T72_1
  refine If_i (fun c => ?_) (fun c => ?_)
  · simp only [decide_eq_true_eq, decide_eq_false_iff_not, beq_iff_eq, beq_eq_false_iff_ne, ne_eq, reduceCtorEq, true_iff, false_iff, Bool.not_eq_true', Bool.not_eq_false', bne_iff_ne, bne_eq_false_iff_eq, Bool.not_true, Bool.not_false, Decidable.not_not] at c
    have hi' : i < cs.length := by omega
    have ei : cs[i]? = some cs[i] := List.getElem?_eq_getElem hi'
    generalize cs[i] = f at ei
    refine hs.ix rfl ei fun pa ha => ?_
    obtain ⟨u, _, c0, c1, c2, c3, c4, c5, c6⟩ := ha.cells
    have G := Grw.trans g g1
    refine ⟨_, G.cell c0, _, G.cell c1, _, G.cell c2, _, G.cell c3, _, G.cell c4, _, G.cell c5, _, G.cell c6, ?_⟩
    unfold CallV
    simp only [hok, cond_true]
    refine Fn68.of ?_
    unfold S68
    refine New_i fun b1 h2 e1 g2 k1 _ => ?_
    refine Ld_blk k1 rfl ⟨_, g2.cell (g1.cell hn), ?_⟩
    refine If_i (fun c3 => ?_) (fun c3 => ?_)
    · rw [bytes_eq] at c3
      refine hk _ _ (Grw.trans g1 g2) ⟨fun _ => ⟨f, List.mem_of_getElem? ei, c3⟩, fun _ => by rw [decide_eq_true_eq]; omega⟩
    · rw [Bool.eq_false_iff, ne_eq, bytes_eq] at c3
      refine Wr_i64 (by omega) (by omega) ?_
      refine hN _ _ ⟨Grw.trans g1 g2, i + 1, by simp, by omega, fun j' a' hlt ea => ?_⟩ (by omega)
      by_cases e : j' = i
      · subst e; rw [ei] at ea; cases ea; exact c3
      · exact hall j' a' (by omega) ea
  · simp only [decide_eq_true_eq, decide_eq_false_iff_not, beq_iff_eq, beq_eq_false_iff_ne, ne_eq, reduceCtorEq, true_iff, false_iff, Bool.not_eq_true', Bool.not_eq_false', bne_iff_ne, bne_eq_false_iff_eq, Bool.not_true, Bool.not_false, Decidable.not_not] at c
    refine hk _ _ g1 ⟨fun q => ?_, fun ⟨f, hf, e⟩ => ?_⟩
    · rw [decide_eq_true_eq] at q; omega
    · obtain ⟨j, hj⟩ := List.mem_iff_getElem?.1 hf
      exact (hall j f (by have := (List.getElem?_eq_some_iff.1 hj).1; omega) hj e).elim
end Go.Proofs.YtfomkkdijjfpiaaDoor
/- Whether a schema may be: all fields in their order, each right behind those ahead of it. -/
namespace Go.Proofs.YtfomkkdijjfpiaaDoor
open Go Go.Sh Go.WideShapes
/-- a field at its place: how deep, which of its list are ahead, whether within a dictionary -/
structure Pl where
  deep : Nat
  ahead : List Fld
  f : Fld
  ins : Bool
mutual
def Fld.places (d : Nat) (ahead : List Fld) (ins : Bool) : Fld → List Pl
  | .mk n nul k w id ix cs => ⟨d, ahead, .mk n nul k w id ix cs, ins⟩ :: (if d < 65 then placesL (d + 1) [] (ins || k == 19) cs else [])
def placesL (d : Nat) (ahead : List Fld) (ins : Bool) : List Fld → List Pl
  | [] => []
  | f :: fs => f.places d ahead ins ++ placesL d (ahead ++ [f]) ins fs
end
def placesU (d : Nat) (ins : Bool) : List Fld → List Pl
  | [] => []
  | f :: fs => f.places d [] ins ++ placesU d ins fs
def nextIds (ids : List Int) (f : Fld) : List Int := if f.k = 19 then ids ++ [f.id] else ids
def Right (n : Nat) (ids : List Int) (x : Pl) : Prop := x.deep ≤ 64 ∧ n < 256 ∧ NameOk x.f.name ∧ (∀ g ∈ x.ahead, g.name ≠ x.f.name) ∧ Shaped x.f.k x.f.w x.f.id x.f.ix x.f.cs.length ∧ Nulls x.f.k x.f.nul x.f.cs ∧
  ¬ (x.ins = true ∧ (x.f.k = 19 ∨ x.f.k = 20)) ∧ (x.f.k = 19 → (∃ c, x.f.cs[0]? = some c ∧ c.nul = false) ∧ x.f.id ∉ ids)
def AllR (n : Nat) (ids : List Int) : List Pl → Prop
  | [] => True
  | x :: xs => Right n ids x ∧ AllR (n + 1) (nextIds ids x.f) xs
def idsOf (ids : List Int) : List Pl → List Int
  | [] => ids
  | x :: xs => idsOf (nextIds ids x.f) xs
theorem AllR_append {a b : List Pl} : ∀ {n : Nat} {ids : List Int}, AllR n ids (a ++ b) ↔ AllR n ids a ∧ AllR (n + a.length) (idsOf ids a) b := by
  induction a with
  | nil => intro n ids; simp [AllR, idsOf]
  | cons x xs ih =>
    intro n ids
    simp only [List.cons_append, AllR, idsOf, ih, List.length_cons, and_assoc]
    have e : n + 1 + xs.length = n + (xs.length + 1) := by omega
    rw [e]
theorem idsOf_append {a b : List Pl} : ∀ {ids : List Int}, idsOf ids (a ++ b) = idsOf (idsOf ids a) b := by
  induction a with
  | nil => intro ids; rfl
  | cons x xs ih => intro ids; simp only [List.cons_append, idsOf, ih]
theorem AllR_len {a : List Pl} : ∀ {n : Nat} {ids : List Int}, AllR n ids a → n ≤ 256 → n + a.length ≤ 256 := by
  induction a with
  | nil => intro n ids _ h; simpa using h
  | cons x xs ih =>
    intro n ids h _
    obtain ⟨⟨_, h1, _⟩, h2⟩ := h
    have := ih h2 (by omega)
    simp only [List.length_cons]; omega
theorem idsOf_len {a : List Pl} : ∀ {ids : List Int}, (idsOf ids a).length ≤ ids.length + a.length := by
  induction a with
  | nil => intro ids; simp [idsOf]
  | cons x xs ih =>
    intro ids
    have := ih (ids := nextIds ids x.f)
    have h2 : (nextIds ids x.f).length ≤ ids.length + 1 := by unfold nextIds; split <;> simp
    simp only [idsOf, List.length_cons]; omega
theorem places_ahead {f : Fld} {d : Nat} {ahead : List Fld} {ins : Bool} {n : Nat} {ids : List Int} : AllR n ids (f.places d ahead ins) ↔ (∀ g ∈ ahead, g.name ≠ f.name) ∧ AllR n ids (f.places d [] ins) := by
  obtain ⟨nm, nul, k, w, id, ix, cs⟩ := f
  simp only [Fld.places, AllR, Right, List.not_mem_nil]
  constructor
  · rintro ⟨⟨a, b, c, e, r⟩, q⟩; exact ⟨e, ⟨a, b, c, by simp, r⟩, q⟩
  · rintro ⟨e, ⟨a, b, c, _, r⟩, q⟩; exact ⟨⟨a, b, c, e, r⟩, q⟩
theorem places_len {f : Fld} {d : Nat} {ahead : List Fld} {ins : Bool} : (f.places d ahead ins).length = (f.places d [] ins).length := by
  obtain ⟨nm, nul, k, w, id, ix, cs⟩ := f
  simp only [Fld.places, List.length_cons]
theorem places_ids {f : Fld} {d : Nat} {ahead : List Fld} {ins : Bool} {ids : List Int} : idsOf ids (f.places d ahead ins) = idsOf ids (f.places d [] ins) := by
  obtain ⟨nm, nul, k, w, id, ix, cs⟩ := f
  simp only [Fld.places, idsOf]
def Apart : List Fld → List Fld → Prop
  | _, [] => True
  | ahead, f :: fs => (∀ g ∈ ahead, g.name ≠ f.name) ∧ Apart (ahead ++ [f]) fs
theorem AllR_L {fs : List Fld} {d : Nat} {ins : Bool} : ∀ {ahead : List Fld} {n : Nat} {ids : List Int}, AllR n ids (placesL d ahead ins fs) ↔ Apart ahead fs ∧ AllR n ids (placesU d ins fs) := by
  induction fs with
  | nil => intro ahead n ids; simp [placesL, placesU, Apart, AllR]
  | cons f fs ih =>
    intro ahead n ids
    simp only [placesL, placesU, Apart, AllR_append, ih, places_ahead (ahead := ahead), places_len (ahead := ahead), places_ids (ahead := ahead)]
    constructor
    · rintro ⟨⟨a, b⟩, c, e⟩; exact ⟨⟨a, c⟩, b, e⟩
    · rintro ⟨⟨a, c⟩, b, e⟩; exact ⟨⟨a, b⟩, c, e⟩
theorem unlike_pw {cs : List Fld} : Unlike cs ↔ cs.Pairwise fun a b => a.name ≠ b.name := by
  rw [List.pairwise_iff_getElem]
  constructor
  · intro u i j hi hj hlt e
    exact u j i _ _ hlt (List.getElem?_eq_getElem hj) (List.getElem?_eq_getElem hi) e.symm
  · intro u i j a b hlt ea eb e
    obtain ⟨hi, rfl⟩ := List.getElem?_eq_some_iff.1 ea
    obtain ⟨hj, rfl⟩ := List.getElem?_eq_some_iff.1 eb
    exact u j i hj hi hlt e.symm
theorem apart_pw {fs : List Fld} : ∀ {ahead : List Fld}, ahead.Pairwise (fun a b => a.name ≠ b.name) → (Apart ahead fs ↔ (ahead ++ fs).Pairwise fun a b => a.name ≠ b.name) := by
  induction fs with
  | nil => intro ahead h; simp [Apart, h]
  | cons f fs ih =>
    intro ahead h
    simp only [Apart]
    have e : ahead ++ f :: fs = (ahead ++ [f]) ++ fs := by simp
    constructor
    · rintro ⟨h1, h2⟩
      have hp : (ahead ++ [f]).Pairwise fun a b => a.name ≠ b.name := List.pairwise_append.2 ⟨h, by simp, fun a ha b hb => by simp only [List.mem_singleton] at hb; subst hb; exact h1 a ha⟩
      rw [e]; exact (ih hp).1 h2
    · intro hp
      rw [e] at hp
      have hp1 := (List.pairwise_append.1 hp).1
      exact ⟨fun g hg => (List.pairwise_append.1 hp1).2.2 g hg f (by simp), (ih hp1).2 hp⟩
theorem AllR_0 {fs : List Fld} {d : Nat} {ins : Bool} {n : Nat} {ids : List Int} : AllR n ids (placesL d [] ins fs) ↔ Unlike fs ∧ AllR n ids (placesU d ins fs) := by
  rw [AllR_L, apart_pw List.Pairwise.nil, List.nil_append, unlike_pw]
theorem placesU_append {a b : List Fld} {d : Nat} {ins : Bool} : placesU d ins (a ++ b) = placesU d ins a ++ placesU d ins b := by
  induction a with
  | nil => rfl
  | cons f fs ih => simp only [List.cons_append, placesU, ih, List.append_assoc]
end Go.Proofs.YtfomkkdijjfpiaaDoor
/- The document's asking of a field. -/
namespace Go.Proofs.YtfomkkdijjfpiaaDoor
open Go Go.Sh Go.WideShapes
/-- what may turn: a cell of one's own, and numbers from lo on -/
def SX (p lo : Nat) (h : Hp) : Nat → Prop := fun b => b = p ∨ (lo ≤ b ∧ ∃ cs, Blk h b cs 3)
theorem SX.trans {p lo : Nat} {a b c : Hp} (x : Tn (SX p lo a) a b) (y : Tn (SX p lo b) b c) : Tn (SX p lo a) a c := by
  refine x.trans' y ?_
  intro d hd hlt
  by_cases hw : SX p lo a d
  · exact hw
  · rcases hd with hd | ⟨h1, cs, hb⟩
    · exact .inl hd
    · exact .inr ⟨h1, cs, (x.2 d hlt hw).symm.trans hb⟩
theorem SX.grw {p lo : Nat} {a b c : Hp} (x : Grw a b) (y : Tn (SX p lo b) b c) : Tn (SX p lo a) a c := SX.trans (Tn.of_grw x) y
theorem SX.grw' {p lo : Nat} {a b c : Hp} (x : Tn (SX p lo a) a b) (y : Grw b c) : Tn (SX p lo a) a c := SX.trans x (Tn.of_grw y)
theorem SX.old {p lo : Nat} {h0 h h' : Hp} (hp : h0.size ≤ p) (w : p < lo) (g : Grw h0 h) (f : Tn (SX p lo h) h h') : Grw h0 h' := by
  refine ⟨Nat.le_trans g.1 f.1, fun c hc => (f.2 c (Nat.lt_of_lt_of_le hc g.1) ?_).trans (g.2 c hc)⟩
  rintro (h1 | ⟨h1, _⟩) <;> omega
theorem SX.not {p lo b : Nat} {h : Hp} {cs : Array Value} {el : TypeId} (k : Blk h b cs el) (hb : b ≠ p) (he : el ≠ 3) : ¬ SX p lo h b := by
  rintro (h1 | ⟨_, cs', k'⟩)
  · exact hb h1
  · have e := k.symm.trans k'
    simp only [Option.some.injEq, Obj.cells.injEq] at e
    exact he e.2.1
def iv (l : List Int) : List Value := l.map (Value.int .i64)
/-- what is known of the fields gone through -/
structure Seen (p lo : Nat) (h : Hp) (n : Nat) (ids : List Int) : Prop where
  ex : ∃ s, Blk h p #[.int .i64 n, Sl.v s] 96 ∧ Sh lo h.size 1 h s (iv ids) 3
  lt : p < lo
  le : lo ≤ h.size
theorem Seen.keep {p lo n : Nat} {h h' : Hp} {ids : List Int} (w : Seen p lo h n ids) (g : Grw h h') : Seen p lo h' n ids := by
  obtain ⟨s, k, o⟩ := w.ex
  exact ⟨⟨s, (g.2 p k.lt).trans k, (o.grw g).wide (Nat.le_refl _) g.1⟩, w.lt, by have := w.le; have := g.1; omega⟩
theorem Sh.at3 {lo : Nat} {h : Hp} {s : Sl} {vs : List Value} {el : TypeId} (o : Sh lo h.size 1 h s vs el) {c : Nat} (hc : s.at c) : lo ≤ c ∧ ∃ cs, Blk h c cs el := by
  rcases o with ⟨rfl, _⟩ | ⟨b, hb1, hb2, ob⟩
  · exact absurd hc (Sl.at_nil c)
  · obtain ⟨a, ha, hb⟩ := hc
    obtain ⟨e, _, cs, kb, _⟩ := ob
    rw [e] at ha; cases ha; simp only at hb; subst hb
    exact ⟨hb1, cs, kb⟩
abbrev B61 (h : Hp) (b : Nat) (k w id ix : Int) (s : Sl) : Prop := Blk h b #[.int .i64 k, .int .i64 w, .int .i64 id, .int .i64 ix, Sl.v s] 61
def SeenC : Fld → Prop
  | .mk nm nul k w id ix cs => ∀ {p lo n : Nat} {h0 h : Hp} {ids : List Int} {d : Nat} {ins : Bool} {s : Sl} {K : Bool → Hp → Prop} {Kp : List PanicEntry → Hp → Prop}, h0.size ≤ p → Grw h0 h → FsH h0 s cs → Seen p lo h n ids → n ≤ 256 → ids.length ≤ n → d ≤ 65 →
      (∀ b h', (b = true ↔ AllR n ids ((Fld.mk nm nul k w id ix cs).places d [] ins)) → Tn (SX p lo h) h h' → (b = true → Seen p lo h' (n + ((Fld.mk nm nul k w id ix cs).places d [] ins).length) (idsOf ids ((Fld.mk nm nul k w id ix cs).places d [] ins))) → K b h') →
      Fn52 (some ⟨p, 0, none⟩) nm nul k w id ix s (d : Int) ins h K Kp
theorem seenL_c {cs : List Fld} (IH : ∀ f ∈ cs, SeenC f) {p lo n b1 : Nat} {h0 h : Hp} {ids : List Int} {d : Nat} {ins : Bool} {s : Sl} {k w id ix : Int} {K : Bool → Hp → Prop} {Kp : List PanicEntry → Hp → Prop} (hp : h0.size ≤ p) (g : Grw h0 h) (hs : FsH h0 s cs) (hc : cs.length ≤ 32) (sn : Seen p lo h n ids) (hn : n ≤ 256) (hids : ids.length ≤ n)
    (hd : d ≤ 64) (k1 : B61 h b1 k w id ix s) (nb : b1 ≠ p)
    (hk : ∀ b h', (b = true ↔ AllR n ids (placesU (d + 1) ins cs)) → Tn (SX p lo h) h h' → (b = true → Seen p lo h' (n + (placesU (d + 1) ins cs).length) (idsOf ids (placesU (d + 1) ins cs))) → K b h') : L52_3 (some ⟨p, 0, none⟩) (d : Int) ins ⟨b1, 0, none⟩ K Kp 0 h := by
  have hsn := hs.n
  refine L52_3.rule (fun x h' => ∃ i : Nat, x = (i : Int) ∧ i ≤ cs.length ∧ Tn (SX p lo h) h h' ∧ Seen p lo h' (n + (placesU (d + 1) ins (cs.take i)).length) (idsOf ids (placesU (d + 1) ins (cs.take i))) ∧ AllR n ids (placesU (d + 1) ins (cs.take i)) ∧ B61 h' b1 k w id ix s) (fun x _ => cs.length - x.toNat)
    ⟨0, rfl, by omega, Tn.refl _ _, by simpa [placesU, idsOf] using sn, by simp [placesU, AllR], k1⟩ ?_
  rintro x h1 ⟨i, rfl, hi, f1, sn1, a1, k1⟩ N1 hN
  unfold T52_3
  simp only [add_blk, Nat.reduceAdd]
  refine Ld_blk k1 rfl ?_
  refine If_i (fun c => ?_) fun c => ?_
  · refine Ld_blk k1 rfl ?_
    simp only [decide_eq_true_eq, decide_eq_false_iff_not, beq_iff_eq, beq_eq_false_iff_ne, ne_eq, reduceCtorEq, true_iff, false_iff, Bool.not_eq_true', Bool.not_eq_false', bne_iff_ne, bne_eq_false_iff_eq, Bool.not_true, Bool.not_false, Decidable.not_not] at c
    have hi' : i < cs.length := by omega
    have hj : cs[i]? = some cs[i] := List.getElem?_eq_getElem hi'
    have htk : cs.take (i + 1) = cs.take i ++ [cs[i]] := List.take_succ_eq_append_getElem hi'
    have hall : cs = cs.take i ++ (cs[i] :: cs.drop (i + 1)) := by rw [← List.drop_eq_getElem_cons hi', List.take_append_drop]
    have hmem : cs[i] ∈ cs := List.getElem_mem hi'
    generalize cs[i] = f at hj htk hall hmem
    refine hs.ix rfl hj fun a ha => ?_
    have IHf := IH f hmem
    obtain ⟨u, hu, c0, c1, c2, c3, c4, c5, c6⟩ := ha.cells
    have G := SX.old hp sn.lt g f1
    refine ⟨_, G.cell c0, _, G.cell c1, _, G.cell c2, _, G.cell c3, _, G.cell c4, _, G.cell c5, _, G.cell c6, ?_⟩
    refine Wr_i64 (by omega) (by omega) ?_
    have hlen := AllR_len a1 hn
    have hil := idsOf_len (a := placesU (d + 1) ins (cs.take i)) (ids := ids)
    have e1 : placesU (d + 1) ins (cs.take (i + 1)) = placesU (d + 1) ins (cs.take i) ++ f.places (d + 1) [] ins := by rw [htk, placesU_append]; simp [placesU]
    have e2 : placesU (d + 1) ins cs = placesU (d + 1) ins (cs.take i) ++ (f.places (d + 1) [] ins ++ placesU (d + 1) ins (cs.drop (i + 1))) := by
      have q := congrArg (placesU (d + 1) ins) hall
      rw [q, placesU_append]; simp [placesU]
    obtain ⟨fn, fnul, fk, fw, fid, fix, fcs⟩ := f
    have := IHf (K := fun b h' => If (!b) (K false h') (Wr .i64 ((i : Int) + 1) fun t117 => N1 (mk52_3 (some ⟨p, 0, none⟩) (d : Int) ins ⟨b1, 0, none⟩ t117) h')) (Kp := Kp) (d := d + 1) (ins := ins) hp G hu sn1 hlen (by omega) (by omega) fun b h2 hb f2 hs2 => ?_
    · exact this
    · cases b
      · refine If_t rfl (hk false h2 ⟨by simp, fun q => ?_⟩ (SX.trans f1 f2) (by simp))
        rw [e2, AllR_append, AllR_append] at q
        exact absurd (hb.2 q.2.1) (by simp)
      · refine If_f rfl (Wr_i64 (by omega) (by omega) ?_)
        have hb := hb.1 rfl
        have s2 := hs2 rfl
        refine hN _ _ ⟨i + 1, by simp, by omega, SX.trans f1 f2, ?_, ?_, f2.blk k1 (SX.not k1 nb (show (61 : Nat) ≠ 3 by decide))⟩ (by omega)
        · rw [e1, List.length_append, idsOf_append, ← Nat.add_assoc]; exact s2
        · rw [e1, AllR_append]; exact ⟨a1, hb⟩
  · simp only [decide_eq_true_eq, decide_eq_false_iff_not, beq_iff_eq, beq_eq_false_iff_ne, ne_eq, reduceCtorEq, true_iff, false_iff, Bool.not_eq_true', Bool.not_eq_false', bne_iff_ne, bne_eq_false_iff_eq, Bool.not_true, Bool.not_false, Decidable.not_not] at c
    have : i = cs.length := by omega
    subst this
    rw [List.take_length] at a1 sn1
    exact hk true h1 ⟨fun _ => a1, fun _ => rfl⟩ f1 fun _ => sn1
theorem seen2_c {cs : List Fld} (IH : ∀ f ∈ cs, SeenC f) {p lo n b1 : Nat} {h0 h : Hp} {ids : List Int} {d : Nat} {ins : Bool} {s : Sl} {k w id ix : Int} {K : Bool → Hp → Prop} {Kp : List PanicEntry → Hp → Prop} (hp : h0.size ≤ p) (g : Grw h0 h) (hs : FsH h0 s cs) (hc : cs.length ≤ 32) (sn : Seen p lo h n ids) (hn : n ≤ 256) (hids : ids.length ≤ n)
    (hd : d ≤ 64) (k1 : B61 h b1 k w id ix s) (nb : b1 ≠ p)
    (hk : ∀ b h', (b = true ↔ AllR n ids (placesL (d + 1) [] ins cs)) → Tn (SX p lo h) h h' → (b = true → Seen p lo h' (n + (placesU (d + 1) ins cs).length) (idsOf ids (placesU (d + 1) ins cs))) → K b h') : J52_2 (some ⟨p, 0, none⟩) (d : Int) ins ⟨b1, 0, none⟩ K Kp h := by
  refine J52_2.of ?_
  unfold JT52_2
  simp only [add_blk, Nat.reduceAdd]
  refine Ld_blk k1 rfl ?_
  refine unlike_c g hs (by omega) fun b hb => ?_
  rw [AllR_0] at hk
  cases b
  · exact If_t rfl (hk false h ⟨by simp, fun q => absurd (hb.2 q.1) (by simp)⟩ (Tn.refl _ _) (by simp))
  · refine If_f rfl ?_
    refine seenL_c IH hp g hs hc sn hn hids hd k1 nb fun b h' hb' f s' => hk b h' ?_ f s'
    rw [hb']
    exact ⟨fun q => ⟨hb.1 rfl, q⟩, fun q => q.2⟩
theorem L_len {fs : List Fld} {d : Nat} {ins : Bool} : ∀ {ahead : List Fld}, (placesL d ahead ins fs).length = (placesU d ins fs).length := by
  induction fs with
  | nil => intro ahead; rfl
  | cons f fs ih => intro ahead; simp only [placesL, placesU, List.length_append, ih, places_len (ahead := ahead)]
theorem L_ids {fs : List Fld} {d : Nat} {ins : Bool} : ∀ {ahead : List Fld} {ids : List Int}, idsOf ids (placesL d ahead ins fs) = idsOf ids (placesU d ins fs) := by
  induction fs with
  | nil => intro ahead ids; rfl
  | cons f fs ih => intro ahead ids; simp only [placesL, placesU, idsOf_append, ih, places_ids (ahead := ahead)]
end Go.Proofs.YtfomkkdijjfpiaaDoor
/- The document's asking of a field, the whole. -/
namespace Go.Proofs.YtfomkkdijjfpiaaDoor
open Go Go.Sh Go.WideShapes
theorem NN_some {a : Addr} {K : Addr → Prop} : NN (some a) K = K a := rfl
theorem places_cons {nm : ByteArray} {nul : Bool} {k w id ix : Int} {cs : List Fld} {d : Nat} {ins : Bool} (hd : d ≤ 64) : (Fld.mk nm nul k w id ix cs).places d [] ins = ⟨d, [], .mk nm nul k w id ix cs, ins⟩ :: placesL (d + 1) [] (ins || k == 19) cs := by
  unfold Fld.places; rw [if_pos (by omega)]
theorem seen_step {nm : ByteArray} {nul : Bool} {k w id ix : Int} {cs : List Fld} (IH : ∀ f ∈ cs, SeenC f) : SeenC (.mk nm nul k w id ix cs) := by
  intro p lo n h0 h ids d ins s K Kp hp g hs sn hn hids hd hk
  have hsn := hs.n
  obtain ⟨si, kp, oi⟩ := sn.ex
  have hplt := sn.lt
  have hle := sn.le
  refine Fn52.of ?_
  unfold S52
  simp only [NN_some]
  refine New_i fun b5 h1 e5 g1 k5 _ => ?_
  have kp := kp.grw g1
  have nb5 : b5 ≠ p := by omega
  refine Ld_blk kp rfl (Wr_i64 (by omega) (by omega) ?_)
  refine St_i (b := p) (i := 0) kp (by simp) rfl fun h2 o2 kp => ?_
  have f2 : Tn (SX p lo h) h h2 := SX.grw g1 (o2.fr.mono fun c hc _ => .inl hc)
  have k5 := o2.blk k5 nb5
  have oi2 : Sh lo h2.size 1 h2 si (iv ids) 3 := by
    have := (oi.grw g1).wide (lo' := lo) (hi' := h1.size) (Nat.le_refl _) g1.1
    exact (this.fr o2.fr fun b hb _ e => by omega).wide (Nat.le_refl _) (by rw [o2.1]; exact Nat.le_refl _)
  have sn2 : Seen p lo h2 (n + 1) ids := ⟨⟨si, by simpa using kp, oi2⟩, hplt, by have := f2.1; omega⟩
  clear kp oi o2 oi2

  refine Ld_blk k5 rfl ?_
  refine rnamed_c fun b hb => ?_
  have hF : ¬ AllR n ids ((Fld.mk nm nul k w id ix cs).places d [] ins) → ∀ h', Tn (SX p lo h) h h' → K false h' := fun q h' f => hk false h' ⟨by simp, fun x => (q x).elim⟩ f (by simp)
  have hF' : ¬ Right n ids ⟨d, [], .mk nm nul k w id ix cs, ins⟩ → ∀ h', Tn (SX p lo h) h h' → K false h' := fun q => hF fun x => by unfold Fld.places at x; exact q x.1
  cases b
  · refine If_t rfl ?_
    refine J52_7.of ?_
    unfold JT52_7
    refine If_t rfl (hF' (fun q => absurd (hb.2 q.2.2.1) (by simp)) h2 f2)
  have hname := hb.1 rfl
  clear hb
  refine If_f rfl ?_
  obtain ⟨s2, kp2, _⟩ := sn2.ex
  refine Ld_blk kp2 rfl ?_
  refine J52_7.of ?_
  unfold JT52_7
  refine If_i (fun c => ?_) fun c => ?_
  · simp only [decide_eq_true_eq, decide_eq_false_iff_not, beq_iff_eq, beq_eq_false_iff_ne, ne_eq, reduceCtorEq, true_iff, false_iff, Bool.not_eq_true', Bool.not_eq_false', bne_iff_ne, bne_eq_false_iff_eq, Bool.not_true, Bool.not_false, Decidable.not_not] at c
    exact hF' (fun q => by have := q.2.1; omega) h2 f2
  refine If_i (fun c2 => ?_) fun c2 => ?_
  · simp only [decide_eq_true_eq, decide_eq_false_iff_not, beq_iff_eq, beq_eq_false_iff_ne, ne_eq, reduceCtorEq, true_iff, false_iff, Bool.not_eq_true', Bool.not_eq_false', bne_iff_ne, bne_eq_false_iff_eq, Bool.not_true, Bool.not_false, Decidable.not_not] at c2
    exact hF' (fun q => by have := q.1; simp only at this; omega) h2 f2
  simp only [decide_eq_true_eq, decide_eq_false_iff_not, beq_iff_eq, beq_eq_false_iff_ne, ne_eq, reduceCtorEq, true_iff, false_iff, Bool.not_eq_true', Bool.not_eq_false', bne_iff_ne, bne_eq_false_iff_eq, Bool.not_true, Bool.not_false, Decidable.not_not] at c c2
  refine J52_1.of ?_
  unfold JT52_1
  simp only [add_blk, Nat.reduceAdd]
  refine Ld_blk k5 rfl (Ld_blk k5 rfl (Ld_blk k5 rfl (Ld_blk k5 rfl (Ld_blk k5 rfl ?_))))
  have lc := SyH.start No h2
  refine lc.new fun b10 _ hb10 _ lc => ?_
  repeat (first | refine lc.ldo 0 rfl rfl ?_ | refine lc.ld 0 rfl rfl ?_ | refine lc.ldo 1 rfl rfl ?_ | refine lc.ld 1 rfl rfl ?_ | refine lc.ldo 2 rfl rfl ?_ | refine lc.ld 2 rfl rfl ?_ | refine lc.ldo 3 rfl rfl ?_ | refine lc.ld 3 rfl rfl ?_ | refine lc.ldo 4 rfl rfl ?_ | refine lc.ld 4 rfl rfl ?_ | refine lc.ldo 5 rfl rfl ?_ | refine lc.ld 5 rfl rfl ?_ | refine lc.ldo 6 rfl rfl ?_ | refine lc.ld 6 rfl rfl ?_ | (refine lc.sto 0 rfl rfl rfl fun _ _ lc => ?_; simp only [Nat.zero_add, List.set_cons_zero, List.set_cons_succ, List.setIfInBounds_toArray] at lc) | (refine lc.st 0 rfl rfl rfl fun _ _ lc => ?_; simp only [Nat.zero_add, List.set_cons_zero, List.set_cons_succ, List.setIfInBounds_toArray] at lc) | (refine lc.sto 1 rfl rfl rfl fun _ _ lc => ?_; simp only [Nat.zero_add, List.set_cons_zero, List.set_cons_succ, List.setIfInBounds_toArray] at lc) | (refine lc.st 1 rfl rfl rfl fun _ _ lc => ?_; simp only [Nat.zero_add, List.set_cons_zero, List.set_cons_succ, List.setIfInBounds_toArray] at lc) | (refine lc.sto 2 rfl rfl rfl fun _ _ lc => ?_; simp only [Nat.zero_add, List.set_cons_zero, List.set_cons_succ, List.setIfInBounds_toArray] at lc) | (refine lc.st 2 rfl rfl rfl fun _ _ lc => ?_; simp only [Nat.zero_add, List.set_cons_zero, List.set_cons_succ, List.setIfInBounds_toArray] at lc) | (refine lc.sto 3 rfl rfl rfl fun _ _ lc => ?_; simp only [Nat.zero_add, List.set_cons_zero, List.set_cons_succ, List.setIfInBounds_toArray] at lc) | (refine lc.st 3 rfl rfl rfl fun _ _ lc => ?_; simp only [Nat.zero_add, List.set_cons_zero, List.set_cons_succ, List.setIfInBounds_toArray] at lc) | (refine lc.sto 4 rfl rfl rfl fun _ _ lc => ?_; simp only [Nat.zero_add, List.set_cons_zero, List.set_cons_succ, List.setIfInBounds_toArray] at lc) | (refine lc.st 4 rfl rfl rfl fun _ _ lc => ?_; simp only [Nat.zero_add, List.set_cons_zero, List.set_cons_succ, List.setIfInBounds_toArray] at lc) | (refine lc.sto 5 rfl rfl rfl fun _ _ lc => ?_; simp only [Nat.zero_add, List.set_cons_zero, List.set_cons_succ, List.setIfInBounds_toArray] at lc) | (refine lc.st 5 rfl rfl rfl fun _ _ lc => ?_; simp only [Nat.zero_add, List.set_cons_zero, List.set_cons_succ, List.setIfInBounds_toArray] at lc) | (refine lc.sto 6 rfl rfl rfl fun _ _ lc => ?_; simp only [Nat.zero_add, List.set_cons_zero, List.set_cons_succ, List.setIfInBounds_toArray] at lc) | (refine lc.st 6 rfl rfl rfl fun _ _ lc => ?_; simp only [Nat.zero_add, List.set_cons_zero, List.set_cons_succ, List.setIfInBounds_toArray] at lc) | refine lc.ldo 0 (x := Sl.nil) rfl rfl ?_ | refine lc.ld 0 (x := Sl.nil) rfl rfl ?_ | refine lc.ldo 1 (x := Sl.nil) rfl rfl ?_ | refine lc.ld 1 (x := Sl.nil) rfl rfl ?_ | refine lc.ldo 2 (x := Sl.nil) rfl rfl ?_ | refine lc.ld 2 (x := Sl.nil) rfl rfl ?_ | refine lc.ldo 3 (x := Sl.nil) rfl rfl ?_ | refine lc.ld 3 (x := Sl.nil) rfl rfl ?_ | refine lc.ldo 4 (x := Sl.nil) rfl rfl ?_ | refine lc.ld 4 (x := Sl.nil) rfl rfl ?_ | refine lc.ldo 5 (x := Sl.nil) rfl rfl ?_ | refine lc.ld 5 (x := Sl.nil) rfl rfl ?_ | refine lc.ldo 6 (x := Sl.nil) rfl rfl ?_ | refine lc.ld 6 (x := Sl.nil) rfl rfl ?_ | refine Wr_i64 (by omega) (by omega) ?_ | refine If_t rfl ?_ | refine If_f rfl ?_)
  have k10 : B61 _ b10 k w id ix s := lc.blk (i := 0) rfl
  have f3 := SX.grw' f2 lc.grw
  have k5 := k5.grw lc.grw
  have sn3 := sn2.keep lc.grw
  have nb10 : b10 ≠ p := by have := sn2.le; omega
  clear lc sn2
  refine rshaped_c fun b h7 g7 hb => ?_
  have f7 := SX.grw' f3 g7
  have k5 := k5.grw g7
  have k10 := k10.grw g7
  have sn7 := sn3.keep g7
  rw [hsn.1] at hb
  clear sn3
  cases b
  · exact If_t rfl (hF' (fun q => absurd (hb.2 q.2.2.2.2.1) (by simp)) h7 f7)
  have hsh := hb.1 rfl
  clear hb
  have G7 := SX.old hp hplt g f7
  have hc32 : cs.length ≤ 32 := by unfold Shaped at hsh; omega
  -- all is right but the last two questions
  have hR : Nulls k nul cs → ¬ (ins = true ∧ (k = 19 ∨ k = 20)) → (k = 19 → (∃ c, cs[0]? = some c ∧ c.nul = false) ∧ id ∉ ids) → Right n ids ⟨d, [], .mk nm nul k w id ix cs, ins⟩ := fun a b e => ⟨by show d ≤ 64; omega, by omega, hname, by simp, hsh, a, b, e⟩
  have fin : ∀ (ins' : Bool) (ids' : List Int) (h8 : Hp), Right n ids ⟨d, [], .mk nm nul k w id ix cs, ins⟩ → ins' = (ins || k == 19) → ids' = nextIds ids (.mk nm nul k w id ix cs) → Tn (SX p lo h) h h8 → Seen p lo h8 (n + 1) ids' → ids'.length ≤ n + 1 → B61 h8 b10 k w id ix s → J52_2 (some ⟨p, 0, none⟩) (d : Int) ins' ⟨b10, 0, none⟩ K Kp h8 := by
    intro ins' ids' h8 hr hi hid f8 sn8 hl k8
    rw [places_cons (by omega)] at hk
    simp only [AllR, idsOf, List.length_cons, L_ids, L_len, ← hi, ← hid] at hk
    refine seen2_c IH hp (SX.old hp hplt g f8) hs hc32 sn8 (by omega) hl (by omega) k8 nb10 fun b h' hb' f s' => hk b h' ?_ (SX.trans f8 f) fun e => ?_
    · rw [hb']; exact ⟨fun q => ⟨hr, q⟩, fun q => q.2⟩
    · have e2 : n + ((placesU (d + 1) ins' cs).length + 1) = n + 1 + (placesU (d + 1) ins' cs).length := by omega
      rw [e2]; exact s' e
  have fin0 : k ≠ 19 → Nulls k nul cs → ¬ (ins = true ∧ (k = 19 ∨ k = 20)) → J52_2 (some ⟨p, 0, none⟩) (d : Int) ins ⟨b10, 0, none⟩ K Kp h7 := fun e a b =>
    fin ins ids h7 (hR a b fun q => absurd q e) (by simp [e]) (by unfold nextIds; rw [if_neg (by simpa [Fld.k] using e)]) f7 sn7 (by omega) k10
  simp only [add_blk, Nat.reduceAdd]
  refine If_f rfl (Ld_blk k10 rfl ?_)
  unfold Nulls at hR fin0
  refine If_i (fun e => ?_) fun e => ?_
  · simp only [decide_eq_true_eq, decide_eq_false_iff_not, beq_iff_eq, beq_eq_false_iff_ne, ne_eq, reduceCtorEq, true_iff, false_iff, Bool.not_eq_true', Bool.not_eq_false', bne_iff_ne, bne_eq_false_iff_eq, Bool.not_true, Bool.not_false, Decidable.not_not] at e
    subst e
    refine Ld_blk k5 rfl ?_
    cases nul
    · exact If_t rfl (hF' (fun q => by have := q.2.2.2.2.2.1.1; simp [Fld.k, Fld.nul] at this) h7 f7)
    · exact If_f rfl (fin0 (by simp) (by simp) (by simp))
  refine If_i (fun e2 => ?_) fun e2 => ?_
  · simp only [decide_eq_true_eq, decide_eq_false_iff_not, beq_iff_eq, beq_eq_false_iff_ne, ne_eq, reduceCtorEq, true_iff, false_iff, Bool.not_eq_true', Bool.not_eq_false', bne_iff_ne, bne_eq_false_iff_eq, Bool.not_true, Bool.not_false, Decidable.not_not] at e2
    subst e2
    refine Ld_blk k5 rfl ?_
    cases nul
    · exact If_f rfl (fin0 (by simp) (by simp) (by simp))
    · exact If_t rfl (hF' (fun q => by have := q.2.2.2.2.2.1.2.1; simp [Fld.k, Fld.nul] at this) h7 f7)
  refine If_i (fun e3 => ?_) fun e3 => ?_
  · simp only [decide_eq_true_eq, decide_eq_false_iff_not, beq_iff_eq, beq_eq_false_iff_ne, ne_eq, reduceCtorEq, true_iff, false_iff, Bool.not_eq_true', Bool.not_eq_false', bne_iff_ne, bne_eq_false_iff_eq, Bool.not_true, Bool.not_false, Decidable.not_not] at e3
    subst e3
    cases ins
    · refine If_f rfl (Ld_blk k5 rfl (Ld_blk k10 rfl ?_))
      obtain ⟨f, hj⟩ : ∃ f, cs[0]? = some f := by
        have hpos : 0 < cs.length := by unfold Shaped at hsh; omega
        exact ⟨cs[0], List.getElem?_eq_getElem hpos⟩
      refine hs.ix rfl hj fun a ha => ?_
      obtain ⟨u, _, _, c1, _⟩ := ha.cells
      refine ⟨_, G7.cell c1, ?_⟩
      refine If_i (fun e4 => ?_) fun e4 => ?_
      · refine hF' (fun q => ?_) h7 f7
        obtain ⟨c, hc, q⟩ := q.2.2.2.2.2.1.2.2 rfl
        simp only [Fld.cs, Fld.nul, hj, Option.some.injEq] at hc q
        subst hc
        cases nul <;> cases hfn : f.nul <;> simp_all [Fld.nul]
      · refine fin0 (by simp) ⟨by simp, by simp, fun _ => ⟨f, hj, ?_⟩⟩ (by simp)
        cases nul <;> cases hfn : f.nul <;> simp_all
    · exact If_t rfl (hF' (fun q => q.2.2.2.2.2.2.1 ⟨rfl, .inr rfl⟩) h7 f7)
  refine If_i (fun e4 => ?_) fun e4 => ?_
  · simp only [decide_eq_true_eq, decide_eq_false_iff_not, beq_iff_eq, beq_eq_false_iff_ne, ne_eq, reduceCtorEq, true_iff, false_iff, Bool.not_eq_true', Bool.not_eq_false', bne_iff_ne, bne_eq_false_iff_eq, Bool.not_true, Bool.not_false, Decidable.not_not] at e4
    subst e4
    cases ins
    · refine If_f rfl (Ld_blk k10 rfl ?_)
      obtain ⟨f, hj⟩ : ∃ f, cs[0]? = some f := by
        have hpos : 0 < cs.length := by unfold Shaped at hsh; omega
        exact ⟨cs[0], List.getElem?_eq_getElem hpos⟩
      refine hs.ix rfl hj fun a ha => ?_
      obtain ⟨u, _, _, c1, _⟩ := ha.cells
      refine ⟨_, G7.cell c1, ?_⟩
      refine If_i (fun e5 => ?_) fun e5 => ?_
      · refine hF' (fun q => ?_) h7 f7
        obtain ⟨c, hc, q⟩ := (q.2.2.2.2.2.2.2 rfl).1
        simp only [Fld.cs, hj, Option.some.injEq] at hc
        subst hc
        simp [e5] at q
      · refine J52_4.of ?_
        unfold JT52_4
        obtain ⟨s9, kp9, o9⟩ := sn7.ex
        have hn9 := o9.n
        have hni : s9.n = ids.length := by simpa [iv] using hn9.symm
        refine L52_6.rule (fun x h' => h' = h7 ∧ ∃ i : Nat, x = i ∧ i ≤ ids.length ∧ ∀ (j : Nat) v, j < i → ids[j]? = some v → v ≠ id) (fun x _ => ids.length - x.toNat) ⟨rfl, 0, rfl, by omega, fun j v hj => by omega⟩ ?_
        rintro x h8 ⟨rfl, i, rfl, hi, hall⟩ N1 hN
        unfold T52_6
        simp only [add_blk, Nat.reduceAdd]
        refine Ld_blk (b := p) (i := 1) kp9 rfl ?_
        refine If_i (fun c3 => ?_) fun c3 => ?_
        · simp only [decide_eq_true_eq, decide_eq_false_iff_not, beq_iff_eq, beq_eq_false_iff_ne, ne_eq, reduceCtorEq, true_iff, false_iff, Bool.not_eq_true', Bool.not_eq_false', bne_iff_ne, bne_eq_false_iff_eq, Bool.not_true, Bool.not_false, Decidable.not_not] at c3
          refine Ld_blk (b := p) (i := 1) kp9 rfl ?_
          have hi' : i < ids.length := by omega
          have ei : ids[i]? = some ids[i] := List.getElem?_eq_getElem hi'
          generalize ids[i] = v at ei
          refine o9.sv.ix (v := .int .i64 v) (by omega) (by omega) (by rw [Int.toNat_natCast, iv, List.getElem?_map, ei]; rfl) fun a9 c9 => ?_
          refine ⟨_, c9, Ld_blk k10 rfl ?_⟩
          refine If_i (fun c4 => ?_) fun c4 => ?_
          · simp only [decide_eq_true_eq, decide_eq_false_iff_not, beq_iff_eq, beq_eq_false_iff_ne, ne_eq, reduceCtorEq, true_iff, false_iff, Bool.not_eq_true', Bool.not_eq_false', bne_iff_ne, bne_eq_false_iff_eq, Bool.not_true, Bool.not_false, Decidable.not_not] at c4
            subst c4
            exact hF' (fun q => (q.2.2.2.2.2.2.2 rfl).2 (List.mem_of_getElem? ei)) h8 f7
          · simp only [decide_eq_true_eq, decide_eq_false_iff_not, beq_iff_eq, beq_eq_false_iff_ne, ne_eq, reduceCtorEq, true_iff, false_iff, Bool.not_eq_true', Bool.not_eq_false', bne_iff_ne, bne_eq_false_iff_eq, Bool.not_true, Bool.not_false, Decidable.not_not] at c4
            refine Wr_i64 (by omega) (by omega) (hN _ _ ⟨rfl, i + 1, by simp, by omega, fun j' v' hlt ej => ?_⟩ (by omega))
            by_cases e : j' = i
            · subst e; rw [ei] at ej; cases ej; exact c4
            · exact hall j' v' (by omega) ej
        · simp only [decide_eq_true_eq, decide_eq_false_iff_not, beq_iff_eq, beq_eq_false_iff_ne, ne_eq, reduceCtorEq, true_iff, false_iff, Bool.not_eq_true', Bool.not_eq_false', bne_iff_ne, bne_eq_false_iff_eq, Bool.not_true, Bool.not_false, Decidable.not_not] at c3
          have hnot : id ∉ ids := fun q => by
            obtain ⟨j, hj⟩ := List.mem_iff_getElem?.1 q
            exact hall j id (by have := (List.getElem?_eq_some_iff.1 hj).1; omega) hj rfl
          refine J52_5.of ?_
          unfold JT52_5
          simp only [NN_some, add_blk, Nat.reduceAdd]
          refine Ld_blk (b := p) (i := 1) kp9 rfl (Ld_blk k10 rfl ?_)
          refine New_i fun b11 h9 e11 g9 k11 _ => ?_
          have kp10 := kp9.grw g9
          refine ⟨fun i hi => by obtain rfl : i = 0 := by omega
                                 rw [add_zero']; show Go.Sh.cell h9 ⟨p, 1, none⟩ = Go.Sh.cell h8 ⟨p, 1, none⟩; rw [cell_blk kp10, cell_blk kp9], ?_⟩
          have o10 := (o9.grw g9).wide (lo' := lo) (hi' := h9.size) (Nat.le_refl _) g9.1
          refine Ap_sh o10 (by have := sn7.le; have := g9.1; omega) rfl (new := [.int .i64 id]) rfl (by simp [one]) (rd_blk k11 rfl) (by omega) (by omega) fun s12 h12 f12 at12 o12 hn12 => ?_
          have hat : ∀ c, s9.at c → SX p lo h9 c := fun c hc => .inr (Sh.at3 o10 hc)
          have hnp : ¬ s9.at p := fun hc => by have := (o10.at hc).1; omega
          have kp12 := f12.blk kp10 hnp
          refine St_i (b := p) (i := 1) kp12 (by simp) rfl fun h13 o13 kp13 => ?_
          have f13 : Tn (SX p lo h) h h13 := SX.trans f7 (SX.grw g9 (SX.trans (f12.mono fun c hc _ => hat c hc) (o13.fr.mono fun c hc _ => .inl hc)))
          have k13 := o13.fr.blk (f12.blk (k10.grw g9) fun hc => absurd (Sh.at3 o10 hc).2 (by
            rintro ⟨cs', k'⟩
            have e := (k10.grw g9).symm.trans k'
            simp at e)) nb10
          refine fin true (ids ++ [id]) h13 (hR (by simp) (by simp) fun _ => ⟨⟨f, hj, by simpa using e5⟩, hnot⟩) (by simp) (by unfold nextIds; rw [if_pos (by rfl)]; rfl) f13 ⟨⟨s12, by simpa using kp13, ?_⟩, hplt, ?_⟩ (by rw [List.length_append]; simp only [List.length_cons, List.length_nil]; omega) k13
          · have := o12.fr o13.fr fun b hb _ e => by omega
            have := this.wide (lo' := lo) (hi' := h13.size) (Nat.le_refl _) (by rw [o13.1]; exact Nat.le_refl _)
            simpa [iv] using this
          · have := sn7.le; have := g9.1; have := f12.1; have := o13.1; omega
    · exact If_t rfl (hF' (fun q => q.2.2.2.2.2.2.1 ⟨rfl, .inl rfl⟩) h7 f7)
  · simp only [decide_eq_true_eq, decide_eq_false_iff_not, beq_iff_eq, beq_eq_false_iff_ne, ne_eq, reduceCtorEq, true_iff, false_iff, Bool.not_eq_true', Bool.not_eq_false', bne_iff_ne, bne_eq_false_iff_eq, Bool.not_true, Bool.not_false, Decidable.not_not] at e e2 e3 e4
    exact fin0 e4 ⟨fun q => absurd q e, fun q => absurd q e2, fun q => absurd q e3⟩ (fun q => by omega)
theorem seen_c : ∀ f : Fld, SeenC f
  | .mk _ _ _ _ _ _ cs => seen_step fun f _ => seen_c f
end Go.Proofs.YtfomkkdijjfpiaaDoor
/- The document's asking of a schema, of a head. -/
namespace Go.Proofs.YtfomkkdijjfpiaaDoor
open Go Go.Sh Go.WideShapes
def MdOk (m : Md) : Prop := m.1.size ≤ 256 ∧ m.2.size ≤ 256
/-- which schemas may be -/
def SchOk (fs : List Fld) (ms : List Md) : Prop := fs.length ≤ 32 ∧ ms.length ≤ 16 ∧ (∀ (j : Nat) m, ms[j]? = some m → MdOk m) ∧ Unlike fs ∧ AllR 0 [] (placesU 1 false fs)
def NdOk (x : Nd) : Prop := 0 ≤ x.1 ∧ x.1 ≤ 4096 ∧ 0 ≤ x.2 ∧ x.2 ≤ x.1
def BfOk (x : Bf) : Prop := 0 ≤ x.1 ∧ x.1 ≤ 4194304 ∧ 0 ≤ x.2.1 ∧ x.2.1 ≤ 4194304 ∧ 0 ≤ x.2.2 ∧ x.2.2 ≤ 4194304
/-- which heads may be -/
def HdOk (H : Hd) : Prop := (H.k = 1 ∧ H.id = 0 ∧ H.de = false ∧ H.rows = 0 ∧ H.press = 0 ∧ H.nodes.length = 0 ∧ H.bufs.length = 0 ∧ SchOk H.fs H.ms) ∨
  ((H.k = 2 ∧ 0 ≤ H.id ∧ H.id ≤ 31 ∨ H.k = 3 ∧ H.id = 0 ∧ H.de = false) ∧ H.fs.length = 0 ∧ H.ms.length = 0 ∧ 0 ≤ H.rows ∧ H.rows ≤ 4096 ∧ 0 ≤ H.press ∧ H.press ≤ 2 ∧ H.nodes.length ≤ 512 ∧ H.bufs.length ≤ 1536 ∧
    (∀ (j : Nat) x, H.nodes[j]? = some x → NdOk x) ∧ (∀ (j : Nat) x, H.bufs[j]? = some x → BfOk x))
/-- a row is reached -/
theorem RsH.ix {α : Type} {row : α → List Value} {h0 : Hp} {s : Sl} {sz : Nat} {l : List α} (hs : RsH h0 s sz (l.map row)) {x : Int} {i : Nat} (hx : x = (i : Int)) {r : α} (hj : l[i]? = some r) {K : Addr → Prop} (hk : ∀ a, Cs h0 a (row r) → K a) : Ix s.a s.n sz x K := by
  obtain ⟨a, ha, hc⟩ := hs.2.2 i (row r) (by rw [List.getElem?_map, hj]; rfl)
  have hi : i < l.length := (List.getElem?_eq_some_iff.1 hj).1
  have hn : s.n = l.length := by simpa using hs.1
  subst hx
  rw [ha]
  exact ⟨by omega, by omega, by rw [Int.toNat_natCast]; exact hk _ hc⟩
theorem Cs.c0 {h : Hp} {a : Addr} {v : Value} {vs : List Value} (c : Cs h a (v :: vs)) : cell h a = some v := by
  have := c 0 _ rfl; rwa [add_zero'] at this
theorem schema_may {fs : List Fld} {ms : List Md} {h0 h : Hp} {s1 s2 : Sl} {K : Bool → Hp → Prop} {Kp : List PanicEntry → Hp → Prop} (g : Grw h0 h) (h1 : FsH h0 s1 fs) (h2 : RsH h0 s2 2 (ms.map mdRow)) (hk : ∀ b h', Grw h h' → (b = true ↔ SchOk fs ms) → K b h') : Fn37 s1 s2 h K Kp := by
  refine Fn37.of ?_
  unfold S37
  have hn1 := h1.n
  have hn2 : s2.n = ms.length := by simpa using h2.1
  refine New_i fun b1 h3 e1 g1 k1 _ => ?_
  have hF : ¬ SchOk fs ms → ∀ h', Grw h h' → K false h' := fun q h' g => hk false h' g ⟨by simp, fun x => (q x).elim⟩
  simp only [add_blk, Nat.reduceAdd]
  refine Ld_blk k1 rfl (If_i (fun c => ?_) fun c => ?_)
  · simp only [decide_eq_true_eq, decide_eq_false_iff_not, beq_iff_eq, beq_eq_false_iff_ne, ne_eq, reduceCtorEq, true_iff, false_iff, Bool.not_eq_true', Bool.not_eq_false', bne_iff_ne, bne_eq_false_iff_eq, Bool.not_true, Bool.not_false, Decidable.not_not] at c
    exact hF (fun q => by have := q.1; omega) _ g1
  refine Ld_blk k1 rfl (If_i (fun c2 => ?_) fun c2 => ?_)
  · simp only [decide_eq_true_eq, decide_eq_false_iff_not, beq_iff_eq, beq_eq_false_iff_ne, ne_eq, reduceCtorEq, true_iff, false_iff, Bool.not_eq_true', Bool.not_eq_false', bne_iff_ne, bne_eq_false_iff_eq, Bool.not_true, Bool.not_false, Decidable.not_not] at c2
    exact hF (fun q => by have := q.2.1; omega) _ g1
  simp only [decide_eq_true_eq, decide_eq_false_iff_not, beq_iff_eq, beq_eq_false_iff_ne, ne_eq, reduceCtorEq, true_iff, false_iff, Bool.not_eq_true', Bool.not_eq_false', bne_iff_ne, bne_eq_false_iff_eq, Bool.not_true, Bool.not_false, Decidable.not_not] at c c2
  refine J37_1.of ?_
  unfold JT37_1
  refine L37_4.rule (fun x h' => h' = h3 ∧ ∃ i : Nat, x = i ∧ i ≤ ms.length ∧ ∀ (j : Nat) v, j < i → ms[j]? = some v → MdOk v) (fun x _ => ms.length - x.toNat) ⟨rfl, 0, rfl, by omega, fun j v hj => by omega⟩ ?_
  rintro x h4 ⟨rfl, i, rfl, hi, hall⟩ N1 hN
  unfold T37_4
  simp only [add_blk, Nat.reduceAdd]
  have G := Grw.trans g g1
  refine Ld_blk k1 rfl (If_i (fun c3 => ?_) fun c3 => ?_)
  · simp only [decide_eq_true_eq, decide_eq_false_iff_not, beq_iff_eq, beq_eq_false_iff_ne, ne_eq, reduceCtorEq, true_iff, false_iff, Bool.not_eq_true', Bool.not_eq_false', bne_iff_ne, bne_eq_false_iff_eq, Bool.not_true, Bool.not_false, Decidable.not_not] at c3
    have hi' : i < ms.length := by omega
    have ei : ms[i]? = some ms[i] := List.getElem?_eq_getElem hi'
    generalize ms[i] = v at ei
    refine Ld_blk k1 rfl (h2.ix rfl ei fun a ha => ?_)
    refine ⟨_, G.cell (Cs.c0 (v := .string v.1) ha), If_i (fun c4 => ?_) fun c4 => ?_⟩
    · simp only [decide_eq_true_eq, decide_eq_false_iff_not, beq_iff_eq, beq_eq_false_iff_ne, ne_eq, reduceCtorEq, true_iff, false_iff, Bool.not_eq_true', Bool.not_eq_false', bne_iff_ne, bne_eq_false_iff_eq, Bool.not_true, Bool.not_false, Decidable.not_not] at c4
      exact hF (fun q => by have := (q.2.2.1 i v ei).1; omega) _ g1
    refine Ld_blk k1 rfl (h2.ix rfl ei fun a ha => ?_)
    refine ⟨_, G.cell (ha 1 _ rfl), If_i (fun c5 => ?_) fun c5 => ?_⟩
    · simp only [decide_eq_true_eq, decide_eq_false_iff_not, beq_iff_eq, beq_eq_false_iff_ne, ne_eq, reduceCtorEq, true_iff, false_iff, Bool.not_eq_true', Bool.not_eq_false', bne_iff_ne, bne_eq_false_iff_eq, Bool.not_true, Bool.not_false, Decidable.not_not] at c5
      exact hF (fun q => by have := (q.2.2.1 i v ei).2; omega) _ g1
    simp only [decide_eq_true_eq, decide_eq_false_iff_not, beq_iff_eq, beq_eq_false_iff_ne, ne_eq, reduceCtorEq, true_iff, false_iff, Bool.not_eq_true', Bool.not_eq_false', bne_iff_ne, bne_eq_false_iff_eq, Bool.not_true, Bool.not_false, Decidable.not_not] at c4 c5
    refine Wr_i64 (by omega) (by omega) (hN _ _ ⟨rfl, i + 1, by simp, by omega, fun j' v' hlt ej => ?_⟩ (by omega))
    by_cases e : j' = i
    · subst e; rw [ei] at ej; cases ej; exact ⟨by omega, by omega⟩
    · exact hall j' v' (by omega) ej
  · simp only [decide_eq_true_eq, decide_eq_false_iff_not, beq_iff_eq, beq_eq_false_iff_ne, ne_eq, reduceCtorEq, true_iff, false_iff, Bool.not_eq_true', Bool.not_eq_false', bne_iff_ne, bne_eq_false_iff_eq, Bool.not_true, Bool.not_false, Decidable.not_not] at c3
    have hms : ∀ (j : Nat) m, ms[j]? = some m → MdOk m := fun j v ej => hall j v (by have := (List.getElem?_eq_some_iff.1 ej).1; omega) ej
    refine J37_2.of ?_
    unfold JT37_2
    refine Ld_blk k1 rfl (unlike_c G h1 (by omega) fun b hb => ?_)
    cases b
    · exact If_t rfl (hF (fun q => absurd (hb.2 q.2.2.2.1) (by simp)) _ g1)
    refine If_f rfl (New_i fun p h5 ep g5 kp e5 => ?_)
    have hun := hb.1 rfl
    clear hb
    have hk : ∀ b h', Grw h h' → (b = true ↔ AllR 0 [] (placesU 1 false fs)) → K b h' := fun b h' g q => hk b h' g (q.trans ⟨fun x => ⟨by omega, by omega, hms, hun, x⟩, fun x => x.2.2.2.2⟩)
    have G5 := Grw.trans g1 g5
    have hp : h.size ≤ p := by rw [ep]; exact g1.1
    have hb1 := k1.lt
    have nb1 : b1 ≠ p := by omega
    have sn : Seen p (p + 1) h5 0 [] := ⟨⟨Sl.nil, kp, Sh.nil _ _ _ _ _⟩, Nat.lt_succ_self _, by omega⟩
    have k1 := k1.grw g5
    have back : ∀ {h'}, Tn (SX p (p + 1) h5) h5 h' → Grw h h' := fun f => SX.old hp (Nat.lt_succ_self _) G5 f
    refine L37_3.rule (fun x h' => ∃ i : Nat, x = (i : Int) ∧ i ≤ fs.length ∧ Tn (SX p (p + 1) h5) h5 h' ∧ Seen p (p + 1) h' (0 + (placesU 1 false (fs.take i)).length) (idsOf [] (placesU 1 false (fs.take i))) ∧ AllR 0 [] (placesU 1 false (fs.take i)) ∧ Blk h' b1 #[Sl.v s1, Sl.v s2] 25) (fun x _ => fs.length - x.toNat)
      ⟨0, rfl, by omega, Tn.refl _ _, by simpa [placesU, idsOf] using sn, by simp [placesU, AllR], k1⟩ ?_
    rintro x h6 ⟨i, rfl, hi, f1, sn1, a1, k1⟩ N1 hN
    unfold T37_3
    refine Ld_blk k1 rfl (If_i (fun c => ?_) fun c => ?_)
    · simp only [decide_eq_true_eq, decide_eq_false_iff_not, beq_iff_eq, beq_eq_false_iff_ne, ne_eq, reduceCtorEq, true_iff, false_iff, Bool.not_eq_true', Bool.not_eq_false', bne_iff_ne, bne_eq_false_iff_eq, Bool.not_true, Bool.not_false, Decidable.not_not] at c
      have hi' : i < fs.length := by omega
      have hj : fs[i]? = some fs[i] := List.getElem?_eq_getElem hi'
      have htk : fs.take (i + 1) = fs.take i ++ [fs[i]] := List.take_succ_eq_append_getElem hi'
      have hall : fs = fs.take i ++ (fs[i] :: fs.drop (i + 1)) := by rw [← List.drop_eq_getElem_cons hi', List.take_append_drop]
      generalize fs[i] = f at hj htk hall
      refine Ld_blk k1 rfl (h1.ix rfl hj fun a ha => ?_)
      obtain ⟨u, hu, c0, c1, c2, c3, c4, c5, c6⟩ := ha.cells
      have G6 := Grw.trans g (back f1)
      refine ⟨_, G6.cell c0, _, G6.cell c1, _, G6.cell c2, _, G6.cell c3, _, G6.cell c4, _, G6.cell c5, _, G6.cell c6, ?_⟩
      have hlen := AllR_len a1 (by omega)
      have hil := idsOf_len (a := placesU 1 false (fs.take i)) (ids := [])
      simp only [List.length_nil] at hil
      have e1 : placesU 1 false (fs.take (i + 1)) = placesU 1 false (fs.take i) ++ f.places 1 [] false := by rw [htk, placesU_append]; simp [placesU]
      have e2 : placesU 1 false fs = placesU 1 false (fs.take i) ++ (f.places 1 [] false ++ placesU 1 false (fs.drop (i + 1))) := by
        have q := congrArg (placesU 1 false) hall
        rw [q, placesU_append]; simp [placesU]
      have IHf := seen_c f
      obtain ⟨fn, fnul, fk, fw, fid, fix, fcs⟩ := f
      have := IHf (K := fun b h' => If (!b) (K false h') (Wr .i64 ((i : Int) + 1) fun t117 => N1 (mk37_3 ⟨b1, 0, none⟩ ⟨p, 0, none⟩ t117) h')) (Kp := Kp) (d := 1) (ins := false) (Nat.le_trans g.1 hp) G6 hu sn1 hlen (by omega) (by omega) fun b h2 hb f2 hs2 => ?_
      · exact this
      · cases b
        · refine If_t rfl (hk false h2 (back (SX.trans f1 f2)) ⟨by simp, fun q => ?_⟩)
          rw [e2, AllR_append, AllR_append] at q
          exact absurd (hb.2 q.2.1) (by simp)
        · refine If_f rfl (Wr_i64 (by omega) (by omega) ?_)
          have hb := hb.1 rfl
          have s2 := hs2 rfl
          refine hN _ _ ⟨i + 1, by simp, by omega, SX.trans f1 f2, ?_, ?_, f2.blk k1 (SX.not k1 nb1 (show (25 : Nat) ≠ 3 by decide))⟩ (by omega)
          · rw [e1, List.length_append, idsOf_append, ← Nat.add_assoc]; exact s2
          · rw [e1, AllR_append]; exact ⟨a1, hb⟩
    · simp only [decide_eq_true_eq, decide_eq_false_iff_not, beq_iff_eq, beq_eq_false_iff_ne, ne_eq, reduceCtorEq, true_iff, false_iff, Bool.not_eq_true', Bool.not_eq_false', bne_iff_ne, bne_eq_false_iff_eq, Bool.not_true, Bool.not_false, Decidable.not_not] at c
      have : i = fs.length := by omega
      subst this
      rw [List.take_length] at a1
      exact hk true h6 (back f1) ⟨fun _ => a1, fun _ => rfl⟩
end Go.Proofs.YtfomkkdijjfpiaaDoor
/- The document's asking of a head. -/
namespace Go.Proofs.YtfomkkdijjfpiaaDoor
open Go Go.Sh Go.WideShapes
theorem slotL_c {bufs : List Bf} {h0 h : Hp} {b1 : Nat} {k id rows press : Int} {s1 s2 s7 s8 : Sl} {de : Bool} {K : Bool → Hp → Prop} {Kp : List PanicEntry → Hp → Prop} (g : Grw h0 h) (hs : RsH h0 s8 3 (bufs.map bfRow)) (k1 : B9 h b1 k s1 s2 id de rows press s7 s8) (hl : bufs.length ≤ 1536)
    (hk : ∀ b h', Grw h h' → (b = true ↔ ∀ (j : Nat) x, bufs[j]? = some x → BfOk x) → K b h') : L16_6 ⟨b1, 0, none⟩ K Kp 0 h := by
  have hn : s8.n = bufs.length := by simpa using hs.1
  refine L16_6.rule (fun x h' => ∃ i : Nat, x = i ∧ i ≤ bufs.length ∧ Grw h h' ∧ ∀ (j : Nat) v, j < i → bufs[j]? = some v → BfOk v) (fun x _ => bufs.length - x.toNat) ⟨0, rfl, by omega, Grw.refl _, fun j v hj => by omega⟩ ?_
  rintro x h1 ⟨i, rfl, hi, g1, hall⟩ N1 hN
  have k1 := k1.grw g1
  unfold T16_6
  simp only [add_blk, Nat.reduceAdd]
  refine Ld_blk k1 rfl (If_i (fun c => ?_) fun c => ?_)
  · simp only [decide_eq_true_eq, decide_eq_false_iff_not, beq_iff_eq, beq_eq_false_iff_ne, ne_eq, reduceCtorEq, true_iff, false_iff, Bool.not_eq_true', Bool.not_eq_false', bne_iff_ne, bne_eq_false_iff_eq, Bool.not_true, Bool.not_false, Decidable.not_not] at c
    have hi' : i < bufs.length := by omega
    have ei : bufs[i]? = some bufs[i] := List.getElem?_eq_getElem hi'
    generalize bufs[i] = v at ei
    refine Ld_blk k1 rfl (hs.ix rfl ei fun a ha => ?_)
    have G := Grw.trans g g1
    refine ⟨_, G.cell (Cs.c0 (v := .int .i64 v.1) ha), _, G.cell (ha 1 _ rfl), _, G.cell (ha 2 _ rfl), ?_⟩
    have lc := SyH.start No h1
    refine lc.new fun b6 _ hb6 _ lc => ?_
    repeat (first | refine lc.ldo 0 rfl rfl ?_ | refine lc.ld 0 rfl rfl ?_ | refine lc.ldo 1 rfl rfl ?_ | refine lc.ld 1 rfl rfl ?_ | refine lc.ldo 2 rfl rfl ?_ | refine lc.ld 2 rfl rfl ?_ | refine lc.ldo 3 rfl rfl ?_ | refine lc.ld 3 rfl rfl ?_ | refine lc.ldo 4 rfl rfl ?_ | refine lc.ld 4 rfl rfl ?_ | refine lc.ldo 5 rfl rfl ?_ | refine lc.ld 5 rfl rfl ?_ | refine lc.ldo 6 rfl rfl ?_ | refine lc.ld 6 rfl rfl ?_ | (refine lc.sto 0 rfl rfl rfl fun _ _ lc => ?_; simp only [Nat.zero_add, List.set_cons_zero, List.set_cons_succ, List.setIfInBounds_toArray] at lc) | (refine lc.st 0 rfl rfl rfl fun _ _ lc => ?_; simp only [Nat.zero_add, List.set_cons_zero, List.set_cons_succ, List.setIfInBounds_toArray] at lc) | (refine lc.sto 1 rfl rfl rfl fun _ _ lc => ?_; simp only [Nat.zero_add, List.set_cons_zero, List.set_cons_succ, List.setIfInBounds_toArray] at lc) | (refine lc.st 1 rfl rfl rfl fun _ _ lc => ?_; simp only [Nat.zero_add, List.set_cons_zero, List.set_cons_succ, List.setIfInBounds_toArray] at lc) | (refine lc.sto 2 rfl rfl rfl fun _ _ lc => ?_; simp only [Nat.zero_add, List.set_cons_zero, List.set_cons_succ, List.setIfInBounds_toArray] at lc) | (refine lc.st 2 rfl rfl rfl fun _ _ lc => ?_; simp only [Nat.zero_add, List.set_cons_zero, List.set_cons_succ, List.setIfInBounds_toArray] at lc) | (refine lc.sto 3 rfl rfl rfl fun _ _ lc => ?_; simp only [Nat.zero_add, List.set_cons_zero, List.set_cons_succ, List.setIfInBounds_toArray] at lc) | (refine lc.st 3 rfl rfl rfl fun _ _ lc => ?_; simp only [Nat.zero_add, List.set_cons_zero, List.set_cons_succ, List.setIfInBounds_toArray] at lc) | (refine lc.sto 4 rfl rfl rfl fun _ _ lc => ?_; simp only [Nat.zero_add, List.set_cons_zero, List.set_cons_succ, List.setIfInBounds_toArray] at lc) | (refine lc.st 4 rfl rfl rfl fun _ _ lc => ?_; simp only [Nat.zero_add, List.set_cons_zero, List.set_cons_succ, List.setIfInBounds_toArray] at lc) | (refine lc.sto 5 rfl rfl rfl fun _ _ lc => ?_; simp only [Nat.zero_add, List.set_cons_zero, List.set_cons_succ, List.setIfInBounds_toArray] at lc) | (refine lc.st 5 rfl rfl rfl fun _ _ lc => ?_; simp only [Nat.zero_add, List.set_cons_zero, List.set_cons_succ, List.setIfInBounds_toArray] at lc) | (refine lc.sto 6 rfl rfl rfl fun _ _ lc => ?_; simp only [Nat.zero_add, List.set_cons_zero, List.set_cons_succ, List.setIfInBounds_toArray] at lc) | (refine lc.st 6 rfl rfl rfl fun _ _ lc => ?_; simp only [Nat.zero_add, List.set_cons_zero, List.set_cons_succ, List.setIfInBounds_toArray] at lc) | refine lc.ldo 0 (x := Sl.nil) rfl rfl ?_ | refine lc.ld 0 (x := Sl.nil) rfl rfl ?_ | refine lc.ldo 1 (x := Sl.nil) rfl rfl ?_ | refine lc.ld 1 (x := Sl.nil) rfl rfl ?_ | refine lc.ldo 2 (x := Sl.nil) rfl rfl ?_ | refine lc.ld 2 (x := Sl.nil) rfl rfl ?_ | refine lc.ldo 3 (x := Sl.nil) rfl rfl ?_ | refine lc.ld 3 (x := Sl.nil) rfl rfl ?_ | refine lc.ldo 4 (x := Sl.nil) rfl rfl ?_ | refine lc.ld 4 (x := Sl.nil) rfl rfl ?_ | refine lc.ldo 5 (x := Sl.nil) rfl rfl ?_ | refine lc.ld 5 (x := Sl.nil) rfl rfl ?_ | refine lc.ldo 6 (x := Sl.nil) rfl rfl ?_ | refine lc.ld 6 (x := Sl.nil) rfl rfl ?_ | refine Wr_i64 (by omega) (by omega) ?_ | refine If_t rfl ?_ | refine If_f rfl ?_)
    have k6 : Blk _ b6 #[.int .i64 v.1, .int .i64 v.2.1, .int .i64 v.2.2] 57 := lc.blk (i := 0) rfl
    have g2 := Grw.trans g1 lc.grw
    clear lc
    have hF : ¬ BfOk v → K false _ := fun q => hk false _ g2 ⟨by simp, fun x => (q (x i v ei)).elim⟩
    have hS : BfOk v → Wr .i64 ((i : Int) + 1) fun t159 => N1 (mk16_6 ⟨b1, 0, none⟩ t159) _ := fun q => by
      refine Wr_i64 (by omega) (by omega) (hN _ _ ⟨i + 1, by simp, by omega, g2, fun j' v' hlt ej => ?_⟩ (by omega))
      by_cases e : j' = i
      · subst e; rw [ei] at ej; cases ej; exact q
      · exact hall j' v' (by omega) ej
    unfold BfOk at hF hS
    repeat' (first | ((with_reducible refine J16_7.of ?_); unfold JT16_7; (try simp only [add_blk, Nat.reduceAdd])) | ((with_reducible refine J16_8.of ?_); unfold JT16_8; (try simp only [add_blk, Nat.reduceAdd])) | ((with_reducible refine J16_9.of ?_); unfold JT16_9; (try simp only [add_blk, Nat.reduceAdd])) | ((with_reducible refine J16_10.of ?_); unfold JT16_10; (try simp only [add_blk, Nat.reduceAdd])) | ((with_reducible refine If_t (by first | rfl | (simp only [decide_eq_true_eq, decide_eq_false_iff_not, beq_iff_eq, beq_eq_false_iff_ne, ne_eq, reduceCtorEq, true_iff, false_iff, Bool.not_eq_true', Bool.not_eq_false', bne_iff_ne, bne_eq_false_iff_eq, Bool.not_true, Bool.not_false, Decidable.not_not]; omega)) ?_)) | ((with_reducible refine If_f (by first | rfl | (simp only [decide_eq_true_eq, decide_eq_false_iff_not, beq_iff_eq, beq_eq_false_iff_ne, ne_eq, reduceCtorEq, true_iff, false_iff, Bool.not_eq_true', Bool.not_eq_false', bne_iff_ne, bne_eq_false_iff_eq, Bool.not_true, Bool.not_false, Decidable.not_not]; omega)) ?_)) | (((with_reducible refine If_i (fun c => ?_) (fun c => ?_)) <;> (try simp only [decide_eq_true_eq, decide_eq_false_iff_not, beq_iff_eq, beq_eq_false_iff_ne, ne_eq, reduceCtorEq, true_iff, false_iff, Bool.not_eq_true', Bool.not_eq_false', bne_iff_ne, bne_eq_false_iff_eq, Bool.not_true, Bool.not_false, Decidable.not_not] at c))) | ((refine Ld_blk k6 rfl ?_)))
    all_goals first | refine hF ?_ | refine hS ?_
    all_goals try simp only [decide_eq_true_eq, decide_eq_false_iff_not, beq_iff_eq, beq_eq_false_iff_ne, ne_eq, reduceCtorEq, true_iff, false_iff, Bool.not_eq_true', Bool.not_eq_false', bne_iff_ne, bne_eq_false_iff_eq, Bool.not_true, Bool.not_false, Decidable.not_not] at *
    all_goals omega
  · simp only [decide_eq_true_eq, decide_eq_false_iff_not, beq_iff_eq, beq_eq_false_iff_ne, ne_eq, reduceCtorEq, true_iff, false_iff, Bool.not_eq_true', Bool.not_eq_false', bne_iff_ne, bne_eq_false_iff_eq, Bool.not_true, Bool.not_false, Decidable.not_not] at c
    exact hk true h1 g1 ⟨fun _ j v ej => hall j v (by have := (List.getElem?_eq_some_iff.1 ej).1; omega) ej, fun _ => rfl⟩
theorem nodesL_c {nodes : List Nd} {bufs : List Bf} {h0 h : Hp} {b1 : Nat} {k id rows press : Int} {s1 s2 s7 s8 : Sl} {de : Bool} {K : Bool → Hp → Prop} {Kp : List PanicEntry → Hp → Prop} (g : Grw h0 h) (hs7 : RsH h0 s7 2 (nodes.map ndRow)) (hs : RsH h0 s8 3 (bufs.map bfRow)) (k1 : B9 h b1 k s1 s2 id de rows press s7 s8) (hl7 : nodes.length ≤ 512) (hl : bufs.length ≤ 1536)
    (hk : ∀ b h', Grw h h' → (b = true ↔ (∀ (j : Nat) x, nodes[j]? = some x → NdOk x) ∧ ∀ (j : Nat) x, bufs[j]? = some x → BfOk x) → K b h') : L16_11 ⟨b1, 0, none⟩ K Kp 0 h := by
  have hn : s7.n = nodes.length := by simpa using hs7.1
  refine L16_11.rule (fun x h' => ∃ i : Nat, x = i ∧ i ≤ nodes.length ∧ Grw h h' ∧ ∀ (j : Nat) v, j < i → nodes[j]? = some v → NdOk v) (fun x _ => nodes.length - x.toNat) ⟨0, rfl, by omega, Grw.refl _, fun j v hj => by omega⟩ ?_
  rintro x h1 ⟨i, rfl, hi, g1, hall⟩ N1 hN
  have k1 := k1.grw g1
  unfold T16_11
  simp only [add_blk, Nat.reduceAdd]
  refine Ld_blk k1 rfl (If_i (fun c => ?_) fun c => ?_)
  · simp only [decide_eq_true_eq, decide_eq_false_iff_not, beq_iff_eq, beq_eq_false_iff_ne, ne_eq, reduceCtorEq, true_iff, false_iff, Bool.not_eq_true', Bool.not_eq_false', bne_iff_ne, bne_eq_false_iff_eq, Bool.not_true, Bool.not_false, Decidable.not_not] at c
    have hi' : i < nodes.length := by omega
    have ei : nodes[i]? = some nodes[i] := List.getElem?_eq_getElem hi'
    generalize nodes[i] = v at ei
    refine Ld_blk k1 rfl (hs7.ix rfl ei fun a ha => ?_)
    have G := Grw.trans g g1
    refine ⟨_, G.cell (Cs.c0 (v := .int .i64 v.1) ha), _, G.cell (ha 1 _ rfl), ?_⟩
    have lc := SyH.start No h1
    refine lc.new fun b6 _ hb6 _ lc => ?_
    repeat (first | refine lc.ldo 0 rfl rfl ?_ | refine lc.ld 0 rfl rfl ?_ | refine lc.ldo 1 rfl rfl ?_ | refine lc.ld 1 rfl rfl ?_ | refine lc.ldo 2 rfl rfl ?_ | refine lc.ld 2 rfl rfl ?_ | refine lc.ldo 3 rfl rfl ?_ | refine lc.ld 3 rfl rfl ?_ | refine lc.ldo 4 rfl rfl ?_ | refine lc.ld 4 rfl rfl ?_ | refine lc.ldo 5 rfl rfl ?_ | refine lc.ld 5 rfl rfl ?_ | refine lc.ldo 6 rfl rfl ?_ | refine lc.ld 6 rfl rfl ?_ | (refine lc.sto 0 rfl rfl rfl fun _ _ lc => ?_; simp only [Nat.zero_add, List.set_cons_zero, List.set_cons_succ, List.setIfInBounds_toArray] at lc) | (refine lc.st 0 rfl rfl rfl fun _ _ lc => ?_; simp only [Nat.zero_add, List.set_cons_zero, List.set_cons_succ, List.setIfInBounds_toArray] at lc) | (refine lc.sto 1 rfl rfl rfl fun _ _ lc => ?_; simp only [Nat.zero_add, List.set_cons_zero, List.set_cons_succ, List.setIfInBounds_toArray] at lc) | (refine lc.st 1 rfl rfl rfl fun _ _ lc => ?_; simp only [Nat.zero_add, List.set_cons_zero, List.set_cons_succ, List.setIfInBounds_toArray] at lc) | (refine lc.sto 2 rfl rfl rfl fun _ _ lc => ?_; simp only [Nat.zero_add, List.set_cons_zero, List.set_cons_succ, List.setIfInBounds_toArray] at lc) | (refine lc.st 2 rfl rfl rfl fun _ _ lc => ?_; simp only [Nat.zero_add, List.set_cons_zero, List.set_cons_succ, List.setIfInBounds_toArray] at lc) | (refine lc.sto 3 rfl rfl rfl fun _ _ lc => ?_; simp only [Nat.zero_add, List.set_cons_zero, List.set_cons_succ, List.setIfInBounds_toArray] at lc) | (refine lc.st 3 rfl rfl rfl fun _ _ lc => ?_; simp only [Nat.zero_add, List.set_cons_zero, List.set_cons_succ, List.setIfInBounds_toArray] at lc) | (refine lc.sto 4 rfl rfl rfl fun _ _ lc => ?_; simp only [Nat.zero_add, List.set_cons_zero, List.set_cons_succ, List.setIfInBounds_toArray] at lc) | (refine lc.st 4 rfl rfl rfl fun _ _ lc => ?_; simp only [Nat.zero_add, List.set_cons_zero, List.set_cons_succ, List.setIfInBounds_toArray] at lc) | (refine lc.sto 5 rfl rfl rfl fun _ _ lc => ?_; simp only [Nat.zero_add, List.set_cons_zero, List.set_cons_succ, List.setIfInBounds_toArray] at lc) | (refine lc.st 5 rfl rfl rfl fun _ _ lc => ?_; simp only [Nat.zero_add, List.set_cons_zero, List.set_cons_succ, List.setIfInBounds_toArray] at lc) | (refine lc.sto 6 rfl rfl rfl fun _ _ lc => ?_; simp only [Nat.zero_add, List.set_cons_zero, List.set_cons_succ, List.setIfInBounds_toArray] at lc) | (refine lc.st 6 rfl rfl rfl fun _ _ lc => ?_; simp only [Nat.zero_add, List.set_cons_zero, List.set_cons_succ, List.setIfInBounds_toArray] at lc) | refine lc.ldo 0 (x := Sl.nil) rfl rfl ?_ | refine lc.ld 0 (x := Sl.nil) rfl rfl ?_ | refine lc.ldo 1 (x := Sl.nil) rfl rfl ?_ | refine lc.ld 1 (x := Sl.nil) rfl rfl ?_ | refine lc.ldo 2 (x := Sl.nil) rfl rfl ?_ | refine lc.ld 2 (x := Sl.nil) rfl rfl ?_ | refine lc.ldo 3 (x := Sl.nil) rfl rfl ?_ | refine lc.ld 3 (x := Sl.nil) rfl rfl ?_ | refine lc.ldo 4 (x := Sl.nil) rfl rfl ?_ | refine lc.ld 4 (x := Sl.nil) rfl rfl ?_ | refine lc.ldo 5 (x := Sl.nil) rfl rfl ?_ | refine lc.ld 5 (x := Sl.nil) rfl rfl ?_ | refine lc.ldo 6 (x := Sl.nil) rfl rfl ?_ | refine lc.ld 6 (x := Sl.nil) rfl rfl ?_ | refine Wr_i64 (by omega) (by omega) ?_ | refine If_t rfl ?_ | refine If_f rfl ?_)
    have k6 : Blk _ b6 #[.int .i64 v.1, .int .i64 v.2] 55 := lc.blk (i := 0) rfl
    have g2 := Grw.trans g1 lc.grw
    clear lc
    have hF : ¬ NdOk v → K false _ := fun q => hk false _ g2 ⟨by simp, fun x => (q (x.1 i v ei)).elim⟩
    have hS : NdOk v → Wr .i64 ((i : Int) + 1) fun t159 => N1 (mk16_11 ⟨b1, 0, none⟩ t159) _ := fun q => by
      refine Wr_i64 (by omega) (by omega) (hN _ _ ⟨i + 1, by simp, by omega, g2, fun j' v' hlt ej => ?_⟩ (by omega))
      by_cases e : j' = i
      · subst e; rw [ei] at ej; cases ej; exact q
      · exact hall j' v' (by omega) ej
    unfold NdOk at hF hS
    repeat' (first | ((with_reducible refine J16_12.of ?_); unfold JT16_12; (try simp only [add_blk, Nat.reduceAdd])) | ((with_reducible refine J16_13.of ?_); unfold JT16_13; (try simp only [add_blk, Nat.reduceAdd])) | ((with_reducible refine If_t (by first | rfl | (simp only [decide_eq_true_eq, decide_eq_false_iff_not, beq_iff_eq, beq_eq_false_iff_ne, ne_eq, reduceCtorEq, true_iff, false_iff, Bool.not_eq_true', Bool.not_eq_false', bne_iff_ne, bne_eq_false_iff_eq, Bool.not_true, Bool.not_false, Decidable.not_not]; omega)) ?_)) | ((with_reducible refine If_f (by first | rfl | (simp only [decide_eq_true_eq, decide_eq_false_iff_not, beq_iff_eq, beq_eq_false_iff_ne, ne_eq, reduceCtorEq, true_iff, false_iff, Bool.not_eq_true', Bool.not_eq_false', bne_iff_ne, bne_eq_false_iff_eq, Bool.not_true, Bool.not_false, Decidable.not_not]; omega)) ?_)) | (((with_reducible refine If_i (fun c => ?_) (fun c => ?_)) <;> (try simp only [decide_eq_true_eq, decide_eq_false_iff_not, beq_iff_eq, beq_eq_false_iff_ne, ne_eq, reduceCtorEq, true_iff, false_iff, Bool.not_eq_true', Bool.not_eq_false', bne_iff_ne, bne_eq_false_iff_eq, Bool.not_true, Bool.not_false, Decidable.not_not] at c))) | ((refine Ld_blk k6 rfl ?_)))
    all_goals first | refine hF ?_ | refine hS ?_
    all_goals try simp only [decide_eq_true_eq, decide_eq_false_iff_not, beq_iff_eq, beq_eq_false_iff_ne, ne_eq, reduceCtorEq, true_iff, false_iff, Bool.not_eq_true', Bool.not_eq_false', bne_iff_ne, bne_eq_false_iff_eq, Bool.not_true, Bool.not_false, Decidable.not_not] at *
    all_goals omega
  · simp only [decide_eq_true_eq, decide_eq_false_iff_not, beq_iff_eq, beq_eq_false_iff_ne, ne_eq, reduceCtorEq, true_iff, false_iff, Bool.not_eq_true', Bool.not_eq_false', bne_iff_ne, bne_eq_false_iff_eq, Bool.not_true, Bool.not_false, Decidable.not_not] at c
    refine J16_5.of ?_
    unfold JT16_5
    refine slotL_c (Grw.trans g g1) hs k1 hl fun b h' g2 hb => hk b h' (Grw.trans g1 g2) (hb.trans ⟨fun q => ⟨fun j v ej => hall j v (by have := (List.getElem?_eq_some_iff.1 ej).1; omega) ej, q⟩, fun q => q.2⟩)
theorem rmay_c {H : Hd} {m : Bool} (hm : m = true ↔ HdOk H) : RMayC H m := by
  obtain ⟨k, fs, ms, id, de, rows, press, nodes, bufs⟩ := H
  intro h0 h s1 s2 s7 s8 K Kp g hh hk
  simp only at hh ⊢
  have n1 : s1.n = fs.length := hh.fs.n.1
  have n2 : s2.n = ms.length := by simpa using hh.ms.1
  have n7 : s7.n = nodes.length := by simpa using hh.nodes.1
  have n8 : s8.n = bufs.length := by simpa using hh.bufs.1
  have hk : ∀ b h', Grw h h' → (b = true ↔ HdOk ⟨k, fs, ms, id, de, rows, press, nodes, bufs⟩) → K b h' := fun b h' g q => by
    have e : b = m := by cases b <;> cases m <;> simp_all
    exact e ▸ hk h' g
  clear hm
  have hF : ¬ HdOk ⟨k, fs, ms, id, de, rows, press, nodes, bufs⟩ → ∀ h', Grw h h' → K false h' := fun q h' g => hk false h' g ⟨by simp, fun x => (q x).elim⟩
  refine Fn16.of ?_
  unfold S16
  refine New_i fun b1 h1 e1 g1 k1 _ => ?_
  simp only [add_blk, Nat.reduceAdd]
  refine Ld_blk k1 rfl ?_
  unfold HdOk at hk hF
  simp only at hk hF
  have hF := fun q => hF q h1 g1
  refine If_i (fun c => ?_) fun c => ?_
  · simp only [decide_eq_true_eq, decide_eq_false_iff_not, beq_iff_eq, beq_eq_false_iff_ne, ne_eq, reduceCtorEq, true_iff, false_iff, Bool.not_eq_true', Bool.not_eq_false', bne_iff_ne, bne_eq_false_iff_eq, Bool.not_true, Bool.not_false, Decidable.not_not] at c
    have hF1 : ¬ (id = 0 ∧ de = false ∧ rows = 0 ∧ press = 0 ∧ nodes.length = 0 ∧ bufs.length = 0) → K false h1 := fun q => hF (by
      rintro (⟨_, a1, a2, a3, a4, a5, a6, _⟩ | ⟨a1, _⟩)
      · exact q ⟨a1, a2, a3, a4, a5, a6⟩
      · omega)
    clear hF
    cases de
    · simp only [true_and] at hF1
      repeat' (first | ((with_reducible refine J16_21.of ?_); unfold JT16_21; (try simp only [add_blk, Nat.reduceAdd])) | ((with_reducible refine J16_22.of ?_); unfold JT16_22; (try simp only [add_blk, Nat.reduceAdd])) | ((with_reducible refine J16_23.of ?_); unfold JT16_23; (try simp only [add_blk, Nat.reduceAdd])) | ((with_reducible refine J16_24.of ?_); unfold JT16_24; (try simp only [add_blk, Nat.reduceAdd])) | ((with_reducible refine If_t (by first | rfl | (simp only [decide_eq_true_eq, decide_eq_false_iff_not, beq_iff_eq, beq_eq_false_iff_ne, ne_eq, reduceCtorEq, true_iff, false_iff, Bool.not_eq_true', Bool.not_eq_false', bne_iff_ne, bne_eq_false_iff_eq, Bool.not_true, Bool.not_false, Decidable.not_not]; omega)) ?_)) | ((with_reducible refine If_f (by first | rfl | (simp only [decide_eq_true_eq, decide_eq_false_iff_not, beq_iff_eq, beq_eq_false_iff_ne, ne_eq, reduceCtorEq, true_iff, false_iff, Bool.not_eq_true', Bool.not_eq_false', bne_iff_ne, bne_eq_false_iff_eq, Bool.not_true, Bool.not_false, Decidable.not_not]; omega)) ?_)) | (((with_reducible refine If_i (fun c => ?_) (fun c => ?_)) <;> (try simp only [decide_eq_true_eq, decide_eq_false_iff_not, beq_iff_eq, beq_eq_false_iff_ne, ne_eq, reduceCtorEq, true_iff, false_iff, Bool.not_eq_true', Bool.not_eq_false', bne_iff_ne, bne_eq_false_iff_eq, Bool.not_true, Bool.not_false, Decidable.not_not] at c))) | ((refine Ld_blk k1 rfl ?_)))
      all_goals first
        | (refine hF1 ?_
           simp only [decide_eq_true_eq, decide_eq_false_iff_not, beq_iff_eq, beq_eq_false_iff_ne, ne_eq, reduceCtorEq, true_iff, false_iff, Bool.not_eq_true', Bool.not_eq_false', bne_iff_ne, bne_eq_false_iff_eq, Bool.not_true, Bool.not_false, Decidable.not_not] at *
           omega)
        | (refine schema_may (Grw.trans g g1) hh.fs hh.ms fun b h' g2 hb => hk b h' (Grw.trans g1 g2) (hb.trans ⟨fun q => .inl ⟨by omega, by omega, rfl, by omega, by omega, by omega, by omega, q⟩, ?_⟩)
           rintro (⟨_, _, _, _, _, _, _, q⟩ | ⟨q, _⟩)
           · exact q
           · omega)
    · have hF1 := hF1 (by simp)
      repeat' (first | ((with_reducible refine J16_21.of ?_); unfold JT16_21; (try simp only [add_blk, Nat.reduceAdd])) | ((with_reducible refine J16_22.of ?_); unfold JT16_22; (try simp only [add_blk, Nat.reduceAdd])) | ((with_reducible refine J16_23.of ?_); unfold JT16_23; (try simp only [add_blk, Nat.reduceAdd])) | ((with_reducible refine J16_24.of ?_); unfold JT16_24; (try simp only [add_blk, Nat.reduceAdd])) | ((with_reducible refine If_t (by first | rfl | (simp only [decide_eq_true_eq, decide_eq_false_iff_not, beq_iff_eq, beq_eq_false_iff_ne, ne_eq, reduceCtorEq, true_iff, false_iff, Bool.not_eq_true', Bool.not_eq_false', bne_iff_ne, bne_eq_false_iff_eq, Bool.not_true, Bool.not_false, Decidable.not_not]; omega)) ?_)) | ((with_reducible refine If_f (by first | rfl | (simp only [decide_eq_true_eq, decide_eq_false_iff_not, beq_iff_eq, beq_eq_false_iff_ne, ne_eq, reduceCtorEq, true_iff, false_iff, Bool.not_eq_true', Bool.not_eq_false', bne_iff_ne, bne_eq_false_iff_eq, Bool.not_true, Bool.not_false, Decidable.not_not]; omega)) ?_)) | (((with_reducible refine If_i (fun c => ?_) (fun c => ?_)) <;> (try simp only [decide_eq_true_eq, decide_eq_false_iff_not, beq_iff_eq, beq_eq_false_iff_ne, ne_eq, reduceCtorEq, true_iff, false_iff, Bool.not_eq_true', Bool.not_eq_false', bne_iff_ne, bne_eq_false_iff_eq, Bool.not_true, Bool.not_false, Decidable.not_not] at c))) | ((refine Ld_blk k1 rfl ?_)))
      all_goals first | exact hF1 | (simp only [decide_eq_true_eq, decide_eq_false_iff_not, beq_iff_eq, beq_eq_false_iff_ne, ne_eq, reduceCtorEq, true_iff, false_iff, Bool.not_eq_true', Bool.not_eq_false', bne_iff_ne, bne_eq_false_iff_eq, Bool.not_true, Bool.not_false, Decidable.not_not] at *; omega)
  · simp only [decide_eq_true_eq, decide_eq_false_iff_not, beq_iff_eq, beq_eq_false_iff_ne, ne_eq, reduceCtorEq, true_iff, false_iff, Bool.not_eq_true', Bool.not_eq_false', bne_iff_ne, bne_eq_false_iff_eq, Bool.not_true, Bool.not_false, Decidable.not_not] at c
    refine J16_1.of ?_
    unfold JT16_1
    refine Ld_blk k1 rfl ?_
    have hF1 : ¬ ((k = 2 ∧ 0 ≤ id ∧ id ≤ 31 ∨ k = 3 ∧ id = 0 ∧ de = false) ∧ fs.length = 0 ∧ ms.length = 0 ∧ 0 ≤ rows ∧ rows ≤ 4096 ∧ 0 ≤ press ∧ press ≤ 2 ∧ nodes.length ≤ 512 ∧ bufs.length ≤ 1536) → K false h1 := fun q => hF (by
      rintro (⟨a, _⟩ | ⟨a1, a2, a3, a4, a5, a6, a7, a8, a9, _⟩)
      · omega
      · exact q ⟨a1, a2, a3, a4, a5, a6, a7, a8, a9⟩)
    have fin : (k = 2 ∧ 0 ≤ id ∧ id ≤ 31 ∨ k = 3 ∧ id = 0 ∧ de = false) → fs.length = 0 → ms.length = 0 → 0 ≤ rows → rows ≤ 4096 → 0 ≤ press → press ≤ 2 → nodes.length ≤ 512 → bufs.length ≤ 1536 → J16_4 ⟨b1, 0, none⟩ K Kp h1 := by
      intro a1 a2 a3 a4 a5 a6 a7 a8 a9
      refine J16_4.of ?_
      unfold JT16_4
      refine nodesL_c (Grw.trans g g1) hh.nodes hh.bufs k1 a8 a9 fun b h' g2 hb => hk b h' (Grw.trans g1 g2) (hb.trans ⟨fun q => .inr ⟨a1, a2, a3, a4, a5, a6, a7, a8, a9, q⟩, ?_⟩)
      rintro (⟨q, _⟩ | ⟨_, _, _, _, _, _, _, _, _, q⟩)
      · omega
      · exact q
    clear hF hk
    have e8 : ∀ {h'}, h' = h1 → Blk h' b1 (vals9 k s1 s2 id de rows press s7 s8) 29 := fun e => e ▸ k1
    cases de
    · simp only [reduceCtorEq, and_true] at hF1 fin
      repeat' (first | ((with_reducible refine J16_19.of ?_); unfold JT16_19; (try simp only [add_blk, Nat.reduceAdd])) | ((with_reducible refine J16_20.of ?_); unfold JT16_20; (try simp only [add_blk, Nat.reduceAdd])) | ((with_reducible refine J16_2.of ?_); unfold JT16_2; (try simp only [add_blk, Nat.reduceAdd])) | ((with_reducible refine J16_15.of ?_); unfold JT16_15; (try simp only [add_blk, Nat.reduceAdd])) | ((with_reducible refine J16_16.of ?_); unfold JT16_16; (try simp only [add_blk, Nat.reduceAdd])) | ((with_reducible refine J16_17.of ?_); unfold JT16_17; (try simp only [add_blk, Nat.reduceAdd])) | ((with_reducible refine J16_18.of ?_); unfold JT16_18; (try simp only [add_blk, Nat.reduceAdd])) | ((with_reducible refine J16_3.of ?_); unfold JT16_3; (try simp only [add_blk, Nat.reduceAdd])) | ((with_reducible refine J16_14.of ?_); unfold JT16_14; (try simp only [add_blk, Nat.reduceAdd])) | ((with_reducible refine If_t (by first | rfl | (simp only [decide_eq_true_eq, decide_eq_false_iff_not, beq_iff_eq, beq_eq_false_iff_ne, ne_eq, reduceCtorEq, true_iff, false_iff, Bool.not_eq_true', Bool.not_eq_false', bne_iff_ne, bne_eq_false_iff_eq, Bool.not_true, Bool.not_false, Decidable.not_not]; omega)) ?_)) | ((with_reducible refine If_f (by first | rfl | (simp only [decide_eq_true_eq, decide_eq_false_iff_not, beq_iff_eq, beq_eq_false_iff_ne, ne_eq, reduceCtorEq, true_iff, false_iff, Bool.not_eq_true', Bool.not_eq_false', bne_iff_ne, bne_eq_false_iff_eq, Bool.not_true, Bool.not_false, Decidable.not_not]; omega)) ?_)) | (((with_reducible refine If_i (fun c => ?_) (fun c => ?_)) <;> (try simp only [decide_eq_true_eq, decide_eq_false_iff_not, beq_iff_eq, beq_eq_false_iff_ne, ne_eq, reduceCtorEq, true_iff, false_iff, Bool.not_eq_true', Bool.not_eq_false', bne_iff_ne, bne_eq_false_iff_eq, Bool.not_true, Bool.not_false, Decidable.not_not] at c))) | ((refine Ld_blk k1 rfl ?_)))
      all_goals first | refine hF1 ?_ | apply fin
      all_goals try simp only [decide_eq_true_eq, decide_eq_false_iff_not, beq_iff_eq, beq_eq_false_iff_ne, ne_eq, reduceCtorEq, true_iff, false_iff, Bool.not_eq_true', Bool.not_eq_false', bne_iff_ne, bne_eq_false_iff_eq, Bool.not_true, Bool.not_false, Decidable.not_not] at *
      all_goals omega
    · simp only [reduceCtorEq, and_false, or_false] at hF1 fin
      repeat' (first | ((with_reducible refine J16_19.of ?_); unfold JT16_19; (try simp only [add_blk, Nat.reduceAdd])) | ((with_reducible refine J16_20.of ?_); unfold JT16_20; (try simp only [add_blk, Nat.reduceAdd])) | ((with_reducible refine J16_2.of ?_); unfold JT16_2; (try simp only [add_blk, Nat.reduceAdd])) | ((with_reducible refine J16_15.of ?_); unfold JT16_15; (try simp only [add_blk, Nat.reduceAdd])) | ((with_reducible refine J16_16.of ?_); unfold JT16_16; (try simp only [add_blk, Nat.reduceAdd])) | ((with_reducible refine J16_17.of ?_); unfold JT16_17; (try simp only [add_blk, Nat.reduceAdd])) | ((with_reducible refine J16_18.of ?_); unfold JT16_18; (try simp only [add_blk, Nat.reduceAdd])) | ((with_reducible refine J16_3.of ?_); unfold JT16_3; (try simp only [add_blk, Nat.reduceAdd])) | ((with_reducible refine J16_14.of ?_); unfold JT16_14; (try simp only [add_blk, Nat.reduceAdd])) | ((with_reducible refine If_t (by first | rfl | (simp only [decide_eq_true_eq, decide_eq_false_iff_not, beq_iff_eq, beq_eq_false_iff_ne, ne_eq, reduceCtorEq, true_iff, false_iff, Bool.not_eq_true', Bool.not_eq_false', bne_iff_ne, bne_eq_false_iff_eq, Bool.not_true, Bool.not_false, Decidable.not_not]; omega)) ?_)) | ((with_reducible refine If_f (by first | rfl | (simp only [decide_eq_true_eq, decide_eq_false_iff_not, beq_iff_eq, beq_eq_false_iff_ne, ne_eq, reduceCtorEq, true_iff, false_iff, Bool.not_eq_true', Bool.not_eq_false', bne_iff_ne, bne_eq_false_iff_eq, Bool.not_true, Bool.not_false, Decidable.not_not]; omega)) ?_)) | (((with_reducible refine If_i (fun c => ?_) (fun c => ?_)) <;> (try simp only [decide_eq_true_eq, decide_eq_false_iff_not, beq_iff_eq, beq_eq_false_iff_ne, ne_eq, reduceCtorEq, true_iff, false_iff, Bool.not_eq_true', Bool.not_eq_false', bne_iff_ne, bne_eq_false_iff_eq, Bool.not_true, Bool.not_false, Decidable.not_not] at c))) | ((refine Ld_blk k1 rfl ?_)))
      all_goals first | refine hF1 ?_ | apply fin
      all_goals try simp only [decide_eq_true_eq, decide_eq_false_iff_not, beq_iff_eq, beq_eq_false_iff_ne, ne_eq, reduceCtorEq, true_iff, false_iff, Bool.not_eq_true', Bool.not_eq_false', bne_iff_ne, bne_eq_false_iff_eq, Bool.not_true, Bool.not_false, Decidable.not_not] at *
      all_goals omega
end Go.Proofs.YtfomkkdijjfpiaaDoor
/- The package's asking: nodes and slots; a map of numbers; what is wrong with a field. -/
namespace Go.Proofs.YtfomkkdijjfpiaaDoor
open Go Go.Sh Go.WideShapes
theorem nodesMay_c {nodes : List Nd} {bufs : List Bf} {h0 h : Hp} {k id rows press : Int} {s1 s2 s7 s8 : Sl} {de : Bool} {K : Bool → Hp → Prop} {Kp : List PanicEntry → Hp → Prop} (g : Grw h0 h) (hs7 : RsH h0 s7 2 (nodes.map ndRow)) (hs : RsH h0 s8 3 (bufs.map bfRow))
    (hk : ∀ b h', Grw h h' → (b = true ↔ nodes.length ≤ 512 ∧ bufs.length ≤ 1536 ∧ (∀ (j : Nat) x, nodes[j]? = some x → NdOk x) ∧ ∀ (j : Nat) x, bufs[j]? = some x → BfOk x) → K b h') : Fn42 k s1 s2 id de rows press s7 s8 h K Kp := by
  have hn7 : s7.n = nodes.length := by simpa using hs7.1
  have hn : s8.n = bufs.length := by simpa using hs.1
  refine Fn42.of ?_
  unfold S42
  refine New_i fun b1 h1 e1 g1 k1 _ => ?_
  simp only [add_blk, Nat.reduceAdd]
  refine Ld_blk k1 rfl (If_i (fun c => ?_) fun c => ?_)
  · simp only [decide_eq_true_eq, decide_eq_false_iff_not, beq_iff_eq, beq_eq_false_iff_ne, ne_eq, reduceCtorEq, true_iff, false_iff, Bool.not_eq_true', Bool.not_eq_false', bne_iff_ne, bne_eq_false_iff_eq, Bool.not_true, Bool.not_false, Decidable.not_not] at c
    exact hk false _ g1 ⟨by simp, fun q => by omega⟩
  refine Ld_blk k1 rfl (If_i (fun c2 => ?_) fun c2 => ?_)
  · simp only [decide_eq_true_eq, decide_eq_false_iff_not, beq_iff_eq, beq_eq_false_iff_ne, ne_eq, reduceCtorEq, true_iff, false_iff, Bool.not_eq_true', Bool.not_eq_false', bne_iff_ne, bne_eq_false_iff_eq, Bool.not_true, Bool.not_false, Decidable.not_not] at c2
    exact hk false _ g1 ⟨by simp, fun q => by omega⟩
  simp only [decide_eq_true_eq, decide_eq_false_iff_not, beq_iff_eq, beq_eq_false_iff_ne, ne_eq, reduceCtorEq, true_iff, false_iff, Bool.not_eq_true', Bool.not_eq_false', bne_iff_ne, bne_eq_false_iff_eq, Bool.not_true, Bool.not_false, Decidable.not_not] at c c2
  have G1 := Grw.trans g g1
  have hk : ∀ b h', Grw h1 h' → (b = true ↔ (∀ (j : Nat) x, nodes[j]? = some x → NdOk x) ∧ ∀ (j : Nat) x, bufs[j]? = some x → BfOk x) → K b h' := fun b h' g q => hk b h' (Grw.trans g1 g) (q.trans ⟨fun q => ⟨by omega, by omega, q⟩, fun q => q.2.2⟩)
  refine J42_1.of ?_
  unfold JT42_1
  simp only [add_blk, Nat.reduceAdd]
  refine Ld_blk k1 rfl ?_
  refine L42_5.rule (fun x h' => ∃ i : Nat, x = i ∧ i ≤ nodes.length ∧ Grw h1 h' ∧ ∀ (j : Nat) v, j < i → nodes[j]? = some v → NdOk v) (fun x _ => nodes.length - x.toNat) ⟨0, rfl, by omega, Grw.refl _, fun j v hj => by omega⟩ ?_
  rintro x h2 ⟨i, rfl, hi, g2, hall⟩ N1 hN
  have k1 := k1.grw g2
  unfold T42_5
  refine If_i (fun c => ?_) fun c => ?_
  · simp only [decide_eq_true_eq, decide_eq_false_iff_not, beq_iff_eq, beq_eq_false_iff_ne, ne_eq, reduceCtorEq, true_iff, false_iff, Bool.not_eq_true', Bool.not_eq_false', bne_iff_ne, bne_eq_false_iff_eq, Bool.not_true, Bool.not_false, Decidable.not_not] at c
    have hi' : i < nodes.length := by omega
    have ei : nodes[i]? = some nodes[i] := List.getElem?_eq_getElem hi'
    generalize nodes[i] = v at ei
    refine hs7.ix rfl ei fun a ha => ?_
    have G := Grw.trans G1 g2
    refine ⟨_, G.cell (Cs.c0 (v := .int .i64 v.1) ha), _, G.cell (ha 1 _ rfl), ?_⟩
    have lc := SyH.start No h2
    refine lc.new fun b6 _ hb6 _ lc => ?_
    repeat (first | refine lc.ldo 0 rfl rfl ?_ | refine lc.ld 0 rfl rfl ?_ | refine lc.ldo 1 rfl rfl ?_ | refine lc.ld 1 rfl rfl ?_ | refine lc.ldo 2 rfl rfl ?_ | refine lc.ld 2 rfl rfl ?_ | refine lc.ldo 3 rfl rfl ?_ | refine lc.ld 3 rfl rfl ?_ | refine lc.ldo 4 rfl rfl ?_ | refine lc.ld 4 rfl rfl ?_ | refine lc.ldo 5 rfl rfl ?_ | refine lc.ld 5 rfl rfl ?_ | refine lc.ldo 6 rfl rfl ?_ | refine lc.ld 6 rfl rfl ?_ | (refine lc.sto 0 rfl rfl rfl fun _ _ lc => ?_; simp only [Nat.zero_add, List.set_cons_zero, List.set_cons_succ, List.setIfInBounds_toArray] at lc) | (refine lc.st 0 rfl rfl rfl fun _ _ lc => ?_; simp only [Nat.zero_add, List.set_cons_zero, List.set_cons_succ, List.setIfInBounds_toArray] at lc) | (refine lc.sto 1 rfl rfl rfl fun _ _ lc => ?_; simp only [Nat.zero_add, List.set_cons_zero, List.set_cons_succ, List.setIfInBounds_toArray] at lc) | (refine lc.st 1 rfl rfl rfl fun _ _ lc => ?_; simp only [Nat.zero_add, List.set_cons_zero, List.set_cons_succ, List.setIfInBounds_toArray] at lc) | (refine lc.sto 2 rfl rfl rfl fun _ _ lc => ?_; simp only [Nat.zero_add, List.set_cons_zero, List.set_cons_succ, List.setIfInBounds_toArray] at lc) | (refine lc.st 2 rfl rfl rfl fun _ _ lc => ?_; simp only [Nat.zero_add, List.set_cons_zero, List.set_cons_succ, List.setIfInBounds_toArray] at lc) | (refine lc.sto 3 rfl rfl rfl fun _ _ lc => ?_; simp only [Nat.zero_add, List.set_cons_zero, List.set_cons_succ, List.setIfInBounds_toArray] at lc) | (refine lc.st 3 rfl rfl rfl fun _ _ lc => ?_; simp only [Nat.zero_add, List.set_cons_zero, List.set_cons_succ, List.setIfInBounds_toArray] at lc) | (refine lc.sto 4 rfl rfl rfl fun _ _ lc => ?_; simp only [Nat.zero_add, List.set_cons_zero, List.set_cons_succ, List.setIfInBounds_toArray] at lc) | (refine lc.st 4 rfl rfl rfl fun _ _ lc => ?_; simp only [Nat.zero_add, List.set_cons_zero, List.set_cons_succ, List.setIfInBounds_toArray] at lc) | (refine lc.sto 5 rfl rfl rfl fun _ _ lc => ?_; simp only [Nat.zero_add, List.set_cons_zero, List.set_cons_succ, List.setIfInBounds_toArray] at lc) | (refine lc.st 5 rfl rfl rfl fun _ _ lc => ?_; simp only [Nat.zero_add, List.set_cons_zero, List.set_cons_succ, List.setIfInBounds_toArray] at lc) | (refine lc.sto 6 rfl rfl rfl fun _ _ lc => ?_; simp only [Nat.zero_add, List.set_cons_zero, List.set_cons_succ, List.setIfInBounds_toArray] at lc) | (refine lc.st 6 rfl rfl rfl fun _ _ lc => ?_; simp only [Nat.zero_add, List.set_cons_zero, List.set_cons_succ, List.setIfInBounds_toArray] at lc) | refine lc.ldo 0 (x := Sl.nil) rfl rfl ?_ | refine lc.ld 0 (x := Sl.nil) rfl rfl ?_ | refine lc.ldo 1 (x := Sl.nil) rfl rfl ?_ | refine lc.ld 1 (x := Sl.nil) rfl rfl ?_ | refine lc.ldo 2 (x := Sl.nil) rfl rfl ?_ | refine lc.ld 2 (x := Sl.nil) rfl rfl ?_ | refine lc.ldo 3 (x := Sl.nil) rfl rfl ?_ | refine lc.ld 3 (x := Sl.nil) rfl rfl ?_ | refine lc.ldo 4 (x := Sl.nil) rfl rfl ?_ | refine lc.ld 4 (x := Sl.nil) rfl rfl ?_ | refine lc.ldo 5 (x := Sl.nil) rfl rfl ?_ | refine lc.ld 5 (x := Sl.nil) rfl rfl ?_ | refine lc.ldo 6 (x := Sl.nil) rfl rfl ?_ | refine lc.ld 6 (x := Sl.nil) rfl rfl ?_ | refine Wr_i64 (by omega) (by omega) ?_ | refine If_t rfl ?_ | refine If_f rfl ?_)
    have k6 : Blk _ b6 #[.int .i64 v.1, .int .i64 v.2] 55 := lc.blk (i := 0) rfl
    have g3 := Grw.trans g2 lc.grw
    clear lc
    have hF : ¬ NdOk v → K false _ := fun q => hk false _ g3 ⟨by simp, fun x => (q (x.1 i v ei)).elim⟩
    have hS : NdOk v → Wr .i64 ((i : Int) + 1) fun t159 => N1 (mk42_5 ⟨b1, 0, none⟩ s7 s7.n t159) _ := fun q => by
      refine Wr_i64 (by omega) (by omega) (hN _ _ ⟨i + 1, by simp, by omega, g3, fun j' v' hlt ej => ?_⟩ (by omega))
      by_cases e : j' = i
      · subst e; rw [ei] at ej; cases ej; exact q
      · exact hall j' v' (by omega) ej
    unfold NdOk at hF hS
    repeat' (first | ((with_reducible refine J42_6.of ?_); unfold JT42_6; (try simp only [add_blk, Nat.reduceAdd])) | ((with_reducible refine J42_7.of ?_); unfold JT42_7; (try simp only [add_blk, Nat.reduceAdd])) | ((with_reducible refine If_t (by first | rfl | (simp only [decide_eq_true_eq, decide_eq_false_iff_not, beq_iff_eq, beq_eq_false_iff_ne, ne_eq, reduceCtorEq, true_iff, false_iff, Bool.not_eq_true', Bool.not_eq_false', bne_iff_ne, bne_eq_false_iff_eq, Bool.not_true, Bool.not_false, Decidable.not_not]; omega)) ?_)) | ((with_reducible refine If_f (by first | rfl | (simp only [decide_eq_true_eq, decide_eq_false_iff_not, beq_iff_eq, beq_eq_false_iff_ne, ne_eq, reduceCtorEq, true_iff, false_iff, Bool.not_eq_true', Bool.not_eq_false', bne_iff_ne, bne_eq_false_iff_eq, Bool.not_true, Bool.not_false, Decidable.not_not]; omega)) ?_)) | (((with_reducible refine If_i (fun c => ?_) (fun c => ?_)) <;> (try simp only [decide_eq_true_eq, decide_eq_false_iff_not, beq_iff_eq, beq_eq_false_iff_ne, ne_eq, reduceCtorEq, true_iff, false_iff, Bool.not_eq_true', Bool.not_eq_false', bne_iff_ne, bne_eq_false_iff_eq, Bool.not_true, Bool.not_false, Decidable.not_not] at c))) | ((refine Ld_blk k6 rfl ?_)))
    all_goals first | refine hF ?_ | refine hS ?_
    all_goals try simp only [decide_eq_true_eq, decide_eq_false_iff_not, beq_iff_eq, beq_eq_false_iff_ne, ne_eq, reduceCtorEq, true_iff, false_iff, Bool.not_eq_true', Bool.not_eq_false', bne_iff_ne, bne_eq_false_iff_eq, Bool.not_true, Bool.not_false, Decidable.not_not] at *
    all_goals omega
  · simp only [decide_eq_true_eq, decide_eq_false_iff_not, beq_iff_eq, beq_eq_false_iff_ne, ne_eq, reduceCtorEq, true_iff, false_iff, Bool.not_eq_true', Bool.not_eq_false', bne_iff_ne, bne_eq_false_iff_eq, Bool.not_true, Bool.not_false, Decidable.not_not] at c
    have hnd : ∀ (j : Nat) x, nodes[j]? = some x → NdOk x := fun j v ej => hall j v (by have := (List.getElem?_eq_some_iff.1 ej).1; omega) ej
    refine J42_2.of ?_
    unfold JT42_2
    simp only [add_blk, Nat.reduceAdd]
    refine Ld_blk k1 rfl ?_
    refine L42_3.rule (fun x h' => ∃ i : Nat, x = i ∧ i ≤ bufs.length ∧ Grw h1 h' ∧ ∀ (j : Nat) v, j < i → bufs[j]? = some v → BfOk v) (fun x _ => bufs.length - x.toNat) ⟨0, rfl, by omega, g2, fun j v hj => by omega⟩ ?_
    rintro x h3 ⟨i, rfl, hi, g3, hall2⟩ N2 hN2
    unfold T42_3
    refine If_i (fun c => ?_) fun c => ?_
    · simp only [decide_eq_true_eq, decide_eq_false_iff_not, beq_iff_eq, beq_eq_false_iff_ne, ne_eq, reduceCtorEq, true_iff, false_iff, Bool.not_eq_true', Bool.not_eq_false', bne_iff_ne, bne_eq_false_iff_eq, Bool.not_true, Bool.not_false, Decidable.not_not] at c
      have hi' : i < bufs.length := by omega
      have ei : bufs[i]? = some bufs[i] := List.getElem?_eq_getElem hi'
      generalize bufs[i] = v at ei
      refine hs.ix rfl ei fun a ha => ?_
      have G := Grw.trans G1 g3
      refine ⟨_, G.cell (Cs.c0 (v := .int .i64 v.1) ha), _, G.cell (ha 1 _ rfl), _, G.cell (ha 2 _ rfl), ?_⟩
      have lc := SyH.start No h3
      refine lc.new fun b6 _ hb6 _ lc => ?_
      repeat (first | refine lc.ldo 0 rfl rfl ?_ | refine lc.ld 0 rfl rfl ?_ | refine lc.ldo 1 rfl rfl ?_ | refine lc.ld 1 rfl rfl ?_ | refine lc.ldo 2 rfl rfl ?_ | refine lc.ld 2 rfl rfl ?_ | refine lc.ldo 3 rfl rfl ?_ | refine lc.ld 3 rfl rfl ?_ | refine lc.ldo 4 rfl rfl ?_ | refine lc.ld 4 rfl rfl ?_ | refine lc.ldo 5 rfl rfl ?_ | refine lc.ld 5 rfl rfl ?_ | refine lc.ldo 6 rfl rfl ?_ | refine lc.ld 6 rfl rfl ?_ | (refine lc.sto 0 rfl rfl rfl fun _ _ lc => ?_; simp only [Nat.zero_add, List.set_cons_zero, List.set_cons_succ, List.setIfInBounds_toArray] at lc) | (refine lc.st 0 rfl rfl rfl fun _ _ lc => ?_; simp only [Nat.zero_add, List.set_cons_zero, List.set_cons_succ, List.setIfInBounds_toArray] at lc) | (refine lc.sto 1 rfl rfl rfl fun _ _ lc => ?_; simp only [Nat.zero_add, List.set_cons_zero, List.set_cons_succ, List.setIfInBounds_toArray] at lc) | (refine lc.st 1 rfl rfl rfl fun _ _ lc => ?_; simp only [Nat.zero_add, List.set_cons_zero, List.set_cons_succ, List.setIfInBounds_toArray] at lc) | (refine lc.sto 2 rfl rfl rfl fun _ _ lc => ?_; simp only [Nat.zero_add, List.set_cons_zero, List.set_cons_succ, List.setIfInBounds_toArray] at lc) | (refine lc.st 2 rfl rfl rfl fun _ _ lc => ?_; simp only [Nat.zero_add, List.set_cons_zero, List.set_cons_succ, List.setIfInBounds_toArray] at lc) | (refine lc.sto 3 rfl rfl rfl fun _ _ lc => ?_; simp only [Nat.zero_add, List.set_cons_zero, List.set_cons_succ, List.setIfInBounds_toArray] at lc) | (refine lc.st 3 rfl rfl rfl fun _ _ lc => ?_; simp only [Nat.zero_add, List.set_cons_zero, List.set_cons_succ, List.setIfInBounds_toArray] at lc) | (refine lc.sto 4 rfl rfl rfl fun _ _ lc => ?_; simp only [Nat.zero_add, List.set_cons_zero, List.set_cons_succ, List.setIfInBounds_toArray] at lc) | (refine lc.st 4 rfl rfl rfl fun _ _ lc => ?_; simp only [Nat.zero_add, List.set_cons_zero, List.set_cons_succ, List.setIfInBounds_toArray] at lc) | (refine lc.sto 5 rfl rfl rfl fun _ _ lc => ?_; simp only [Nat.zero_add, List.set_cons_zero, List.set_cons_succ, List.setIfInBounds_toArray] at lc) | (refine lc.st 5 rfl rfl rfl fun _ _ lc => ?_; simp only [Nat.zero_add, List.set_cons_zero, List.set_cons_succ, List.setIfInBounds_toArray] at lc) | (refine lc.sto 6 rfl rfl rfl fun _ _ lc => ?_; simp only [Nat.zero_add, List.set_cons_zero, List.set_cons_succ, List.setIfInBounds_toArray] at lc) | (refine lc.st 6 rfl rfl rfl fun _ _ lc => ?_; simp only [Nat.zero_add, List.set_cons_zero, List.set_cons_succ, List.setIfInBounds_toArray] at lc) | refine lc.ldo 0 (x := Sl.nil) rfl rfl ?_ | refine lc.ld 0 (x := Sl.nil) rfl rfl ?_ | refine lc.ldo 1 (x := Sl.nil) rfl rfl ?_ | refine lc.ld 1 (x := Sl.nil) rfl rfl ?_ | refine lc.ldo 2 (x := Sl.nil) rfl rfl ?_ | refine lc.ld 2 (x := Sl.nil) rfl rfl ?_ | refine lc.ldo 3 (x := Sl.nil) rfl rfl ?_ | refine lc.ld 3 (x := Sl.nil) rfl rfl ?_ | refine lc.ldo 4 (x := Sl.nil) rfl rfl ?_ | refine lc.ld 4 (x := Sl.nil) rfl rfl ?_ | refine lc.ldo 5 (x := Sl.nil) rfl rfl ?_ | refine lc.ld 5 (x := Sl.nil) rfl rfl ?_ | refine lc.ldo 6 (x := Sl.nil) rfl rfl ?_ | refine lc.ld 6 (x := Sl.nil) rfl rfl ?_ | refine Wr_i64 (by omega) (by omega) ?_ | refine If_t rfl ?_ | refine If_f rfl ?_)
      have k6 : Blk _ b6 #[.int .i64 v.1, .int .i64 v.2.1, .int .i64 v.2.2] 57 := lc.blk (i := 0) rfl
      rename_i h9 _
      have g4 := Grw.trans g3 lc.grw
      clear lc
      have hF : ¬ BfOk v → K false _ := fun q => hk false _ g4 ⟨by simp, fun x => (q (x.2 i v ei)).elim⟩
      have hS : BfOk v → Wr .i64 ((i : Int) + 1) fun t159 => N2 (mk42_3 s8 s8.n t159) _ := fun q => by
        refine Wr_i64 (by omega) (by omega) (hN2 _ _ ⟨i + 1, by simp, by omega, g4, fun j' v' hlt ej => ?_⟩ (by omega))
        by_cases e : j' = i
        · subst e; rw [ei] at ej; cases ej; exact q
        · exact hall2 j' v' (by omega) ej
      refine L42_4.rule (fun x h' => h' = h9 ∧ (x = 0 ∨ (x = 1 ∨ (x = 2 ∨ x = 3 ∧ 0 ≤ v.2.2 ∧ v.2.2 ≤ 4194304) ∧ 0 ≤ v.2.1 ∧ v.2.1 ≤ 4194304) ∧ 0 ≤ v.1 ∧ v.1 ≤ 4194304)) (fun x _ => 3 - x.toNat) ⟨rfl, .inl rfl⟩ ?_
      rintro x h' ⟨rfl, hx⟩ N3 hN3
      unfold T42_4
      unfold BfOk at hF hS
      refine If_i (fun c => ?_) fun c => ?_
      · simp only [decide_eq_true_eq, decide_eq_false_iff_not, beq_iff_eq, beq_eq_false_iff_ne, ne_eq, reduceCtorEq, true_iff, false_iff, Bool.not_eq_true', Bool.not_eq_false', bne_iff_ne, bne_eq_false_iff_eq, Bool.not_true, Bool.not_false, Decidable.not_not] at c
        rcases (by omega : x = 0 ∨ x = 1 ∨ x = 2) with rfl | rfl | rfl
        all_goals refine ⟨by omega, by omega, _, rfl, ?_⟩
        all_goals refine If_i (fun c => ?_) fun c => ?_
        all_goals simp only [decide_eq_true_eq, decide_eq_false_iff_not, beq_iff_eq, beq_eq_false_iff_ne, ne_eq, reduceCtorEq, true_iff, false_iff, Bool.not_eq_true', Bool.not_eq_false', bne_iff_ne, bne_eq_false_iff_eq, Bool.not_true, Bool.not_false, Decidable.not_not] at c
        all_goals first
          | (refine hF ?_; omega)
          | (refine If_i (fun c2 => ?_) fun c2 => ?_
             all_goals simp only [decide_eq_true_eq, decide_eq_false_iff_not, beq_iff_eq, beq_eq_false_iff_ne, ne_eq, reduceCtorEq, true_iff, false_iff, Bool.not_eq_true', Bool.not_eq_false', bne_iff_ne, bne_eq_false_iff_eq, Bool.not_true, Bool.not_false, Decidable.not_not] at c2
             · refine hF ?_; omega
             · refine Wr_i64 (by omega) (by omega) (hN3 _ _ ⟨rfl, by omega⟩ (by omega)))
      · simp only [decide_eq_true_eq, decide_eq_false_iff_not, beq_iff_eq, beq_eq_false_iff_ne, ne_eq, reduceCtorEq, true_iff, false_iff, Bool.not_eq_true', Bool.not_eq_false', bne_iff_ne, bne_eq_false_iff_eq, Bool.not_true, Bool.not_false, Decidable.not_not] at c
        exact hS (by omega)
    · simp only [decide_eq_true_eq, decide_eq_false_iff_not, beq_iff_eq, beq_eq_false_iff_ne, ne_eq, reduceCtorEq, true_iff, false_iff, Bool.not_eq_true', Bool.not_eq_false', bne_iff_ne, bne_eq_false_iff_eq, Bool.not_true, Bool.not_false, Decidable.not_not] at c
      exact hk true h3 g3 ⟨fun _ => ⟨hnd, fun j v ej => hall2 j v (by have := (List.getElem?_eq_some_iff.1 ej).1; omega) ej⟩, fun _ => rfl⟩
/-! ### a map of numbers -/
def MapI (h : Hp) (r : Nat) (ids : List Int) : Prop := ∃ es c, h[r]? = some (.map es c) ∧ (∀ e ∈ es.toList, ∃ x v : Int, e.key = .int .i64 x ∧ e.val = .int .i64 v) ∧ ∀ x : Int, (∃ e ∈ es.toList, e.key = .int .i64 x) ↔ x ∈ ids
theorem MapI.fr {S : Nat → Prop} {h h' : Hp} {r : Nat} {ids : List Int} (m : MapI h r ids) (f : Tn S h h') (hn : ¬ S r) : MapI h' r ids := by
  obtain ⟨es, c, e, q⟩ := m
  exact ⟨es, c, (f.2 r (Array.getElem?_eq_some_iff.1 e).1 hn).trans e, q⟩
theorem MapI.grw {h h' : Hp} {r : Nat} {ids : List Int} (m : MapI h r ids) (g : Grw h h') : MapI h' r ids := m.fr (S := No) (Tn.of_grw g) id
theorem MapI.find {es : Array MapEntry} (hv : ∀ e ∈ es.toList, ∃ x v : Int, e.key = .int .i64 x ∧ e.val = .int .i64 v) (t : Int) : (Instr.findNow (.int .i64) (.int .i64 t) es.toList 0 = some none ∧ ¬ ∃ e ∈ es.toList, e.key = .int .i64 t) ∨
    ∃ (j : Nat) (v : Int), Instr.findNow (.int .i64) (.int .i64 t) es.toList 0 = some (some (j, .int .i64 v)) ∧ ∃ e, es.toList[j]? = some e ∧ e.key = .int .i64 t := by
  rcases MapKept.findNow_spec (d := .int .i64) (k := .int .i64 t) rfl es.toList 0 (fun x hx => by obtain ⟨a, _, e, _⟩ := hv x hx; rw [e]; rfl) with ⟨h1, h2⟩ | ⟨j, e, h1, h2, h3⟩
  · exact .inl ⟨h1, fun ⟨e, he, q⟩ => h2 e he q⟩
  · obtain ⟨_, v, _, e2⟩ := hv e (List.mem_of_getElem? h2)
    rw [Nat.zero_add, e2] at h1
    exact .inr ⟨j, v, h1, e, h2, h3⟩
theorem Lk_i {h : Hp} {r : Nat} {ids : List Int} {t : Int} {K : Int → Bool → Prop} (m : MapI h r ids) (hk : ∀ x b, (b = true ↔ t ∈ ids) → K x b) : Lk h (some r) (.int .i64) (.int .i64 t) (.int .i64 (0 : Int)) (Value.int .i64) K := by
  obtain ⟨es, c, e, hv, hm⟩ := m
  rcases MapI.find hv t with ⟨h1, h2⟩ | ⟨j, v, h1, e', h2, h3⟩
  · exact ⟨es, c, _, e, h1, 0, rfl, hk 0 false ⟨by simp, fun q => (h2 ((hm t).2 q)).elim⟩⟩
  · exact ⟨es, c, _, e, h1, v, rfl, hk v true ⟨fun _ => (hm t).1 ⟨e', List.mem_of_getElem? h2, h3⟩, fun _ => rfl⟩⟩
theorem Up_i {h : Hp} {r : Nat} {ids : List Int} {t v : Int} {K : Hp → Prop} (m : MapI h r ids) (hk : ∀ h', Only r h h' → MapI h' r (ids ++ [t]) → K h') : Up h (some r) (.int .i64) (.int .i64 t) (.int .i64 v) K := by
  obtain ⟨es, c, e, hv, hm⟩ := m
  have hlt := (Array.getElem?_eq_some_iff.1 e).1
  have onl : ∀ o, Only r h (h.setIfInBounds r o) := fun o => ⟨by simp, fun b hb => by rw [Array.getElem?_setIfInBounds, if_neg (fun q => hb q.symm)]⟩
  have get : ∀ o, (h.setIfInBounds r o)[r]? = some o := fun o => by rw [Array.getElem?_setIfInBounds]; simp [hlt]
  rcases MapI.find hv t with ⟨h1, h2⟩ | ⟨j, v0, h1, e', h2, h3⟩
  · refine ⟨es, c, _, e, h1, hk _ (onl _) ⟨_, _, get _, fun x hx => ?_, fun x => ?_⟩⟩
    · simp only [Array.toList_push, List.mem_append, List.mem_singleton] at hx
      rcases hx with hx | rfl
      · exact hv x hx
      · exact ⟨t, v, rfl, rfl⟩
    · rw [List.mem_append, ← hm x]
      simp only [Array.toList_push, List.mem_append, List.mem_singleton]
      constructor
      · rintro ⟨y, hy | rfl, q⟩
        · exact .inl ⟨y, hy, q⟩
        · simp only [Value.int.injEq, true_and] at q; exact .inr q.symm
      · rintro (⟨y, hy, q⟩ | rfl)
        · exact ⟨y, .inl hy, q⟩
        · exact ⟨_, .inr rfl, rfl⟩
  · refine ⟨es, c, _, e, h1, hk _ (onl _) ⟨_, _, get _, fun x hx => ?_, fun x => ?_⟩⟩
    · rw [Array.toList_modify] at hx
      obtain ⟨i, hi⟩ := List.mem_iff_getElem?.1 hx
      rw [List.getElem?_modify] at hi
      cases hh : es.toList[i]? with
      | none => simp [hh] at hi
      | some y =>
        have hy := hv y (List.mem_of_getElem? hh)
        rw [hh] at hi
        split at hi <;> replace hi := Option.some.inj hi
        · subst hi; exact ⟨t, v, rfl, rfl⟩
        · subst hi; exact hy
    · rw [List.mem_append, ← hm x, Array.toList_modify]
      constructor
      · rintro ⟨y, hy, q⟩
        obtain ⟨i, hi⟩ := List.mem_iff_getElem?.1 hy
        rw [List.getElem?_modify] at hi
        cases hh : es.toList[i]? with
        | none => simp [hh] at hi
        | some z =>
          rw [hh] at hi
          split at hi <;> replace hi := Option.some.inj hi
          · subst hi; simp only [Value.int.injEq, true_and] at q; exact .inr (by simp [q])
          · subst hi; exact .inl ⟨z, List.mem_of_getElem? hh, q⟩
      · rintro (⟨y, hy, q⟩ | hx)
        · obtain ⟨i, hi⟩ := List.mem_iff_getElem?.1 hy
          by_cases e2 : j = i
          · subst e2
            rw [h2] at hi; cases hi
            refine ⟨_, List.mem_of_getElem? (i := j) (by rw [List.getElem?_modify, h2]; simp; rfl), ?_⟩
            rw [← q, h3]
          · exact ⟨y, List.mem_of_getElem? (i := i) (by rw [List.getElem?_modify, hi]; simp [e2]), q⟩
        · simp only [List.mem_singleton] at hx
          subst hx
          exact ⟨_, List.mem_of_getElem? (i := j) (by rw [List.getElem?_modify, h2]; simp; rfl), rfl⟩
end Go.Proofs.YtfomkkdijjfpiaaDoor
