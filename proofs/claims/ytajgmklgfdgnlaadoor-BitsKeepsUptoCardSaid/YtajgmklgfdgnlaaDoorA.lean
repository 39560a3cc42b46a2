/- Contracts of the functions of colonnade/bits: the small ones. -/
import Derived.Test.YtajgmklgfdgnlaaDoorShUse
import Derived.Test.YtajgmklgfdgnlaaDoorS6
import Derived.Test.YtajgmklgfdgnlaaDoorS7
import Derived.Test.YtajgmklgfdgnlaaDoorS9
namespace Go.Proofs.YtajgmklgfdgnlaaDoor
open Go Go.Sh
/-- int64 -/
def I64 (n : Int) : Prop := -9223372036854775808 ≤ n ∧ n ≤ 9223372036854775807
/-- bytes as values -/
def by8 (l : List Nat) : List Value := l.map fun x => .int .u8 (Int.ofNat x)
/-- the slice holds these bytes -/
def Bs (h : Hp) (s : Sl) (l : List Nat) : Prop := Sv h s (by8 l) ∧ (∀ x ∈ l, x < 256) ∧ l.length < 2 ^ 36
theorem Bs.n {h : Hp} {s : Sl} {l : List Nat} (b : Bs h s l) : s.n = l.length := by have := b.1.1; simpa [by8] using this
theorem Bs.grw {h h' : Hp} {s : Sl} {l : List Nat} (b : Bs h s l) (g : Grw h h') : Bs h' s l := ⟨b.1.grw g, b.2⟩
def bitN (l : List Nat) (i : Nat) : Bool := (l.getD (i / 8) 0).testBit (i % 8)
def thereB (len : Nat) (fr n : Int) : Bool := decide (0 ≤ fr ∧ 0 ≤ n ∧ n ≤ 8 * (len : Int) ∧ fr ≤ 8 * (len : Int) - n)
def askB (len : Nat) (fr n : Int) : Int := if fr < 0 ∨ n < 0 then 1 else if thereB len fr n then 0 else 2
theorem there_c {b : Sl} {fr n : Int} {h : Hp} {K : Bool → Hp → Prop} {Kp : List PanicEntry → Hp → Prop} (hb : b.n < 2 ^ 36) (hn : I64 n) (hk : K (thereB b.n fr n) h) : Fn47 b fr n h K Kp := by
  refine Fn47.of ?_
  unfold S47
  unfold I64 at hn
  have hf : ∀ {p : Prop} [Decidable p], ¬ p → thereB b.n fr n = decide p → K false h := by
    intro p _ hp e; rw [e, decide_eq_false hp] at hk; exact hk
  refine If_i (fun h1 => ?_) fun h1 => ?_
  · refine If_i (fun h2 => ?_) fun h2 => ?_
    · simp only [decide_eq_true_eq] at h1 h2
      refine Wr_i64 (by omega) (by omega) ?_
      refine If_i (fun h3 => ?_) fun h3 => ?_
      · simp only [decide_eq_true_eq] at h3
        refine Wr_i64 (by omega) (by omega) ?_
        refine Wr_i64 (by omega) (by omega) ?_
        have : decide (fr ≤ 8 * (b.n : Int) - n) = thereB b.n fr n := by unfold thereB; congr 1; simp only [eq_iff_iff]; omega
        rw [this]; exact hk
      · simp only [decide_eq_false_iff_not] at h3
        exact hf (p := False) id (by unfold thereB; congr 1; simp only [eq_iff_iff, iff_false]; omega)
    · simp only [decide_eq_false_iff_not] at h2
      exact hf (p := False) id (by unfold thereB; congr 1; simp only [eq_iff_iff, iff_false]; omega)
  · simp only [decide_eq_false_iff_not] at h1
    exact hf (p := False) id (by unfold thereB; congr 1; simp only [eq_iff_iff, iff_false]; omega)
theorem asked_c {b : Sl} {fr n : Int} {h : Hp} {K : Int → Hp → Prop} {Kp : List PanicEntry → Hp → Prop} (hb : b.n < 2 ^ 36) (hn : I64 n) (hk : K (askB b.n fr n) h) : Fn46 b fr n h K Kp := by
  refine Fn46.of ?_
  unfold S46
  unfold askB at hk
  refine If_i (fun h1 => ?_) fun h1 => ?_
  · simp only [decide_eq_true_eq] at h1
    rw [if_pos (.inl h1)] at hk; exact hk
  · simp only [decide_eq_false_iff_not] at h1
    refine If_i (fun h2 => ?_) fun h2 => ?_
    · simp only [decide_eq_true_eq] at h2
      rw [if_pos (.inr h2)] at hk; exact hk
    · simp only [decide_eq_false_iff_not] at h2
      rw [if_neg (by omega)] at hk
      refine there_c hb hn ?_
      cases ht : thereB b.n fr n
      · rw [ht] at hk; exact If_t rfl hk
      · rw [ht] at hk; exact If_f rfl hk
theorem and1 (x : Nat) : bitsV .and .u8 (x : Int) 1 = ((x % 2 : Nat) : Int) := by
  have h1 : (BitVec.ofInt 8 (x : Int) &&& BitVec.ofInt 8 1).toNat = x % 2 := by
    have e1 : BitVec.ofInt 8 (x : Int) = BitVec.ofNat 8 x := by simp
    have e2 : BitVec.ofInt 8 1 = BitVec.ofNat 8 1 := by decide
    rw [e1, e2, BitVec.toNat_and, BitVec.toNat_ofNat, BitVec.toNat_ofNat]
    have : 1 % 2 ^ 8 = 1 := by decide
    rw [this, Nat.and_one_is_mod]
    omega
  show IntKind.wrap .u8 ((BitVec.ofInt 8 (x : Int) &&& BitVec.ofInt 8 1).toNat : Int) = _
  rw [h1, IntKind.wrap_u8]; omega
theorem bit_c {b : Sl} {i : Int} {h : Hp} {K : Bool → Hp → Prop} {Kp : List PanicEntry → Hp → Prop} {l : List Nat} (hb : Bs h b l) (h0 : 0 ≤ i) (h1 : i < 8 * (l.length : Int)) (hk : K (bitN l i.toNat) h) : Fn48 b i h K Kp := by
  refine Fn48.of ?_
  unfold S48
  have hn := hb.n
  have hlen := hb.2.2
  obtain ⟨j, rfl⟩ := Int.eq_ofNat_of_zero_le h0
  have e1 : Int.tdiv (Int.ofNat j) 8 = ((j / 8 : Nat) : Int) := rfl
  have e2 : Int.tmod (Int.ofNat j) 8 = ((j % 8 : Nat) : Int) := rfl
  simp only [Int.ofNat_eq_natCast] at *
  have hj : j / 8 < l.length := by omega
  refine Dv_i (by decide) (Wr_i64 (by rw [e1]; omega) (by rw [e1]; omega) ?_)
  have hv : (by8 l)[((j / 8 : Nat) : Int).toNat]? = some (.int .u8 ((l[j / 8] : Nat) : Int)) := by rw [Int.toNat_natCast]; simp [by8, List.getElem?_eq_getElem hj]
  rw [e1]
  refine hb.1.ix (by omega) (by omega) hv fun a ha => Ld_i ha ?_
  refine Dv_i (by decide) ?_
  rw [e2]
  refine Nn_i (by omega) ?_
  have e3 : Int.fdiv ((l[j / 8] : Nat) : Int) (2 ^ (min (Int.toNat ((j % 8 : Nat) : Int)) (IntKind.bits .u8))) = ((l[j / 8] / 2 ^ (j % 8) : Nat) : Int) := by
    have : min (Int.toNat ((j % 8 : Nat) : Int)) (IntKind.bits .u8) = j % 8 := by
      have : IntKind.bits .u8 = 8 := rfl
      rw [this, Int.toNat_natCast]; omega
    rw [this, Int.fdiv_eq_ediv_of_nonneg _ (Int.le_of_lt (Int.pow_pos (by decide)))]
    norm_cast
  unfold Lt
  rw [e3]
  show K (bitsV .and .u8 ((l[j / 8] / 2 ^ (j % 8) : Nat) : Int) 1 == 1) h
  rw [and1]
  have e4 : ((((l[j / 8] / 2 ^ (j % 8)) % 2 : Nat) : Int) == 1) = bitN l j := by
    unfold bitN
    rw [Nat.testBit_eq_decide_div_mod_eq]
    have : l.getD (j / 8) 0 = l[j / 8] := by simp [hj]
    rw [this]
    rw [Bool.eq_iff_iff]
    simp only [beq_iff_eq, decide_eq_true_eq]
    omega
  rw [e4]
  simpa using hk
end Go.Proofs.YtajgmklgfdgnlaaDoor
