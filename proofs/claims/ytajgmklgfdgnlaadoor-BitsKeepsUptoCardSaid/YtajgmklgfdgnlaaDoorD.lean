/- Contracts: Make, both sides. -/
import Derived.Test.YtajgmklgfdgnlaaDoorC
namespace Go.Proofs.YtajgmklgfdgnlaaDoor
open Go Go.Sh
theorem or8 (x y : Nat) (hx : x < 256) (hy : y < 256) : bitsV .or .u8 (x : Int) (y : Int) = ((x ||| y : Nat) : Int) := by
  have hxy : x ||| y < 256 := Nat.or_lt_two_pow (n := 8) hx hy
  have h1 : (BitVec.ofInt 8 (x : Int) ||| BitVec.ofInt 8 (y : Int)).toNat = x ||| y := by
    have e1 : BitVec.ofInt 8 (x : Int) = BitVec.ofNat 8 x := by simp
    have e2 : BitVec.ofInt 8 (y : Int) = BitVec.ofNat 8 y := by simp
    rw [e1, e2, BitVec.toNat_or, BitVec.toNat_ofNat, BitVec.toNat_ofNat, Nat.mod_eq_of_lt (by omega), Nat.mod_eq_of_lt (by omega)]
  show IntKind.wrap .u8 ((BitVec.ofInt 8 (x : Int) ||| BitVec.ofInt 8 (y : Int)).toNat : Int) = _
  rw [h1, IntKind.wrap_u8]; omega
theorem pow8 {m : Nat} (hm : m < 8) : (2 : Nat) ^ m ≤ 128 := by
  rcases m with _ | _ | _ | _ | _ | _ | _ | _ | m <;> first | omega | decide
theorem shl8 {m : Nat} (hm : m < 8) : (1 : Int) * 2 ^ (min (Int.toNat ((m : Nat) : Int)) (IntKind.bits .u8)) = ((2 ^ m : Nat) : Int) := by
  have : min (Int.toNat ((m : Nat) : Int)) (IntKind.bits .u8) = m := by
    have : IntKind.bits .u8 = 8 := rfl
    rw [this, Int.toNat_natCast]; omega
  rw [this, Int.one_mul]; norm_cast
theorem Wr_u8n {x : Nat} {K : Int → Prop} (h : x < 256) (hk : K (x : Int)) : Wr .u8 (x : Int) K := Wr_u8 (by omega) (by omega) hk
theorem bo_get {l : List Bool} {i : Nat} (h : i < l.length) : (bo l)[i]? = some (.bool l[i]) := by simp [bo, h]
theorem by8_get {l : List Nat} {i x : Nat} (h : l[i]? = some x) : (by8 l)[i]? = some (.int .u8 (x : Int)) := by simp [by8, h]
theorem by8_set (l : List Nat) (i x : Nat) : (by8 l).set i (.int .u8 (x : Int)) = by8 (l.set i x) := by simp [by8, List.map_set]
theorem by8_rep (n : Nat) : by8 (List.replicate n 0) = List.replicate n (.int .u8 0) := by simp [by8]
theorem make_c {l : Sl} {bl : List Bool} {h : Hp} {K : Sl → Hp → Prop} {Kp : List PanicEntry → Hp → Prop} (hl : Sv h l (bo bl)) (hlen : bl.length < 2 ^ 44)
    (hk : ∀ s b h', Grw h h' → h.size ≤ b → Own h' s b (by8 (packN bl)) 5 → K s h') : Fn24 l h K Kp := by
  refine Fn24.of ?_
  unfold S24
  have hn : l.n = bl.length := by have := hl.1; simpa [bo] using this
  rw [hn]
  refine need_c (by omega) ?_
  have hnd : needN bl.length ≤ bl.length + 1 := by unfold needN; omega
  refine MkS_i (by omega) (by omega) (by omega) fun s h2 g2 o2 _ => ?_
  refine L24_1.rule (fun x h' => ∃ i : Nat, x = (i : Int) ∧ i ≤ bl.length ∧ Grw h h' ∧ Own h' s h.size (by8 (packTo bl i)) 5) (fun x _ => bl.length - x.toNat)
    ⟨0, rfl, Nat.zero_le _, g2, by rw [packTo_zero, by8_rep]; simpa using o2⟩ ?_
  rintro x h' ⟨i, rfl, hi, g, o⟩ N1 hN
  have hsn : s.n = needN bl.length := by have := o.2.1; simpa [by8, packTo] using this
  unfold T24_1
  refine If_i (fun h1 => ?_) fun h1 => ?_
  · simp only [decide_eq_true_eq] at h1
    have hi' : i < bl.length := by omega
    refine (hl.grw g).ix (by omega) (by omega) (bo_get hi') fun a ha => Ld_i ha ?_
    have e2 : Int.tdiv (i : Int) 8 = ((i / 8 : Nat) : Int) := rfl
    have e3 : Int.tmod (i : Int) 8 = ((i % 8 : Nat) : Int) := rfl
    have hk8 : i / 8 < needN bl.length := by unfold needN; omega
    have hgd : bl.getD i false = bl[i] := by simp [hi']
    refine If_i (fun h2 => ?_) fun h2 => ?_
    · refine Dv_i (by decide) (Wr_i64 (by rw [e2]; omega) (by rw [e2]; omega) ?_)
      rw [e2]
      refine o.ixSt (by omega) (by omega) ?_
      have hg := by8_get (packTo_get (l := bl) (i := i) hk8)
      refine o.ld (by rw [Int.toNat_natCast]; omega) (by rw [Int.toNat_natCast]; exact hg) ?_
      refine Dv_i (by decide) ?_
      unfold Lt
      rw [e3]
      refine Nn_i (by omega) ?_
      have hp := pow8 (m := i % 8) (by omega)
      rw [shl8 (by omega)]
      refine Wr_u8n (by omega) ?_
      rw [or8 _ _ (byteOf_lt _) (by omega), byteOf_or (by omega) (by simp; omega)]
      refine o.ixSt (by omega) (by omega) ?_
      refine o.st (by rw [Int.toNat_natCast]; omega) rfl fun h3 o3 o4 => ?_
      refine Wr_i64 (by omega) (by omega) ?_
      refine hN _ _ ⟨i + 1, by omega, by omega, o3.grw g (Nat.le_refl _), ?_⟩ (by omega)
      rw [Int.toNat_natCast, by8_set, ← packTo_on (by rw [hgd]; exact h2)] at o4
      exact o4
    · refine Wr_i64 (by omega) (by omega) ?_
      exact hN _ _ ⟨i + 1, by omega, by omega, g, by rw [packTo_off (by rw [hgd]; exact h2)]; exact o⟩ (by omega)
  · simp only [decide_eq_false_iff_not] at h1
    have : i = bl.length := by omega
    subst this
    exact hk s _ h' g (Nat.le_refl _) o
theorem rmake_c {l : Sl} {bl : List Bool} {h : Hp} {K : Sl → Hp → Prop} {Kp : List PanicEntry → Hp → Prop} (hl : Sv h l (bo bl)) (hlen : bl.length < 2 ^ 44)
    (hk : ∀ s b h', Grw h h' → h.size ≤ b → Own h' s b (by8 (packN bl)) 5 → K s h') : Fn37 l h K Kp := by
  refine Fn37.of ?_
  unfold S37
  have hn : l.n = bl.length := by have := hl.1; simpa [bo] using this
  rw [hn]
  refine rneed_c (by omega) ?_
  have hnd : needN bl.length ≤ bl.length + 1 := by unfold needN; omega
  refine MkS_i (by omega) (by omega) (by omega) fun s h2 g2 o2 _ => ?_
  refine L37_1.rule (fun x h' => ∃ i : Nat, x = (i : Int) ∧ i ≤ bl.length ∧ Grw h h' ∧ Own h' s h.size (by8 (packTo bl i)) 5) (fun x _ => bl.length - x.toNat)
    ⟨0, rfl, Nat.zero_le _, g2, by rw [packTo_zero, by8_rep]; simpa using o2⟩ ?_
  rintro x h' ⟨i, rfl, hi, g, o⟩ N1 hN
  have hsn : s.n = needN bl.length := by have := o.2.1; simpa [by8, packTo] using this
  unfold T37_1
  refine If_i (fun h1 => ?_) fun h1 => ?_
  · simp only [decide_eq_true_eq] at h1
    have hi' : i < bl.length := by omega
    refine (hl.grw g).ix (by omega) (by omega) (bo_get hi') fun a ha => Ld_i ha ?_
    have e2 : Int.tdiv (i : Int) 8 = ((i / 8 : Nat) : Int) := rfl
    have e3 : Int.tmod (i : Int) 8 = ((i % 8 : Nat) : Int) := rfl
    have hk8 : i / 8 < needN bl.length := by unfold needN; omega
    have hgd : bl.getD i false = bl[i] := by simp [hi']
    refine If_i (fun h2 => ?_) fun h2 => ?_
    · refine Wr_i64 (by omega) (by omega) ?_
      exact hN _ _ ⟨i + 1, by omega, by omega, g, by rw [packTo_off (by rw [hgd]; simpa using h2)]; exact o⟩ (by omega)
    · have h2' : bl[i] = true := by simpa using h2
      refine L37_3.rule (fun y1 y2 h'' => h'' = h' ∧ ∃ j : Nat, y2 = (j : Int) ∧ j ≤ i % 8 ∧ y1 = ((2 ^ j : Nat) : Int)) (fun _ y2 _ => 8 - y2.toNat) ⟨rfl, 0, rfl, Nat.zero_le _, rfl⟩ ?_
      rintro y1 y2 h'' ⟨rfl, j, hy2, hj, hy1⟩ N2 hN2
      subst hy1 hy2
      have hp := pow8 (m := j) (by omega)
      have hp0 : (0 : Int) ≤ ((2 ^ j : Nat) : Int) := Int.natCast_nonneg _
      have hp1 : ((2 ^ j : Nat) : Int) ≤ 128 := by exact_mod_cast hp
      unfold T37_3
      refine Dv_i (by decide) ?_
      unfold Lt
      rw [e3]
      refine If_i (fun h3 => ?_) fun h3 => ?_
      · simp only [decide_eq_true_eq] at h3
        refine Wr_i64 (by omega) (by omega) (Wr_i64 (by omega) (by omega) ?_)
        exact hN2 _ _ _ ⟨rfl, j + 1, by simp, by omega, by simp [Nat.pow_succ]⟩ (by simp; omega)
      · simp only [decide_eq_false_iff_not] at h3
        have hj' : j = i % 8 := by omega
        refine J37_2.of ?_
        unfold JT37_2
        refine Dv_i (by decide) (Wr_i64 (by rw [e2]; omega) (by rw [e2]; omega) ?_)
        rw [e2]
        refine o.ixSt (by omega) (by omega) ?_
        have hg := by8_get (packTo_get (l := bl) (i := i) hk8)
        refine o.ld (by rw [Int.toNat_natCast]; omega) (by rw [Int.toNat_natCast]; exact hg) ?_
        refine Wr_u8n (by omega) ?_
        have hadd := byteOf_add (f := fun j => decide (8 * (i / 8) + j < i) && bl.getD (8 * (i / 8) + j) false) (m := i % 8) (by omega) (by simp; omega)
        have hlt := byteOf_lt (fun j => (decide (8 * (i / 8) + j < i) && bl.getD (8 * (i / 8) + j) false) || j == i % 8)
        subst hj'
        rw [← Int.natCast_add]
        refine Wr_u8n (by omega) ?_
        refine o.ixSt (by omega) (by omega) ?_
        refine o.st (by rw [Int.toNat_natCast]; omega) rfl fun h3 o3 o4 => ?_
        refine Wr_i64 (by omega) (by omega) ?_
        refine hN _ _ ⟨i + 1, by omega, by omega, o3.grw g (Nat.le_refl _), ?_⟩ (by omega)
        rw [Int.toNat_natCast, by8_set, ← packTo_on (by rw [hgd]; exact h2')] at o4
        exact o4
  · simp only [decide_eq_false_iff_not] at h1
    have : i = bl.length := by omega
    subst this
    exact hk s _ h' g (Nat.le_refl _) o
end Go.Proofs.YtajgmklgfdgnlaaDoor
