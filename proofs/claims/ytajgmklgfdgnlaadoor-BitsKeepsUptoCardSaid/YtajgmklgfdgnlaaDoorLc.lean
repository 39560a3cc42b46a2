/- The law BitsRuns: from its start on. -/
import Derived.Test.YtajgmklgfdgnlaaDoorLb
namespace Go.Proofs.YtajgmklgfdgnlaaDoor
open Go Go.Sh
/-- append to nil: nothing, or a block of one's own -/
theorem Ap_nil {h : Hp} {el : TypeId} {z : Value} {vals : List Value → Prop} {vs : List Value} {n : Nat} {K : Sl → Hp → Prop} (hv : vals vs) (hn : vs.length = n) (hroom : n < 2 ^ 47)
    (h0 : n = 0 → K ⟨none, 0, 0⟩ h) (h1 : 0 < n → ∀ s h', Grw h h' → Own h' s h.size vs el → K s h') : Ap h el #[z] 1 1 ⟨none, 0, 0⟩ n vals K := by
  refine ⟨vs, hv, ?_⟩
  by_cases e : n = 0
  · subst e
    exact .inl ⟨by simp, h0 rfl⟩
  · refine .inr ⟨by simp only; omega, ?_, by simp only; omega, [], rfl, ?_⟩
    · simp only [Builtin.nextslicecap]
      rw [if_pos (by omega)]; omega
    · intro newCap hc _
      simp only [Nat.zero_add] at hc ⊢
      refine h1 (by omega) _ _ (Grw.push h _) ⟨rfl, hn.symm, _, by simp only [Blk, Array.getElem?_push_size]; rfl, hc, ?_, fun i hi => ?_⟩
      · simp [Builtin.zeroCells, hn]; omega
      · simp only at hi
        simp only [List.nil_append]
        rw [Array.getElem?_append_left (by simp only [List.size_toArray]; omega), List.getElem?_toArray]
theorem rd_sv {h : Hp} {s : Sl} {vs : List Value} (hs : Sv h s vs) : rd h s.a (s.n * 1) vs := by
  unfold rd
  rw [Nat.mul_one]
  by_cases e : s.n = 0
  · have : vs = [] := List.eq_nil_of_length_eq_zero (by have := hs.1; omega)
    subst this
    split
    · rfl
    · exact ⟨by simp [e], fun i v hv => by simp at hv⟩
  · obtain ⟨a, ha, hc⟩ := hs.2.2 (s.n - 1) (by omega)
    rw [ha]
    exact ⟨hs.1.symm, hc⟩
theorem fnF (b5 b3 b4 : Nat) (X : Bool → Prop) (h : X false) : FnNil (runG b5 b3 b4) X := h
theorem u8_bv (x : BitVec 8) : IntKind.wrap .u8 (x.toNat : Int) = (x.toNat : Int) := by
  have := x.isLt
  rw [IntKind.wrap_u8]; omega
/-- the own bytes are written over, and the walk begins -/
theorem flip {hF : Hp} {b2 b6 b7 b9 bO : Nat} {own : Sl} {la : List Value} {K : Bool → Hp → Prop} {Kp : List PanicEntry → Hp → Prop} (ho : own.n = 0 ∨ ∃ l : List Nat, la = by8 l ∧ (∀ x ∈ l, x < 256) ∧ l.length < 2 ^ 36 ∧ Own hF own bO la 5)
    (hgo : ∀ h', Only bO hF h' → J3_2 (at0 b2) (at0 b6) (at0 b7) (at0 b9) K Kp h') : L3_12 (at0 b2) (at0 b6) (at0 b7) own (at0 b9) K Kp (0 : Int) hF := by
  rcases ho with h0 | ⟨l, rfl, hl, hlen, o⟩
  · refine L3_12.rule (fun x h' => h' = hF ∧ x = 0) (fun _ _ => 0) ⟨rfl, rfl⟩ ?_
    rintro x h' ⟨rfl, rfl⟩ N1 hN
    unfold T3_12
    refine If_f (by rw [decide_eq_false_iff_not]; omega) ?_
    exact hgo _ (Only.refl _ _)
  · refine L3_12.rule (fun x h' => ∃ (i : Nat) (l' : List Nat), x = (i : Int) ∧ i ≤ own.n ∧ Only bO hF h' ∧ (∀ x ∈ l', x < 256) ∧ Own h' own bO (by8 l') 5) (fun x _ => own.n - x.toNat) ⟨0, l, rfl, Nat.zero_le _, Only.refl _ _, hl, o⟩ ?_
    rintro x h' ⟨i, l', rfl, hi, oM, hl', ow⟩ N1 hN
    have hn : own.n = l.length := by have := o.2.1; simpa [by8] using this
    have hn' : own.n = l'.length := by have := ow.2.1; simpa [by8] using this
    unfold T3_12
    refine If_i (fun h5 => ?_) fun _ => hgo _ oM
    simp only [decide_eq_true_eq] at h5
    have hi' : i < l'.length := by omega
    have hx : l'[i] < 256 := hl' _ (List.getElem_mem hi')
    refine ow.ixSt (by omega) (by omega) ?_
    refine ow.ld (by omega) (by rw [Int.toNat_natCast]; exact by8_get (List.getElem?_eq_getElem hi')) ?_
    unfold Lt
    have e : ∃ y : Nat, y < 256 ∧ bitsV .xor .u8 (if IntKind.signed .u8 = true then -1 else IntKind.max .u8) ((l'[i] : Nat) : Int) = (y : Int) := by
      exact ⟨(BitVec.ofInt 8 (if IntKind.signed .u8 = true then -1 else IntKind.max .u8) ^^^ BitVec.ofInt 8 ((l'[i] : Nat) : Int)).toNat, BitVec.isLt _, u8_bv _⟩
    obtain ⟨y, hy, ey⟩ := e
    rw [ey]
    refine ow.ixSt (by omega) (by omega) ?_
    refine ow.st (by omega) rfl fun h6 o6 ow6 => ?_
    refine Wr_i64 (by omega) (by omega) ?_
    rw [Int.toNat_natCast, by8_set] at ow6
    refine hN _ _ ⟨i + 1, l'.set i y, by omega, by omega, oM.trans o6, ?_, ow6⟩ (by omega)
    intro z hz
    rcases List.mem_or_eq_of_mem_set hz with h | rfl
    · exact hl' z h
    · exact hy
end Go.Proofs.YtajgmklgfdgnlaaDoor
