/- Slices that grow by append: owned blocks of things of sz cells. -/
import Derived.Test.YtfomkkdijjfpiaaDoorShUse
import Derived.Deep.DeepAppendWide
set_option linter.unusedVariables false
set_option linter.unusedSimpArgs false
namespace Go.Sh
theorem Only.refl (b : Nat) (h : Hp) : Only b h h := ⟨rfl, fun _ _ => rfl⟩
theorem Only.trans {b : Nat} {h h' h'' : Hp} (o : Only b h h') (o' : Only b h' h'') : Only b h h'' := ⟨o'.1.trans o.1, fun c hc => (o'.2 c hc).trans (o.2 c hc)⟩
theorem StL_i {b o : Nat} {el : TypeId} : ∀ (vs : List Value) {h : Hp} {i : Nat} {cs : Array Value} {K : Hp → Prop}, Blk h b cs el → o + i + vs.length ≤ cs.size → (∀ v ∈ vs, one v = true) →
    (∀ (h' : Hp) (cs' : Array Value), Only b h h' → Blk h' b cs' el → cs'.size = cs.size → (∀ j, cs'[j]? = if o + i ≤ j ∧ j < o + i + vs.length then vs[j - (o + i)]? else cs[j]?) → K h') → StL h ⟨b, o, none⟩ i vs K := by
  intro vs
  induction vs with
  | nil =>
    intro h i cs K hb hl ho hk
    exact hk h cs (Only.refl _ _) hb rfl (fun j => by rw [if_neg (by simp)])
  | cons v vs ih =>
    intro h i cs K hb hl ho hk
    simp only [List.length_cons] at hl
    show St h ((Addr.mk b o none).add i) v fun h' => StL h' ⟨b, o, none⟩ (i + 1) vs K
    rw [add_blk]
    refine St_i hb (by omega) (ho v (by simp)) fun h' h1 h2 => ?_
    refine ih h2 (by simp; omega) (fun x hx => ho x (by simp [hx])) fun h'' cs' h3 h4 h5 h6 => ?_
    refine hk h'' cs' (h1.trans h3) h4 (by rw [h5]; simp) fun j => ?_
    rw [h6 j]
    simp only [List.length_cons]
    by_cases hj : j = o + i
    · subst hj
      rw [if_neg (by omega), if_pos (by omega), Array.getElem?_setIfInBounds, if_pos rfl, if_pos (by omega)]
      simp
    · by_cases hj2 : o + (i + 1) ≤ j ∧ j < o + (i + 1) + vs.length
      · rw [if_pos hj2, if_pos (by omega)]
        have : j - (o + i) = j - (o + (i + 1)) + 1 := by omega
        rw [this, List.getElem?_cons_succ]
      · rw [if_neg hj2, if_neg (by omega), Array.getElem?_setIfInBounds, if_neg (by omega)]
/-- an owned slice of things of sz cells -/
def OwnS (sz : Nat) (h : Hp) (s : Sl) (b : Nat) (vs : List Value) (el : TypeId) : Prop :=
  s.a = some ⟨b, 0, none⟩ ∧ vs.length = s.n * sz ∧ ∃ cs, Blk h b cs el ∧ s.n ≤ s.c ∧ cs.size = s.c * sz ∧ ∀ i, i < s.n * sz → cs[i]? = vs[i]?
theorem OwnS.own {h : Hp} {s : Sl} {b : Nat} {vs : List Value} {el : TypeId} (o : OwnS 1 h s b vs el) : Own h s b vs el := by
  obtain ⟨h1, h2, cs, h3, h4, h5, h6⟩ := o
  simp only [Nat.mul_one] at *
  exact ⟨h1, h2.symm, cs, h3, h4, h5, h6⟩
theorem Own.ownS {h : Hp} {s : Sl} {b : Nat} {vs : List Value} {el : TypeId} (o : Own h s b vs el) : OwnS 1 h s b vs el := by
  obtain ⟨h1, h2, cs, h3, h4, h5, h6⟩ := o
  exact ⟨h1, by omega, cs, h3, h4, by omega, by simpa using h6⟩
theorem OwnS.grw {sz : Nat} {h h' : Hp} {s : Sl} {b : Nat} {vs : List Value} {el : TypeId} (o : OwnS sz h s b vs el) (g : Grw h h') : OwnS sz h' s b vs el := by
  obtain ⟨h1, h2, cs, h3, h4⟩ := o; exact ⟨h1, h2, cs, h3.grw g, h4⟩
theorem OwnS.only {sz : Nat} {h h' : Hp} {s : Sl} {b c : Nat} {vs : List Value} {el : TypeId} (o : OwnS sz h s b vs el) (g : Only c h h') (hn : b ≠ c) : OwnS sz h' s b vs el := by
  obtain ⟨h1, h2, cs, h3, h4⟩ := o; exact ⟨h1, h2, cs, g.blk h3 hn, h4⟩
theorem OwnS.ix {sz : Nat} {h : Hp} {s : Sl} {b : Nat} {vs : List Value} {el : TypeId} (o : OwnS sz h s b vs el) {i : Int} {K : Addr → Prop} (h0 : 0 ≤ i) (h1 : i < s.n) (hk : K ⟨b, i.toNat * sz, none⟩) : Ix s.a s.n sz i K := by
  unfold Ix; rw [o.1]; refine ⟨h0, h1, ?_⟩; rw [add_blk, Nat.zero_add]; exact hk
theorem OwnS.st {sz : Nat} {h : Hp} {s : Sl} {b : Nat} {vs : List Value} {el : TypeId} (o : OwnS sz h s b vs el) {i : Nat} (hi : i < s.n * sz) {v : Value} (hv : one v = true) {K : Hp → Prop}
    (hk : ∀ h', Only b h h' → OwnS sz h' s b (vs.set i v) el → K h') : St h ⟨b, i, none⟩ v K := by
  obtain ⟨h1, h2, cs, h3, h4, h5, h6⟩ := o
  have hm : s.n * sz ≤ s.c * sz := Nat.mul_le_mul_right _ h4
  refine St_i h3 (by omega) hv fun h' ho hb => hk h' ho ⟨h1, by simp [h2], _, hb, h4, by simp [h5], fun j hj => ?_⟩
  rw [Array.getElem?_setIfInBounds, List.getElem?_set]
  have := h6 j hj
  split
  · rename_i e; subst e; rw [if_pos (by omega), if_pos (by omega)]
  · exact this
theorem OwnS.ld {α : Type} {sz : Nat} {h : Hp} {s : Sl} {b : Nat} {vs : List Value} {el : TypeId} (o : OwnS sz h s b vs el) {i : Nat} (hi : i < s.n * sz) {mk : α → Value} {x : α} (hv : vs[i]? = some (mk x)) {K : α → Prop} (hk : K x) : Ld h ⟨b, i, none⟩ mk K := by
  obtain ⟨h1, h2, cs, h3, h4, h5, h6⟩ := o
  exact Ld_blk h3 ((h6 i hi).trans hv) hk
theorem Ap_own {sz : Nat} {h0 h : Hp} {s : Sl} {b : Nat} {vs : List Value} {el : TypeId} {z : Array Value} {bytes : Nat} {vals : List Value → Prop} {new : List Value} {K : Sl → Hp → Prop}
    (g : Grw h0 h) (hb : h0.size ≤ b) (o : OwnS sz h s b vs el) (hz : z.size = sz) (hnew : new.length = sz) (hone : ∀ v ∈ new, one v = true) (hv : vals new) (hroom : (s.n + 1) * bytes * 2 + 192 * bytes ≤ 2 ^ 48) (hn : s.n + 1 < 2 ^ 63)
    (hk : ∀ s' b' h', Grw h0 h' → h0.size ≤ b' → OwnS sz h' s' b' (vs ++ new) el → s'.n = s.n + 1 → (Only b h h' ∧ b' = b ∨ Grw h h' ∧ b' = h.size) → K s' h') : Ap h el z sz bytes s 1 vals K := by
  obtain ⟨h1, h2, cs, h3, h4, h5, h6⟩ := o
  refine ⟨new, hv, ?_⟩
  by_cases hc : s.n + 1 ≤ s.c
  · refine .inl ⟨hc, ?_⟩
    have hmul : s.n * sz + sz ≤ s.c * sz := by rw [← Nat.succ_mul]; exact Nat.mul_le_mul_right _ hc
    rw [h1]
    show StL h ((Addr.mk b 0 none).add (s.n * sz)) 0 new _
    rw [add_blk]
    refine StL_i new h3 (by omega) hone fun h' cs' o1 o2 o3 o4 => ?_
    refine hk _ b h' (o1.grw g hb) hb ⟨rfl, ?_, cs', o2, hc, by rw [o3, h5], fun i hi => ?_⟩ rfl (.inl ⟨o1, rfl⟩)
    · simp only [List.length_append, h2, hnew]; rw [Nat.succ_mul]
    · rw [o4 i]
      have hi' : i < s.n * sz + sz := by rw [← Nat.succ_mul]; exact hi
      by_cases hlt : i < s.n * sz
      · rw [if_neg (by omega), h6 i hlt, List.getElem?_append_left (by omega)]
      · rw [if_pos (by omega), List.getElem?_append_right (by omega)]
        congr 1; omega
  · refine .inr ⟨by omega, ?_, hn, vs, ?_, ?_⟩
    · have := nextslicecap_le_wide (need := s.n + 1) (old := s.c) (by omega)
      have h7 := Nat.mul_le_mul_right bytes this
      have h8 : (s.n + 1 + (s.n + 1) / 4 + 192) * bytes ≤ (s.n + 1) * bytes * 2 + 192 * bytes := by
        rw [Nat.add_mul, Nat.add_mul]
        have : (s.n + 1) / 4 * bytes ≤ (s.n + 1) * bytes := Nat.mul_le_mul_right _ (Nat.div_le_self _ _)
        omega
      omega
    · rw [h1]
      refine ⟨h2, fun i v hi => ?_⟩
      have : i < vs.length := (List.getElem?_eq_some_iff.1 hi).1
      rw [add_blk, Nat.zero_add, cell_blk h3, h6 i (by omega)]; exact hi
    · intro newCap hn1 hn2
      refine hk _ h.size _ (g.trans (Grw.push h _)) g.1 ⟨rfl, ?_, _, by simp only [Blk, Array.getElem?_push_size]; rfl, hn1, ?_, fun i hi => ?_⟩ rfl (.inr ⟨Grw.push h _, rfl⟩)
      · simp only [List.length_append, h2, hnew]; rw [Nat.succ_mul]
      · have : s.n * sz + sz + (newCap - (s.n + 1)) * sz = newCap * sz := by
          have e : newCap = s.n + 1 + (newCap - (s.n + 1)) := by omega
          conv => rhs; rw [e]
          rw [Nat.add_mul, Nat.add_mul, Nat.one_mul]
        simp [Builtin.zeroCells, h2, hnew, hz, this]
      · have hi' : i < s.n * sz + sz := by rw [← Nat.succ_mul]; exact hi
        have hl : (vs ++ new).length = s.n * sz + sz := by simp [h2, hnew]
        rw [Array.getElem?_append_left (by simp only [List.size_toArray]; omega), List.getElem?_toArray]
end Go.Sh
