/- The law BitsRuns: its outer ranges. -/
import Derived.Test.YtajgmklgfdgnlaaDoorLa
namespace Go.Proofs.YtajgmklgfdgnlaaDoor
open Go Go.Sh
section law
variable {hF : Hp} {b2 b6 b7 b9 bw : Nat} {want : Sl} {early : Int} {fv : Value} {rs : List (Nat × Nat)} {Pre : Hp → Prop} {K : Bool → Hp → Prop} {Kp : List PanicEntry → Hp → Prop}
theorem in4 (R : Ready hF b2 b6 b7 b9 bw want early fv rs Pre) {b11 : Nat} {v : Value} {h : Hp} (g : Grw hF h) (h11 : hF.size ≤ b11) (k11 : Blk h b11 #[v] 3)
    (hfix : ∀ h' (K' : Bool → Hp → Prop), Tab h' → (∀ h'', Grw h' h'' → K' true h'') → Fn9 h' K' Kp) (hk : ∀ h' h'', Grw hF h' → Only b2 h' h'' → K true h'') : J3_4 (at0 b2) (at0 b7) (at0 b9) (at0 b11) K Kp h := by
  have hlen := R.len
  refine J3_4.of ?_
  unfold JT3_4
  refine St_i k11 (by simp) rfl fun h2 o2 k2 => ?_
  have g2 := o2.grw g h11
  refine Ld_blk (x := fv) (R.k9.grw g2) rfl ?_
  refine R3_6.rule (α := Nat × Nat) (fun y => (y.1 : Int)) (fun y => (y.2 : Int)) R.it (fun pre h' => Grw hF h' ∧ Blk h' b11 #[nv pre.length] 3) (fun _ _ => False) ⟨g2, k2⟩
    ?_ ?_ (fun pre h1 i => R.pre h1 i.1) (fun _ _ _ _ hh => hh) (fun _ _ _ _ _ _ hh => hh) ?_ ?_ (fun _ _ _ _ hh => hh.elim)
  · rintro pre h3 h4 g5 ⟨i1, i2⟩
    exact ⟨i1.trans g5, i2.grw g5⟩
  · rintro l pre h3 h4 hl t ⟨i1, i2⟩
    have := g2.1
    have := k2.lt
    exact ⟨t.only.grw i1 (by omega), t.only.blk i2 (by omega)⟩
  · rintro l pre y suf h3 hxs hl hlr ⟨i1, i2⟩ N X hNx _
    unfold RT3_6
    refine ⟨rfl, fun hB tB => ?_⟩
    have o := tB.only
    have z1 := g2.1
    have z2 := k2.lt
    have gB := o.grw i1 (by omega)
    have q11 := o.blk i2 (by omega)
    have q7 := R.k7.grw gB
    have hr : rs[pre.length]? = some y := by rw [hxs]; simp
    have hpl : pre.length < rs.length := by rw [hxs]; simp
    refine Ld_blk (x := (pre.length : Int)) q11 rfl (Ld_blk (x := want) q7 rfl ?_)
    refine If_f (by rw [decide_eq_false_iff_not, R.n]; omega) ?_
    refine Ld_blk (x := want) q7 rfl (Ld_blk (x := (pre.length : Int)) q11 rfl ?_)
    refine runAt R.n (R.wg gB) hr fun c0 c1 => Ld_i c0 (If_f (by simp) ?_)
    refine Ld_blk (x := want) q7 rfl (Ld_blk (x := (pre.length : Int)) q11 rfl ?_)
    refine runAt R.n (R.wg gB) hr fun _ _ => ?_
    rw [add_blk]
    refine Ld_i c1 (If_f (by simp) ?_)
    obtain ⟨r, st, pd, _, hl2⟩ := tB.2.2
    refine in7 R gB h11 hpl q11 ⟨_, hl2⟩ (by omega) fun h' e1 e2 e3 => ?_
    exact hNx hB h' tB e1 ⟨e2, by simpa using e3⟩
  · rintro h3 ⟨i1, i2⟩
    unfold RD3_6
    refine J3_5.of ?_
    unfold JT3_5
    refine Ld_blk (x := (rs.length : Int)) i2 rfl (Ld_blk (x := want) (R.k7.grw i1) rfl ?_)
    refine If_t (by rw [R.n]; simp) ?_
    refine hfix h3 _ (R.tab.grw i1) fun h4 g4 => ?_
    have p2 := R.k2.grw (i1.trans g4)
    refine St_i p2 (by simp) rfl fun h5 o5 k5 => ?_
    refine Ld_blk (x := true) k5 rfl ?_
    exact hk h4 h5 (i1.trans g4) o5
theorem in2 (R : Ready hF b2 b6 b7 b9 bw want early fv rs Pre)
    (hfix : ∀ h' (K' : Bool → Hp → Prop), Tab h' → (∀ h'', Grw h' h'' → K' true h'') → Fn9 h' K' Kp) (hk : ∀ h' h'', Grw hF h' → Only b2 h' h'' → K true h'') : J3_2 (at0 b2) (at0 b6) (at0 b7) (at0 b9) K Kp hF := by
  have hlen := R.len
  refine J3_2.of ?_
  unfold JT3_2
  refine Ld_blk (x := fv) R.k9 rfl (R.fn _ ?_)
  refine If_f rfl ?_
  refine New_i fun b11 h1 e11 g1 k11 _ => ?_
  refine St_i k11 (by simp) rfl fun h2 o2 k2 => ?_
  have g2 := o2.grw g1 (by omega)
  have h11 : hF.size ≤ b11 := by omega
  refine Ld_blk (x := fv) (R.k9.grw g2) rfl ?_
  have fin : ∀ (k : Nat) (h' : Hp), (k = rs.length ∨ (k : Int) = early) → Grw hF h' → Blk h' b11 #[nv k] 3 → J3_3 (at0 b2) (at0 b6) (at0 b7) (at0 b9) (at0 b11) K Kp h' := by
    intro k h' hc g' q
    refine J3_3.of ?_
    unfold JT3_3
    refine Ld_blk (x := (k : Int)) q rfl (Ld_blk (x := want) (R.k7.grw g') rfl ?_)
    refine If_i (fun hne => ?_) fun _ => in4 R g' h11 q hfix hk
    refine Ld_blk (x := (k : Int)) q rfl (Ld_blk (x := early) (R.k6.grw g') rfl ?_)
    refine If_f ?_ (in4 R g' h11 q hfix hk)
    rcases hc with e | e
    · rw [R.n, e] at hne; simp at hne
    · rw [e]; simp
  refine R3_11.rule (α := Nat × Nat) (fun y => (y.1 : Int)) (fun y => (y.2 : Int)) R.it (fun pre h' => Grw hF h' ∧ Blk h' b11 #[nv pre.length] 3) (fun pre h' => (pre.length : Int) = early ∧ Grw hF h' ∧ Blk h' b11 #[nv pre.length] 3) (fun _ _ => False) ⟨g2, k2⟩
    ?_ ?_ (fun pre h1 i => R.pre h1 i.1) ?_ ?_ (fun _ _ _ _ hh => hh) (fun _ _ _ _ _ _ hh => hh) ?_ ?_ ?_ (fun _ _ _ _ hh => hh.elim)
  · rintro pre h3 h4 g5 ⟨i1, i2⟩
    exact ⟨i1.trans g5, i2.grw g5⟩
  · rintro l pre h3 h4 hl t ⟨i1, i2⟩
    have := g2.1
    have := k2.lt
    exact ⟨t.only.grw i1 (by omega), t.only.blk i2 (by omega)⟩
  · rintro pre h3 h4 g5 ⟨i0, i1, i2⟩
    exact ⟨i0, i1.trans g5, i2.grw g5⟩
  · rintro l pre h3 h4 hl t ⟨i0, i1, i2⟩
    have := g2.1
    have := k2.lt
    exact ⟨i0, t.only.grw i1 (by omega), t.only.blk i2 (by omega)⟩
  · rintro l pre y suf h3 hxs hl hlr ⟨i1, i2⟩ N X hNx hX2 _
    unfold RT3_11
    refine ⟨rfl, fun hB tB => ?_⟩
    have o := tB.only
    have z1 := g2.1
    have z2 := k2.lt
    have gB := o.grw i1 (by omega)
    have q11 := o.blk i2 (by omega)
    have q7 := R.k7.grw gB
    have hr : rs[pre.length]? = some y := by rw [hxs]; simp
    have hpl : pre.length < rs.length := by rw [hxs]; simp
    refine Ld_blk (x := (pre.length : Int)) q11 rfl (Ld_blk (x := want) q7 rfl ?_)
    refine If_f (by rw [decide_eq_false_iff_not, R.n]; omega) ?_
    refine Ld_blk (x := want) q7 rfl (Ld_blk (x := (pre.length : Int)) q11 rfl ?_)
    refine runAt R.n (R.wg gB) hr fun c0 c1 => Ld_i c0 (If_f (by simp) ?_)
    refine Ld_blk (x := want) q7 rfl (Ld_blk (x := (pre.length : Int)) q11 rfl ?_)
    refine runAt R.n (R.wg gB) hr fun _ _ => ?_
    rw [add_blk]
    refine Ld_i c1 (If_f (by simp) ?_)
    refine Ld_blk (x := (pre.length : Int)) q11 rfl (Wr_i64 (by omega) (by omega) ?_)
    refine St_i q11 (by simp) rfl fun h5 o5 k5 => ?_
    have g5 := o5.grw gB h11
    have pl : h5[l]? = hB[l]? := o5.2 l (by omega)
    have e : (((pre ++ [y]).length : Nat) : Int) = (pre.length : Int) + 1 := by simp
    have p11 : Blk h5 b11 #[nv (pre ++ [y]).length] 3 := by
      have e : nv (pre ++ [y]).length = .int .i64 ((pre.length : Int) + 1) := by simp [nv]
      rw [e]; exact k5
    refine Ld_blk (x := (pre.length : Int) + 1) k5 rfl (Ld_blk (x := early) (R.k6.grw g5) rfl ?_)
    refine If_i (fun hz => ?_) fun _ => hNx hB h5 tB pl ⟨g5, p11⟩
    refine hX2 hB h5 tB pl ⟨?_, g5, p11⟩
    rw [e]; simpa using hz
  · rintro h3 ⟨i1, i2⟩
    unfold RD3_11
    exact fin rs.length h3 (.inl rfl) i1 i2
  · rintro pre suf h3 _ ⟨i0, i1, i2⟩
    unfold RX3_11_2
    exact fin pre.length h3 (.inr i0) i1 i2
end law
end Go.Proofs.YtajgmklgfdgnlaaDoor
