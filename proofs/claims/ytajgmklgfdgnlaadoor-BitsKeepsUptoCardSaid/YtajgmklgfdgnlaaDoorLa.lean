/- The law BitsRuns: its ranges. -/
import Derived.Test.YtajgmklgfdgnlaaDoorN
import Derived.Test.YtajgmklgfdgnlaaDoorS1
namespace Go.Proofs.YtajgmklgfdgnlaaDoor
open Go Go.Sh
/-- what stands at a number's variable -/
abbrev nv (k : Nat) : Value := .int .i64 (k : Int)
abbrev at0 (b : Nat) : Addr := ⟨b, 0, none⟩
/-- the comparison of a run with the k-th of the document's -/
theorem runAt {h : Hp} {want : Sl} {bw k : Nat} {rs : List (Nat × Nat)} {r : Nat × Nat} (hn : want.n = rs.length) (hw : rs = [] ∨ OwnS 2 h want bw (flat rs) 31) (hr : rs[k]? = some r) {X : Addr → Prop}
    (hX : cell h ⟨bw, 2 * k, none⟩ = some (.int .i64 (r.1 : Int)) → cell h ⟨bw, 2 * k + 1, none⟩ = some (.int .i64 (r.2 : Int)) → X ⟨bw, 2 * k, none⟩) : Ix want.a want.n 2 (k : Int) X := by
  have hk : k < rs.length := (List.getElem?_eq_some_iff.1 hr).1
  rcases hw with rfl | ow
  · simp at hk
  · refine ow.ix (by omega) (by omega) ?_
    have e : ((k : Int)).toNat * 2 = 2 * k := by omega
    rw [e]
    obtain ⟨_, _, cs, h3, _, _, h6⟩ := ow
    exact hX (by rw [cell_blk h3, h6 _ (by omega)]; exact flat_get0 hr) (by rw [cell_blk h3, h6 _ (by omega)]; exact flat_get1 hr)
section law
variable {hF : Hp} {b2 b6 b7 b9 bw : Nat} {want : Sl} {early : Int} {fv : Value} {rs : List (Nat × Nat)} {Pre : Hp → Prop} {K : Bool → Hp → Prop} {Kp : List PanicEntry → Hp → Prop}
/-- what the law has when it begins to walk over the runs -/
structure Ready (hF : Hp) (b2 b6 b7 b9 bw : Nat) (want : Sl) (early : Int) (fv : Value) (rs : List (Nat × Nat)) (Pre : Hp → Prop) : Prop where
  len : rs.length < 2 ^ 40
  it : Iter Tryd.prog fv rs encR Pre
  pre : ∀ h', Grw hF h' → Pre h'
  k2 : Blk hF b2 #[.bool false] 4
  k6 : Blk hF b6 #[.int .i64 early] 3
  k7 : Blk hF b7 #[want.v] 25
  k9 : Blk hF b9 #[fv] 28
  n : want.n = rs.length
  w : rs = [] ∨ OwnS 2 hF want bw (flat rs) 31
  fn : ∀ X : Bool → Prop, X false → FnNil fv X
  tab : Tab hF
theorem Ready.wg {h' : Hp} (R : Ready hF b2 b6 b7 b9 bw want early fv rs Pre) (g : Grw hF h') : rs = [] ∨ OwnS 2 h' want bw (flat rs) 31 := R.w.imp id fun o => o.grw g
/-- the innermost walk, and what follows it -/
theorem in7 (R : Ready hF b2 b6 b7 b9 bw want early fv rs Pre) {b11 lb k : Nat} {h : Hp} {NB : Hp → Prop} {XB : Code → Hp → Prop} (g : Grw hF h) (h11 : hF.size ≤ b11) (hk : k < rs.length) (k11 : Blk h b11 #[nv k] 3) (hlb : ∃ r0, h[lb]? = some (.loop r0)) (hne : lb ≠ b11)
    (hN : ∀ h', h'[lb]? = h[lb]? → Grw hF h' → Blk h' b11 #[nv (k + 1)] 3 → NB h') : J3_7 (at0 b2) (at0 b7) (at0 b9) (at0 b11) lb NB XB h := by
  have hlen := R.len
  refine J3_7.of ?_
  unfold JT3_7
  refine New_i fun b16 h1 e16 g1 k16 _ => ?_
  refine St_i k16 (by decide) rfl fun h2 o2 k16' => ?_
  have lt11 := k11.lt
  obtain ⟨r0, hr0⟩ := hlb
  have ltlb : lb < h.size := (Array.getElem?_eq_some_iff.1 hr0).1
  have g2 : Grw h h2 := o2.grw g1 (by omega)
  have gsz := g.1
  have k9 : Blk h2 b9 #[fv] 28 := R.k9.grw (g.trans g2)
  refine Ld_blk (x := fv) k9 rfl ?_
  have hr2 : h2[lb]? = h[lb]? := g2.2 lb ltlb
  have fin : ∀ (j : Nat) (h' : Hp), (k = 0 → j = rs.length) → Grw hF h' → Blk h' b11 #[nv k] 3 → Blk h' b16 #[nv j] 3 → h'[lb]? = h[lb]? → J3_8 (at0 b2) (at0 b7) (at0 b11) (at0 b16) lb NB XB h' := by
    intro j h' hj g' q11 q16 qlb
    refine J3_8.of ?_
    unfold JT3_8
    have tail : Ld h' (at0 b11) (Value.int .i64) fun t158 => Wr .i64 (t158 + (1 : Int)) fun t159 => St h' (at0 b11) (.int .i64 t159) fun h1 => NB h1 := by
      refine Ld_blk (x := (k : Int)) q11 rfl (Wr_i64 (by omega) (by omega) ?_)
      refine St_i q11 (by simp) rfl fun h5 o5 k5 => ?_
      exact hN h5 ((o5.2 lb hne).trans qlb) (o5.grw g' h11) k5
    refine Ld_blk (x := (k : Int)) q11 rfl (If_i (fun hz => ?_) fun _ => tail)
    refine Ld_blk (x := (j : Int)) q16 rfl (Ld_blk (x := want) (R.k7.grw g') rfl ?_)
    refine If_f ?_ tail
    have : k = 0 := by simpa using hz
    rw [R.n, hj this]; simp
  refine R3_9.rule (α := Nat × Nat) (fun y => (y.1 : Int)) (fun y => (y.2 : Int)) R.it ⟨r0, hr2.trans hr0⟩
    (fun pre h' => Grw hF h' ∧ Blk h' b11 #[nv k] 3 ∧ Blk h' b16 #[nv pre.length] 3 ∧ h'[lb]? = h[lb]?)
    (fun pre h' => 0 < k ∧ Grw hF h' ∧ Blk h' b11 #[nv k] 3 ∧ Blk h' b16 #[nv pre.length] 3 ∧ h'[lb]? = h[lb]?)
    (fun _ _ => False) ⟨g.trans g2, k11.grw g2, k16', hr2⟩ ?_ ?_ (fun pre h1 i => R.pre h1 i.1) ?_ ?_ (fun _ _ _ _ hh => hh) (fun _ _ _ _ _ _ hh => hh) ?_ ?_ ?_ (fun _ _ _ _ hh => hh.elim)
  · rintro pre h3 h4 g5 ⟨i1, i2, i3, i4⟩
    exact ⟨i1.trans g5, i2.grw g5, i3.grw g5, (g5.2 lb (Array.getElem?_eq_some_iff.1 (i4.trans hr0)).1).trans i4⟩
  · rintro l pre h3 h4 hl t ⟨i1, i2, i3, i4⟩
    have o := t.only
    have := g2.1
    have := k16'.lt
    exact ⟨o.grw i1 (by omega), o.blk i2 (by omega), o.blk i3 (by omega), (o.2 lb (by omega)).trans i4⟩
  · rintro pre h3 h4 g5 ⟨i0, i1, i2, i3, i4⟩
    exact ⟨i0, i1.trans g5, i2.grw g5, i3.grw g5, (g5.2 lb (Array.getElem?_eq_some_iff.1 (i4.trans hr0)).1).trans i4⟩
  · rintro l pre h3 h4 hl t ⟨i0, i1, i2, i3, i4⟩
    have o := t.only
    have := g2.1
    have := k16'.lt
    exact ⟨i0, o.grw i1 (by omega), o.blk i2 (by omega), o.blk i3 (by omega), (o.2 lb (by omega)).trans i4⟩
  · rintro l pre y suf h3 hxs hl _ ⟨i1, i2, i3, i4⟩ N X hNx hX6 _
    unfold RT3_9
    refine ⟨rfl, fun hB tB => ?_⟩
    have o := tB.only
    have z1 := g2.1
    have z2 := k16'.lt
    have gB := o.grw i1 (by omega)
    have q11 := o.blk i2 (by omega)
    have q16 := o.blk i3 (by omega)
    have qlb : hB[lb]? = h[lb]? := (o.2 lb (by omega)).trans i4
    have q7 := R.k7.grw gB
    have hr : rs[pre.length]? = some y := by rw [hxs]; simp
    have hpl : pre.length < rs.length := by rw [hxs]; simp
    refine Ld_blk (x := (pre.length : Int)) q16 rfl (Ld_blk (x := want) q7 rfl ?_)
    refine If_f (by rw [decide_eq_false_iff_not, R.n]; omega) ?_
    refine Ld_blk (x := want) q7 rfl (Ld_blk (x := (pre.length : Int)) q16 rfl ?_)
    refine runAt R.n (R.wg gB) hr fun c0 c1 => Ld_i c0 (If_f (by simp) ?_)
    refine Ld_blk (x := want) q7 rfl (Ld_blk (x := (pre.length : Int)) q16 rfl ?_)
    refine runAt R.n (R.wg gB) hr fun _ _ => ?_
    rw [add_blk]
    refine Ld_i c1 (If_f (by simp) ?_)
    refine J3_10.of ?_
    unfold JT3_10
    refine Ld_blk (x := (pre.length : Int)) q16 rfl (Wr_i64 (by omega) (by omega) ?_)
    refine St_i q16 (by simp) rfl fun h5 o5 k5 => ?_
    have g5 := o5.grw gB (by omega)
    have p11 := o5.blk q11 (by omega)
    have plb : h5[lb]? = h[lb]? := (o5.2 lb (by omega)).trans qlb
    have pl : h5[l]? = hB[l]? := o5.2 l (by omega)
    have p16 : Blk h5 b16 #[nv (pre ++ [y]).length] 3 := by
      have e : nv (pre ++ [y]).length = .int .i64 ((pre.length : Int) + 1) := by simp [nv]
      rw [e]; exact k5
    have e : (((pre ++ [y]).length : Nat) : Int) = (pre.length : Int) + 1 := by simp
    refine Ld_blk (x := (pre.length : Int) + 1) k5 rfl ?_
    refine If_i (fun _ => ?_) fun _ => hNx hB h5 tB pl ⟨g5, p11, p16, plb⟩
    refine Ld_blk (x := (k : Int)) p11 rfl (If_i (fun hz => ?_) fun _ => hNx hB h5 tB pl ⟨g5, p11, p16, plb⟩)
    simp only [gt_iff_lt, decide_eq_true_eq] at hz
    exact hX6 hB h5 tB pl ⟨by omega, g5, p11, p16, plb⟩
  · rintro h3 ⟨i1, i2, i3, i4⟩
    unfold RD3_9
    exact fin rs.length h3 (fun _ => rfl) i1 i2 i3 i4
  · rintro pre suf h3 _ ⟨i0, i1, i2, i3, i4⟩
    unfold RX3_9_6
    exact fin pre.length h3 (fun e => by omega) i1 i2 i3 i4
end law
end Go.Proofs.YtajgmklgfdgnlaaDoor
