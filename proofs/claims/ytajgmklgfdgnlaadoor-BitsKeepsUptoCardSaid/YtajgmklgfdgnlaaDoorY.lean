/- What the rows of this seat ask of a call: reading the arguments, the bound, the table. -/
import Derived.Test.YtajgmklgfdgnlaaDoorShGlue
import Derived.Test.YtajgmklgfdgnlaaDoorX
import Derived.Test.YtajgmklgfdgnlaaDoorCards
import Derived.Test.YtajgmklgfdgnlaaDoorTie
namespace Go.Proofs.YtajgmklgfdgnlaaDoor
open Go Go.Sh Go.ChangeShapes Go.WideShapes Go.RowKit
theorem bulkOk {H : Type} : Bulk (H := H) Rows.uptoBulk Rows.uptoBulkAll where
  nil := by simp [Rows.uptoBulkAll]
  cons d r := by simp [Rows.uptoBulkAll]
  slice e s := by simp [Rows.uptoBulk]
  agg l := by simp [Rows.uptoBulk]
  str l := by simp [Rows.uptoBulk]
  ptr d := by simp [Rows.uptoBulk]
  one d := by
    cases d with
    | lit l => cases l <;> simp [Rows.uptoBulk]
    | nil => simp [Rows.uptoBulk]
    | ptr d => simp [Rows.uptoBulk]
    | slice elems spare => simp [Rows.uptoBulk]
    | agg parts => simp [Rows.uptoBulk]
    | iface t d => simp [Rows.uptoBulk]
    | map entries => simp [Rows.uptoBulk]
    | held h => simp [Rows.uptoBulk]
theorem own : ownKnob Tryd.prog.godebug = none := by kernel_rfl
theorem laidOut : laidOutB Tryd.prog = true := by kernel_rfl
theorem mapsR : mapsRowed Tryd.prog = true := by kernel_rfl
theorem slicesFull : ((List.range Tryd.prog.types.size).all fun t => match Tryd.prog.underlying t with | some (.slice e) => decide (0 < Tryd.prog.cellsOf e) | _ => true) = true := by kernel_rfl
theorem c5 : Tryd.prog.cellsOf 5 = 1 := by kernel_rfl
theorem c4 : Tryd.prog.cellsOf 4 = 1 := by kernel_rfl
theorem c3 : Tryd.prog.cellsOf 3 = 1 := by kernel_rfl
theorem c22 : Tryd.prog.cellsOf 22 = 1 := by kernel_rfl
theorem c36 : Tryd.prog.cellsOf 36 = 1 := by kernel_rfl
theorem c24 : Tryd.prog.cellsOf 24 = 5 := by kernel_rfl
theorem c42 : Tryd.prog.cellsOf 42 = 8 := by kernel_rfl
theorem gTab : Tryd.prog.globalNamed "colonnade/bits.ones" = some 0 := by kernel_rfl
theorem gTabType : (Tryd.prog.globals[0]?).map (·.type) = some 73 := by kernel_rfl
theorem c73 : Tryd.prog.cellsOf 73 = 16 := by kernel_rfl
theorem tab_of {W : World} (h : laidMetH Tryd.prog [("colonnade/bits.ones", Rows.laid_colonnade_bits_ones)] W) : Tab (hpz W) := by
  have t : Lib.TabIs Tryd.prog W "colonnade/bits.ones" .i64 [0, 1, 1, 2, 1, 2, 2, 3, 1, 2, 2, 3, 2, 3, 3, 4] :=
    Lib.tabIs_of_head (rest := []) gTab gTabType Tryd.underlying73 Tryd.underlying3 c3 c73 h
  intro i hi
  rw [cell_hpz]
  have := t.cell gTab i (by simpa using hi)
  rw [this]
  rcases i with _ | _ | _ | _ | _ | _ | _ | _ | _ | _ | _ | _ | _ | _ | _ | _ | i <;> first | omega | rfl
section
variable {H : Type} {enc : TypeId × Value → H} {W : World} {base fuel : Nat} {cs : List Value} {x : DataW H × List MemPlace}
theorem Bs.mk' {h : Hp} {s : Sl} {l : List Nat} (h1 : Sv h s (l.map fun x => .int .u8 (Int.ofNat x))) (h2 : ∀ v ∈ l, v < 256) (h3 : l.length < 2 ^ 36) : Bs h s l := ⟨h1, h2, h3⟩
/-- a 'Part' -/
theorem open_part (h : DataW.trod enc Tryd.prog W 0 (fun _ => true) true fuel 24 cs = some x) (hb : Rows.uptoBulk x.1 ≤ 1048576) :
    ∃ (s1 s2 : Sl) (fr n early : Int) (la lb : List Nat), cs = [s1.v, s2.v, .int .i64 fr, .int .i64 n, .int .i64 early] ∧ Bs (hpz W) s1 la ∧ Bs (hpz W) s2 lb ∧ I64 fr ∧ I64 n ∧ I64 early ∧ la.length ≤ 1048576 ∧ lb.length ≤ 1048576 := by
  obtain ⟨m, rfl, hl, hf⟩ := open_fields bulkOk Tryd.underlying24 h
  rw [c24] at hl
  match cs, hl with
  | [v0, v1, v2, v3, v4], _ =>
    obtain ⟨y0, t0, b0⟩ := hf 0 _ rfl
    obtain ⟨y1, t1, b1⟩ := hf 1 _ rfl
    obtain ⟨y2, t2, b2⟩ := hf 2 _ rfl
    obtain ⟨y3, t3, b3⟩ := hf 3 _ rfl
    obtain ⟨y4, t4, b4⟩ := hf 4 _ rfl
    obtain ⟨s1, la, e0, q0, r0, l0, _⟩ := open_bytes bulkOk Tryd.underlying22 Tryd.underlying5 c5 t0
    obtain ⟨s2, lb, e1, q1, r1, l1, _⟩ := open_bytes bulkOk Tryd.underlying22 Tryd.underlying5 c5 t1
    obtain ⟨i2, e2, w2⟩ := open_i64 Tryd.underlying3 t2
    obtain ⟨i3, e3, w3⟩ := open_i64 Tryd.underlying3 t3
    obtain ⟨i4, e4, w4⟩ := open_i64 Tryd.underlying3 t4
    simp [c22, c3] at e0 e1 e2 e3 e4
    subst e0 e1 e2 e3 e4
    exact ⟨s1, s2, i2, i3, i4, la, lb, rfl, Bs.mk' q0 r0 (by omega), Bs.mk' q1 r1 (by omega), w2, w3, w4, by omega, by omega⟩
/-- an 'Op' -/
theorem open_op (h : DataW.trod enc Tryd.prog W 0 (fun _ => true) true fuel 42 cs = some x) (hb : Rows.uptoBulk x.1 ≤ 1048576) :
    ∃ (o : OpD) (s1 s2 s3 : Sl), cs = opCells o s1 s2 s3 ∧ OpIn (hpz W) o s1 s2 s3 ∧ I64 o.kind ∧ o.a.length ≤ 1048576 ∧ o.b.length ≤ 1048576 ∧ o.l.length ≤ 1048576 := by
  obtain ⟨m, rfl, hl, hf⟩ := open_fields bulkOk Tryd.underlying42 h
  rw [c42] at hl
  match cs, hl with
  | [v0, v1, v2, v3, v4, v5, v6, v7], _ =>
    obtain ⟨y0, t0, b0⟩ := hf 0 _ rfl
    obtain ⟨y1, t1, b1⟩ := hf 1 _ rfl
    obtain ⟨y2, t2, b2⟩ := hf 2 _ rfl
    obtain ⟨y3, t3, b3⟩ := hf 3 _ rfl
    obtain ⟨y4, t4, b4⟩ := hf 4 _ rfl
    obtain ⟨y5, t5, b5⟩ := hf 5 _ rfl
    obtain ⟨y6, t6, b6⟩ := hf 6 _ rfl
    obtain ⟨y7, t7, b7⟩ := hf 7 _ rfl
    obtain ⟨i0, e0, w0⟩ := open_i64 Tryd.underlying3 t0
    obtain ⟨s1, la, e1, q1, r1, l1, _⟩ := open_bytes bulkOk Tryd.underlying22 Tryd.underlying5 c5 t1
    obtain ⟨s2, lb, e2, q2, r2, l2, _⟩ := open_bytes bulkOk Tryd.underlying22 Tryd.underlying5 c5 t2
    obtain ⟨s3, ll, e3, q3, l3, _⟩ := open_bools bulkOk Tryd.underlying36 Tryd.underlying4 c4 t3
    obtain ⟨i4, e4, w4⟩ := open_i64 Tryd.underlying3 t4
    obtain ⟨i5, e5, w5⟩ := open_i64 Tryd.underlying3 t5
    obtain ⟨i6, e6, w6⟩ := open_i64 Tryd.underlying3 t6
    obtain ⟨i7, e7, _⟩ := DataW.trod_bool Tryd.underlying4 t7
    simp [c22, c3, c4, c36] at e0 e1 e2 e3 e4 e5 e6 e7
    subst e0 e1 e2 e3 e4 e5 e6 e7
    exact ⟨⟨i0, la, lb, ll, i4, i5, i6, i7⟩, s1, s2, s3, rfl, ⟨Bs.mk' q1 r1 (by simp only; omega), Bs.mk' q2 r2 (by simp only; omega), q3, by simp only; omega, w4, w5, w6⟩, w0, by simp only; omega, by simp only; omega, by simp only; omega⟩
/-- a script -/
theorem open_script (h : DataW.trod enc Tryd.prog W 0 (fun _ => true) true fuel 34 cs = some x) (hb : Rows.uptoBulk x.1 ≤ 1048576) :
    ∃ (s : Sl) (ops : List OpD), cs = [s.v] ∧ Script (hpz W) s ops ∧ ops.length < 2 ^ 40 := by
  obtain ⟨s, els, rest, n, rfl, rfl, hn, hc, hx, hes⟩ := open_slice Tryd.underlying34 h
  rw [c42] at hes
  have hbe : ∀ y ∈ els, Rows.uptoBulk y.1 ≤ 1048576 := by
    intro y hy
    rcases hx with ⟨_, rfl, _⟩ | ⟨hx, _⟩
    · cases hy
    · have := bulkOk.el hx hy; omega
  have hlen : els.length ≤ 1048576 := by
    rcases hx with ⟨_, rfl, _⟩ | ⟨hx, _⟩
    · simp
    · have := bulkOk.els hx; omega
  have key : ∀ k, k ≤ els.length → ∃ ops : List OpD, ops.length = k ∧ ∀ i o, ops[i]? = some o → ∃ a s1 s2 s3, s.a = some a ∧ Cs (hpz W) (a.add (i * 8)) (opCells o s1 s2 s3) ∧ OpIn (hpz W) o s1 s2 s3 := by
    intro k
    induction k with
    | zero => intro _; exact ⟨[], rfl, fun i o ho => by simp at ho⟩
    | succ k ih =>
      intro hk
      obtain ⟨l, hl, hi⟩ := ih (by omega)
      obtain ⟨a, cs', ha, hl', hcs, htr⟩ := hes k els[k] (List.getElem?_eq_getElem (by omega))
      obtain ⟨o, s1, s2, s3, rfl, ho, _⟩ := open_op htr (hbe _ (List.getElem_mem _))
      refine ⟨l ++ [o], by simp [hl], fun i u hu => ?_⟩
      by_cases hik : i < k
      · rw [List.getElem?_append_left (by omega)] at hu; exact hi i u hu
      · have hi2 : i = k := by have := (List.getElem?_eq_some_iff.1 hu).1; simp at this; omega
        subst hi2
        rw [List.getElem?_append_right (by omega), hl] at hu
        simp only [Nat.sub_self, List.getElem?_cons_zero, Option.some.injEq] at hu
        subst hu
        exact ⟨a, s1, s2, s3, ha, hcs, ho⟩
  obtain ⟨ops, hl, hi⟩ := key _ (Nat.le_refl _)
  exact ⟨s, ops, rfl, ⟨by omega, hi⟩, by omega⟩
end
end Go.Proofs.YtajgmklgfdgnlaaDoor
