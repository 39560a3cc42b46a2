/- 'ArrayCuts': the law answers true and leaves its arguments as they were. Conditions: the row's own (the tables of kinds and of UTF-8 as the program's text lays them, which the card ties). -/
import Derived.Test.YtcgdhhchjgbhnaaGreatDoorCutsJ4
import Derived.Deep.DeepHandedRow
set_option linter.unusedVariables false
set_option linter.unusedSimpArgs false
namespace Go.Proofs.YtcgdhhchjgbhnaaGreatDoor.arrayCuts
open Go Go.Sh Go.ChangeShapes Go.WideShapes Go.RowKit
set_option maxRecDepth 100000 in
theorem contract (H : Type) (enc : TypeId × Value → H) (W : World) (base : Nat) (args : Array Value) (ds gs : List (DataW H)) (before : List MemPlace)
    (hval : ∀ (j : Nat) t v, Tryz.f4.params[j]? = some t → args[j]? = some v → Value.okWide Tryz.prog W .any base t v)
    (hW : DataW.Whole enc Tryz.prog Tryz.f4.params.toList Rows.arrayCutsSpec.vars false W args.toList ds gs before) (hL : laidMetH Tryz.prog Rows.arrayCutsRow.laid W) :
    Calls Tryz.prog 4 args W fun e W' => ∃ v, e = .returned v ∧ Rows.arrayCutsSpec.post enc Tryz.prog Tryz.f4 false true false false W args v W' := by
  have hW' := hW
  obtain ⟨p, q, hA, hV, rfl, hfz, hnd⟩ := hW
  obtain ⟨rfl, rfl⟩ := trodVars_none hV
  obtain ⟨ht, hu⟩ := tabs_of hL
  rw [par4] at hA hval
  obtain ⟨v0, vs0, d0, ds0, p0, q0, hargs, rfl, rfl, ⟨fuel0, h0⟩, r0⟩ := trodAll_cons hA
  obtain ⟨v1, vs1, d1, ds1, p1, q1, rfl, rfl, rfl, ⟨fuel1, h1⟩, r1⟩ := trodAll_cons r0
  obtain ⟨v2, vs2, d2, ds2, p2, q2, rfl, rfl, rfl, ⟨fuel2, h2⟩, r2⟩ := trodAll_cons r1
  obtain ⟨rfl, rfl, rfl⟩ := trodAll_nil r2
  obtain rfl : args = #[v0, v1, v2] := by cases args; simp_all
  obtain ⟨F0, s0, hc0, hs0, hsm0⟩ := rd_fld h0
  have hv0 : v0 = .agg #[.string F0.name, .bool F0.nul, .int .i64 F0.k, .int .i64 F0.w, .int .i64 F0.id, .int .i64 F0.ix, Sl.v s0] := by
    rw [agg_of u26 (hval 0 26 v0 rfl rfl)]; congr 1; apply Array.ext'; exact hc0
  subst hv0
  obtain ⟨D1, p1, hc1, hd1, hm1⟩ := rd_dat h1
  have hv1 : v1 = .agg #[.int .i64 D1.len, .int .i64 D1.off, .int .i64 D1.nul, Sl.v p1.1, Sl.v p1.2.1, Sl.v p1.2.2] := by
    rw [agg_of u30 (hval 1 30 v1 rfl rfl)]; congr 1; apply Array.ext'; exact hc1
  subst hv1
  obtain ⟨x2, y2, hc2⟩ := rd_part h2
  have hv2 : v2 = .agg #[.int .i64 x2, .int .i64 y2] := by
    rw [agg_of u58 (hval 2 58 v2 rfl rfl)]; congr 1; apply Array.ext'; exact hc2
  subst hv2
  refine calls_of (R := fun v W' => Rows.arrayCutsSpec.post enc Tryz.prog Tryz.f4 false true false false W _ v W') ?_ fun W' hs g => ?_
  · refine CallH.mono (law4 ht hu hsm0 hs0 hd1 hm1 (K := fun r h' => r = true ∧ Grw (hpz W) h') fun h' g => ⟨rfl, g⟩) ?_ fun _ _ hh => hh
    rintro v h' ⟨r, rfl, rfl, g⟩; exact ⟨rfl, g⟩
  · refine post_true laidOut mapsR slicesFull ?_ hW' rfl (t := 4) (by kernel_rfl) u4 rfl rfl rfl hs g
    rw [par4]; intro t ht; simp only [List.mem_cons, List.not_mem_nil, or_false] at ht; rcases ht with rfl | rfl | rfl <;> exact of_decide_eq_true (by kernel_rfl)
noncomputable def laidWorld (os : Os) : World :=
  { World.holding Tryz.prog os ⟨#[], #[], []⟩ with heap := (((World.holding Tryz.prog os ⟨#[], #[], []⟩).heap.modify 0 (fun | .cells _ t frozen => .cells #[.string ⟨#[]⟩, .int .i64 0, .int .i64 0, .bool false, .string ⟨#[110, 117, 108, 108]⟩, .int .i64 0, .int .i64 0, .bool false, .string ⟨#[98, 111, 111, 108]⟩, .int .i64 0, .int .i64 2, .bool false, .string ⟨#[105, 110, 116, 56]⟩, .int .i64 1, .int .i64 2, .bool true, .string ⟨#[105, 110, 116, 49, 54]⟩, .int .i64 2, .int .i64 2, .bool true, .string ⟨#[105, 110, 116, 51, 50]⟩, .int .i64 4, .int .i64 2, .bool true, .string ⟨#[105, 110, 116, 54, 52]⟩, .int .i64 8, .int .i64 2, .bool true, .string ⟨#[117, 105, 110, 116, 56]⟩, .int .i64 1, .int .i64 2, .bool true, .string ⟨#[117, 105, 110, 116, 49, 54]⟩, .int .i64 2, .int .i64 2, .bool true, .string ⟨#[117, 105, 110, 116, 51, 50]⟩, .int .i64 4, .int .i64 2, .bool true, .string ⟨#[117, 105, 110, 116, 54, 52]⟩, .int .i64 8, .int .i64 2, .bool true, .string ⟨#[102, 108, 111, 97, 116, 54, 52]⟩, .int .i64 8, .int .i64 2, .bool false, .string ⟨#[116, 101, 120, 116]⟩, .int .i64 0, .int .i64 3, .bool false, .string ⟨#[98, 121, 116, 101, 115]⟩, .int .i64 0, .int .i64 3, .bool false, .string ⟨#[102, 105, 120, 101, 100]⟩, .int .i64 0, .int .i64 2, .bool false, .string ⟨#[108, 105, 115, 116]⟩, .int .i64 0, .int .i64 2, .bool false, .string ⟨#[115, 112, 97, 110]⟩, .int .i64 0, .int .i64 1, .bool false, .string ⟨#[115, 116, 114, 117, 99, 116]⟩, .int .i64 0, .int .i64 1, .bool false, .string ⟨#[99, 104, 111, 105, 99, 101]⟩, .int .i64 0, .int .i64 2, .bool false, .string ⟨#[100, 105, 99, 116]⟩, .int .i64 0, .int .i64 2, .bool false, .string ⟨#[114, 117, 110, 115]⟩, .int .i64 0, .int .i64 0, .bool false] t frozen | o => o)).modify 1
    (fun | .cells _ t frozen => .cells (Pinned.utf8FirstZ.map fun n : Nat => Value.int .u8 n).toArray t frozen | o => o)).modify 2 (fun | .cells _ t frozen => .cells #[.int .u8 128, .int .u8 191, .int .u8 160, .int .u8 191, .int .u8 128, .int .u8 159, .int .u8 144, .int .u8 191, .int .u8 128, .int .u8 143, .int .u8 0, .int .u8 0, .int .u8 0, .int .u8 0, .int .u8 0, .int .u8 0, .int .u8 0, .int .u8 0, .int .u8 0, .int .u8 0, .int .u8 0, .int .u8 0, .int .u8 0, .int .u8 0, .int .u8 0, .int .u8 0, .int .u8 0, .int .u8 0, .int .u8 0, .int .u8 0, .int .u8 0, .int .u8 0] t frozen | o => o) }
theorem laid_met (os : Os) : laidMet Tryz.prog Rows.arrayCutsRow.laid ((laidWorld os).forCall (fun _ _ => 0) ⟨#[], #[.agg #[.string ⟨#[]⟩, .bool false, .int .i64 0, .int .i64 0, .int .i64 0, .int .i64 0, .slice none 0 0], .agg #[.int .i64 0, .int .i64 0, .int .i64 0, .slice none 0 0, .slice none 0 0, .slice none 0 0], .agg #[.int .i64 0, .int .i64 0]], []⟩).memory :=
  laidMet_of_run' 8 (by kernel_rfl) (by kernel_rfl)
theorem reads (os : Os) {H : Type} (enc : TypeId × Value → H) : ∃ places, DataW.whole enc Tryz.prog ((laidWorld os).forCall (fun _ _ => 0) ⟨#[], #[.agg #[.string ⟨#[]⟩, .bool false, .int .i64 0, .int .i64 0, .int .i64 0, .int .i64 0, .slice none 0 0], .agg #[.int .i64 0, .int .i64 0, .int .i64 0, .slice none 0 0, .slice none 0 0, .slice none 0 0], .agg #[.int .i64 0, .int .i64 0]], []⟩).memory Tryz.f4.params.toList Rows.arrayCutsSpec.vars false #[.agg #[.string ⟨#[]⟩, .bool false, .int .i64 0, .int .i64 0, .int .i64 0, .int .i64 0, .slice none 0 0], .agg #[.int .i64 0, .int .i64 0, .int .i64 0, .slice none 0 0, .slice none 0 0, .slice none 0 0], .agg #[.int .i64 0, .int .i64 0]].toList 8 = some ([.agg [.lit (.string []), .lit (.bool false), .agg [.lit (.int .i64 0), .lit (.int .i64 0), .lit (.int .i64 0), .lit (.int .i64 0), .nil]], .agg [.lit (.int .i64 0), .lit (.int .i64 0), .lit (.int .i64 0), .nil, .nil, .nil], .agg [.lit (.int .i64 0), .lit (.int .i64 0)]], [], places) :=
  ⟨[], by kernel_rfl⟩
set_option maxRecDepth 100000 in
theorem lifted (os : Os) (started : os.Started) (H : Type) (enc : TypeId × Value → H) (F : Stop.Interp) :
    ReturnsInHanded {} Tryz.checked os 4 .any ((OpenSpec.ofChange Rows.arrayCutsSpec).preRow enc Tryz.prog Tryz.f4 Rows.arrayCutsRow.domain false Rows.arrayCutsRow.laid) (((OpenSpec.ofChange Rows.arrayCutsSpec).at F).post enc Tryz.prog Tryz.f4 false true false false) := by
  obtain ⟨places, hx⟩ := reads os enc
  refine returnsInHanded_of_row (C := Tryz.checked) (s := OpenSpec.ofChange Rows.arrayCutsSpec) own started (by kernel_rfl) fun4
    (witness_row_at (enc := enc) (C := Tryz.checked) false (laidWorld os) #[.agg #[.string ⟨#[]⟩, .bool false, .int .i64 0, .int .i64 0, .int .i64 0, .int .i64 0, .slice none 0 0], .agg #[.int .i64 0, .int .i64 0, .int .i64 0, .slice none 0 0, .slice none 0 0, .slice none 0 0], .agg #[.int .i64 0, .int .i64 0]] rfl (by kernel_rfl) (by kernel_rfl) (by kernel_rfl)
      (OpenSpec.preRow_of_cond 8 hx (by kernel_rfl) (fun k hk => by cases hk) (by kernel_rfl) (laid_met os))) ?_
  intro W base args ds gs before hval hW _ hcond hwt hL _ _
  exact contract H enc W base args ds gs before hval hW hL
theorem said : Rows.ArrayCutsSaid :=
  OpenClaim.holds_of_cond 4 Tryz.f4 rfl rfl rfl rfl rfl rfl rfl ⟨rfl, rfl, rfl, rfl, rfl⟩ rfl rfl rfl rfl rfl (by kernel_rfl) fun4 (by kernel_rfl)
    (of_decide_eq_true (by kernel_rfl)) (by unfold Func.isWrapper; first | (rw [if_pos (by decide +kernel)]; kernel_rfl) | (rw [if_neg (by decide +kernel)]; exact ⟨rfl, rfl⟩))
    (fun os started H enc _ F => by rw [OpenClaim.pre_eq_preRow]; exact lifted os started H enc F)
theorem plain (f : FuncId) (fn : Func) (hf : Tryz.pinned.checked.prog.funcNamed Rows.arrayCutsRow.func = some f) (hfn : Tryz.pinned.checked.prog.funcs[f]? = some fn) :
    true = Tryz.pinned.checked.prog.looks [] ∧ ∀ (j : Nat) t, fn.params[j]? = some t → Tryz.pinned.checked.prog.wantsStandIn t = false := by
  obtain rfl : f = 4 := Option.some.inj ((show Tryz.prog.funcNamed Rows.arrayCutsRow.func = some 4 by kernel_rfl).symm.trans hf) |>.symm
  obtain rfl : fn = Tryz.f4 := (Option.some.inj (fun4.symm.trans hfn)).symm
  refine ⟨by kernel_rfl, fun j t ht => ?_⟩
  rw [par4] at ht
  have hm := Array.mem_of_getElem? ht
  simp only [List.mem_toArray, List.mem_cons, List.not_mem_nil, or_false, or_self] at hm
  rcases hm with rfl | rfl | rfl
  · exact (show Tryz.prog.wantsStandIn 26 = false by kernel_rfl)
  · exact (show Tryz.prog.wantsStandIn 30 = false by kernel_rfl)
  · exact (show Tryz.prog.wantsStandIn 58 = false by kernel_rfl)
theorem card : Rows.ArrayCutsCardSaid :=
  Claim7.holds_tied_plain_at .later [] _ _ _ _ said (fun _ h => by cases h) (by kernel_rfl) (fun _ h => by cases h) arrayCuts_row_tie rfl ⟨rfl, rfl⟩ (by kernel_rfl) rfl plain (by kernel_rfl)
end Go.Proofs.YtcgdhhchjgbhnaaGreatDoor.arrayCuts
