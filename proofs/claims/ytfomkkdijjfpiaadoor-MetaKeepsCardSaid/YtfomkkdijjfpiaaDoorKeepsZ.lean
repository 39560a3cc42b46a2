/- 'MetaKeeps': the law answers true and leaves its arguments as they were. Conditions: the row's own (the table of kinds as the program's text lays it, which the card ties). -/
import Derived.Test.YtfomkkdijjfpiaaDoorKeepsJ2
import Derived.Deep.DeepHandedRow
import Derived.Test.YtfomkkdijjfpiaaDoorKeepsJ4
set_option linter.unusedVariables false
set_option linter.unusedSimpArgs false
namespace Go.Proofs.YtfomkkdijjfpiaaDoor.metaKeeps
open Go Go.Sh Go.ChangeShapes Go.WideShapes Go.RowKit
set_option maxRecDepth 100000 in
theorem contract (H : Type) (enc : TypeId × Value → H) (W : World) (base : Nat) (args : Array Value) (ds gs : List (DataW H)) (before : List MemPlace)
    (hval : ∀ (j : Nat) t v, Tryd.f7.params[j]? = some t → args[j]? = some v → Value.okWide Tryd.prog W .any base t v)
    (hW : DataW.Whole enc Tryd.prog Tryd.f7.params.toList Rows.metaKeepsSpec.vars false W args.toList ds gs before) (hL : laidMetH Tryd.prog Rows.metaKeepsRow.laid W)
    (hwt : (DataW.weightsEach Tryd.prog (Tryd.f7.params.toList ++ (OpenSpec.ofChange Rows.metaKeepsSpec).bare.plain.varTypes Tryd.prog) (ds ++ gs)).all (· ≤ reachBytes) = true) :
    Calls Tryd.prog 7 args W fun e W' => ∃ v, e = .returned v ∧ Rows.metaKeepsSpec.post enc Tryd.prog Tryd.f7 false true false false W args v W' := by
  have hW' := hW
  obtain ⟨p, q, hA, hV, rfl, hfz, hnd⟩ := hW
  obtain ⟨rfl, rfl⟩ := trodVars_none hV
  have tb := ktab_of hL
  rw [Tryd.params7] at hA hval
  obtain ⟨v0, vs0, d0, ds0, p0, q0, hargs, rfl, rfl, ⟨fuel0, h0⟩, r0⟩ := trodAll_cons hA
  obtain ⟨v1, vs1, d1, ds1, p1, q1, rfl, rfl, rfl, ⟨fuel1, h1⟩, r1⟩ := trodAll_cons r0
  obtain ⟨rfl, rfl, rfl⟩ := trodAll_nil r1
  obtain rfl : args = #[v0, v1] := by cases args; simp_all
  obtain ⟨H0, s01, s02, s07, s08, hc0, hh0, hsm0⟩ := rd_head h0
  have hv0 : v0 = .agg #[.int .i64 H0.k, Sl.v s01, Sl.v s02, .int .i64 H0.id, .bool H0.de, .int .i64 H0.rows, .int .i64 H0.press, Sl.v s07, Sl.v s08] := by
    rw [agg_of Tryd.underlying29 (hval 0 29 v0 rfl rfl)]; congr 1; apply Array.ext'; exact hc0
  subst hv0
  obtain ⟨s1, l1, hc1, hb1, hl1⟩ := rd_bytes h1
  have hv1 : v1 = s1.v := cells_slice Tryd.underlying30 (hval 1 30 v1 rfl rfl) hc1
  have hr1 := bytes_reach h1 hc1 hb1 hwt (j := 1) rfl rfl
  subst hv1
  refine calls_of (R := fun v W' => Rows.metaKeepsSpec.post enc Tryd.prog Tryd.f7 false true false false W _ v W') ?_ fun W' hs g => ?_
  · refine CallH.mono (law7 hsm0 tb hh0 hb1 hr1 (K := fun r h' => r = true ∧ Grw (hpz W) h') fun h' g => ⟨rfl, g⟩) ?_ fun _ _ hh => hh
    rintro v h' ⟨r, rfl, rfl, g⟩; exact ⟨rfl, g⟩
  · refine post_true laidOut mapsR slicesFull ?_ hW' rfl (t := 4) (by kernel_rfl) Tryd.underlying4 rfl rfl rfl hs g
    rw [Tryd.params7]; intro t ht; simp only [List.mem_cons, List.not_mem_nil, or_false] at ht; rcases ht with rfl | rfl <;> exact of_decide_eq_true (by kernel_rfl)
noncomputable def laidWorld (os : Os) : World :=
  { World.holding Tryd.prog os ⟨#[], #[], []⟩ with heap := (World.holding Tryd.prog os ⟨#[], #[], []⟩).heap.modify 0 fun
      | .cells _ t frozen => .cells #[.string ⟨#[]⟩, .int .i64 0, .int .i64 0, .bool false, .string ⟨#[110, 117, 108, 108]⟩, .int .i64 0, .int .i64 0, .bool false, .string ⟨#[98, 111, 111, 108]⟩, .int .i64 0, .int .i64 2, .bool false, .string ⟨#[105, 110, 116, 56]⟩, .int .i64 1, .int .i64 2, .bool true, .string ⟨#[105, 110, 116, 49, 54]⟩, .int .i64 2, .int .i64 2, .bool true, .string ⟨#[105, 110, 116, 51, 50]⟩, .int .i64 4, .int .i64 2, .bool true, .string ⟨#[105, 110, 116, 54, 52]⟩, .int .i64 8, .int .i64 2, .bool true, .string ⟨#[117, 105, 110, 116, 56]⟩, .int .i64 1, .int .i64 2, .bool true, .string ⟨#[117, 105, 110, 116, 49, 54]⟩, .int .i64 2, .int .i64 2, .bool true, .string ⟨#[117, 105, 110, 116, 51, 50]⟩, .int .i64 4, .int .i64 2, .bool true, .string ⟨#[117, 105, 110, 116, 54, 52]⟩, .int .i64 8, .int .i64 2, .bool true, .string ⟨#[102, 108, 111, 97, 116, 54, 52]⟩, .int .i64 8, .int .i64 2, .bool false, .string ⟨#[116, 101, 120, 116]⟩, .int .i64 0, .int .i64 3, .bool false, .string ⟨#[98, 121, 116, 101, 115]⟩, .int .i64 0, .int .i64 3, .bool false, .string ⟨#[102, 105, 120, 101, 100]⟩, .int .i64 0, .int .i64 2, .bool false, .string ⟨#[108, 105, 115, 116]⟩, .int .i64 0, .int .i64 2, .bool false, .string ⟨#[115, 112, 97, 110]⟩, .int .i64 0, .int .i64 1, .bool false, .string ⟨#[115, 116, 114, 117, 99, 116]⟩, .int .i64 0, .int .i64 1, .bool false, .string ⟨#[99, 104, 111, 105, 99, 101]⟩, .int .i64 0, .int .i64 2, .bool false, .string ⟨#[100, 105, 99, 116]⟩, .int .i64 0, .int .i64 2, .bool false, .string ⟨#[114, 117, 110, 115]⟩, .int .i64 0, .int .i64 0, .bool false] t frozen
      | o => o }
theorem laid_met (os : Os) : laidMet Tryd.prog Rows.metaKeepsRow.laid ((laidWorld os).forCall (fun _ _ => 0) ⟨#[], #[.agg #[.int .i64 0, .slice none 0 0, .slice none 0 0, .int .i64 0, .bool false, .int .i64 0, .int .i64 0, .slice none 0 0, .slice none 0 0], .slice none 0 0], []⟩).memory :=
  laidMet_of_run' 8 (by kernel_rfl) (by kernel_rfl)
theorem reads (os : Os) {H : Type} (enc : TypeId × Value → H) : ∃ places, DataW.whole enc Tryd.prog ((laidWorld os).forCall (fun _ _ => 0) ⟨#[], #[.agg #[.int .i64 0, .slice none 0 0, .slice none 0 0, .int .i64 0, .bool false, .int .i64 0, .int .i64 0, .slice none 0 0, .slice none 0 0], .slice none 0 0], []⟩).memory Tryd.f7.params.toList Rows.metaKeepsSpec.vars false #[.agg #[.int .i64 0, .slice none 0 0, .slice none 0 0, .int .i64 0, .bool false, .int .i64 0, .int .i64 0, .slice none 0 0, .slice none 0 0], .slice none 0 0].toList 8 = some ([.agg [.lit (.int .i64 0), .agg [.nil, .nil], .lit (.int .i64 0), .lit (.bool false), .lit (.int .i64 0), .lit (.int .i64 0), .nil, .nil], .nil], [], places) :=
  ⟨[], by kernel_rfl⟩
set_option maxRecDepth 100000 in
theorem lifted (os : Os) (started : os.Started) (H : Type) (enc : TypeId × Value → H) (F : Stop.Interp) :
    ReturnsInHanded {} Tryd.checked os 7 .any ((OpenSpec.ofChange Rows.metaKeepsSpec).preRow enc Tryd.prog Tryd.f7 Rows.metaKeepsRow.domain false Rows.metaKeepsRow.laid) (((OpenSpec.ofChange Rows.metaKeepsSpec).at F).post enc Tryd.prog Tryd.f7 false true false false) := by
  obtain ⟨places, hx⟩ := reads os enc
  refine returnsInHanded_of_row (C := Tryd.checked) (s := OpenSpec.ofChange Rows.metaKeepsSpec) own started (by kernel_rfl) Tryd.func7
    (witness_row_at (enc := enc) (C := Tryd.checked) false (laidWorld os) #[.agg #[.int .i64 0, .slice none 0 0, .slice none 0 0, .int .i64 0, .bool false, .int .i64 0, .int .i64 0, .slice none 0 0, .slice none 0 0], .slice none 0 0] rfl (by kernel_rfl) (by kernel_rfl) (by kernel_rfl)
      (OpenSpec.preRow_of_cond 8 hx (by kernel_rfl) (fun k hk => by cases hk) (by kernel_rfl) (laid_met os))) ?_
  intro W base args ds gs before hval hW _ hcond hwt hL _ _
  exact contract H enc W base args ds gs before hval hW hL hwt
theorem said : Rows.MetaKeepsSaid :=
  OpenClaim.holds_of_cond 7 Tryd.f7 rfl rfl rfl rfl rfl rfl rfl ⟨rfl, rfl, rfl, rfl, rfl⟩ rfl rfl rfl rfl rfl (by kernel_rfl) Tryd.func7 (by kernel_rfl)
    (of_decide_eq_true (by kernel_rfl)) (by unfold Func.isWrapper; first | (rw [if_pos (by decide +kernel)]; kernel_rfl) | (rw [if_neg (by decide +kernel)]; exact ⟨rfl, rfl⟩))
    (fun os started H enc _ F => by rw [OpenClaim.pre_eq_preRow]; exact lifted os started H enc F)
theorem plain (f : FuncId) (fn : Func) (hf : Tryd.pinned.checked.prog.funcNamed Rows.metaKeepsRow.func = some f) (hfn : Tryd.pinned.checked.prog.funcs[f]? = some fn) :
    true = Tryd.pinned.checked.prog.looks [] ∧ ∀ (j : Nat) t, fn.params[j]? = some t → Tryd.pinned.checked.prog.wantsStandIn t = false := by
  obtain rfl : f = 7 := Option.some.inj ((show Tryd.prog.funcNamed Rows.metaKeepsRow.func = some 7 by kernel_rfl).symm.trans hf) |>.symm
  obtain rfl : fn = Tryd.f7 := (Option.some.inj (Tryd.func7.symm.trans hfn)).symm
  refine ⟨by kernel_rfl, fun j t ht => ?_⟩
  rw [Tryd.params7] at ht
  have hm := Array.mem_of_getElem? ht
  simp only [List.mem_toArray, List.mem_cons, List.not_mem_nil, or_false, or_self] at hm
  rcases hm with rfl | rfl
  · exact (show Tryd.prog.wantsStandIn 29 = false by kernel_rfl)
  · exact (show Tryd.prog.wantsStandIn 30 = false by kernel_rfl)
theorem card : Rows.MetaKeepsCardSaid :=
  Claim7.holds_tied_plain_at .later [] _ _ _ _ said (fun _ h => by cases h) (by kernel_rfl) (fun _ h => by cases h) metaKeeps_row_tie rfl ⟨rfl, rfl⟩ (by kernel_rfl) rfl plain (by kernel_rfl)
end Go.Proofs.YtfomkkdijjfpiaaDoor.metaKeeps
