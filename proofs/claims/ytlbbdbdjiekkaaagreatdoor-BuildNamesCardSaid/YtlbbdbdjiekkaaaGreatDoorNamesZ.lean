/- 'BuildNames': the law answers true and leaves its arguments as they were. Conditions: the row's own (the tables of kinds and of UTF-8 as the program's text lays them, which the card ties). -/
import Derived.Test.YtlbbdbdjiekkaaaGreatDoorNamesJ5
import Derived.Deep.DeepHandedRow
set_option linter.unusedVariables false
set_option linter.unusedSimpArgs false
namespace Go.Proofs.YtlbbdbdjiekkaaaGreatDoor.buildNames
open Go Go.Sh Go.ChangeShapes Go.WideShapes Go.RowKit
theorem fun3 : Tryz.prog.funcs[3]? = some Tryz.f3 := by kernel_rfl
theorem par3 : Tryz.f3.params = #[] := by kernel_rfl
set_option maxRecDepth 100000 in
theorem contract (H : Type) (enc : TypeId × Value → H) (W : World) (base : Nat) (args : Array Value) (ds gs : List (DataW H)) (before : List MemPlace)
    (hval : ∀ (j : Nat) t v, Tryz.f3.params[j]? = some t → args[j]? = some v → Value.okWide Tryz.prog W .any base t v)
    (hW : DataW.Whole enc Tryz.prog Tryz.f3.params.toList Rows.buildNamesSpec.vars false W args.toList ds gs before) (hL : laidMetH Tryz.prog Rows.buildNamesRow.laid W) :
    Calls Tryz.prog 3 args W fun e W' => ∃ v, e = .returned v ∧ Rows.buildNamesSpec.post enc Tryz.prog Tryz.f3 false true false false W args v W' := by
  have hW' := hW
  obtain ⟨p, q, hA, hV, rfl, hfz, hnd⟩ := hW
  obtain ⟨rfl, rfl⟩ := trodVars_none hV
  obtain ⟨ht, hu⟩ := tabs_of hL
  rw [par3] at hA hval
  obtain ⟨ha, rfl, rfl⟩ := trodAll_nil hA
  obtain rfl : args = #[] := by cases args; simp_all
  refine calls_of (R := fun v W' => Rows.buildNamesSpec.post enc Tryz.prog Tryz.f3 false true false false W _ v W') ?_ fun W' hs g => ?_
  · refine CallH.mono (law233 ht hu (K := fun r h' => r = true ∧ Grw (hpz W) h') fun h' g => ⟨rfl, g⟩) ?_ fun _ _ hh => hh
    rintro v h' ⟨r, rfl, rfl, g⟩; exact ⟨rfl, g⟩
  · refine post_true laidOut mapsR slicesFull ?_ hW' rfl (t := 4) (by kernel_rfl) u4 rfl rfl rfl hs g
    rw [par3]; intro t ht; simp at ht
noncomputable def laidWorld (os : Go.Os) : World :=
  { World.holding Tryz.prog os ⟨#[], #[], []⟩ with heap := (((World.holding Tryz.prog os ⟨#[], #[], []⟩).heap.modify 0 (fun | .cells _ t frozen => .cells #[.string ⟨#[]⟩, .int .i64 0, .int .i64 0, .bool false, .string ⟨#[110, 117, 108, 108]⟩, .int .i64 0, .int .i64 0, .bool false, .string ⟨#[98, 111, 111, 108]⟩, .int .i64 0, .int .i64 2, .bool false, .string ⟨#[105, 110, 116, 56]⟩, .int .i64 1, .int .i64 2, .bool true, .string ⟨#[105, 110, 116, 49, 54]⟩, .int .i64 2, .int .i64 2, .bool true, .string ⟨#[105, 110, 116, 51, 50]⟩, .int .i64 4, .int .i64 2, .bool true, .string ⟨#[105, 110, 116, 54, 52]⟩, .int .i64 8, .int .i64 2, .bool true, .string ⟨#[117, 105, 110, 116, 56]⟩, .int .i64 1, .int .i64 2, .bool true, .string ⟨#[117, 105, 110, 116, 49, 54]⟩, .int .i64 2, .int .i64 2, .bool true, .string ⟨#[117, 105, 110, 116, 51, 50]⟩, .int .i64 4, .int .i64 2, .bool true, .string ⟨#[117, 105, 110, 116, 54, 52]⟩, .int .i64 8, .int .i64 2, .bool true, .string ⟨#[102, 108, 111, 97, 116, 54, 52]⟩, .int .i64 8, .int .i64 2, .bool false, .string ⟨#[116, 101, 120, 116]⟩, .int .i64 0, .int .i64 3, .bool false, .string ⟨#[98, 121, 116, 101, 115]⟩, .int .i64 0, .int .i64 3, .bool false, .string ⟨#[102, 105, 120, 101, 100]⟩, .int .i64 0, .int .i64 2, .bool false, .string ⟨#[108, 105, 115, 116]⟩, .int .i64 0, .int .i64 2, .bool false, .string ⟨#[115, 112, 97, 110]⟩, .int .i64 0, .int .i64 1, .bool false, .string ⟨#[115, 116, 114, 117, 99, 116]⟩, .int .i64 0, .int .i64 1, .bool false, .string ⟨#[99, 104, 111, 105, 99, 101]⟩, .int .i64 0, .int .i64 2, .bool false, .string ⟨#[100, 105, 99, 116]⟩, .int .i64 0, .int .i64 2, .bool false, .string ⟨#[114, 117, 110, 115]⟩, .int .i64 0, .int .i64 0, .bool false] t frozen | o => o)).modify 1
    (fun | .cells _ t frozen => .cells (Pinned.utf8FirstZ.map fun n : Nat => Value.int .u8 n).toArray t frozen | o => o)).modify 2 (fun | .cells _ t frozen => .cells #[.int .u8 128, .int .u8 191, .int .u8 160, .int .u8 191, .int .u8 128, .int .u8 159, .int .u8 144, .int .u8 191, .int .u8 128, .int .u8 143, .int .u8 0, .int .u8 0, .int .u8 0, .int .u8 0, .int .u8 0, .int .u8 0, .int .u8 0, .int .u8 0, .int .u8 0, .int .u8 0, .int .u8 0, .int .u8 0, .int .u8 0, .int .u8 0, .int .u8 0, .int .u8 0, .int .u8 0, .int .u8 0, .int .u8 0, .int .u8 0, .int .u8 0, .int .u8 0] t frozen | o => o) }
theorem laid_met (os : Go.Os) : laidMet Tryz.prog Rows.buildNamesRow.laid ((laidWorld os).forCall (fun _ _ => 0) ⟨#[], #[], []⟩).memory :=
  laidMet_of_run' 8 (by kernel_rfl) (by kernel_rfl)
theorem reads (os : Go.Os) {H : Type} (enc : TypeId × Value → H) : ∃ places, DataW.whole enc Tryz.prog ((laidWorld os).forCall (fun _ _ => 0) ⟨#[], #[], []⟩).memory Tryz.f3.params.toList Rows.buildNamesSpec.vars false #[].toList 8 = some ([], [], places) :=
  ⟨[], by kernel_rfl⟩
set_option maxRecDepth 100000 in
theorem lifted (os : Go.Os) (started : os.Started) (H : Type) (enc : TypeId × Value → H) (F : Stop.Interp) :
    ReturnsInHanded {} Tryz.checked os 3 .any ((OpenSpec.ofChange Rows.buildNamesSpec).preRow enc Tryz.prog Tryz.f3 Rows.buildNamesRow.domain false Rows.buildNamesRow.laid) (((OpenSpec.ofChange Rows.buildNamesSpec).at F).post enc Tryz.prog Tryz.f3 false true false false) := by
  obtain ⟨places, hx⟩ := reads os enc
  refine returnsInHanded_of_row (C := Tryz.checked) (s := OpenSpec.ofChange Rows.buildNamesSpec) own started (by kernel_rfl) fun3
    (witness_row_at (enc := enc) (C := Tryz.checked) false (laidWorld os) #[] rfl (by kernel_rfl) (by kernel_rfl) (by kernel_rfl)
      (OpenSpec.preRow_of_cond 8 hx (by kernel_rfl) (fun k hk => by cases hk) (by kernel_rfl) (laid_met os))) ?_
  intro W base args ds gs before hval hW _ hcond hwt hL _ _
  exact contract H enc W base args ds gs before hval hW hL
theorem andI {a b : Bool} (h1 : a = true) (h2 : b = true) : (a && b) = true := by rw [h1, h2]; rfl
theorem j1 : Rows.buildNamesRow.wf (OpenSpec.ofChange (OpenSpec.ofChange Rows.buildNamesSpec).bare) = true := by kernel_rfl
theorem j2 : laidOutB Tryz.pinned.checked.prog = true := by kernel_rfl
theorem j3 : mapsRowed Tryz.pinned.checked.prog = true := by kernel_rfl
theorem j4 : Tryz.f3.params.all (Tryz.pinned.checked.prog.readableRec ·) = true := by kernel_rfl
theorem j5 : namedTie Tryz.pinned.checked.prog Rows.buildNamesRow.named (OpenSpec.ofChange Rows.buildNamesSpec).bare.vars = true := by kernel_rfl
theorem j6 : (Rows.buildNamesRow.stops == []) = true := by kernel_rfl
theorem j7 : (Tryz.pinned.checked.prog.stops == []) = true := by kernel_rfl
theorem j8 : (Rows.buildNamesRow.knobs == []) = true := by kernel_rfl
theorem j9 : (Tryz.pinned.checked.prog.stopKnobs == []) = true := by kernel_rfl
theorem j10 : (Rows.buildNamesRow.inPlace == Tryz.pinned.checked.prog.inPlace 3) = true := by kernel_rfl
theorem j11 : (Rows.buildNamesRow.unfollowed == Tryz.pinned.checked.prog.unfollowed 3) = true := by kernel_rfl
theorem j12 : (Rows.buildNamesRow.recurses == Tryz.pinned.checked.prog.recurses 3) = true := by kernel_rfl
theorem j13 : (Rows.buildNamesRow.named == Tryz.pinned.checked.prog.varsNamed 3) = true := by kernel_rfl
theorem j14 : (Rows.buildNamesRow.maps == (Tryz.f3.params.toList ++ (OpenSpec.ofChange Rows.buildNamesSpec).bare.plain.varTypes Tryz.pinned.checked.prog).any (Tryz.pinned.checked.prog.mapsRec ·)) = true := by kernel_rfl
theorem j15 : (Rows.buildNamesRow.ifaces == (Tryz.f3.params.toList ++ (OpenSpec.ofChange Rows.buildNamesSpec).bare.plain.varTypes Tryz.pinned.checked.prog).any (Tryz.pinned.checked.prog.ifacesRec ·)) = true := by kernel_rfl
theorem j16 : (Rows.buildNamesRow.mapsOut == Tryz.pinned.checked.prog.mapsAmong Tryz.f3.resultTypes.toList) = true := by kernel_rfl
theorem j17 : (Rows.buildNamesRow.loops == (Tryz.f3.params.toList ++ (OpenSpec.ofChange Rows.buildNamesSpec).bare.plain.varTypes Tryz.pinned.checked.prog).any (Tryz.pinned.checked.prog.loopsFrom ·)) = true := by kernel_rfl
theorem j18 : (Rows.buildNamesRow.wideKeys == (Tryz.f3.params.toList ++ (OpenSpec.ofChange Rows.buildNamesSpec).bare.plain.varTypes Tryz.pinned.checked.prog ++ Tryz.f3.resultTypes.toList).any (Tryz.pinned.checked.prog.wideKeysFrom ·)) = true := by kernel_rfl
theorem j19 : (OpenSpec.ofChange Rows.buildNamesSpec).bare.vars.all (Tryz.pinned.checked.prog.varReadable ·) = true := by kernel_rfl
theorem j20 : Tryz.f3.resultTypes.all (fun t => Tryz.pinned.checked.prog.readableRec t && decide (t < Tryz.pinned.checked.prog.types.size)) = true := by kernel_rfl
theorem j21 : (Rows.buildNamesRow.ifacesOut == Tryz.f3.resultTypes.toList.any (Tryz.pinned.checked.prog.ifacesRec ·)) = true := by kernel_rfl
theorem j22 : (Rows.buildNamesRow.loopsOut == Tryz.f3.resultTypes.toList.any (Tryz.pinned.checked.prog.loopsFrom ·)) = true := by kernel_rfl
theorem j23 : (Rows.buildNamesRow.plainKeys == Tryz.pinned.checked.prog.plainKeys) = true := by kernel_rfl
theorem j24 : Rows.buildNamesRow.shortTexts.isNone = true := by kernel_rfl
theorem j25 : Tryz.pinned.checked.prog.stopsHeard = true := by kernel_rfl
theorem j26 : Tryz.pinned.checked.prog.mayEnter = true := by kernel_rfl
theorem j27 : (Rows.buildNamesRow.lifted == Tryz.pinned.checked.prog.liftsFinal) = true := by kernel_rfl
theorem j28 : (Tryz.pinned.checked.prog.make == some Rows.buildNamesRow.make) = true := by kernel_rfl
theorem j30 : (Rows.buildNamesRow.pinned == Rows.buildNamesRow.pinnedBy) = true := by kernel_rfl
theorem j31 : (Rows.buildNamesRow.veiled == (Tryz.f3.params.toList ++ (OpenSpec.ofChange Rows.buildNamesSpec).bare.plain.varTypes Tryz.pinned.checked.prog ++ Tryz.f3.resultTypes.toList).any (Tryz.pinned.checked.prog.veiledRec ·)) = true := by kernel_rfl
theorem j32 : Rows.buildNamesRow.veiledFits Tryz.pinned.checked.prog Tryz.f3.params.toList (Tryz.f3.params.toList ++ (OpenSpec.ofChange Rows.buildNamesSpec).bare.plain.varTypes Tryz.pinned.checked.prog ++ Tryz.f3.resultTypes.toList) = true := by kernel_rfl
theorem joined : joinedFacts Tryz.pinned.checked.prog 3 Tryz.f3 (OpenSpec.ofChange Rows.buildNamesSpec).bare Rows.buildNamesRow = true := by
  unfold joinedFacts
  exact (andI (andI (andI (andI (andI (andI (andI (andI (andI (andI (andI (andI (andI (andI (andI (andI (andI (andI (andI (andI (andI (andI (andI (andI (andI (andI (andI (andI (andI (andI (andI j1 j2) j3) j4) j5) j6) j7) j8) j9) j10) j11) j12) j13) j14) j15) j16) j17) j18) j19) j20) j21) j22) j23) j24) j25) j26) j27) j28) (by kernel_rfl)) j30) j31) j32)
theorem named : Tryz.pinned.checked.prog.funcNamed Rows.buildNamesRow.func = some 3 := by kernel_rfl
theorem instd : Func.isInstance Tryz.pinned.checked.prog Tryz.f3 Rows.buildNamesRow.origin Rows.buildNamesRow.targs := of_decide_eq_true (by kernel_rfl)
theorem wrapd : Func.isWrapper Tryz.pinned.checked.prog Tryz.f3 Rows.buildNamesRow.wrapper Rows.buildNamesRow.mainSum := by
  unfold Func.isWrapper; first | (rw [if_pos (by decide +kernel)]; kernel_rfl) | (rw [if_neg (by decide +kernel)]; exact ⟨rfl, rfl⟩)
theorem goes : false = Rows.buildNamesRow.goesBy Tryz.pinned.checked.prog := by kernel_rfl
theorem looked : true = Tryz.pinned.checked.prog.looks [] := by kernel_rfl
theorem formed : OpenClaim.wfByText (OpenSpec.ofChange Rows.buildNamesSpec) Rows.buildNamesRow = true := by kernel_rfl
theorem said : Rows.BuildNamesSaid :=
  OpenClaim.holds_of_cond 3 Tryz.f3 rfl rfl rfl rfl rfl rfl rfl ⟨rfl, rfl, rfl, rfl, rfl⟩ rfl rfl rfl rfl rfl named fun3 joined instd wrapd
    (fun os started H enc _ F => by rw [OpenClaim.pre_eq_preRow]; exact lifted os started H enc F)
theorem plain (f : FuncId) (fn : Func) (hf : Tryz.pinned.checked.prog.funcNamed Rows.buildNamesRow.func = some f) (hfn : Tryz.pinned.checked.prog.funcs[f]? = some fn) :
    true = Tryz.pinned.checked.prog.looks [] ∧ ∀ (j : Nat) t, fn.params[j]? = some t → Tryz.pinned.checked.prog.wantsStandIn t = false := by
  obtain rfl : f = 3 := Option.some.inj (named.symm.trans hf) |>.symm
  obtain rfl : fn = Tryz.f3 := (Option.some.inj (fun3.symm.trans hfn)).symm
  refine ⟨looked, fun j t ht => ?_⟩
  rw [par3] at ht
  have hm := Array.mem_of_getElem? ht
  simp at hm
theorem card : Rows.BuildNamesCardSaid :=
  Claim7.holds_tied_plain_at .later [] _ _ _ _ said (fun _ h => by cases h) formed (fun _ h => by cases h) buildNames_row_tie rfl ⟨rfl, rfl⟩ (by kernel_rfl) rfl plain goes
end Go.Proofs.YtlbbdbdjiekkaaaGreatDoor.buildNames
