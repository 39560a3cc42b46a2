/- 'BuildBegins': the law answers true and leaves its arguments as they were. Conditions: the row's own (the tables of kinds and of UTF-8 as the program's text lays them, which the card ties). -/
import Derived.Test.YtikpikmkhdapiaaGreatDoorBeginsJ5
import Derived.Deep.DeepHandedRow
set_option linter.unusedVariables false
set_option linter.unusedSimpArgs false
namespace Go.Proofs.YtikpikmkhdapiaaGreatDoor.buildBegins
open Go Go.Sh Go.ChangeShapes Go.WideShapes Go.RowKit
theorem N8 : Tryz.prog.funcs[3]? = some Tryz.f3 := by kernel_rfl
theorem LH : Tryz.f3.params = #[26, 27, 3] := by kernel_rfl
set_option maxRecDepth 100000 in
theorem contract (H : Type) (enc : TypeId × Value → H) (W : World) (base : Nat) (args : Array Value) (ds gs : List (DataW H)) (before : List MemPlace)
    (xS : ∀ (j : Nat) t v, Tryz.f3.params[j]? = some t → args[j]? = some v → Value.okWide Tryz.prog W .any base t v)
    (hW : DataW.Whole enc Tryz.prog Tryz.f3.params.toList Rows.buildBeginsSpec.vars false W args.toList ds gs before) (hL : laidMetH Tryz.prog Rows.buildBeginsRow.laid W) :
    Calls Tryz.prog 3 args W fun e W' => ∃ v, e = .returned v ∧ Rows.buildBeginsSpec.post enc Tryz.prog Tryz.f3 false true false false W args v W' := by
  have hW' := hW
  obtain ⟨p, q, hA, hV, rfl, NM, uV⟩ := hW
  obtain ⟨rfl, rfl⟩ := trodVars_none hV
  obtain ⟨ht, hu⟩ := ZC hL
  rw [LH] at hA xS
  obtain ⟨v0, vs0, d0, ds0, p0, q0, FD, rfl, rfl, ⟨anY, h0⟩, r0⟩ := trodAll_cons hA
  obtain ⟨v1, vs1, d1, ds1, p1, q1, rfl, rfl, rfl, ⟨anX, h1⟩, r1⟩ := trodAll_cons r0
  obtain ⟨v2, vs2, d2, ds2, p2, q2, rfl, rfl, rfl, ⟨anW, h2⟩, r2⟩ := trodAll_cons r1
  obtain ⟨rfl, rfl, rfl⟩ := trodAll_nil r2
  obtain rfl : args = #[v0, v1, v2] := by cases args; simp_all
  obtain ⟨F0, s0, iW, hs0, aff⟩ := ab0 h0
  have Nl : v0 = .agg #[.string F0.name, .bool F0.aq, .int .i64 F0.k, .int .i64 F0.w, .int .i64 F0.id, .int .i64 F0.ix, Sl.v s0] := by
    rw [akw Qr (xS 0 26 v0 rfl rfl)]; congr 1; apply Array.ext'; exact iW
  subst Nl
  obtain ⟨s1, l1, hc1, Bu, Nr, hl1⟩ := abX _ h1
  have qY : v1 = s1.v := ajl Qq (xS 1 27 v1 rfl rfl) hc1
  subst qY
  obtain ⟨x2, hc2, _⟩ := AS h2
  have Bi : v2 = .int .i64 x2 := ajm u3 (xS 2 3 v2 rfl rfl) hc2
  subst Bi
  refine ajD (R := fun v W' => Rows.buildBeginsSpec.post enc Tryz.prog Tryz.f3 false true false false W _ v W') ?_ fun W' hs g => ?_
  · refine cr.mono (aeo aff Nr hl1 hs0 Bu ht hu (K := fun r h' => r = true ∧ ah (aE W) h') fun h' g => ⟨rfl, g⟩) ?_ fun _ _ hh => hh
    rintro v h' ⟨r, rfl, rfl, g⟩; exact ⟨rfl, g⟩
  · refine acm laidOut ad1 aaQ ?_ hW' rfl (t := 4) (by kernel_rfl) u4 rfl rfl rfl hs g
    rw [LH]; intro t ht; simp only [List.mem_cons, List.not_mem_nil, or_false] at ht; rcases ht with rfl | rfl | rfl <;> exact of_decide_eq_true (by kernel_rfl)
noncomputable def Nb (os : Go.Os) : World :=
  { World.holding Tryz.prog os ⟨#[], #[], []⟩ with heap := (((World.holding Tryz.prog os ⟨#[], #[], []⟩).heap.modify 2 (fun | .cells _ t frozen => .cells #[.string ⟨#[]⟩, .int .i64 0, .int .i64 0, .bool false, .string ⟨#[110, 117, 108, 108]⟩, .int .i64 0, .int .i64 0, .bool false, .string ⟨#[98, 111, 111, 108]⟩, .int .i64 0, .int .i64 2, .bool false, .string ⟨#[105, 110, 116, 56]⟩, .int .i64 1, .int .i64 2, .bool true, .string ⟨#[105, 110, 116, 49, 54]⟩, .int .i64 2, .int .i64 2, .bool true, .string ⟨#[105, 110, 116, 51, 50]⟩, .int .i64 4, .int .i64 2, .bool true, .string ⟨#[105, 110, 116, 54, 52]⟩, .int .i64 8, .int .i64 2, .bool true, .string ⟨#[117, 105, 110, 116, 56]⟩, .int .i64 1, .int .i64 2, .bool true, .string ⟨#[117, 105, 110, 116, 49, 54]⟩, .int .i64 2, .int .i64 2, .bool true, .string ⟨#[117, 105, 110, 116, 51, 50]⟩, .int .i64 4, .int .i64 2, .bool true, .string ⟨#[117, 105, 110, 116, 54, 52]⟩, .int .i64 8, .int .i64 2, .bool true, .string ⟨#[102, 108, 111, 97, 116, 54, 52]⟩, .int .i64 8, .int .i64 2, .bool false, .string ⟨#[116, 101, 120, 116]⟩, .int .i64 0, .int .i64 3, .bool false, .string ⟨#[98, 121, 116, 101, 115]⟩, .int .i64 0, .int .i64 3, .bool false, .string ⟨#[102, 105, 120, 101, 100]⟩, .int .i64 0, .int .i64 2, .bool false, .string ⟨#[108, 105, 115, 116]⟩, .int .i64 0, .int .i64 2, .bool false, .string ⟨#[115, 112, 97, 110]⟩, .int .i64 0, .int .i64 1, .bool false, .string ⟨#[115, 116, 114, 117, 99, 116]⟩, .int .i64 0, .int .i64 1, .bool false, .string ⟨#[99, 104, 111, 105, 99, 101]⟩, .int .i64 0, .int .i64 2, .bool false, .string ⟨#[100, 105, 99, 116]⟩, .int .i64 0, .int .i64 2, .bool false, .string ⟨#[114, 117, 110, 115]⟩, .int .i64 0, .int .i64 0, .bool false] t frozen | o => o)).modify 0
    (fun | .cells _ t frozen => .cells (Pinned.utf8FirstZ.map fun n : Nat => Value.int .u8 n).toArray t frozen | o => o)).modify 1 (fun | .cells _ t frozen => .cells #[.int .u8 128, .int .u8 191, .int .u8 160, .int .u8 191, .int .u8 128, .int .u8 159, .int .u8 144, .int .u8 191, .int .u8 128, .int .u8 143, .int .u8 0, .int .u8 0, .int .u8 0, .int .u8 0, .int .u8 0, .int .u8 0, .int .u8 0, .int .u8 0, .int .u8 0, .int .u8 0, .int .u8 0, .int .u8 0, .int .u8 0, .int .u8 0, .int .u8 0, .int .u8 0, .int .u8 0, .int .u8 0, .int .u8 0, .int .u8 0, .int .u8 0, .int .u8 0] t frozen | o => o) }
theorem aep (os : Go.Os) : laidMet Tryz.prog Rows.buildBeginsRow.laid ((Nb os).forCall (fun _ _ => 0) ⟨#[], #[.agg #[.string ⟨#[]⟩, .bool false, .int .i64 0, .int .i64 0, .int .i64 0, .int .i64 0, .slice none 0 0], .slice none 0 0, .int .i64 0], []⟩).memory :=
  laidMet_of_run' 8 (by kernel_rfl) (by kernel_rfl)
theorem reads (os : Go.Os) {H : Type} (enc : TypeId × Value → H) : ∃ places, DataW.whole enc Tryz.prog ((Nb os).forCall (fun _ _ => 0) ⟨#[], #[.agg #[.string ⟨#[]⟩, .bool false, .int .i64 0, .int .i64 0, .int .i64 0, .int .i64 0, .slice none 0 0], .slice none 0 0, .int .i64 0], []⟩).memory Tryz.f3.params.toList Rows.buildBeginsSpec.vars false #[.agg #[.string ⟨#[]⟩, .bool false, .int .i64 0, .int .i64 0, .int .i64 0, .int .i64 0, .slice none 0 0], .slice none 0 0, .int .i64 0].toList 8 = some ([.agg [.lit (.string []), .lit (.bool false), .agg [.lit (.int .i64 0), .lit (.int .i64 0), .lit (.int .i64 0), .lit (.int .i64 0), .nil]], .nil, .lit (.int .i64 0)], [], places) :=
  ⟨[], by kernel_rfl⟩
set_option maxRecDepth 100000 in
theorem lifted (os : Go.Os) (started : os.Started) (H : Type) (enc : TypeId × Value → H) (F : Stop.Interp) :
    ReturnsInHanded {} Tryz.checked os 3 .any ((OpenSpec.ofChange Rows.buildBeginsSpec).preRow enc Tryz.prog Tryz.f3 Rows.buildBeginsRow.domain false Rows.buildBeginsRow.laid) (((OpenSpec.ofChange Rows.buildBeginsSpec).at F).post enc Tryz.prog Tryz.f3 false true false false) := by
  obtain ⟨places, hx⟩ := reads os enc
  refine returnsInHanded_of_row (C := Tryz.checked) (s := OpenSpec.ofChange Rows.buildBeginsSpec) own started (by kernel_rfl) N8
    (witness_row_at (enc := enc) (C := Tryz.checked) false (Nb os) #[.agg #[.string ⟨#[]⟩, .bool false, .int .i64 0, .int .i64 0, .int .i64 0, .int .i64 0, .slice none 0 0], .slice none 0 0, .int .i64 0] rfl (by kernel_rfl) (by kernel_rfl) (by kernel_rfl)
      (OpenSpec.preRow_of_cond 8 hx (by kernel_rfl) (fun k hk => by cases hk) (by kernel_rfl) (aep os))) ?_
  intro W base args ds gs before xS hW _ anC hwt hL _ _
  exact contract H enc W base args ds gs before xS hW hL
theorem fk {a b : Bool} (h1 : a = true) (h2 : b = true) : (a && b) = true := by rw [h1, h2]; rfl
theorem j1 : Rows.buildBeginsRow.wf (OpenSpec.ofChange (OpenSpec.ofChange Rows.buildBeginsSpec).bare) = true := by kernel_rfl
theorem j2 : laidOutB Tryz.pinned.checked.prog = true := by kernel_rfl
theorem j3 : mapsRowed Tryz.pinned.checked.prog = true := by kernel_rfl
theorem j4 : Tryz.f3.params.all (Tryz.pinned.checked.prog.readableRec ·) = true := by kernel_rfl
theorem j5 : namedTie Tryz.pinned.checked.prog Rows.buildBeginsRow.named (OpenSpec.ofChange Rows.buildBeginsSpec).bare.vars = true := by kernel_rfl
theorem j6 : (Rows.buildBeginsRow.stops == []) = true := by kernel_rfl
theorem j7 : (Tryz.pinned.checked.prog.stops == []) = true := by kernel_rfl
theorem j8 : (Rows.buildBeginsRow.knobs == []) = true := by kernel_rfl
theorem j9 : (Tryz.pinned.checked.prog.stopKnobs == []) = true := by kernel_rfl
theorem j10 : (Rows.buildBeginsRow.inPlace == Tryz.pinned.checked.prog.inPlace 3) = true := by kernel_rfl
theorem j11 : (Rows.buildBeginsRow.unfollowed == Tryz.pinned.checked.prog.unfollowed 3) = true := by kernel_rfl
theorem j12 : (Rows.buildBeginsRow.recurses == Tryz.pinned.checked.prog.recurses 3) = true := by kernel_rfl
theorem j13 : (Rows.buildBeginsRow.named == Tryz.pinned.checked.prog.varsNamed 3) = true := by kernel_rfl
theorem j14 : (Rows.buildBeginsRow.maps == (Tryz.f3.params.toList ++ (OpenSpec.ofChange Rows.buildBeginsSpec).bare.plain.varTypes Tryz.pinned.checked.prog).any (Tryz.pinned.checked.prog.mapsRec ·)) = true := by kernel_rfl
theorem j15 : (Rows.buildBeginsRow.ifaces == (Tryz.f3.params.toList ++ (OpenSpec.ofChange Rows.buildBeginsSpec).bare.plain.varTypes Tryz.pinned.checked.prog).any (Tryz.pinned.checked.prog.ifacesRec ·)) = true := by kernel_rfl
theorem j16 : (Rows.buildBeginsRow.mapsOut == Tryz.pinned.checked.prog.mapsAmong Tryz.f3.resultTypes.toList) = true := by kernel_rfl
theorem j17 : (Rows.buildBeginsRow.loops == (Tryz.f3.params.toList ++ (OpenSpec.ofChange Rows.buildBeginsSpec).bare.plain.varTypes Tryz.pinned.checked.prog).any (Tryz.pinned.checked.prog.loopsFrom ·)) = true := by kernel_rfl
theorem j18 : (Rows.buildBeginsRow.wideKeys == (Tryz.f3.params.toList ++ (OpenSpec.ofChange Rows.buildBeginsSpec).bare.plain.varTypes Tryz.pinned.checked.prog ++ Tryz.f3.resultTypes.toList).any (Tryz.pinned.checked.prog.wideKeysFrom ·)) = true := by kernel_rfl
theorem j19 : (OpenSpec.ofChange Rows.buildBeginsSpec).bare.vars.all (Tryz.pinned.checked.prog.varReadable ·) = true := by kernel_rfl
theorem j20 : Tryz.f3.resultTypes.all (fun t => Tryz.pinned.checked.prog.readableRec t && decide (t < Tryz.pinned.checked.prog.types.size)) = true := by kernel_rfl
theorem j21 : (Rows.buildBeginsRow.ifacesOut == Tryz.f3.resultTypes.toList.any (Tryz.pinned.checked.prog.ifacesRec ·)) = true := by kernel_rfl
theorem j22 : (Rows.buildBeginsRow.loopsOut == Tryz.f3.resultTypes.toList.any (Tryz.pinned.checked.prog.loopsFrom ·)) = true := by kernel_rfl
theorem j23 : (Rows.buildBeginsRow.plainKeys == Tryz.pinned.checked.prog.plainKeys) = true := by kernel_rfl
theorem j24 : Rows.buildBeginsRow.shortTexts.isNone = true := by kernel_rfl
theorem j25 : Tryz.pinned.checked.prog.stopsHeard = true := by kernel_rfl
theorem j26 : Tryz.pinned.checked.prog.mayEnter = true := by kernel_rfl
theorem j27 : (Rows.buildBeginsRow.lifted == Tryz.pinned.checked.prog.liftsFinal) = true := by kernel_rfl
theorem j28 : (Tryz.pinned.checked.prog.make == some Rows.buildBeginsRow.make) = true := by kernel_rfl
theorem j30 : (Rows.buildBeginsRow.pinned == Rows.buildBeginsRow.pinnedBy) = true := by kernel_rfl
theorem j31 : (Rows.buildBeginsRow.veiled == (Tryz.f3.params.toList ++ (OpenSpec.ofChange Rows.buildBeginsSpec).bare.plain.varTypes Tryz.pinned.checked.prog ++ Tryz.f3.resultTypes.toList).any (Tryz.pinned.checked.prog.veiledRec ·)) = true := by kernel_rfl
theorem j32 : Rows.buildBeginsRow.veiledFits Tryz.pinned.checked.prog Tryz.f3.params.toList (Tryz.f3.params.toList ++ (OpenSpec.ofChange Rows.buildBeginsSpec).bare.plain.varTypes Tryz.pinned.checked.prog ++ Tryz.f3.resultTypes.toList) = true := by kernel_rfl
theorem aeG : joinedFacts Tryz.pinned.checked.prog 3 Tryz.f3 (OpenSpec.ofChange Rows.buildBeginsSpec).bare Rows.buildBeginsRow = true := by
  unfold joinedFacts
  exact (fk (fk (fk (fk (fk (fk (fk (fk (fk (fk (fk (fk (fk (fk (fk (fk (fk (fk (fk (fk (fk (fk (fk (fk (fk (fk (fk (fk (fk (fk (fk j1 j2) j3) j4) j5) j6) j7) j8) j9) j10) j11) j12) j13) j14) j15) j16) j17) j18) j19) j20) j21) j22) j23) j24) j25) j26) j27) j28) (by kernel_rfl)) j30) j31) j32)
theorem named : Tryz.pinned.checked.prog.funcNamed Rows.buildBeginsRow.func = some 3 := by kernel_rfl
theorem ae9 : Func.isInstance Tryz.pinned.checked.prog Tryz.f3 Rows.buildBeginsRow.origin Rows.buildBeginsRow.targs := of_decide_eq_true (by kernel_rfl)
theorem YC : Func.isWrapper Tryz.pinned.checked.prog Tryz.f3 Rows.buildBeginsRow.wrapper Rows.buildBeginsRow.mainSum := by
  unfold Func.isWrapper; first | (rw [if_pos (by decide +kernel)]; kernel_rfl) | (rw [if_neg (by decide +kernel)]; exact ⟨rfl, rfl⟩)
theorem goes : false = Rows.buildBeginsRow.goesBy Tryz.pinned.checked.prog := by kernel_rfl
theorem looked : true = Tryz.pinned.checked.prog.looks [] := by kernel_rfl
theorem formed : OpenClaim.wfByText (OpenSpec.ofChange Rows.buildBeginsSpec) Rows.buildBeginsRow = true := by kernel_rfl
theorem said : Rows.BuildBeginsSaid :=
  OpenClaim.holds_of_cond 3 Tryz.f3 rfl rfl rfl rfl rfl rfl rfl ⟨rfl, rfl, rfl, rfl, rfl⟩ rfl rfl rfl rfl rfl named N8 aeG ae9 YC
    (fun os started H enc _ F => by rw [OpenClaim.pre_eq_preRow]; exact lifted os started H enc F)
theorem plain (f : FuncId) (fn : Func) (hf : Tryz.pinned.checked.prog.funcNamed Rows.buildBeginsRow.func = some f) (NO : Tryz.pinned.checked.prog.funcs[f]? = some fn) :
    true = Tryz.pinned.checked.prog.looks [] ∧ ∀ (j : Nat) t, fn.params[j]? = some t → Tryz.pinned.checked.prog.wantsStandIn t = false := by
  obtain rfl : f = 3 := Option.some.inj (named.symm.trans hf) |>.symm
  obtain rfl : fn = Tryz.f3 := (Option.some.inj (N8.symm.trans NO)).symm
  refine ⟨looked, fun j t ht => ?_⟩
  rw [LH] at ht
  have hm := Array.mem_of_getElem? ht
  simp only [List.mem_toArray, List.mem_cons, List.not_mem_nil, or_false, or_self] at hm
  rcases hm with rfl | rfl | rfl
  · exact (show Tryz.prog.wantsStandIn 26 = false by kernel_rfl)
  · exact (show Tryz.prog.wantsStandIn 27 = false by kernel_rfl)
  · exact (show Tryz.prog.wantsStandIn 3 = false by kernel_rfl)
theorem card : Rows.BuildBeginsCardSaid :=
  Claim7.holds_tied_plain_at .later [] _ _ _ _ said (fun _ h => by cases h) formed (fun _ h => by cases h) buildBegins_row_tie rfl ⟨rfl, rfl⟩ (by kernel_rfl) rfl plain goes
end Go.Proofs.YtikpikmkhdapiaaGreatDoor.buildBegins
