/-
  NARROWER THAN 'FOR EVERY INPUT', by the rows' own cells (each row's printed sentence says how): BuildNames: laid · BuildDenotes: loops, laid · BuildOneForm: loops, laid · BuildParts: loops, laid · BuildKeeps: loops, laid · BuildMakes: loops, laid · BuildBegins: loops, laid · BuildBuilds: loops, laid · BuildBatches: loops, laid · BuildColumns: loops, laid · BuildOwns: loops, laid.
  DERIVED. THE GIVEN ROWS OF THIS SEAT. 11 by the template 'for every input the law returns true; each argument reads behind the call as it read before'; 0 by the template 'total and deterministic' (their statements: YtlbbdbdjiekkaaaGreatDoorTotals.lean).
  GIVEN WITH THE SEED: the statements are not yours to turn. If you find one false, say at which input.
  Laid BY PROGRAM, IN A SANDBOX (cutbox-rows.mjs): the forced cells as the released guide's own fill.sh prints them over the translation 44b878ca52c952f6… (all of the seat's roots in one cut). By AI agents, Wed Nov 11 2026. No macro, syntax, notation, axiom, sorry.
-/
import Derived.Test.YtlbbdbdjiekkaaaGreatDoorChecked
import GoSem.PinnedTables
import GoSem.Claim
import GoSem.ClaimJoined
import GoSem.ClaimMapViews
import Derived.JoinedTies
import Derived.KernelRfl
namespace Go.Proofs.YtlbbdbdjiekkaaaGreatDoor
/- THE CELL 'sum', in the pinned program and in every row, IS THE sha256 OF THE DUMP (.gsa) THAT YtlbbdbdjiekkaaaGreatDoorProg.lean LOADS. Nothing in Lean hashes anything: it is a label: what it is worth is what the hold of that sum in a sandbox is worth. -/
noncomputable def Tryz.pinned : Pinned := { name := "ytlbbdbdjiekkaaagreatdoor", sum := "44b878ca52c952f62103a055b8cf68180b33ca834c03a1a6bf2898c88ae667b2", checked := Tryz.checked }
namespace Rows
def none {H : Type} : Left H := { results := [], args := [] }

/- WHAT THE LISTED PACKAGE-LEVEL VARIABLES READ AS WHEN THE CALL BEGINS. Each datum BY PROGRAM (the guide's laid-datum.mjs) off the statement by which the dump's own 'gosem.cut.vars' lays the variable. In a bare row this is a premise. The card (YtlbbdbdjiekkaaaGreatDoorCards.lean) ties it to the program's text. -/
def laid_unicode_utf8_acceptRanges {H : Type} : DataW H := .agg [.agg [.lit (.int .u8 128), .lit (.int .u8 191)], .agg [.lit (.int .u8 160), .lit (.int .u8 191)], .agg [.lit (.int .u8 128), .lit (.int .u8 159)], .agg [.lit (.int .u8 144), .lit (.int .u8 191)], .agg [.lit (.int .u8 128), .lit (.int .u8 143)], .agg [.lit (.int .u8 0), .lit (.int .u8 0)], .agg [.lit (.int .u8 0), .lit (.int .u8 0)], .agg [.lit (.int .u8 0), .lit (.int .u8 0)], .agg [.lit (.int .u8 0), .lit (.int .u8 0)], .agg [.lit (.int .u8 0), .lit (.int .u8 0)], .agg [.lit (.int .u8 0), .lit (.int .u8 0)], .agg [.lit (.int .u8 0), .lit (.int .u8 0)], .agg [.lit (.int .u8 0), .lit (.int .u8 0)], .agg [.lit (.int .u8 0), .lit (.int .u8 0)], .agg [.lit (.int .u8 0), .lit (.int .u8 0)], .agg [.lit (.int .u8 0), .lit (.int .u8 0)]]
def laid_colonnade_kind_says {H : Type} : DataW H := .agg [.agg [.lit (.string []), .lit (.int .i64 0), .lit (.int .i64 0), .lit (.bool false)], .agg [.lit (.string [110, 117, 108, 108]), .lit (.int .i64 0), .lit (.int .i64 0), .lit (.bool false)], .agg [.lit (.string [98, 111, 111, 108]), .lit (.int .i64 0), .lit (.int .i64 2), .lit (.bool false)], .agg [.lit (.string [105, 110, 116, 56]), .lit (.int .i64 1), .lit (.int .i64 2), .lit (.bool true)], .agg [.lit (.string [105, 110, 116, 49, 54]), .lit (.int .i64 2), .lit (.int .i64 2), .lit (.bool true)], .agg [.lit (.string [105, 110, 116, 51, 50]), .lit (.int .i64 4), .lit (.int .i64 2), .lit (.bool true)], .agg [.lit (.string [105, 110, 116, 54, 52]), .lit (.int .i64 8), .lit (.int .i64 2), .lit (.bool true)], .agg [.lit (.string [117, 105, 110, 116, 56]), .lit (.int .i64 1), .lit (.int .i64 2), .lit (.bool true)], .agg [.lit (.string [117, 105, 110, 116, 49, 54]), .lit (.int .i64 2), .lit (.int .i64 2), .lit (.bool true)], .agg [.lit (.string [117, 105, 110, 116, 51, 50]), .lit (.int .i64 4), .lit (.int .i64 2), .lit (.bool true)], .agg [.lit (.string [117, 105, 110, 116, 54, 52]), .lit (.int .i64 8), .lit (.int .i64 2), .lit (.bool true)], .agg [.lit (.string [102, 108, 111, 97, 116, 54, 52]), .lit (.int .i64 8), .lit (.int .i64 2), .lit (.bool false)], .agg [.lit (.string [116, 101, 120, 116]), .lit (.int .i64 0), .lit (.int .i64 3), .lit (.bool false)], .agg [.lit (.string [98, 121, 116, 101, 115]), .lit (.int .i64 0), .lit (.int .i64 3), .lit (.bool false)], .agg [.lit (.string [102, 105, 120, 101, 100]), .lit (.int .i64 0), .lit (.int .i64 2), .lit (.bool false)], .agg [.lit (.string [108, 105, 115, 116]), .lit (.int .i64 0), .lit (.int .i64 2), .lit (.bool false)], .agg [.lit (.string [115, 112, 97, 110]), .lit (.int .i64 0), .lit (.int .i64 1), .lit (.bool false)], .agg [.lit (.string [115, 116, 114, 117, 99, 116]), .lit (.int .i64 0), .lit (.int .i64 1), .lit (.bool false)], .agg [.lit (.string [99, 104, 111, 105, 99, 101]), .lit (.int .i64 0), .lit (.int .i64 2), .lit (.bool false)], .agg [.lit (.string [100, 105, 99, 116]), .lit (.int .i64 0), .lit (.int .i64 2), .lit (.bool false)], .agg [.lit (.string [114, 117, 110, 115]), .lit (.int .i64 0), .lit (.int .i64 0), .lit (.bool false)]]
/-- One of Go's own tables, pinned by name: the form's constant. -/
def laid_unicode_utf8_first : DataW Unit := Go.Pinned.utf8First

/-- 'colonnadelaw09.BuildNames': WHATEVER THE INPUT: true; the input reads as it did. -/
def buildNamesSpec : ChangeSpec := { name := "buildNames", fn := fun _ => fun
  | [] => { results := [.lit (.bool true)], args := [] }
  | _ => none }
def buildNamesRow : OpenClaim := { program := "ytlbbdbdjiekkaaagreatdoor", sum := "44b878ca52c952f62103a055b8cf68180b33ca834c03a1a6bf2898c88ae667b2", func := "colonnade/colonnadelaw09.BuildNames", spec := "buildNames", inPlace := ["internal/abi.NoEscape", "internal/bytealg.MakeNoZero"], unfollowed := true, recurses := true, named := ["colonnade/kind.says", "unicode/utf8.first", "unicode/utf8.acceptRanges"], apart := false, laid := [("unicode/utf8.acceptRanges", laid_unicode_utf8_acceptRanges), ("colonnade/kind.says", laid_colonnade_kind_says), ("unicode/utf8.first", laid_unicode_utf8_first)] }
def BuildNamesSaid : Prop := buildNamesRow.holds Tryz.pinned (OpenSpec.ofChange buildNamesSpec)

/-- ITS FALSE NEIGHBOUR: 'it returns false'. Refute it at one input. -/
def buildNamesWrong : ChangeSpec := { name := "buildNames", fn := fun _ => fun
  | [] => { results := [.lit (.bool false)], args := [] }
  | _ => none }
def BuildNamesWrongFalsely : Prop := buildNamesRow.holds Tryz.pinned (OpenSpec.ofChange buildNamesWrong)

/-- 'colonnadelaw09.BuildDenotes': WHATEVER THE INPUT: true; the input reads as it did. -/
def buildDenotesSpec : ChangeSpec := { name := "buildDenotes", fn := fun _ => fun
  | [d1, d2] => { results := [.lit (.bool true)], args := [d1, d2] }
  | _ => none }
def buildDenotesRow : OpenClaim := { program := "ytlbbdbdjiekkaaagreatdoor", sum := "44b878ca52c952f62103a055b8cf68180b33ca834c03a1a6bf2898c88ae667b2", func := "colonnade/colonnadelaw09.BuildDenotes", spec := "buildDenotes", inPlace := ["internal/abi.NoEscape", "internal/bytealg.MakeNoZero"], unfollowed := true, recurses := true, named := ["colonnade/kind.says", "unicode/utf8.first", "unicode/utf8.acceptRanges"], loops := true, apart := false, laid := [("unicode/utf8.acceptRanges", laid_unicode_utf8_acceptRanges), ("colonnade/kind.says", laid_colonnade_kind_says), ("unicode/utf8.first", laid_unicode_utf8_first)] }
def BuildDenotesSaid : Prop := buildDenotesRow.holds Tryz.pinned (OpenSpec.ofChange buildDenotesSpec)

/-- ITS FALSE NEIGHBOUR: 'it returns false'. Refute it at one input. -/
def buildDenotesWrong : ChangeSpec := { name := "buildDenotes", fn := fun _ => fun
  | [d1, d2] => { results := [.lit (.bool false)], args := [d1, d2] }
  | _ => none }
def BuildDenotesWrongFalsely : Prop := buildDenotesRow.holds Tryz.pinned (OpenSpec.ofChange buildDenotesWrong)

/-- 'colonnadelaw09.BuildOneForm': WHATEVER THE INPUT: true; the input reads as it did. -/
def buildOneFormSpec : ChangeSpec := { name := "buildOneForm", fn := fun _ => fun
  | [d1, d2, d3] => { results := [.lit (.bool true)], args := [d1, d2, d3] }
  | _ => none }
def buildOneFormRow : OpenClaim := { program := "ytlbbdbdjiekkaaagreatdoor", sum := "44b878ca52c952f62103a055b8cf68180b33ca834c03a1a6bf2898c88ae667b2", func := "colonnade/colonnadelaw09.BuildOneForm", spec := "buildOneForm", inPlace := ["internal/abi.NoEscape", "internal/bytealg.MakeNoZero"], unfollowed := true, recurses := true, named := ["colonnade/kind.says", "unicode/utf8.first", "unicode/utf8.acceptRanges"], loops := true, apart := false, laid := [("unicode/utf8.acceptRanges", laid_unicode_utf8_acceptRanges), ("colonnade/kind.says", laid_colonnade_kind_says), ("unicode/utf8.first", laid_unicode_utf8_first)] }
def BuildOneFormSaid : Prop := buildOneFormRow.holds Tryz.pinned (OpenSpec.ofChange buildOneFormSpec)

/-- ITS FALSE NEIGHBOUR: 'it returns false'. Refute it at one input. -/
def buildOneFormWrong : ChangeSpec := { name := "buildOneForm", fn := fun _ => fun
  | [d1, d2, d3] => { results := [.lit (.bool false)], args := [d1, d2, d3] }
  | _ => none }
def BuildOneFormWrongFalsely : Prop := buildOneFormRow.holds Tryz.pinned (OpenSpec.ofChange buildOneFormWrong)

/-- 'colonnadelaw09.BuildParts': WHATEVER THE INPUT: true; the input reads as it did. -/
def buildPartsSpec : ChangeSpec := { name := "buildParts", fn := fun _ => fun
  | [d1, d2, d3] => { results := [.lit (.bool true)], args := [d1, d2, d3] }
  | _ => none }
def buildPartsRow : OpenClaim := { program := "ytlbbdbdjiekkaaagreatdoor", sum := "44b878ca52c952f62103a055b8cf68180b33ca834c03a1a6bf2898c88ae667b2", func := "colonnade/colonnadelaw09.BuildParts", spec := "buildParts", inPlace := ["internal/abi.NoEscape", "internal/bytealg.MakeNoZero"], unfollowed := true, recurses := true, named := ["colonnade/kind.says", "unicode/utf8.first", "unicode/utf8.acceptRanges"], loops := true, apart := false, laid := [("unicode/utf8.acceptRanges", laid_unicode_utf8_acceptRanges), ("colonnade/kind.says", laid_colonnade_kind_says), ("unicode/utf8.first", laid_unicode_utf8_first)] }
def BuildPartsSaid : Prop := buildPartsRow.holds Tryz.pinned (OpenSpec.ofChange buildPartsSpec)

/-- ITS FALSE NEIGHBOUR: 'it returns false'. Refute it at one input. -/
def buildPartsWrong : ChangeSpec := { name := "buildParts", fn := fun _ => fun
  | [d1, d2, d3] => { results := [.lit (.bool false)], args := [d1, d2, d3] }
  | _ => none }
def BuildPartsWrongFalsely : Prop := buildPartsRow.holds Tryz.pinned (OpenSpec.ofChange buildPartsWrong)

/-- 'colonnadelaw09.BuildKeeps': WHATEVER THE INPUT: true; the input reads as it did. -/
def buildKeepsSpec : ChangeSpec := { name := "buildKeeps", fn := fun _ => fun
  | [d1, d2, d3] => { results := [.lit (.bool true)], args := [d1, d2, d3] }
  | _ => none }
def buildKeepsRow : OpenClaim := { program := "ytlbbdbdjiekkaaagreatdoor", sum := "44b878ca52c952f62103a055b8cf68180b33ca834c03a1a6bf2898c88ae667b2", func := "colonnade/colonnadelaw09.BuildKeeps", spec := "buildKeeps", inPlace := ["internal/abi.NoEscape", "internal/bytealg.MakeNoZero"], unfollowed := true, recurses := true, named := ["colonnade/kind.says", "unicode/utf8.first", "unicode/utf8.acceptRanges"], loops := true, apart := false, laid := [("unicode/utf8.acceptRanges", laid_unicode_utf8_acceptRanges), ("colonnade/kind.says", laid_colonnade_kind_says), ("unicode/utf8.first", laid_unicode_utf8_first)] }
def BuildKeepsSaid : Prop := buildKeepsRow.holds Tryz.pinned (OpenSpec.ofChange buildKeepsSpec)

/-- ITS FALSE NEIGHBOUR: 'it returns false'. Refute it at one input. -/
def buildKeepsWrong : ChangeSpec := { name := "buildKeeps", fn := fun _ => fun
  | [d1, d2, d3] => { results := [.lit (.bool false)], args := [d1, d2, d3] }
  | _ => none }
def BuildKeepsWrongFalsely : Prop := buildKeepsRow.holds Tryz.pinned (OpenSpec.ofChange buildKeepsWrong)

/-- 'colonnadelaw09.BuildMakes': WHATEVER THE INPUT: true; the input reads as it did. -/
def buildMakesSpec : ChangeSpec := { name := "buildMakes", fn := fun _ => fun
  | [d1, d2] => { results := [.lit (.bool true)], args := [d1, d2] }
  | _ => none }
def buildMakesRow : OpenClaim := { program := "ytlbbdbdjiekkaaagreatdoor", sum := "44b878ca52c952f62103a055b8cf68180b33ca834c03a1a6bf2898c88ae667b2", func := "colonnade/colonnadelaw09.BuildMakes", spec := "buildMakes", inPlace := ["internal/abi.NoEscape", "internal/bytealg.MakeNoZero"], unfollowed := true, recurses := true, named := ["colonnade/kind.says", "unicode/utf8.first", "unicode/utf8.acceptRanges"], loops := true, apart := false, laid := [("unicode/utf8.acceptRanges", laid_unicode_utf8_acceptRanges), ("colonnade/kind.says", laid_colonnade_kind_says), ("unicode/utf8.first", laid_unicode_utf8_first)] }
def BuildMakesSaid : Prop := buildMakesRow.holds Tryz.pinned (OpenSpec.ofChange buildMakesSpec)

/-- ITS FALSE NEIGHBOUR: 'it returns false'. Refute it at one input. -/
def buildMakesWrong : ChangeSpec := { name := "buildMakes", fn := fun _ => fun
  | [d1, d2] => { results := [.lit (.bool false)], args := [d1, d2] }
  | _ => none }
def BuildMakesWrongFalsely : Prop := buildMakesRow.holds Tryz.pinned (OpenSpec.ofChange buildMakesWrong)

/-- 'colonnadelaw09.BuildBegins': WHATEVER THE INPUT: true; the input reads as it did. -/
def buildBeginsSpec : ChangeSpec := { name := "buildBegins", fn := fun _ => fun
  | [d1, d2, d3] => { results := [.lit (.bool true)], args := [d1, d2, d3] }
  | _ => none }
def buildBeginsRow : OpenClaim := { program := "ytlbbdbdjiekkaaagreatdoor", sum := "44b878ca52c952f62103a055b8cf68180b33ca834c03a1a6bf2898c88ae667b2", func := "colonnade/colonnadelaw09.BuildBegins", spec := "buildBegins", inPlace := ["internal/abi.NoEscape", "internal/bytealg.MakeNoZero"], unfollowed := true, recurses := true, named := ["colonnade/kind.says", "unicode/utf8.first", "unicode/utf8.acceptRanges"], loops := true, apart := false, laid := [("unicode/utf8.acceptRanges", laid_unicode_utf8_acceptRanges), ("colonnade/kind.says", laid_colonnade_kind_says), ("unicode/utf8.first", laid_unicode_utf8_first)] }
def BuildBeginsSaid : Prop := buildBeginsRow.holds Tryz.pinned (OpenSpec.ofChange buildBeginsSpec)

/-- ITS FALSE NEIGHBOUR: 'it returns false'. Refute it at one input. -/
def buildBeginsWrong : ChangeSpec := { name := "buildBegins", fn := fun _ => fun
  | [d1, d2, d3] => { results := [.lit (.bool false)], args := [d1, d2, d3] }
  | _ => none }
def BuildBeginsWrongFalsely : Prop := buildBeginsRow.holds Tryz.pinned (OpenSpec.ofChange buildBeginsWrong)

/-- 'colonnadelaw09.BuildBuilds': WHATEVER THE INPUT: true; the input reads as it did. -/
def buildBuildsSpec : ChangeSpec := { name := "buildBuilds", fn := fun _ => fun
  | [d1, d2] => { results := [.lit (.bool true)], args := [d1, d2] }
  | _ => none }
def buildBuildsRow : OpenClaim := { program := "ytlbbdbdjiekkaaagreatdoor", sum := "44b878ca52c952f62103a055b8cf68180b33ca834c03a1a6bf2898c88ae667b2", func := "colonnade/colonnadelaw09.BuildBuilds", spec := "buildBuilds", inPlace := ["internal/abi.NoEscape", "internal/bytealg.MakeNoZero"], unfollowed := true, recurses := true, named := ["colonnade/kind.says", "unicode/utf8.first", "unicode/utf8.acceptRanges"], loops := true, apart := false, laid := [("unicode/utf8.acceptRanges", laid_unicode_utf8_acceptRanges), ("colonnade/kind.says", laid_colonnade_kind_says), ("unicode/utf8.first", laid_unicode_utf8_first)] }
def BuildBuildsSaid : Prop := buildBuildsRow.holds Tryz.pinned (OpenSpec.ofChange buildBuildsSpec)

/-- ITS FALSE NEIGHBOUR: 'it returns false'. Refute it at one input. -/
def buildBuildsWrong : ChangeSpec := { name := "buildBuilds", fn := fun _ => fun
  | [d1, d2] => { results := [.lit (.bool false)], args := [d1, d2] }
  | _ => none }
def BuildBuildsWrongFalsely : Prop := buildBuildsRow.holds Tryz.pinned (OpenSpec.ofChange buildBuildsWrong)

/-- 'colonnadelaw09.BuildBatches': WHATEVER THE INPUT: true; the input reads as it did. -/
def buildBatchesSpec : ChangeSpec := { name := "buildBatches", fn := fun _ => fun
  | [d1, d2] => { results := [.lit (.bool true)], args := [d1, d2] }
  | _ => none }
def buildBatchesRow : OpenClaim := { program := "ytlbbdbdjiekkaaagreatdoor", sum := "44b878ca52c952f62103a055b8cf68180b33ca834c03a1a6bf2898c88ae667b2", func := "colonnade/colonnadelaw09.BuildBatches", spec := "buildBatches", inPlace := ["internal/abi.NoEscape", "internal/bytealg.MakeNoZero"], unfollowed := true, recurses := true, named := ["colonnade/kind.says", "unicode/utf8.first", "unicode/utf8.acceptRanges"], loops := true, apart := false, laid := [("unicode/utf8.acceptRanges", laid_unicode_utf8_acceptRanges), ("colonnade/kind.says", laid_colonnade_kind_says), ("unicode/utf8.first", laid_unicode_utf8_first)] }
def BuildBatchesSaid : Prop := buildBatchesRow.holds Tryz.pinned (OpenSpec.ofChange buildBatchesSpec)

/-- ITS FALSE NEIGHBOUR: 'it returns false'. Refute it at one input. -/
def buildBatchesWrong : ChangeSpec := { name := "buildBatches", fn := fun _ => fun
  | [d1, d2] => { results := [.lit (.bool false)], args := [d1, d2] }
  | _ => none }
def BuildBatchesWrongFalsely : Prop := buildBatchesRow.holds Tryz.pinned (OpenSpec.ofChange buildBatchesWrong)

/-- 'colonnadelaw09.BuildColumns': WHATEVER THE INPUT: true; the input reads as it did. -/
def buildColumnsSpec : ChangeSpec := { name := "buildColumns", fn := fun _ => fun
  | [d1, d2] => { results := [.lit (.bool true)], args := [d1, d2] }
  | _ => none }
def buildColumnsRow : OpenClaim := { program := "ytlbbdbdjiekkaaagreatdoor", sum := "44b878ca52c952f62103a055b8cf68180b33ca834c03a1a6bf2898c88ae667b2", func := "colonnade/colonnadelaw09.BuildColumns", spec := "buildColumns", inPlace := ["internal/abi.NoEscape", "internal/bytealg.MakeNoZero"], unfollowed := true, recurses := true, named := ["colonnade/kind.says", "unicode/utf8.first", "unicode/utf8.acceptRanges"], loops := true, apart := false, laid := [("unicode/utf8.acceptRanges", laid_unicode_utf8_acceptRanges), ("colonnade/kind.says", laid_colonnade_kind_says), ("unicode/utf8.first", laid_unicode_utf8_first)] }
def BuildColumnsSaid : Prop := buildColumnsRow.holds Tryz.pinned (OpenSpec.ofChange buildColumnsSpec)

/-- ITS FALSE NEIGHBOUR: 'it returns false'. Refute it at one input. -/
def buildColumnsWrong : ChangeSpec := { name := "buildColumns", fn := fun _ => fun
  | [d1, d2] => { results := [.lit (.bool false)], args := [d1, d2] }
  | _ => none }
def BuildColumnsWrongFalsely : Prop := buildColumnsRow.holds Tryz.pinned (OpenSpec.ofChange buildColumnsWrong)

/-- 'colonnadelaw09.BuildOwns': WHATEVER THE INPUT: true; the input reads as it did. -/
def buildOwnsSpec : ChangeSpec := { name := "buildOwns", fn := fun _ => fun
  | [d1, d2, d3] => { results := [.lit (.bool true)], args := [d1, d2, d3] }
  | _ => none }
def buildOwnsRow : OpenClaim := { program := "ytlbbdbdjiekkaaagreatdoor", sum := "44b878ca52c952f62103a055b8cf68180b33ca834c03a1a6bf2898c88ae667b2", func := "colonnade/colonnadelaw09.BuildOwns", spec := "buildOwns", inPlace := ["internal/abi.NoEscape", "internal/bytealg.MakeNoZero"], unfollowed := true, recurses := true, named := ["colonnade/kind.says", "unicode/utf8.first", "unicode/utf8.acceptRanges"], loops := true, apart := false, laid := [("unicode/utf8.acceptRanges", laid_unicode_utf8_acceptRanges), ("colonnade/kind.says", laid_colonnade_kind_says), ("unicode/utf8.first", laid_unicode_utf8_first)] }
def BuildOwnsSaid : Prop := buildOwnsRow.holds Tryz.pinned (OpenSpec.ofChange buildOwnsSpec)

/-- ITS FALSE NEIGHBOUR: 'it returns false'. Refute it at one input. -/
def buildOwnsWrong : ChangeSpec := { name := "buildOwns", fn := fun _ => fun
  | [d1, d2, d3] => { results := [.lit (.bool false)], args := [d1, d2, d3] }
  | _ => none }
def BuildOwnsWrongFalsely : Prop := buildOwnsRow.holds Tryz.pinned (OpenSpec.ofChange buildOwnsWrong)

/- THE SECOND FORM. 'bulk': how many values and letters a reading holds, each counted each time it is reached (what is shared counts as often as it is met; a slice's spare places count too). A statement '..UptoSaid' is the law's where the arguments, and the package variables that the reading takes, are together of bulk at most 1048576: NARROWER than '..Said'. Prove '..Said' where nothing that the law and all that it calls make is longer than what came in: it says more and counts as full. Else prove '..UptoSaid'. A law counts once. -/
mutual
def uptoBulk {H : Type} : DataW H → Nat
  | .lit (.string bytes) => bytes.length + 1
  | .lit _ => 1
  | .nil => 1
  | .ptr d => uptoBulk d + 1
  | .slice elems spare => uptoBulkAll elems + uptoBulkAll spare + 1
  | .agg parts => uptoBulkAll parts + 1
  | .iface _ d => uptoBulk d + 1
  | .map entries => uptoBulkEntries entries + 1
  | .held _ => 1
def uptoBulkAll {H : Type} : List (DataW H) → Nat
  | [] => 0
  | d :: r => uptoBulk d + uptoBulkAll r
def uptoBulkEntries {H : Type} : List (Lit × DataW H) → Nat
  | [] => 0
  | x :: r => uptoBulkEntry x + uptoBulkEntries r
def uptoBulkEntry {H : Type} : Lit × DataW H → Nat
  | (.string bytes, d) => bytes.length + uptoBulk d + 1
  | (_, d) => uptoBulk d + 1
 end
def uptoSmall : (H : Type) → List (DataW H) → Bool := fun _ ds => decide (uptoBulkAll ds ≤ 1048576)
def OpenSpec.upto (s : _root_.Go.ChangeSpec) : _root_.Go.OpenSpec := { _root_.Go.OpenSpec.ofChange s with cond := some uptoSmall }

/-- 'colonnadelaw09.BuildNames', WHERE WHAT IT READS IS OF BULK AT MOST 1048576: true; the input reads as it did. -/
def buildNamesUptoRow : OpenClaim := { program := "ytlbbdbdjiekkaaagreatdoor", sum := "44b878ca52c952f62103a055b8cf68180b33ca834c03a1a6bf2898c88ae667b2", func := "colonnade/colonnadelaw09.BuildNames", spec := "buildNames", inPlace := ["internal/abi.NoEscape", "internal/bytealg.MakeNoZero"], unfollowed := true, recurses := true, named := ["colonnade/kind.says", "unicode/utf8.first", "unicode/utf8.acceptRanges"], apart := false, laid := [("unicode/utf8.acceptRanges", laid_unicode_utf8_acceptRanges), ("colonnade/kind.says", laid_colonnade_kind_says), ("unicode/utf8.first", laid_unicode_utf8_first)], narrowed := true }
def BuildNamesUptoSaid : Prop := buildNamesUptoRow.holds Tryz.pinned (OpenSpec.upto buildNamesSpec)

/-- 'colonnadelaw09.BuildDenotes', WHERE WHAT IT READS IS OF BULK AT MOST 1048576: true; the input reads as it did. -/
def buildDenotesUptoRow : OpenClaim := { program := "ytlbbdbdjiekkaaagreatdoor", sum := "44b878ca52c952f62103a055b8cf68180b33ca834c03a1a6bf2898c88ae667b2", func := "colonnade/colonnadelaw09.BuildDenotes", spec := "buildDenotes", inPlace := ["internal/abi.NoEscape", "internal/bytealg.MakeNoZero"], unfollowed := true, recurses := true, named := ["colonnade/kind.says", "unicode/utf8.first", "unicode/utf8.acceptRanges"], loops := true, apart := false, laid := [("unicode/utf8.acceptRanges", laid_unicode_utf8_acceptRanges), ("colonnade/kind.says", laid_colonnade_kind_says), ("unicode/utf8.first", laid_unicode_utf8_first)], narrowed := true }
def BuildDenotesUptoSaid : Prop := buildDenotesUptoRow.holds Tryz.pinned (OpenSpec.upto buildDenotesSpec)

/-- 'colonnadelaw09.BuildOneForm', WHERE WHAT IT READS IS OF BULK AT MOST 1048576: true; the input reads as it did. -/
def buildOneFormUptoRow : OpenClaim := { program := "ytlbbdbdjiekkaaagreatdoor", sum := "44b878ca52c952f62103a055b8cf68180b33ca834c03a1a6bf2898c88ae667b2", func := "colonnade/colonnadelaw09.BuildOneForm", spec := "buildOneForm", inPlace := ["internal/abi.NoEscape", "internal/bytealg.MakeNoZero"], unfollowed := true, recurses := true, named := ["colonnade/kind.says", "unicode/utf8.first", "unicode/utf8.acceptRanges"], loops := true, apart := false, laid := [("unicode/utf8.acceptRanges", laid_unicode_utf8_acceptRanges), ("colonnade/kind.says", laid_colonnade_kind_says), ("unicode/utf8.first", laid_unicode_utf8_first)], narrowed := true }
def BuildOneFormUptoSaid : Prop := buildOneFormUptoRow.holds Tryz.pinned (OpenSpec.upto buildOneFormSpec)

/-- 'colonnadelaw09.BuildParts', WHERE WHAT IT READS IS OF BULK AT MOST 1048576: true; the input reads as it did. -/
def buildPartsUptoRow : OpenClaim := { program := "ytlbbdbdjiekkaaagreatdoor", sum := "44b878ca52c952f62103a055b8cf68180b33ca834c03a1a6bf2898c88ae667b2", func := "colonnade/colonnadelaw09.BuildParts", spec := "buildParts", inPlace := ["internal/abi.NoEscape", "internal/bytealg.MakeNoZero"], unfollowed := true, recurses := true, named := ["colonnade/kind.says", "unicode/utf8.first", "unicode/utf8.acceptRanges"], loops := true, apart := false, laid := [("unicode/utf8.acceptRanges", laid_unicode_utf8_acceptRanges), ("colonnade/kind.says", laid_colonnade_kind_says), ("unicode/utf8.first", laid_unicode_utf8_first)], narrowed := true }
def BuildPartsUptoSaid : Prop := buildPartsUptoRow.holds Tryz.pinned (OpenSpec.upto buildPartsSpec)

/-- 'colonnadelaw09.BuildKeeps', WHERE WHAT IT READS IS OF BULK AT MOST 1048576: true; the input reads as it did. -/
def buildKeepsUptoRow : OpenClaim := { program := "ytlbbdbdjiekkaaagreatdoor", sum := "44b878ca52c952f62103a055b8cf68180b33ca834c03a1a6bf2898c88ae667b2", func := "colonnade/colonnadelaw09.BuildKeeps", spec := "buildKeeps", inPlace := ["internal/abi.NoEscape", "internal/bytealg.MakeNoZero"], unfollowed := true, recurses := true, named := ["colonnade/kind.says", "unicode/utf8.first", "unicode/utf8.acceptRanges"], loops := true, apart := false, laid := [("unicode/utf8.acceptRanges", laid_unicode_utf8_acceptRanges), ("colonnade/kind.says", laid_colonnade_kind_says), ("unicode/utf8.first", laid_unicode_utf8_first)], narrowed := true }
def BuildKeepsUptoSaid : Prop := buildKeepsUptoRow.holds Tryz.pinned (OpenSpec.upto buildKeepsSpec)

/-- 'colonnadelaw09.BuildMakes', WHERE WHAT IT READS IS OF BULK AT MOST 1048576: true; the input reads as it did. -/
def buildMakesUptoRow : OpenClaim := { program := "ytlbbdbdjiekkaaagreatdoor", sum := "44b878ca52c952f62103a055b8cf68180b33ca834c03a1a6bf2898c88ae667b2", func := "colonnade/colonnadelaw09.BuildMakes", spec := "buildMakes", inPlace := ["internal/abi.NoEscape", "internal/bytealg.MakeNoZero"], unfollowed := true, recurses := true, named := ["colonnade/kind.says", "unicode/utf8.first", "unicode/utf8.acceptRanges"], loops := true, apart := false, laid := [("unicode/utf8.acceptRanges", laid_unicode_utf8_acceptRanges), ("colonnade/kind.says", laid_colonnade_kind_says), ("unicode/utf8.first", laid_unicode_utf8_first)], narrowed := true }
def BuildMakesUptoSaid : Prop := buildMakesUptoRow.holds Tryz.pinned (OpenSpec.upto buildMakesSpec)

/-- 'colonnadelaw09.BuildBegins', WHERE WHAT IT READS IS OF BULK AT MOST 1048576: true; the input reads as it did. -/
def buildBeginsUptoRow : OpenClaim := { program := "ytlbbdbdjiekkaaagreatdoor", sum := "44b878ca52c952f62103a055b8cf68180b33ca834c03a1a6bf2898c88ae667b2", func := "colonnade/colonnadelaw09.BuildBegins", spec := "buildBegins", inPlace := ["internal/abi.NoEscape", "internal/bytealg.MakeNoZero"], unfollowed := true, recurses := true, named := ["colonnade/kind.says", "unicode/utf8.first", "unicode/utf8.acceptRanges"], loops := true, apart := false, laid := [("unicode/utf8.acceptRanges", laid_unicode_utf8_acceptRanges), ("colonnade/kind.says", laid_colonnade_kind_says), ("unicode/utf8.first", laid_unicode_utf8_first)], narrowed := true }
def BuildBeginsUptoSaid : Prop := buildBeginsUptoRow.holds Tryz.pinned (OpenSpec.upto buildBeginsSpec)

/-- 'colonnadelaw09.BuildBuilds', WHERE WHAT IT READS IS OF BULK AT MOST 1048576: true; the input reads as it did. -/
def buildBuildsUptoRow : OpenClaim := { program := "ytlbbdbdjiekkaaagreatdoor", sum := "44b878ca52c952f62103a055b8cf68180b33ca834c03a1a6bf2898c88ae667b2", func := "colonnade/colonnadelaw09.BuildBuilds", spec := "buildBuilds", inPlace := ["internal/abi.NoEscape", "internal/bytealg.MakeNoZero"], unfollowed := true, recurses := true, named := ["colonnade/kind.says", "unicode/utf8.first", "unicode/utf8.acceptRanges"], loops := true, apart := false, laid := [("unicode/utf8.acceptRanges", laid_unicode_utf8_acceptRanges), ("colonnade/kind.says", laid_colonnade_kind_says), ("unicode/utf8.first", laid_unicode_utf8_first)], narrowed := true }
def BuildBuildsUptoSaid : Prop := buildBuildsUptoRow.holds Tryz.pinned (OpenSpec.upto buildBuildsSpec)

/-- 'colonnadelaw09.BuildBatches', WHERE WHAT IT READS IS OF BULK AT MOST 1048576: true; the input reads as it did. -/
def buildBatchesUptoRow : OpenClaim := { program := "ytlbbdbdjiekkaaagreatdoor", sum := "44b878ca52c952f62103a055b8cf68180b33ca834c03a1a6bf2898c88ae667b2", func := "colonnade/colonnadelaw09.BuildBatches", spec := "buildBatches", inPlace := ["internal/abi.NoEscape", "internal/bytealg.MakeNoZero"], unfollowed := true, recurses := true, named := ["colonnade/kind.says", "unicode/utf8.first", "unicode/utf8.acceptRanges"], loops := true, apart := false, laid := [("unicode/utf8.acceptRanges", laid_unicode_utf8_acceptRanges), ("colonnade/kind.says", laid_colonnade_kind_says), ("unicode/utf8.first", laid_unicode_utf8_first)], narrowed := true }
def BuildBatchesUptoSaid : Prop := buildBatchesUptoRow.holds Tryz.pinned (OpenSpec.upto buildBatchesSpec)

/-- 'colonnadelaw09.BuildColumns', WHERE WHAT IT READS IS OF BULK AT MOST 1048576: true; the input reads as it did. -/
def buildColumnsUptoRow : OpenClaim := { program := "ytlbbdbdjiekkaaagreatdoor", sum := "44b878ca52c952f62103a055b8cf68180b33ca834c03a1a6bf2898c88ae667b2", func := "colonnade/colonnadelaw09.BuildColumns", spec := "buildColumns", inPlace := ["internal/abi.NoEscape", "internal/bytealg.MakeNoZero"], unfollowed := true, recurses := true, named := ["colonnade/kind.says", "unicode/utf8.first", "unicode/utf8.acceptRanges"], loops := true, apart := false, laid := [("unicode/utf8.acceptRanges", laid_unicode_utf8_acceptRanges), ("colonnade/kind.says", laid_colonnade_kind_says), ("unicode/utf8.first", laid_unicode_utf8_first)], narrowed := true }
def BuildColumnsUptoSaid : Prop := buildColumnsUptoRow.holds Tryz.pinned (OpenSpec.upto buildColumnsSpec)

/-- 'colonnadelaw09.BuildOwns', WHERE WHAT IT READS IS OF BULK AT MOST 1048576: true; the input reads as it did. -/
def buildOwnsUptoRow : OpenClaim := { program := "ytlbbdbdjiekkaaagreatdoor", sum := "44b878ca52c952f62103a055b8cf68180b33ca834c03a1a6bf2898c88ae667b2", func := "colonnade/colonnadelaw09.BuildOwns", spec := "buildOwns", inPlace := ["internal/abi.NoEscape", "internal/bytealg.MakeNoZero"], unfollowed := true, recurses := true, named := ["colonnade/kind.says", "unicode/utf8.first", "unicode/utf8.acceptRanges"], loops := true, apart := false, laid := [("unicode/utf8.acceptRanges", laid_unicode_utf8_acceptRanges), ("colonnade/kind.says", laid_colonnade_kind_says), ("unicode/utf8.first", laid_unicode_utf8_first)], narrowed := true }
def BuildOwnsUptoSaid : Prop := buildOwnsUptoRow.holds Tryz.pinned (OpenSpec.upto buildOwnsSpec)

end Rows
end Go.Proofs.YtlbbdbdjiekkaaaGreatDoor
