/-
  DERIVED. GIVEN WITH THE SEED: THE CARDS: each row of YtlbbdbdjiekkaaaGreatDoorRows.lean that lists a variable, with what it lists TIED to the program's text (the seventh form; the later family's looks); each row that meets fmt, with fmt's text TOLD by the authors' own Lean function (tested against real Go, not proved from fmt's source: count such statements apart). THE CARD IS WHAT COUNTS. Prove the row's statement (the work); the ties are given (YtlbbdbdjiekkaaaGreatDoorTie.lean); close each card by the builder's one call (the guide's Derived/Test/ToyasCard.lean, 'card_holds'). Laid BY PROGRAM, IN A SANDBOX (cutbox-door.mjs). By AI agents, Wed Nov 11 2026. No macro, syntax, notation, axiom, sorry.
-/
import Derived.Test.YtlbbdbdjiekkaaaGreatDoorRows
import GoSem.ClaimSeven
namespace Go.Proofs.YtlbbdbdjiekkaaaGreatDoor
namespace Rows

/-- THE TIED CARD OF 'colonnadelaw09.BuildNames'. -/
def buildNamesCard : Claim7 := { stood := { row := buildNamesRow, standIns := [], harness := (true, "c4384da93f42f9d4eef5734a1e9bfd3a4a786b90857be9c17203f6c9aa5cc4c6"), looks := true }, kinds := [], alts := [], laidByText := true, laidKinds := [.data, .data, .pinned], laidTests := true, laidLooks := .later }
def BuildNamesCardSaid : Prop := Claim7.holds Tryz.pinned (.plain (OpenSpec.ofChange buildNamesSpec)) buildNamesCard

/-- THE TIED CARD OF 'colonnadelaw09.BuildDenotes'. -/
def buildDenotesCard : Claim7 := { stood := { row := buildDenotesRow, standIns := [], harness := (true, "c4384da93f42f9d4eef5734a1e9bfd3a4a786b90857be9c17203f6c9aa5cc4c6"), looks := true }, kinds := [], alts := [], laidByText := true, laidKinds := [.data, .data, .pinned], laidTests := true, laidLooks := .later }
def BuildDenotesCardSaid : Prop := Claim7.holds Tryz.pinned (.plain (OpenSpec.ofChange buildDenotesSpec)) buildDenotesCard

/-- THE TIED CARD OF 'colonnadelaw09.BuildOneForm'. -/
def buildOneFormCard : Claim7 := { stood := { row := buildOneFormRow, standIns := [], harness := (true, "c4384da93f42f9d4eef5734a1e9bfd3a4a786b90857be9c17203f6c9aa5cc4c6"), looks := true }, kinds := [], alts := [], laidByText := true, laidKinds := [.data, .data, .pinned], laidTests := true, laidLooks := .later }
def BuildOneFormCardSaid : Prop := Claim7.holds Tryz.pinned (.plain (OpenSpec.ofChange buildOneFormSpec)) buildOneFormCard

/-- THE TIED CARD OF 'colonnadelaw09.BuildParts'. -/
def buildPartsCard : Claim7 := { stood := { row := buildPartsRow, standIns := [], harness := (true, "c4384da93f42f9d4eef5734a1e9bfd3a4a786b90857be9c17203f6c9aa5cc4c6"), looks := true }, kinds := [], alts := [], laidByText := true, laidKinds := [.data, .data, .pinned], laidTests := true, laidLooks := .later }
def BuildPartsCardSaid : Prop := Claim7.holds Tryz.pinned (.plain (OpenSpec.ofChange buildPartsSpec)) buildPartsCard

/-- THE TIED CARD OF 'colonnadelaw09.BuildKeeps'. -/
def buildKeepsCard : Claim7 := { stood := { row := buildKeepsRow, standIns := [], harness := (true, "c4384da93f42f9d4eef5734a1e9bfd3a4a786b90857be9c17203f6c9aa5cc4c6"), looks := true }, kinds := [], alts := [], laidByText := true, laidKinds := [.data, .data, .pinned], laidTests := true, laidLooks := .later }
def BuildKeepsCardSaid : Prop := Claim7.holds Tryz.pinned (.plain (OpenSpec.ofChange buildKeepsSpec)) buildKeepsCard

/-- THE TIED CARD OF 'colonnadelaw09.BuildMakes'. -/
def buildMakesCard : Claim7 := { stood := { row := buildMakesRow, standIns := [], harness := (true, "c4384da93f42f9d4eef5734a1e9bfd3a4a786b90857be9c17203f6c9aa5cc4c6"), looks := true }, kinds := [], alts := [], laidByText := true, laidKinds := [.data, .data, .pinned], laidTests := true, laidLooks := .later }
def BuildMakesCardSaid : Prop := Claim7.holds Tryz.pinned (.plain (OpenSpec.ofChange buildMakesSpec)) buildMakesCard

/-- THE TIED CARD OF 'colonnadelaw09.BuildBegins'. -/
def buildBeginsCard : Claim7 := { stood := { row := buildBeginsRow, standIns := [], harness := (true, "c4384da93f42f9d4eef5734a1e9bfd3a4a786b90857be9c17203f6c9aa5cc4c6"), looks := true }, kinds := [], alts := [], laidByText := true, laidKinds := [.data, .data, .pinned], laidTests := true, laidLooks := .later }
def BuildBeginsCardSaid : Prop := Claim7.holds Tryz.pinned (.plain (OpenSpec.ofChange buildBeginsSpec)) buildBeginsCard

/-- THE TIED CARD OF 'colonnadelaw09.BuildBuilds'. -/
def buildBuildsCard : Claim7 := { stood := { row := buildBuildsRow, standIns := [], harness := (true, "c4384da93f42f9d4eef5734a1e9bfd3a4a786b90857be9c17203f6c9aa5cc4c6"), looks := true }, kinds := [], alts := [], laidByText := true, laidKinds := [.data, .data, .pinned], laidTests := true, laidLooks := .later }
def BuildBuildsCardSaid : Prop := Claim7.holds Tryz.pinned (.plain (OpenSpec.ofChange buildBuildsSpec)) buildBuildsCard

/-- THE TIED CARD OF 'colonnadelaw09.BuildBatches'. -/
def buildBatchesCard : Claim7 := { stood := { row := buildBatchesRow, standIns := [], harness := (true, "c4384da93f42f9d4eef5734a1e9bfd3a4a786b90857be9c17203f6c9aa5cc4c6"), looks := true }, kinds := [], alts := [], laidByText := true, laidKinds := [.data, .data, .pinned], laidTests := true, laidLooks := .later }
def BuildBatchesCardSaid : Prop := Claim7.holds Tryz.pinned (.plain (OpenSpec.ofChange buildBatchesSpec)) buildBatchesCard

/-- THE TIED CARD OF 'colonnadelaw09.BuildColumns'. -/
def buildColumnsCard : Claim7 := { stood := { row := buildColumnsRow, standIns := [], harness := (true, "c4384da93f42f9d4eef5734a1e9bfd3a4a786b90857be9c17203f6c9aa5cc4c6"), looks := true }, kinds := [], alts := [], laidByText := true, laidKinds := [.data, .data, .pinned], laidTests := true, laidLooks := .later }
def BuildColumnsCardSaid : Prop := Claim7.holds Tryz.pinned (.plain (OpenSpec.ofChange buildColumnsSpec)) buildColumnsCard

/-- THE TIED CARD OF 'colonnadelaw09.BuildOwns'. -/
def buildOwnsCard : Claim7 := { stood := { row := buildOwnsRow, standIns := [], harness := (true, "c4384da93f42f9d4eef5734a1e9bfd3a4a786b90857be9c17203f6c9aa5cc4c6"), looks := true }, kinds := [], alts := [], laidByText := true, laidKinds := [.data, .data, .pinned], laidTests := true, laidLooks := .later }
def BuildOwnsCardSaid : Prop := Claim7.holds Tryz.pinned (.plain (OpenSpec.ofChange buildOwnsSpec)) buildOwnsCard

/-- THE SECOND FORM's CARD OF 'colonnadelaw09.BuildNames'. -/
def buildNamesUptoCard : Claim7 := { stood := { row := buildNamesUptoRow, standIns := [], harness := (true, "c4384da93f42f9d4eef5734a1e9bfd3a4a786b90857be9c17203f6c9aa5cc4c6"), looks := true }, kinds := [], alts := [], laidByText := true, laidKinds := [.data, .data, .pinned], laidTests := true, laidLooks := .later }
def BuildNamesUptoCardSaid : Prop := Claim7.holds Tryz.pinned (.plain (OpenSpec.upto buildNamesSpec)) buildNamesUptoCard

/-- THE SECOND FORM's CARD OF 'colonnadelaw09.BuildDenotes'. -/
def buildDenotesUptoCard : Claim7 := { stood := { row := buildDenotesUptoRow, standIns := [], harness := (true, "c4384da93f42f9d4eef5734a1e9bfd3a4a786b90857be9c17203f6c9aa5cc4c6"), looks := true }, kinds := [], alts := [], laidByText := true, laidKinds := [.data, .data, .pinned], laidTests := true, laidLooks := .later }
def BuildDenotesUptoCardSaid : Prop := Claim7.holds Tryz.pinned (.plain (OpenSpec.upto buildDenotesSpec)) buildDenotesUptoCard

/-- THE SECOND FORM's CARD OF 'colonnadelaw09.BuildOneForm'. -/
def buildOneFormUptoCard : Claim7 := { stood := { row := buildOneFormUptoRow, standIns := [], harness := (true, "c4384da93f42f9d4eef5734a1e9bfd3a4a786b90857be9c17203f6c9aa5cc4c6"), looks := true }, kinds := [], alts := [], laidByText := true, laidKinds := [.data, .data, .pinned], laidTests := true, laidLooks := .later }
def BuildOneFormUptoCardSaid : Prop := Claim7.holds Tryz.pinned (.plain (OpenSpec.upto buildOneFormSpec)) buildOneFormUptoCard

/-- THE SECOND FORM's CARD OF 'colonnadelaw09.BuildParts'. -/
def buildPartsUptoCard : Claim7 := { stood := { row := buildPartsUptoRow, standIns := [], harness := (true, "c4384da93f42f9d4eef5734a1e9bfd3a4a786b90857be9c17203f6c9aa5cc4c6"), looks := true }, kinds := [], alts := [], laidByText := true, laidKinds := [.data, .data, .pinned], laidTests := true, laidLooks := .later }
def BuildPartsUptoCardSaid : Prop := Claim7.holds Tryz.pinned (.plain (OpenSpec.upto buildPartsSpec)) buildPartsUptoCard

/-- THE SECOND FORM's CARD OF 'colonnadelaw09.BuildKeeps'. -/
def buildKeepsUptoCard : Claim7 := { stood := { row := buildKeepsUptoRow, standIns := [], harness := (true, "c4384da93f42f9d4eef5734a1e9bfd3a4a786b90857be9c17203f6c9aa5cc4c6"), looks := true }, kinds := [], alts := [], laidByText := true, laidKinds := [.data, .data, .pinned], laidTests := true, laidLooks := .later }
def BuildKeepsUptoCardSaid : Prop := Claim7.holds Tryz.pinned (.plain (OpenSpec.upto buildKeepsSpec)) buildKeepsUptoCard

/-- THE SECOND FORM's CARD OF 'colonnadelaw09.BuildMakes'. -/
def buildMakesUptoCard : Claim7 := { stood := { row := buildMakesUptoRow, standIns := [], harness := (true, "c4384da93f42f9d4eef5734a1e9bfd3a4a786b90857be9c17203f6c9aa5cc4c6"), looks := true }, kinds := [], alts := [], laidByText := true, laidKinds := [.data, .data, .pinned], laidTests := true, laidLooks := .later }
def BuildMakesUptoCardSaid : Prop := Claim7.holds Tryz.pinned (.plain (OpenSpec.upto buildMakesSpec)) buildMakesUptoCard

/-- THE SECOND FORM's CARD OF 'colonnadelaw09.BuildBegins'. -/
def buildBeginsUptoCard : Claim7 := { stood := { row := buildBeginsUptoRow, standIns := [], harness := (true, "c4384da93f42f9d4eef5734a1e9bfd3a4a786b90857be9c17203f6c9aa5cc4c6"), looks := true }, kinds := [], alts := [], laidByText := true, laidKinds := [.data, .data, .pinned], laidTests := true, laidLooks := .later }
def BuildBeginsUptoCardSaid : Prop := Claim7.holds Tryz.pinned (.plain (OpenSpec.upto buildBeginsSpec)) buildBeginsUptoCard

/-- THE SECOND FORM's CARD OF 'colonnadelaw09.BuildBuilds'. -/
def buildBuildsUptoCard : Claim7 := { stood := { row := buildBuildsUptoRow, standIns := [], harness := (true, "c4384da93f42f9d4eef5734a1e9bfd3a4a786b90857be9c17203f6c9aa5cc4c6"), looks := true }, kinds := [], alts := [], laidByText := true, laidKinds := [.data, .data, .pinned], laidTests := true, laidLooks := .later }
def BuildBuildsUptoCardSaid : Prop := Claim7.holds Tryz.pinned (.plain (OpenSpec.upto buildBuildsSpec)) buildBuildsUptoCard

/-- THE SECOND FORM's CARD OF 'colonnadelaw09.BuildBatches'. -/
def buildBatchesUptoCard : Claim7 := { stood := { row := buildBatchesUptoRow, standIns := [], harness := (true, "c4384da93f42f9d4eef5734a1e9bfd3a4a786b90857be9c17203f6c9aa5cc4c6"), looks := true }, kinds := [], alts := [], laidByText := true, laidKinds := [.data, .data, .pinned], laidTests := true, laidLooks := .later }
def BuildBatchesUptoCardSaid : Prop := Claim7.holds Tryz.pinned (.plain (OpenSpec.upto buildBatchesSpec)) buildBatchesUptoCard

/-- THE SECOND FORM's CARD OF 'colonnadelaw09.BuildColumns'. -/
def buildColumnsUptoCard : Claim7 := { stood := { row := buildColumnsUptoRow, standIns := [], harness := (true, "c4384da93f42f9d4eef5734a1e9bfd3a4a786b90857be9c17203f6c9aa5cc4c6"), looks := true }, kinds := [], alts := [], laidByText := true, laidKinds := [.data, .data, .pinned], laidTests := true, laidLooks := .later }
def BuildColumnsUptoCardSaid : Prop := Claim7.holds Tryz.pinned (.plain (OpenSpec.upto buildColumnsSpec)) buildColumnsUptoCard

/-- THE SECOND FORM's CARD OF 'colonnadelaw09.BuildOwns'. -/
def buildOwnsUptoCard : Claim7 := { stood := { row := buildOwnsUptoRow, standIns := [], harness := (true, "c4384da93f42f9d4eef5734a1e9bfd3a4a786b90857be9c17203f6c9aa5cc4c6"), looks := true }, kinds := [], alts := [], laidByText := true, laidKinds := [.data, .data, .pinned], laidTests := true, laidLooks := .later }
def BuildOwnsUptoCardSaid : Prop := Claim7.holds Tryz.pinned (.plain (OpenSpec.upto buildOwnsSpec)) buildOwnsUptoCard
end Rows
end Go.Proofs.YtlbbdbdjiekkaaaGreatDoor
