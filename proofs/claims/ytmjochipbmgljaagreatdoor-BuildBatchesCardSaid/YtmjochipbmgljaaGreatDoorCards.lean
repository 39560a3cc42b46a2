/-
  DERIVED. GIVEN WITH THE SEED: THE CARDS: each row of YtmjochipbmgljaaGreatDoorRows.lean that lists a variable, with what it lists TIED to the program's text (the seventh form; the later family's looks); each row that meets fmt, with fmt's text TOLD by the authors' own Lean function (tested against real Go, not proved from fmt's source: count such statements apart). THE CARD IS WHAT COUNTS. Prove the row's statement (the work); the ties are given (YtmjochipbmgljaaGreatDoorTie.lean); close each card by the builder's one call (the guide's Derived/Test/ToyasCard.lean, 'card_holds'). Laid BY PROGRAM, IN A SANDBOX (cutbox-door.mjs). By AI agents, Wed Nov 11 2026. No macro, syntax, notation, axiom, sorry.
-/
import Derived.Test.YtmjochipbmgljaaGreatDoorRows
import GoSem.ClaimSeven
namespace Go.Proofs.YtmjochipbmgljaaGreatDoor
namespace Rows

/-- THE TIED CARD OF 'colonnadelaw09.BuildBatches'. -/
def buildBatchesCard : Claim7 := { stood := { row := buildBatchesRow, standIns := [], harness := (true, "ecd0d4154e4c15e8257f75e488c63d0567623f2c2d2e00e3b33c4b88aa7b78cb"), looks := true }, kinds := [], alts := [], laidByText := true, laidKinds := [.data, .data, .pinned], laidTests := true, laidLooks := .later }
def BuildBatchesCardSaid : Prop := Claim7.holds Tryz.pinned (.plain (OpenSpec.ofChange buildBatchesSpec)) buildBatchesCard

/-- THE SECOND FORM's CARD OF 'colonnadelaw09.BuildBatches'. -/
def buildBatchesUptoCard : Claim7 := { stood := { row := buildBatchesUptoRow, standIns := [], harness := (true, "ecd0d4154e4c15e8257f75e488c63d0567623f2c2d2e00e3b33c4b88aa7b78cb"), looks := true }, kinds := [], alts := [], laidByText := true, laidKinds := [.data, .data, .pinned], laidTests := true, laidLooks := .later }
def BuildBatchesUptoCardSaid : Prop := Claim7.holds Tryz.pinned (.plain (OpenSpec.upto buildBatchesSpec)) buildBatchesUptoCard
end Rows
end Go.Proofs.YtmjochipbmgljaaGreatDoor
