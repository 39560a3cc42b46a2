/-
  DERIVED. GIVEN WITH THE SEED: THE CARDS: each row of YtikpikmkhdapiaaGreatDoorRows.lean that lists a variable, with what it lists TIED to the program's text (the seventh form; the later family's looks); each row that meets fmt, with fmt's text TOLD by the authors' own Lean function (tested against real Go, not proved from fmt's source: count such statements apart). THE CARD IS WHAT COUNTS. Prove the row's statement (the work); the ties are given (YtikpikmkhdapiaaGreatDoorTie.lean); close each card by the builder's one call (the guide's Derived/Test/ToyasCard.lean, 'card_holds'). Laid BY PROGRAM, IN A SANDBOX (cutbox-door.mjs). By AI agents, Wed Nov 11 2026. No macro, syntax, notation, axiom, sorry.
-/
import Derived.Test.YtikpikmkhdapiaaGreatDoorRows
import GoSem.ClaimSeven
namespace Go.Proofs.YtikpikmkhdapiaaGreatDoor
namespace Rows

/-- THE TIED CARD OF 'colonnadelaw09.BuildBegins'. -/
def buildBeginsCard : Claim7 := { stood := { row := buildBeginsRow, standIns := [], harness := (true, "a2aff99c4869a17443a716c34a36411427bd6f6155a5c5fc7b59afd244eb913b"), looks := true }, kinds := [], alts := [], laidByText := true, laidKinds := [.data, .data, .pinned], laidTests := true, laidLooks := .later }
def BuildBeginsCardSaid : Prop := Claim7.holds Tryz.pinned (.plain (OpenSpec.ofChange buildBeginsSpec)) buildBeginsCard

/-- THE SECOND FORM's CARD OF 'colonnadelaw09.BuildBegins'. -/
def buildBeginsUptoCard : Claim7 := { stood := { row := buildBeginsUptoRow, standIns := [], harness := (true, "a2aff99c4869a17443a716c34a36411427bd6f6155a5c5fc7b59afd244eb913b"), looks := true }, kinds := [], alts := [], laidByText := true, laidKinds := [.data, .data, .pinned], laidTests := true, laidLooks := .later }
def BuildBeginsUptoCardSaid : Prop := Claim7.holds Tryz.pinned (.plain (OpenSpec.upto buildBeginsSpec)) buildBeginsUptoCard
end Rows
end Go.Proofs.YtikpikmkhdapiaaGreatDoor
