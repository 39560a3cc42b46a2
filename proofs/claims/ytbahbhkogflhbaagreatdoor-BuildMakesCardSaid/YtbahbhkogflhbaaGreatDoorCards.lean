/-
  DERIVED. GIVEN WITH THE SEED: THE CARDS: each row of YtbahbhkogflhbaaGreatDoorRows.lean that lists a variable, with what it lists TIED to the program's text (the seventh form; the later family's looks); each row that meets fmt, with fmt's text TOLD by the authors' own Lean function (tested against real Go, not proved from fmt's source: count such statements apart). THE CARD IS WHAT COUNTS. Prove the row's statement (the work); the ties are given (YtbahbhkogflhbaaGreatDoorTie.lean); close each card by the builder's one call (the guide's Derived/Test/ToyasCard.lean, 'card_holds'). Laid BY PROGRAM, IN A SANDBOX (cutbox-door.mjs). By AI agents, Wed Nov 11 2026. No macro, syntax, notation, axiom, sorry.
-/
import Derived.Test.YtbahbhkogflhbaaGreatDoorRows
import GoSem.ClaimSeven
namespace Go.Proofs.YtbahbhkogflhbaaGreatDoor
namespace Rows

/-- THE TIED CARD OF 'colonnadelaw09.BuildMakes'. -/
def buildMakesCard : Claim7 := { stood := { row := buildMakesRow, standIns := [], harness := (true, "d48f3b81f979034ceb1841cd86413381f02024e769b197d6897b11ba7664c735"), looks := true }, kinds := [], alts := [], laidByText := true, laidKinds := [.data, .data, .pinned], laidTests := true, laidLooks := .later }
def BuildMakesCardSaid : Prop := Claim7.holds Tryz.pinned (.plain (OpenSpec.ofChange buildMakesSpec)) buildMakesCard

/-- THE SECOND FORM's CARD OF 'colonnadelaw09.BuildMakes'. -/
def buildMakesUptoCard : Claim7 := { stood := { row := buildMakesUptoRow, standIns := [], harness := (true, "d48f3b81f979034ceb1841cd86413381f02024e769b197d6897b11ba7664c735"), looks := true }, kinds := [], alts := [], laidByText := true, laidKinds := [.data, .data, .pinned], laidTests := true, laidLooks := .later }
def BuildMakesUptoCardSaid : Prop := Claim7.holds Tryz.pinned (.plain (OpenSpec.upto buildMakesSpec)) buildMakesUptoCard
end Rows
end Go.Proofs.YtbahbhkogflhbaaGreatDoor
