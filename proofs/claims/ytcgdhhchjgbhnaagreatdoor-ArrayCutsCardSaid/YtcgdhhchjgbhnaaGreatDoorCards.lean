/-
  DERIVED. GIVEN WITH THE SEED: THE CARDS: each row of YtcgdhhchjgbhnaaGreatDoorRows.lean that lists a variable, with what it lists TIED to the program's text (the seventh form; the later family's looks); each row that meets fmt, with fmt's text TOLD by the authors' own Lean function (tested against real Go, not proved from fmt's source: count such statements apart). THE CARD IS WHAT COUNTS. Prove the row's statement (the work); the ties are given (YtcgdhhchjgbhnaaGreatDoorTie.lean); close each card by the builder's one call (the guide's Derived/Test/ToyasCard.lean, 'card_holds'). Laid BY PROGRAM, IN A SANDBOX (cutbox-door.mjs). By AI agents, Wed Nov 11 2026. No macro, syntax, notation, axiom, sorry.
-/
import Derived.Test.YtcgdhhchjgbhnaaGreatDoorRows
import GoSem.ClaimSeven
namespace Go.Proofs.YtcgdhhchjgbhnaaGreatDoor
namespace Rows

/-- THE TIED CARD OF 'colonnadelaw08.ArrayKeeps'. -/
def arrayKeepsCard : Claim7 := { stood := { row := arrayKeepsRow, standIns := [], harness := (true, "e8a4bce469837659e22c8aba97195124e13c43e34b3161890513a7d5fd07a5ac"), looks := true }, kinds := [], alts := [], laidByText := true, laidKinds := [.data, .data, .pinned], laidTests := true, laidLooks := .later }
def ArrayKeepsCardSaid : Prop := Claim7.holds Tryz.pinned (.plain (OpenSpec.ofChange arrayKeepsSpec)) arrayKeepsCard

/-- THE TIED CARD OF 'colonnadelaw08.ArrayCuts'. -/
def arrayCutsCard : Claim7 := { stood := { row := arrayCutsRow, standIns := [], harness := (true, "e8a4bce469837659e22c8aba97195124e13c43e34b3161890513a7d5fd07a5ac"), looks := true }, kinds := [], alts := [], laidByText := true, laidKinds := [.data, .data, .pinned], laidTests := true, laidLooks := .later }
def ArrayCutsCardSaid : Prop := Claim7.holds Tryz.pinned (.plain (OpenSpec.ofChange arrayCutsSpec)) arrayCutsCard

/-- THE TIED CARD OF 'colonnadelaw08.ArrayInside'. -/
def arrayInsideCard : Claim7 := { stood := { row := arrayInsideRow, standIns := [], harness := (true, "e8a4bce469837659e22c8aba97195124e13c43e34b3161890513a7d5fd07a5ac"), looks := true }, kinds := [], alts := [], laidByText := true, laidKinds := [.data, .data, .pinned], laidTests := true, laidLooks := .later }
def ArrayInsideCardSaid : Prop := Claim7.holds Tryz.pinned (.plain (OpenSpec.ofChange arrayInsideSpec)) arrayInsideCard

/-- THE SECOND FORM's CARD OF 'colonnadelaw08.ArrayKeeps'. -/
def arrayKeepsUptoCard : Claim7 := { stood := { row := arrayKeepsUptoRow, standIns := [], harness := (true, "e8a4bce469837659e22c8aba97195124e13c43e34b3161890513a7d5fd07a5ac"), looks := true }, kinds := [], alts := [], laidByText := true, laidKinds := [.data, .data, .pinned], laidTests := true, laidLooks := .later }
def ArrayKeepsUptoCardSaid : Prop := Claim7.holds Tryz.pinned (.plain (OpenSpec.upto arrayKeepsSpec)) arrayKeepsUptoCard

/-- THE SECOND FORM's CARD OF 'colonnadelaw08.ArrayCuts'. -/
def arrayCutsUptoCard : Claim7 := { stood := { row := arrayCutsUptoRow, standIns := [], harness := (true, "e8a4bce469837659e22c8aba97195124e13c43e34b3161890513a7d5fd07a5ac"), looks := true }, kinds := [], alts := [], laidByText := true, laidKinds := [.data, .data, .pinned], laidTests := true, laidLooks := .later }
def ArrayCutsUptoCardSaid : Prop := Claim7.holds Tryz.pinned (.plain (OpenSpec.upto arrayCutsSpec)) arrayCutsUptoCard

/-- THE SECOND FORM's CARD OF 'colonnadelaw08.ArrayInside'. -/
def arrayInsideUptoCard : Claim7 := { stood := { row := arrayInsideUptoRow, standIns := [], harness := (true, "e8a4bce469837659e22c8aba97195124e13c43e34b3161890513a7d5fd07a5ac"), looks := true }, kinds := [], alts := [], laidByText := true, laidKinds := [.data, .data, .pinned], laidTests := true, laidLooks := .later }
def ArrayInsideUptoCardSaid : Prop := Claim7.holds Tryz.pinned (.plain (OpenSpec.upto arrayInsideSpec)) arrayInsideUptoCard
end Rows
end Go.Proofs.YtcgdhhchjgbhnaaGreatDoor
