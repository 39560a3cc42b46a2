/-
  DERIVED. GIVEN WITH THE SEED: THE CARDS: each row of YtmjifnioaoamfaaGreatDoorRows.lean that lists a variable, with what it lists TIED to the program's text (the seventh form; the later family's looks); each row that meets fmt, with fmt's text TOLD by the authors' own Lean function (tested against real Go, not proved from fmt's source: count such statements apart). THE CARD IS WHAT COUNTS. Prove the row's statement (the work); the ties are given (YtmjifnioaoamfaaGreatDoorTie.lean); close each card by the builder's one call (the guide's Derived/Test/ToyasCard.lean, 'card_holds'). Laid BY PROGRAM, IN A SANDBOX (cutbox-door.mjs). By AI agents, Wed Nov 11 2026. No macro, syntax, notation, axiom, sorry.
-/
import Derived.Test.YtmjifnioaoamfaaGreatDoorRows
import GoSem.ClaimSeven
namespace Go.Proofs.YtmjifnioaoamfaaGreatDoor
namespace Rows

/-- THE TIED CARD OF 'colonnadelaw09.BuildBuilds'. -/
def buildBuildsCard : Claim7 := { stood := { row := buildBuildsRow, standIns := [], harness := (true, "68845fe98f0d17041b26f44abb4d40a86dfc2e0e0cd7425856d7356208701c9f"), looks := true }, kinds := [], alts := [], laidByText := true, laidKinds := [.data, .data, .pinned], laidTests := true, laidLooks := .later }
def BuildBuildsCardSaid : Prop := Claim7.holds Tryz.pinned (.plain (OpenSpec.ofChange buildBuildsSpec)) buildBuildsCard

/-- THE SECOND FORM's CARD OF 'colonnadelaw09.BuildBuilds'. -/
def buildBuildsUptoCard : Claim7 := { stood := { row := buildBuildsUptoRow, standIns := [], harness := (true, "68845fe98f0d17041b26f44abb4d40a86dfc2e0e0cd7425856d7356208701c9f"), looks := true }, kinds := [], alts := [], laidByText := true, laidKinds := [.data, .data, .pinned], laidTests := true, laidLooks := .later }
def BuildBuildsUptoCardSaid : Prop := Claim7.holds Tryz.pinned (.plain (OpenSpec.upto buildBuildsSpec)) buildBuildsUptoCard
end Rows
end Go.Proofs.YtmjifnioaoamfaaGreatDoor
