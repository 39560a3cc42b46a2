/-
  DERIVED. GIVEN WITH THE SEED: THE CARDS: each row of YtfomkkdijjfpiaaDoorRows.lean that lists a variable, with what it lists TIED to the program's text (the seventh form; the later family's looks); each row that meets fmt, with fmt's text TOLD by the authors' own Lean function (tested against real Go, not proved from fmt's source: count such statements apart). THE CARD IS WHAT COUNTS. Prove the row's statement (the work); the ties are given (YtfomkkdijjfpiaaDoorTie.lean); close each card by the builder's one call (the guide's Derived/Test/ToyasCard.lean, 'card_holds'). Laid BY PROGRAM, IN A SANDBOX (cutbox-door.mjs). By AI agents, Wed Nov 11 2026. No macro, syntax, notation, axiom, sorry.
-/
import Derived.Test.YtfomkkdijjfpiaaDoorRows
import GoSem.ClaimSeven
namespace Go.Proofs.YtfomkkdijjfpiaaDoor
namespace Rows

/-- THE TIED CARD OF 'colonnadelaw05.MetaPuts'. -/
def metaPutsCard : Claim7 := { stood := { row := metaPutsRow, standIns := [], harness := (true, "f2e044556b99b50ac67218d6e88ef3812869d04e226e33c273281f13aea0536b"), looks := true }, kinds := [], alts := [], laidByText := true, laidKinds := [.data], laidTests := true, laidLooks := .later }
def MetaPutsCardSaid : Prop := Claim7.holds Tryd.pinned (.plain (OpenSpec.ofChange metaPutsSpec)) metaPutsCard

/-- THE TIED CARD OF 'colonnadelaw05.MetaGets'. -/
def metaGetsCard : Claim7 := { stood := { row := metaGetsRow, standIns := [], harness := (true, "f2e044556b99b50ac67218d6e88ef3812869d04e226e33c273281f13aea0536b"), looks := true }, kinds := [], alts := [], laidByText := true, laidKinds := [.data], laidTests := true, laidLooks := .later }
def MetaGetsCardSaid : Prop := Claim7.holds Tryd.pinned (.plain (OpenSpec.ofChange metaGetsSpec)) metaGetsCard

/-- THE TIED CARD OF 'colonnadelaw05.MetaBack'. -/
def metaBackCard : Claim7 := { stood := { row := metaBackRow, standIns := [], harness := (true, "f2e044556b99b50ac67218d6e88ef3812869d04e226e33c273281f13aea0536b"), looks := true }, kinds := [], alts := [], laidByText := true, laidKinds := [.data], laidTests := true, laidLooks := .later }
def MetaBackCardSaid : Prop := Claim7.holds Tryd.pinned (.plain (OpenSpec.ofChange metaBackSpec)) metaBackCard

/-- THE TIED CARD OF 'colonnadelaw05.MetaOnce'. -/
def metaOnceCard : Claim7 := { stood := { row := metaOnceRow, standIns := [], harness := (true, "f2e044556b99b50ac67218d6e88ef3812869d04e226e33c273281f13aea0536b"), looks := true }, kinds := [], alts := [], laidByText := true, laidKinds := [.data], laidTests := true, laidLooks := .later }
def MetaOnceCardSaid : Prop := Claim7.holds Tryd.pinned (.plain (OpenSpec.ofChange metaOnceSpec)) metaOnceCard

/-- THE TIED CARD OF 'colonnadelaw05.MetaKeeps'. -/
def metaKeepsCard : Claim7 := { stood := { row := metaKeepsRow, standIns := [], harness := (true, "f2e044556b99b50ac67218d6e88ef3812869d04e226e33c273281f13aea0536b"), looks := true }, kinds := [], alts := [], laidByText := true, laidKinds := [.data], laidTests := true, laidLooks := .later }
def MetaKeepsCardSaid : Prop := Claim7.holds Tryd.pinned (.plain (OpenSpec.ofChange metaKeepsSpec)) metaKeepsCard

/-- THE SECOND FORM's CARD OF 'colonnadelaw05.MetaPuts'. -/
def metaPutsUptoCard : Claim7 := { stood := { row := metaPutsUptoRow, standIns := [], harness := (true, "f2e044556b99b50ac67218d6e88ef3812869d04e226e33c273281f13aea0536b"), looks := true }, kinds := [], alts := [], laidByText := true, laidKinds := [.data], laidTests := true, laidLooks := .later }
def MetaPutsUptoCardSaid : Prop := Claim7.holds Tryd.pinned (.plain (OpenSpec.upto metaPutsSpec)) metaPutsUptoCard

/-- THE SECOND FORM's CARD OF 'colonnadelaw05.MetaGets'. -/
def metaGetsUptoCard : Claim7 := { stood := { row := metaGetsUptoRow, standIns := [], harness := (true, "f2e044556b99b50ac67218d6e88ef3812869d04e226e33c273281f13aea0536b"), looks := true }, kinds := [], alts := [], laidByText := true, laidKinds := [.data], laidTests := true, laidLooks := .later }
def MetaGetsUptoCardSaid : Prop := Claim7.holds Tryd.pinned (.plain (OpenSpec.upto metaGetsSpec)) metaGetsUptoCard

/-- THE SECOND FORM's CARD OF 'colonnadelaw05.MetaBack'. -/
def metaBackUptoCard : Claim7 := { stood := { row := metaBackUptoRow, standIns := [], harness := (true, "f2e044556b99b50ac67218d6e88ef3812869d04e226e33c273281f13aea0536b"), looks := true }, kinds := [], alts := [], laidByText := true, laidKinds := [.data], laidTests := true, laidLooks := .later }
def MetaBackUptoCardSaid : Prop := Claim7.holds Tryd.pinned (.plain (OpenSpec.upto metaBackSpec)) metaBackUptoCard

/-- THE SECOND FORM's CARD OF 'colonnadelaw05.MetaOnce'. -/
def metaOnceUptoCard : Claim7 := { stood := { row := metaOnceUptoRow, standIns := [], harness := (true, "f2e044556b99b50ac67218d6e88ef3812869d04e226e33c273281f13aea0536b"), looks := true }, kinds := [], alts := [], laidByText := true, laidKinds := [.data], laidTests := true, laidLooks := .later }
def MetaOnceUptoCardSaid : Prop := Claim7.holds Tryd.pinned (.plain (OpenSpec.upto metaOnceSpec)) metaOnceUptoCard

/-- THE SECOND FORM's CARD OF 'colonnadelaw05.MetaKeeps'. -/
def metaKeepsUptoCard : Claim7 := { stood := { row := metaKeepsUptoRow, standIns := [], harness := (true, "f2e044556b99b50ac67218d6e88ef3812869d04e226e33c273281f13aea0536b"), looks := true }, kinds := [], alts := [], laidByText := true, laidKinds := [.data], laidTests := true, laidLooks := .later }
def MetaKeepsUptoCardSaid : Prop := Claim7.holds Tryd.pinned (.plain (OpenSpec.upto metaKeepsSpec)) metaKeepsUptoCard
end Rows
end Go.Proofs.YtfomkkdijjfpiaaDoor
