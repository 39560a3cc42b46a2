/-
  DERIVED. GIVEN WITH THE SEED: THE CARDS: each row of YtajgmklgfdgnlaaDoorRows.lean that lists a variable, with what it lists TIED to the program's text (the seventh form; the later family's looks); each row that meets fmt, with fmt's text TOLD by the authors' own Lean function (tested against real Go, not proved from fmt's source: count such statements apart). THE CARD IS WHAT COUNTS. Prove the row's statement (the work); the ties are given (YtajgmklgfdgnlaaDoorTie.lean); close each card by the builder's one call (the guide's Derived/Test/ToyasCard.lean, 'card_holds'). Laid BY PROGRAM, IN A SANDBOX (cutbox-door.mjs). By AI agents, Wed Nov 11 2026. No macro, syntax, notation, axiom, sorry.
-/
import Derived.Test.YtajgmklgfdgnlaaDoorRows
import GoSem.ClaimSeven
namespace Go.Proofs.YtajgmklgfdgnlaaDoor
namespace Rows

/-- THE TIED CARD OF 'colonnadelaw02.BitsRuns'. -/
def bitsRunsCard : Claim7 := { stood := { row := bitsRunsRow, standIns := [], harness := (true, "060a9e0a93725a689712725fb2e2d0b448a4944d676e5023a247e30d84d2eda6"), looks := false }, kinds := [], alts := [], laidByText := true, laidKinds := [.data], laidTests := true, laidLooks := .later }
def BitsRunsCardSaid : Prop := Claim7.holds Tryd.pinned (.plain (OpenSpec.ofChange bitsRunsSpec)) bitsRunsCard

/-- THE TIED CARD OF 'colonnadelaw02.BitsAnswers'. -/
def bitsAnswersCard : Claim7 := { stood := { row := bitsAnswersRow, standIns := [], harness := (true, "060a9e0a93725a689712725fb2e2d0b448a4944d676e5023a247e30d84d2eda6"), looks := false }, kinds := [], alts := [], laidByText := true, laidKinds := [.data], laidTests := true, laidLooks := .later }
def BitsAnswersCardSaid : Prop := Claim7.holds Tryd.pinned (.plain (OpenSpec.ofChange bitsAnswersSpec)) bitsAnswersCard

/-- THE TIED CARD OF 'colonnadelaw02.BitsKeeps'. -/
def bitsKeepsCard : Claim7 := { stood := { row := bitsKeepsRow, standIns := [], harness := (true, "060a9e0a93725a689712725fb2e2d0b448a4944d676e5023a247e30d84d2eda6"), looks := false }, kinds := [], alts := [], laidByText := true, laidKinds := [.data], laidTests := true, laidLooks := .later }
def BitsKeepsCardSaid : Prop := Claim7.holds Tryd.pinned (.plain (OpenSpec.ofChange bitsKeepsSpec)) bitsKeepsCard

/-- THE TIED CARD OF 'colonnadelaw02.BitsFollow'. -/
def bitsFollowCard : Claim7 := { stood := { row := bitsFollowRow, standIns := [], harness := (true, "060a9e0a93725a689712725fb2e2d0b448a4944d676e5023a247e30d84d2eda6"), looks := false }, kinds := [], alts := [], laidByText := true, laidKinds := [.data], laidTests := true, laidLooks := .later }
def BitsFollowCardSaid : Prop := Claim7.holds Tryd.pinned (.plain (OpenSpec.ofChange bitsFollowSpec)) bitsFollowCard

/-- THE SECOND FORM's CARD OF 'colonnadelaw02.BitsRuns'. -/
def bitsRunsUptoCard : Claim7 := { stood := { row := bitsRunsUptoRow, standIns := [], harness := (true, "060a9e0a93725a689712725fb2e2d0b448a4944d676e5023a247e30d84d2eda6"), looks := false }, kinds := [], alts := [], laidByText := true, laidKinds := [.data], laidTests := true, laidLooks := .later }
def BitsRunsUptoCardSaid : Prop := Claim7.holds Tryd.pinned (.plain (OpenSpec.upto bitsRunsSpec)) bitsRunsUptoCard

/-- THE SECOND FORM's CARD OF 'colonnadelaw02.BitsAnswers'. -/
def bitsAnswersUptoCard : Claim7 := { stood := { row := bitsAnswersUptoRow, standIns := [], harness := (true, "060a9e0a93725a689712725fb2e2d0b448a4944d676e5023a247e30d84d2eda6"), looks := false }, kinds := [], alts := [], laidByText := true, laidKinds := [.data], laidTests := true, laidLooks := .later }
def BitsAnswersUptoCardSaid : Prop := Claim7.holds Tryd.pinned (.plain (OpenSpec.upto bitsAnswersSpec)) bitsAnswersUptoCard

/-- THE SECOND FORM's CARD OF 'colonnadelaw02.BitsKeeps'. -/
def bitsKeepsUptoCard : Claim7 := { stood := { row := bitsKeepsUptoRow, standIns := [], harness := (true, "060a9e0a93725a689712725fb2e2d0b448a4944d676e5023a247e30d84d2eda6"), looks := false }, kinds := [], alts := [], laidByText := true, laidKinds := [.data], laidTests := true, laidLooks := .later }
def BitsKeepsUptoCardSaid : Prop := Claim7.holds Tryd.pinned (.plain (OpenSpec.upto bitsKeepsSpec)) bitsKeepsUptoCard

/-- THE SECOND FORM's CARD OF 'colonnadelaw02.BitsFollow'. -/
def bitsFollowUptoCard : Claim7 := { stood := { row := bitsFollowUptoRow, standIns := [], harness := (true, "060a9e0a93725a689712725fb2e2d0b448a4944d676e5023a247e30d84d2eda6"), looks := false }, kinds := [], alts := [], laidByText := true, laidKinds := [.data], laidTests := true, laidLooks := .later }
def BitsFollowUptoCardSaid : Prop := Claim7.holds Tryd.pinned (.plain (OpenSpec.upto bitsFollowSpec)) bitsFollowUptoCard
end Rows
end Go.Proofs.YtajgmklgfdgnlaaDoor
