/-
  NARROWER THAN 'FOR EVERY INPUT', by the rows' own cells (each row's printed sentence says how): BitsRuns: laid · BitsAnswers: laid · BitsKeeps: laid · BitsFollow: laid.
  DERIVED. THE GIVEN ROWS OF THIS SEAT. 4 by the template 'for every input the law returns true; each argument reads behind the call as it read before'; 0 by the template 'total and deterministic' (their statements: YtajgmklgfdgnlaaDoorTotals.lean).
  GIVEN WITH THE SEED: the statements are not yours to turn. If you find one false, say at which input.
  Laid BY PROGRAM, IN A SANDBOX (cutbox-rows.mjs): the forced cells as the released guide's own fill.sh prints them over the translation e994d942c14a29e1… (all of the seat's roots in one cut). By AI agents, Wed Nov 11 2026. No macro, syntax, notation, axiom, sorry.
-/
import Derived.Test.YtajgmklgfdgnlaaDoorChecked
import GoSem.Claim
import GoSem.ClaimJoined
import GoSem.ClaimMapViews
import Derived.JoinedTies
import Derived.KernelRfl
namespace Go.Proofs.YtajgmklgfdgnlaaDoor
/- THE CELL 'sum', in the pinned program and in every row, IS THE sha256 OF THE DUMP (.gsa) THAT YtajgmklgfdgnlaaDoorProg.lean LOADS. Nothing in Lean hashes anything: it is a label: what it is worth is what the hold of that sum in a sandbox is worth. -/
noncomputable def Tryd.pinned : Pinned := { name := "ytajgmklgfdgnlaadoor", sum := "e994d942c14a29e13752cfb3206564b59283b71b0e2379882dc81c88258a8bb1", checked := Tryd.checked }
namespace Rows
def none {H : Type} : Left H := { results := [], args := [] }

/- WHAT THE LISTED PACKAGE-LEVEL VARIABLES READ AS WHEN THE CALL BEGINS. Each datum BY PROGRAM (the guide's laid-datum.mjs) off the statement by which the dump's own 'gosem.cut.vars' lays the variable. In a bare row this is a premise. The card (YtajgmklgfdgnlaaDoorCards.lean) ties it to the program's text. -/
def laid_colonnade_bits_ones {H : Type} : DataW H := .agg [.lit (.int .i64 0), .lit (.int .i64 1), .lit (.int .i64 1), .lit (.int .i64 2), .lit (.int .i64 1), .lit (.int .i64 2), .lit (.int .i64 2), .lit (.int .i64 3), .lit (.int .i64 1), .lit (.int .i64 2), .lit (.int .i64 2), .lit (.int .i64 3), .lit (.int .i64 2), .lit (.int .i64 3), .lit (.int .i64 3), .lit (.int .i64 4)]

/-- 'colonnadelaw02.BitsRuns': WHATEVER THE INPUT: true; the input reads as it did. -/
def bitsRunsSpec : ChangeSpec := { name := "bitsRuns", fn := fun _ => fun
  | [d] => { results := [.lit (.bool true)], args := [d] }
  | _ => none }
def bitsRunsRow : OpenClaim := { program := "ytajgmklgfdgnlaadoor", sum := "e994d942c14a29e13752cfb3206564b59283b71b0e2379882dc81c88258a8bb1", func := "colonnade/colonnadelaw02.BitsRuns", spec := "bitsRuns", unfollowed := true, recurses := true, named := ["colonnade/bits.ones"], apart := false, laid := [("colonnade/bits.ones", laid_colonnade_bits_ones)] }
def BitsRunsSaid : Prop := bitsRunsRow.holds Tryd.pinned (OpenSpec.ofChange bitsRunsSpec)

/-- ITS FALSE NEIGHBOUR: 'it returns false'. Refute it at one input. -/
def bitsRunsWrong : ChangeSpec := { name := "bitsRuns", fn := fun _ => fun
  | [d] => { results := [.lit (.bool false)], args := [d] }
  | _ => none }
def BitsRunsWrongFalsely : Prop := bitsRunsRow.holds Tryd.pinned (OpenSpec.ofChange bitsRunsWrong)

/-- 'colonnadelaw02.BitsAnswers': WHATEVER THE INPUT: true; the input reads as it did. -/
def bitsAnswersSpec : ChangeSpec := { name := "bitsAnswers", fn := fun _ => fun
  | [d] => { results := [.lit (.bool true)], args := [d] }
  | _ => none }
def bitsAnswersRow : OpenClaim := { program := "ytajgmklgfdgnlaadoor", sum := "e994d942c14a29e13752cfb3206564b59283b71b0e2379882dc81c88258a8bb1", func := "colonnade/colonnadelaw02.BitsAnswers", spec := "bitsAnswers", unfollowed := true, recurses := true, named := ["colonnade/bits.ones"], apart := false, laid := [("colonnade/bits.ones", laid_colonnade_bits_ones)] }
def BitsAnswersSaid : Prop := bitsAnswersRow.holds Tryd.pinned (OpenSpec.ofChange bitsAnswersSpec)

/-- ITS FALSE NEIGHBOUR: 'it returns false'. Refute it at one input. -/
def bitsAnswersWrong : ChangeSpec := { name := "bitsAnswers", fn := fun _ => fun
  | [d] => { results := [.lit (.bool false)], args := [d] }
  | _ => none }
def BitsAnswersWrongFalsely : Prop := bitsAnswersRow.holds Tryd.pinned (OpenSpec.ofChange bitsAnswersWrong)

/-- 'colonnadelaw02.BitsKeeps': WHATEVER THE INPUT: true; the input reads as it did. -/
def bitsKeepsSpec : ChangeSpec := { name := "bitsKeeps", fn := fun _ => fun
  | [d1, d2] => { results := [.lit (.bool true)], args := [d1, d2] }
  | _ => none }
def bitsKeepsRow : OpenClaim := { program := "ytajgmklgfdgnlaadoor", sum := "e994d942c14a29e13752cfb3206564b59283b71b0e2379882dc81c88258a8bb1", func := "colonnade/colonnadelaw02.BitsKeeps", spec := "bitsKeeps", unfollowed := true, recurses := true, named := ["colonnade/bits.ones"], apart := false, laid := [("colonnade/bits.ones", laid_colonnade_bits_ones)] }
def BitsKeepsSaid : Prop := bitsKeepsRow.holds Tryd.pinned (OpenSpec.ofChange bitsKeepsSpec)

/-- ITS FALSE NEIGHBOUR: 'it returns false'. Refute it at one input. -/
def bitsKeepsWrong : ChangeSpec := { name := "bitsKeeps", fn := fun _ => fun
  | [d1, d2] => { results := [.lit (.bool false)], args := [d1, d2] }
  | _ => none }
def BitsKeepsWrongFalsely : Prop := bitsKeepsRow.holds Tryd.pinned (OpenSpec.ofChange bitsKeepsWrong)

/-- 'colonnadelaw02.BitsFollow': WHATEVER THE INPUT: true; the input reads as it did. -/
def bitsFollowSpec : ChangeSpec := { name := "bitsFollow", fn := fun _ => fun
  | [d] => { results := [.lit (.bool true)], args := [d] }
  | _ => none }
def bitsFollowRow : OpenClaim := { program := "ytajgmklgfdgnlaadoor", sum := "e994d942c14a29e13752cfb3206564b59283b71b0e2379882dc81c88258a8bb1", func := "colonnade/colonnadelaw02.BitsFollow", spec := "bitsFollow", unfollowed := true, recurses := true, named := ["colonnade/bits.ones"], apart := false, laid := [("colonnade/bits.ones", laid_colonnade_bits_ones)] }
def BitsFollowSaid : Prop := bitsFollowRow.holds Tryd.pinned (OpenSpec.ofChange bitsFollowSpec)

/-- ITS FALSE NEIGHBOUR: 'it returns false'. Refute it at one input. -/
def bitsFollowWrong : ChangeSpec := { name := "bitsFollow", fn := fun _ => fun
  | [d] => { results := [.lit (.bool false)], args := [d] }
  | _ => none }
def BitsFollowWrongFalsely : Prop := bitsFollowRow.holds Tryd.pinned (OpenSpec.ofChange bitsFollowWrong)

/- THE SECOND FORM. 'bulk': how many values and letters a reading holds, each counted each time it is reached (what is shared counts as often as it is met; a slice's spare places count too). A statement '..UptoSaid' is the law's where the arguments, and the package variables that the reading takes, are together of bulk at most 1048576: NARROWER than '..Said'. Prove '..Said' where nothing that the law and all that it calls make is longer than what came in: it says more and counts as full. Else prove '..UptoSaid'. A law counts once. -/
mutual
def uptoBulk {H : Type} : DataW H → Nat
  | .lit (.string bytes) => bytes.length + 1
  | .lit _ => 1
  | .nil => 1
  | .ptr d => uptoBulk d + 1
  | .slice elems spare => uptoBulkAll elems + uptoBulkAll spare + 1
  | .agg parts => uptoBulkAll parts + 1
  | .iface _ d => uptoBulk d + 1
  | .map entries => uptoBulkEntries entries + 1
  | .held _ => 1
def uptoBulkAll {H : Type} : List (DataW H) → Nat
  | [] => 0
  | d :: r => uptoBulk d + uptoBulkAll r
def uptoBulkEntries {H : Type} : List (Lit × DataW H) → Nat
  | [] => 0
  | x :: r => uptoBulkEntry x + uptoBulkEntries r
def uptoBulkEntry {H : Type} : Lit × DataW H → Nat
  | (.string bytes, d) => bytes.length + uptoBulk d + 1
  | (_, d) => uptoBulk d + 1
 end
def uptoSmall : (H : Type) → List (DataW H) → Bool := fun _ ds => decide (uptoBulkAll ds ≤ 1048576)
def OpenSpec.upto (s : _root_.Go.ChangeSpec) : _root_.Go.OpenSpec := { _root_.Go.OpenSpec.ofChange s with cond := some uptoSmall }

/-- 'colonnadelaw02.BitsRuns', WHERE WHAT IT READS IS OF BULK AT MOST 1048576: true; the input reads as it did. -/
def bitsRunsUptoRow : OpenClaim := { program := "ytajgmklgfdgnlaadoor", sum := "e994d942c14a29e13752cfb3206564b59283b71b0e2379882dc81c88258a8bb1", func := "colonnade/colonnadelaw02.BitsRuns", spec := "bitsRuns", unfollowed := true, recurses := true, named := ["colonnade/bits.ones"], apart := false, laid := [("colonnade/bits.ones", laid_colonnade_bits_ones)], narrowed := true }
def BitsRunsUptoSaid : Prop := bitsRunsUptoRow.holds Tryd.pinned (OpenSpec.upto bitsRunsSpec)

/-- 'colonnadelaw02.BitsAnswers', WHERE WHAT IT READS IS OF BULK AT MOST 1048576: true; the input reads as it did. -/
def bitsAnswersUptoRow : OpenClaim := { program := "ytajgmklgfdgnlaadoor", sum := "e994d942c14a29e13752cfb3206564b59283b71b0e2379882dc81c88258a8bb1", func := "colonnade/colonnadelaw02.BitsAnswers", spec := "bitsAnswers", unfollowed := true, recurses := true, named := ["colonnade/bits.ones"], apart := false, laid := [("colonnade/bits.ones", laid_colonnade_bits_ones)], narrowed := true }
def BitsAnswersUptoSaid : Prop := bitsAnswersUptoRow.holds Tryd.pinned (OpenSpec.upto bitsAnswersSpec)

/-- 'colonnadelaw02.BitsKeeps', WHERE WHAT IT READS IS OF BULK AT MOST 1048576: true; the input reads as it did. -/
def bitsKeepsUptoRow : OpenClaim := { program := "ytajgmklgfdgnlaadoor", sum := "e994d942c14a29e13752cfb3206564b59283b71b0e2379882dc81c88258a8bb1", func := "colonnade/colonnadelaw02.BitsKeeps", spec := "bitsKeeps", unfollowed := true, recurses := true, named := ["colonnade/bits.ones"], apart := false, laid := [("colonnade/bits.ones", laid_colonnade_bits_ones)], narrowed := true }
def BitsKeepsUptoSaid : Prop := bitsKeepsUptoRow.holds Tryd.pinned (OpenSpec.upto bitsKeepsSpec)

/-- 'colonnadelaw02.BitsFollow', WHERE WHAT IT READS IS OF BULK AT MOST 1048576: true; the input reads as it did. -/
def bitsFollowUptoRow : OpenClaim := { program := "ytajgmklgfdgnlaadoor", sum := "e994d942c14a29e13752cfb3206564b59283b71b0e2379882dc81c88258a8bb1", func := "colonnade/colonnadelaw02.BitsFollow", spec := "bitsFollow", unfollowed := true, recurses := true, named := ["colonnade/bits.ones"], apart := false, laid := [("colonnade/bits.ones", laid_colonnade_bits_ones)], narrowed := true }
def BitsFollowUptoSaid : Prop := bitsFollowUptoRow.holds Tryd.pinned (OpenSpec.upto bitsFollowSpec)

end Rows
end Go.Proofs.YtajgmklgfdgnlaaDoor
