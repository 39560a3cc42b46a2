/-
  NARROWER THAN 'FOR EVERY INPUT', by the rows' own cells (each row's printed sentence says how): MetaPuts: loops, laid · MetaGets: laid · MetaBack: loops, laid · MetaOnce: laid · MetaKeeps: loops, laid.
  DERIVED. THE GIVEN ROWS OF THIS SEAT. 5 by the template 'for every input the law returns true; each argument reads behind the call as it read before'; 0 by the template 'total and deterministic' (their statements: YtfomkkdijjfpiaaDoorTotals.lean).
  GIVEN WITH THE SEED: the statements are not yours to turn. If you find one false, say at which input.
  Laid BY PROGRAM, IN A SANDBOX (cutbox-rows.mjs): the forced cells as the released guide's own fill.sh prints them over the translation 7dd5ffee18b72c2f… (all of the seat's roots in one cut). By AI agents, Wed Nov 11 2026. No macro, syntax, notation, axiom, sorry.
-/
import Derived.Test.YtfomkkdijjfpiaaDoorChecked
import GoSem.Claim
import GoSem.ClaimJoined
import GoSem.ClaimMapViews
import Derived.JoinedTies
import Derived.KernelRfl
namespace Go.Proofs.YtfomkkdijjfpiaaDoor
/- THE CELL 'sum', in the pinned program and in every row, IS THE sha256 OF THE DUMP (.gsa) THAT YtfomkkdijjfpiaaDoorProg.lean LOADS. Nothing in Lean hashes anything: it is a label: what it is worth is what the hold of that sum in a sandbox is worth. -/
noncomputable def Tryd.pinned : Pinned := { name := "ytfomkkdijjfpiaadoor", sum := "7dd5ffee18b72c2ffb1909cb2bd8696911bbf45079f4441779ae72e5c8f3aa53", checked := Tryd.checked }
namespace Rows
def none {H : Type} : Left H := { results := [], args := [] }

/- WHAT THE LISTED PACKAGE-LEVEL VARIABLES READ AS WHEN THE CALL BEGINS. Each datum BY PROGRAM (the guide's laid-datum.mjs) off the statement by which the dump's own 'gosem.cut.vars' lays the variable. In a bare row this is a premise. The card (YtfomkkdijjfpiaaDoorCards.lean) ties it to the program's text. -/
def laid_colonnade_kind_says {H : Type} : DataW H := .agg [.agg [.lit (.string []), .lit (.int .i64 0), .lit (.int .i64 0), .lit (.bool false)], .agg [.lit (.string [110, 117, 108, 108]), .lit (.int .i64 0), .lit (.int .i64 0), .lit (.bool false)], .agg [.lit (.string [98, 111, 111, 108]), .lit (.int .i64 0), .lit (.int .i64 2), .lit (.bool false)], .agg [.lit (.string [105, 110, 116, 56]), .lit (.int .i64 1), .lit (.int .i64 2), .lit (.bool true)], .agg [.lit (.string [105, 110, 116, 49, 54]), .lit (.int .i64 2), .lit (.int .i64 2), .lit (.bool true)], .agg [.lit (.string [105, 110, 116, 51, 50]), .lit (.int .i64 4), .lit (.int .i64 2), .lit (.bool true)], .agg [.lit (.string [105, 110, 116, 54, 52]), .lit (.int .i64 8), .lit (.int .i64 2), .lit (.bool true)], .agg [.lit (.string [117, 105, 110, 116, 56]), .lit (.int .i64 1), .lit (.int .i64 2), .lit (.bool true)], .agg [.lit (.string [117, 105, 110, 116, 49, 54]), .lit (.int .i64 2), .lit (.int .i64 2), .lit (.bool true)], .agg [.lit (.string [117, 105, 110, 116, 51, 50]), .lit (.int .i64 4), .lit (.int .i64 2), .lit (.bool true)], .agg [.lit (.string [117, 105, 110, 116, 54, 52]), .lit (.int .i64 8), .lit (.int .i64 2), .lit (.bool true)], .agg [.lit (.string [102, 108, 111, 97, 116, 54, 52]), .lit (.int .i64 8), .lit (.int .i64 2), .lit (.bool false)], .agg [.lit (.string [116, 101, 120, 116]), .lit (.int .i64 0), .lit (.int .i64 3), .lit (.bool false)], .agg [.lit (.string [98, 121, 116, 101, 115]), .lit (.int .i64 0), .lit (.int .i64 3), .lit (.bool false)], .agg [.lit (.string [102, 105, 120, 101, 100]), .lit (.int .i64 0), .lit (.int .i64 2), .lit (.bool false)], .agg [.lit (.string [108, 105, 115, 116]), .lit (.int .i64 0), .lit (.int .i64 2), .lit (.bool false)], .agg [.lit (.string [115, 112, 97, 110]), .lit (.int .i64 0), .lit (.int .i64 1), .lit (.bool false)], .agg [.lit (.string [115, 116, 114, 117, 99, 116]), .lit (.int .i64 0), .lit (.int .i64 1), .lit (.bool false)], .agg [.lit (.string [99, 104, 111, 105, 99, 101]), .lit (.int .i64 0), .lit (.int .i64 2), .lit (.bool false)], .agg [.lit (.string [100, 105, 99, 116]), .lit (.int .i64 0), .lit (.int .i64 2), .lit (.bool false)], .agg [.lit (.string [114, 117, 110, 115]), .lit (.int .i64 0), .lit (.int .i64 0), .lit (.bool false)]]

/-- 'colonnadelaw05.MetaPuts': WHATEVER THE INPUT: true; the input reads as it did. -/
def metaPutsSpec : ChangeSpec := { name := "metaPuts", fn := fun _ => fun
  | [d] => { results := [.lit (.bool true)], args := [d] }
  | _ => none }
def metaPutsRow : OpenClaim := { program := "ytfomkkdijjfpiaadoor", sum := "7dd5ffee18b72c2ffb1909cb2bd8696911bbf45079f4441779ae72e5c8f3aa53", func := "colonnade/colonnadelaw05.MetaPuts", spec := "metaPuts", unfollowed := true, recurses := true, named := ["colonnade/kind.says"], loops := true, apart := false, laid := [("colonnade/kind.says", laid_colonnade_kind_says)] }
def MetaPutsSaid : Prop := metaPutsRow.holds Tryd.pinned (OpenSpec.ofChange metaPutsSpec)

/-- ITS FALSE NEIGHBOUR: 'it returns false'. Refute it at one input. -/
def metaPutsWrong : ChangeSpec := { name := "metaPuts", fn := fun _ => fun
  | [d] => { results := [.lit (.bool false)], args := [d] }
  | _ => none }
def MetaPutsWrongFalsely : Prop := metaPutsRow.holds Tryd.pinned (OpenSpec.ofChange metaPutsWrong)

/-- 'colonnadelaw05.MetaGets': WHATEVER THE INPUT: true; the input reads as it did. -/
def metaGetsSpec : ChangeSpec := { name := "metaGets", fn := fun _ => fun
  | [d] => { results := [.lit (.bool true)], args := [d] }
  | _ => none }
def metaGetsRow : OpenClaim := { program := "ytfomkkdijjfpiaadoor", sum := "7dd5ffee18b72c2ffb1909cb2bd8696911bbf45079f4441779ae72e5c8f3aa53", func := "colonnade/colonnadelaw05.MetaGets", spec := "metaGets", unfollowed := true, recurses := true, named := ["colonnade/kind.says"], apart := false, laid := [("colonnade/kind.says", laid_colonnade_kind_says)] }
def MetaGetsSaid : Prop := metaGetsRow.holds Tryd.pinned (OpenSpec.ofChange metaGetsSpec)

/-- ITS FALSE NEIGHBOUR: 'it returns false'. Refute it at one input. -/
def metaGetsWrong : ChangeSpec := { name := "metaGets", fn := fun _ => fun
  | [d] => { results := [.lit (.bool false)], args := [d] }
  | _ => none }
def MetaGetsWrongFalsely : Prop := metaGetsRow.holds Tryd.pinned (OpenSpec.ofChange metaGetsWrong)

/-- 'colonnadelaw05.MetaBack': WHATEVER THE INPUT: true; the input reads as it did. -/
def metaBackSpec : ChangeSpec := { name := "metaBack", fn := fun _ => fun
  | [d1, d2] => { results := [.lit (.bool true)], args := [d1, d2] }
  | _ => none }
def metaBackRow : OpenClaim := { program := "ytfomkkdijjfpiaadoor", sum := "7dd5ffee18b72c2ffb1909cb2bd8696911bbf45079f4441779ae72e5c8f3aa53", func := "colonnade/colonnadelaw05.MetaBack", spec := "metaBack", unfollowed := true, recurses := true, named := ["colonnade/kind.says"], loops := true, apart := false, laid := [("colonnade/kind.says", laid_colonnade_kind_says)] }
def MetaBackSaid : Prop := metaBackRow.holds Tryd.pinned (OpenSpec.ofChange metaBackSpec)

/-- ITS FALSE NEIGHBOUR: 'it returns false'. Refute it at one input. -/
def metaBackWrong : ChangeSpec := { name := "metaBack", fn := fun _ => fun
  | [d1, d2] => { results := [.lit (.bool false)], args := [d1, d2] }
  | _ => none }
def MetaBackWrongFalsely : Prop := metaBackRow.holds Tryd.pinned (OpenSpec.ofChange metaBackWrong)

/-- 'colonnadelaw05.MetaOnce': WHATEVER THE INPUT: true; the input reads as it did. -/
def metaOnceSpec : ChangeSpec := { name := "metaOnce", fn := fun _ => fun
  | [d] => { results := [.lit (.bool true)], args := [d] }
  | _ => none }
def metaOnceRow : OpenClaim := { program := "ytfomkkdijjfpiaadoor", sum := "7dd5ffee18b72c2ffb1909cb2bd8696911bbf45079f4441779ae72e5c8f3aa53", func := "colonnade/colonnadelaw05.MetaOnce", spec := "metaOnce", unfollowed := true, recurses := true, named := ["colonnade/kind.says"], apart := false, laid := [("colonnade/kind.says", laid_colonnade_kind_says)] }
def MetaOnceSaid : Prop := metaOnceRow.holds Tryd.pinned (OpenSpec.ofChange metaOnceSpec)

/-- ITS FALSE NEIGHBOUR: 'it returns false'. Refute it at one input. -/
def metaOnceWrong : ChangeSpec := { name := "metaOnce", fn := fun _ => fun
  | [d] => { results := [.lit (.bool false)], args := [d] }
  | _ => none }
def MetaOnceWrongFalsely : Prop := metaOnceRow.holds Tryd.pinned (OpenSpec.ofChange metaOnceWrong)

/-- 'colonnadelaw05.MetaKeeps': WHATEVER THE INPUT: true; the input reads as it did. -/
def metaKeepsSpec : ChangeSpec := { name := "metaKeeps", fn := fun _ => fun
  | [d1, d2] => { results := [.lit (.bool true)], args := [d1, d2] }
  | _ => none }
def metaKeepsRow : OpenClaim := { program := "ytfomkkdijjfpiaadoor", sum := "7dd5ffee18b72c2ffb1909cb2bd8696911bbf45079f4441779ae72e5c8f3aa53", func := "colonnade/colonnadelaw05.MetaKeeps", spec := "metaKeeps", unfollowed := true, recurses := true, named := ["colonnade/kind.says"], loops := true, apart := false, laid := [("colonnade/kind.says", laid_colonnade_kind_says)] }
def MetaKeepsSaid : Prop := metaKeepsRow.holds Tryd.pinned (OpenSpec.ofChange metaKeepsSpec)

/-- ITS FALSE NEIGHBOUR: 'it returns false'. Refute it at one input. -/
def metaKeepsWrong : ChangeSpec := { name := "metaKeeps", fn := fun _ => fun
  | [d1, d2] => { results := [.lit (.bool false)], args := [d1, d2] }
  | _ => none }
def MetaKeepsWrongFalsely : Prop := metaKeepsRow.holds Tryd.pinned (OpenSpec.ofChange metaKeepsWrong)

/- THE SECOND FORM. 'bulk': how many values and letters a reading holds, each counted each time it is reached (what is shared counts as often as it is met; a slice's spare places count too). A statement '..UptoSaid' is the law's where the arguments, and the package variables that the reading takes, are together of bulk at most 1048576: NARROWER than '..Said'. Prove '..Said' where nothing that the law and all that it calls make is longer than what came in: it says more and counts as full. Else prove '..UptoSaid'. A law counts once. -/
mutual
def uptoBulk {H : Type} : DataW H → Nat
  | .lit (.string bytes) => bytes.length + 1
  | .lit _ => 1
  | .nil => 1
  | .ptr d => uptoBulk d + 1
  | .slice elems spare => uptoBulkAll elems + uptoBulkAll spare + 1
  | .agg parts => uptoBulkAll parts + 1
  | .iface _ d => uptoBulk d + 1
  | .map entries => uptoBulkEntries entries + 1
  | .held _ => 1
def uptoBulkAll {H : Type} : List (DataW H) → Nat
  | [] => 0
  | d :: r => uptoBulk d + uptoBulkAll r
def uptoBulkEntries {H : Type} : List (Lit × DataW H) → Nat
  | [] => 0
  | x :: r => uptoBulkEntry x + uptoBulkEntries r
def uptoBulkEntry {H : Type} : Lit × DataW H → Nat
  | (.string bytes, d) => bytes.length + uptoBulk d + 1
  | (_, d) => uptoBulk d + 1
 end
def uptoSmall : (H : Type) → List (DataW H) → Bool := fun _ ds => decide (uptoBulkAll ds ≤ 1048576)
def OpenSpec.upto (s : _root_.Go.ChangeSpec) : _root_.Go.OpenSpec := { _root_.Go.OpenSpec.ofChange s with cond := some uptoSmall }

/-- 'colonnadelaw05.MetaPuts', WHERE WHAT IT READS IS OF BULK AT MOST 1048576: true; the input reads as it did. -/
def metaPutsUptoRow : OpenClaim := { program := "ytfomkkdijjfpiaadoor", sum := "7dd5ffee18b72c2ffb1909cb2bd8696911bbf45079f4441779ae72e5c8f3aa53", func := "colonnade/colonnadelaw05.MetaPuts", spec := "metaPuts", unfollowed := true, recurses := true, named := ["colonnade/kind.says"], loops := true, apart := false, laid := [("colonnade/kind.says", laid_colonnade_kind_says)], narrowed := true }
def MetaPutsUptoSaid : Prop := metaPutsUptoRow.holds Tryd.pinned (OpenSpec.upto metaPutsSpec)

/-- 'colonnadelaw05.MetaGets', WHERE WHAT IT READS IS OF BULK AT MOST 1048576: true; the input reads as it did. -/
def metaGetsUptoRow : OpenClaim := { program := "ytfomkkdijjfpiaadoor", sum := "7dd5ffee18b72c2ffb1909cb2bd8696911bbf45079f4441779ae72e5c8f3aa53", func := "colonnade/colonnadelaw05.MetaGets", spec := "metaGets", unfollowed := true, recurses := true, named := ["colonnade/kind.says"], apart := false, laid := [("colonnade/kind.says", laid_colonnade_kind_says)], narrowed := true }
def MetaGetsUptoSaid : Prop := metaGetsUptoRow.holds Tryd.pinned (OpenSpec.upto metaGetsSpec)

/-- 'colonnadelaw05.MetaBack', WHERE WHAT IT READS IS OF BULK AT MOST 1048576: true; the input reads as it did. -/
def metaBackUptoRow : OpenClaim := { program := "ytfomkkdijjfpiaadoor", sum := "7dd5ffee18b72c2ffb1909cb2bd8696911bbf45079f4441779ae72e5c8f3aa53", func := "colonnade/colonnadelaw05.MetaBack", spec := "metaBack", unfollowed := true, recurses := true, named := ["colonnade/kind.says"], loops := true, apart := false, laid := [("colonnade/kind.says", laid_colonnade_kind_says)], narrowed := true }
def MetaBackUptoSaid : Prop := metaBackUptoRow.holds Tryd.pinned (OpenSpec.upto metaBackSpec)

/-- 'colonnadelaw05.MetaOnce', WHERE WHAT IT READS IS OF BULK AT MOST 1048576: true; the input reads as it did. -/
def metaOnceUptoRow : OpenClaim := { program := "ytfomkkdijjfpiaadoor", sum := "7dd5ffee18b72c2ffb1909cb2bd8696911bbf45079f4441779ae72e5c8f3aa53", func := "colonnade/colonnadelaw05.MetaOnce", spec := "metaOnce", unfollowed := true, recurses := true, named := ["colonnade/kind.says"], apart := false, laid := [("colonnade/kind.says", laid_colonnade_kind_says)], narrowed := true }
def MetaOnceUptoSaid : Prop := metaOnceUptoRow.holds Tryd.pinned (OpenSpec.upto metaOnceSpec)

/-- 'colonnadelaw05.MetaKeeps', WHERE WHAT IT READS IS OF BULK AT MOST 1048576: true; the input reads as it did. -/
def metaKeepsUptoRow : OpenClaim := { program := "ytfomkkdijjfpiaadoor", sum := "7dd5ffee18b72c2ffb1909cb2bd8696911bbf45079f4441779ae72e5c8f3aa53", func := "colonnade/colonnadelaw05.MetaKeeps", spec := "metaKeeps", unfollowed := true, recurses := true, named := ["colonnade/kind.says"], loops := true, apart := false, laid := [("colonnade/kind.says", laid_colonnade_kind_says)], narrowed := true }
def MetaKeepsUptoSaid : Prop := metaKeepsUptoRow.holds Tryd.pinned (OpenSpec.upto metaKeepsSpec)

end Rows
end Go.Proofs.YtfomkkdijjfpiaaDoor
