/-
  No cell of these rows narrows 'for every input' (looked for: loops, veiled, ifaces, maps, wideKeys, modest, calm, conditions, laid).
  DERIVED. THE GIVEN ROWS OF THIS SEAT. 5 by the template 'for every input the law returns true; each argument reads behind the call as it read before'; 0 by the template 'total and deterministic' (their statements: YtdcffngkoldmgaaTotals.lean).
  GIVEN WITH THE SEED: the statements are not yours to turn. If you find one false, say at which input.
  Laid BY PROGRAM, IN A SANDBOX (cutbox-rows.mjs): the forced cells as the released guide's own fill.sh prints them over the translation afd0911b3612d608… (all of the seat's roots in one cut). By AI agents, Wed Nov 11 2026. No macro, syntax, notation, axiom, sorry.
-/
import Derived.Test.YtdcffngkoldmgaaChecked
import GoSem.Claim
import GoSem.ClaimJoined
import GoSem.ClaimMapViews
import Derived.JoinedTies
import Derived.KernelRfl
namespace Go.Proofs.Ytdcffngkoldmgaa
/- THE CELL 'sum', in the pinned program and in every row, IS THE sha256 OF THE DUMP (.gsa) THAT YtdcffngkoldmgaaProg.lean LOADS. Nothing in Lean hashes anything: it is a label: what it is worth is what the hold of that sum in a sandbox is worth. -/
noncomputable def Try.pinned : Pinned := { name := "ytdcffngkoldmgaa", sum := "afd0911b3612d608cfb398e66a835b18bf78503d3eaabfec342548e2e462632d", checked := Try.checked }
namespace Rows
def none {H : Type} : Left H := { results := [], args := [] }

/-- 'colonnadelaw05.MetaNames': WHATEVER THE INPUT: true; the input reads as it did. -/
def metaNamesSpec : ChangeSpec := { name := "metaNames", fn := fun _ => fun
  | [] => { results := [.lit (.bool true)], args := [] }
  | _ => none }
def metaNamesRow : OpenClaim := { program := "ytdcffngkoldmgaa", sum := "afd0911b3612d608cfb398e66a835b18bf78503d3eaabfec342548e2e462632d", func := "colonnade/colonnadelaw05.MetaNames", spec := "metaNames", apart := false }
def MetaNamesSaid : Prop := metaNamesRow.holds Try.pinned (OpenSpec.ofChange metaNamesSpec)

/-- ITS FALSE NEIGHBOUR: 'it returns false'. Refute it at one input. -/
def metaNamesWrong : ChangeSpec := { name := "metaNames", fn := fun _ => fun
  | [] => { results := [.lit (.bool false)], args := [] }
  | _ => none }
def MetaNamesWrongFalsely : Prop := metaNamesRow.holds Try.pinned (OpenSpec.ofChange metaNamesWrong)

/-- 'colonnadelaw08.ArrayNames': WHATEVER THE INPUT: true; the input reads as it did. -/
def arrayNamesSpec : ChangeSpec := { name := "arrayNames", fn := fun _ => fun
  | [] => { results := [.lit (.bool true)], args := [] }
  | _ => none }
def arrayNamesRow : OpenClaim := { program := "ytdcffngkoldmgaa", sum := "afd0911b3612d608cfb398e66a835b18bf78503d3eaabfec342548e2e462632d", func := "colonnade/colonnadelaw08.ArrayNames", spec := "arrayNames", apart := false }
def ArrayNamesSaid : Prop := arrayNamesRow.holds Try.pinned (OpenSpec.ofChange arrayNamesSpec)

/-- ITS FALSE NEIGHBOUR: 'it returns false'. Refute it at one input. -/
def arrayNamesWrong : ChangeSpec := { name := "arrayNames", fn := fun _ => fun
  | [] => { results := [.lit (.bool false)], args := [] }
  | _ => none }
def ArrayNamesWrongFalsely : Prop := arrayNamesRow.holds Try.pinned (OpenSpec.ofChange arrayNamesWrong)

/-- 'colonnadelaw11.BatchNames': WHATEVER THE INPUT: true; the input reads as it did. -/
def batchNamesSpec : ChangeSpec := { name := "batchNames", fn := fun _ => fun
  | [] => { results := [.lit (.bool true)], args := [] }
  | _ => none }
def batchNamesRow : OpenClaim := { program := "ytdcffngkoldmgaa", sum := "afd0911b3612d608cfb398e66a835b18bf78503d3eaabfec342548e2e462632d", func := "colonnade/colonnadelaw11.BatchNames", spec := "batchNames", apart := false }
def BatchNamesSaid : Prop := batchNamesRow.holds Try.pinned (OpenSpec.ofChange batchNamesSpec)

/-- ITS FALSE NEIGHBOUR: 'it returns false'. Refute it at one input. -/
def batchNamesWrong : ChangeSpec := { name := "batchNames", fn := fun _ => fun
  | [] => { results := [.lit (.bool false)], args := [] }
  | _ => none }
def BatchNamesWrongFalsely : Prop := batchNamesRow.holds Try.pinned (OpenSpec.ofChange batchNamesWrong)

/-- 'colonnadelaw10.DictNames': WHATEVER THE INPUT: true; the input reads as it did. -/
def dictNamesSpec : ChangeSpec := { name := "dictNames", fn := fun _ => fun
  | [] => { results := [.lit (.bool true)], args := [] }
  | _ => none }
def dictNamesRow : OpenClaim := { program := "ytdcffngkoldmgaa", sum := "afd0911b3612d608cfb398e66a835b18bf78503d3eaabfec342548e2e462632d", func := "colonnade/colonnadelaw10.DictNames", spec := "dictNames", apart := false }
def DictNamesSaid : Prop := dictNamesRow.holds Try.pinned (OpenSpec.ofChange dictNamesSpec)

/-- ITS FALSE NEIGHBOUR: 'it returns false'. Refute it at one input. -/
def dictNamesWrong : ChangeSpec := { name := "dictNames", fn := fun _ => fun
  | [] => { results := [.lit (.bool false)], args := [] }
  | _ => none }
def DictNamesWrongFalsely : Prop := dictNamesRow.holds Try.pinned (OpenSpec.ofChange dictNamesWrong)

/-- 'colonnadelaw13.FileNames': WHATEVER THE INPUT: true; the input reads as it did. -/
def fileNamesSpec : ChangeSpec := { name := "fileNames", fn := fun _ => fun
  | [] => { results := [.lit (.bool true)], args := [] }
  | _ => none }
def fileNamesRow : OpenClaim := { program := "ytdcffngkoldmgaa", sum := "afd0911b3612d608cfb398e66a835b18bf78503d3eaabfec342548e2e462632d", func := "colonnade/colonnadelaw13.FileNames", spec := "fileNames", apart := false }
def FileNamesSaid : Prop := fileNamesRow.holds Try.pinned (OpenSpec.ofChange fileNamesSpec)

/-- ITS FALSE NEIGHBOUR: 'it returns false'. Refute it at one input. -/
def fileNamesWrong : ChangeSpec := { name := "fileNames", fn := fun _ => fun
  | [] => { results := [.lit (.bool false)], args := [] }
  | _ => none }
def FileNamesWrongFalsely : Prop := fileNamesRow.holds Try.pinned (OpenSpec.ofChange fileNamesWrong)

/- THE SECOND FORM. 'bulk': how many values and letters a reading holds, each counted each time it is reached (what is shared counts as often as it is met; a slice's spare places count too). A statement '..UptoSaid' is the law's where the arguments, and the package variables that the reading takes, are together of bulk at most 1048576: NARROWER than '..Said'. Prove '..Said' where nothing that the law and all that it calls make is longer than what came in: it says more and counts as full. Else prove '..UptoSaid'. A law counts once. -/
mutual
def uptoBulk {H : Type} : DataW H → Nat
  | .lit (.string bytes) => bytes.length + 1
  | .lit _ => 1
  | .nil => 1
  | .ptr d => uptoBulk d + 1
  | .slice elems spare => uptoBulkAll elems + uptoBulkAll spare + 1
  | .agg parts => uptoBulkAll parts + 1
  | .iface _ d => uptoBulk d + 1
  | .map entries => uptoBulkEntries entries + 1
  | .held _ => 1
def uptoBulkAll {H : Type} : List (DataW H) → Nat
  | [] => 0
  | d :: r => uptoBulk d + uptoBulkAll r
def uptoBulkEntries {H : Type} : List (Lit × DataW H) → Nat
  | [] => 0
  | x :: r => uptoBulkEntry x + uptoBulkEntries r
def uptoBulkEntry {H : Type} : Lit × DataW H → Nat
  | (.string bytes, d) => bytes.length + uptoBulk d + 1
  | (_, d) => uptoBulk d + 1
 end
def uptoSmall : (H : Type) → List (DataW H) → Bool := fun _ ds => decide (uptoBulkAll ds ≤ 1048576)
def OpenSpec.upto (s : _root_.Go.ChangeSpec) : _root_.Go.OpenSpec := { _root_.Go.OpenSpec.ofChange s with cond := some uptoSmall }

/-- 'colonnadelaw05.MetaNames', WHERE WHAT IT READS IS OF BULK AT MOST 1048576: true; the input reads as it did. -/
def metaNamesUptoRow : OpenClaim := { program := "ytdcffngkoldmgaa", sum := "afd0911b3612d608cfb398e66a835b18bf78503d3eaabfec342548e2e462632d", func := "colonnade/colonnadelaw05.MetaNames", spec := "metaNames", apart := false, narrowed := true }
def MetaNamesUptoSaid : Prop := metaNamesUptoRow.holds Try.pinned (OpenSpec.upto metaNamesSpec)

/-- 'colonnadelaw08.ArrayNames', WHERE WHAT IT READS IS OF BULK AT MOST 1048576: true; the input reads as it did. -/
def arrayNamesUptoRow : OpenClaim := { program := "ytdcffngkoldmgaa", sum := "afd0911b3612d608cfb398e66a835b18bf78503d3eaabfec342548e2e462632d", func := "colonnade/colonnadelaw08.ArrayNames", spec := "arrayNames", apart := false, narrowed := true }
def ArrayNamesUptoSaid : Prop := arrayNamesUptoRow.holds Try.pinned (OpenSpec.upto arrayNamesSpec)

/-- 'colonnadelaw11.BatchNames', WHERE WHAT IT READS IS OF BULK AT MOST 1048576: true; the input reads as it did. -/
def batchNamesUptoRow : OpenClaim := { program := "ytdcffngkoldmgaa", sum := "afd0911b3612d608cfb398e66a835b18bf78503d3eaabfec342548e2e462632d", func := "colonnade/colonnadelaw11.BatchNames", spec := "batchNames", apart := false, narrowed := true }
def BatchNamesUptoSaid : Prop := batchNamesUptoRow.holds Try.pinned (OpenSpec.upto batchNamesSpec)

/-- 'colonnadelaw10.DictNames', WHERE WHAT IT READS IS OF BULK AT MOST 1048576: true; the input reads as it did. -/
def dictNamesUptoRow : OpenClaim := { program := "ytdcffngkoldmgaa", sum := "afd0911b3612d608cfb398e66a835b18bf78503d3eaabfec342548e2e462632d", func := "colonnade/colonnadelaw10.DictNames", spec := "dictNames", apart := false, narrowed := true }
def DictNamesUptoSaid : Prop := dictNamesUptoRow.holds Try.pinned (OpenSpec.upto dictNamesSpec)

/-- 'colonnadelaw13.FileNames', WHERE WHAT IT READS IS OF BULK AT MOST 1048576: true; the input reads as it did. -/
def fileNamesUptoRow : OpenClaim := { program := "ytdcffngkoldmgaa", sum := "afd0911b3612d608cfb398e66a835b18bf78503d3eaabfec342548e2e462632d", func := "colonnade/colonnadelaw13.FileNames", spec := "fileNames", apart := false, narrowed := true }
def FileNamesUptoSaid : Prop := fileNamesUptoRow.holds Try.pinned (OpenSpec.upto fileNamesSpec)

end Rows
end Go.Proofs.Ytdcffngkoldmgaa
