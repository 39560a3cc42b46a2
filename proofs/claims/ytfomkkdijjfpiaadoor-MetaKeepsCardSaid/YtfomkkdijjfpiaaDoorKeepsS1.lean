/- What the functions do, printed by program (gen.py) in the words of ShCore; each text is held against the loaded program by the kernel. -/
import Derived.Test.YtfomkkdijjfpiaaDoorKeepsF
set_option linter.unusedSimpArgs false
set_option linter.unusedVariables false
set_option maxRecDepth 100000
namespace Go.Proofs.YtfomkkdijjfpiaaDoor
open Go Go.Sh
def kv3 (K : Bool → HP) : Value → HP := fun v h => match v with | .bool r0 => (K r0 h) | _ => False
def q3 (K : Bool → HP) : Qt := retQ Tryd.prog Tryd.f3.results.toList [(.bool false)] (kv3 K)
end Go.Proofs.YtfomkkdijjfpiaaDoor
