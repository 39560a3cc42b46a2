/- Regions that draw their order: every order's reading at once, by what holds while some operations are left. -/
import Derived.Test.YtlbbdbdjiekkaaaGreatDoorNamesShDraw
set_option linter.unusedVariables false
set_option linter.unusedSimpArgs false
namespace Go.Sh
variable {P:Program} {r:Option Nat}
end Go.Sh
