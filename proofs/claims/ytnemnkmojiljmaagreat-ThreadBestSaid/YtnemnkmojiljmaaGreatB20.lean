/- Part 20. -/
import Derived.Test.YtnemnkmojiljmaaGreatB09
import Derived.Test.YtnemnkmojiljmaaGreatB19
set_option maxRecDepth 100000
set_option maxHeartbeats 0
set_option linter.all false
namespace Go.Proofs
open Go Go.RowKit Go.Maps
noncomputable def Tryz.oH:Code:=Tryz.f28.body.getD .skip
noncomputable def Tryz.RP2:Code:=(Tryz.dP 15 Tryz.oH).getD .skip
variable [Lo.St]
end Go.Proofs
