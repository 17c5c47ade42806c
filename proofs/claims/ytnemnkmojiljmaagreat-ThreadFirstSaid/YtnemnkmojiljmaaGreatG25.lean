/- Part 25. -/
import Derived.Test.YtnemnkmojiljmaaGreatG08
import Derived.Test.YtnemnkmojiljmaaGreatG22
set_option maxRecDepth 100000
set_option maxHeartbeats 0
set_option linter.all false
namespace Go.Proofs
open Go Go.RowKit Go.Maps
noncomputable def Tryz.pG:Code:=Tryz.f28.body.getD .skip
noncomputable def Tryz.RP2:Code:=(Tryz.dN 15 Tryz.pG).getD .skip
variable [Lo.St]
end Go.Proofs
