/- Part 20. -/
import Derived.Test.YtnemnkmojiljmaaE09
import Derived.Test.YtnemnkmojiljmaaE19
set_option maxRecDepth 100000
set_option maxHeartbeats 8000000
set_option linter.all false
namespace Go.Proofs
open Go Go.RowKit Go.Maps
noncomputable def Try.mV:Code:=Try.f16.body.getD .skip
noncomputable def Try.RP2:Code:=(Try.bP 15 Try.mV).getD .skip
variable [Lo.St]
end Go.Proofs
