/- Part 23. -/
import Derived.Test.YtnemnkmojiljmaaF09
import Derived.Test.YtnemnkmojiljmaaF20
set_option maxRecDepth 100000
set_option maxHeartbeats 8000000
set_option linter.all false
namespace Go.Proofs
open Go Go.RowKit Go.Maps
noncomputable def Try.mQ:Code:=Try.f16.body.getD .skip
noncomputable def Try.RP2:Code:=(Try.bR 15 Try.mQ).getD .skip
variable [Lo.St]
end Go.Proofs
