/- Part 33. -/
import Derived.Test.YtnemnkmojiljmaaGreatB24
import Derived.Test.YtnemnkmojiljmaaGreatB32
set_option maxRecDepth 100000
set_option maxHeartbeats 0
set_option linter.all false

