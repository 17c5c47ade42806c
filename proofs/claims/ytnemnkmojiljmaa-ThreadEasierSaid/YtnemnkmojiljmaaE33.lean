/- Part 33. -/
import Derived.Test.YtnemnkmojiljmaaE24
import Derived.Test.YtnemnkmojiljmaaE32
set_option maxRecDepth 100000
set_option maxHeartbeats 8000000
set_option linter.all false

