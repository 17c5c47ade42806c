/- Part 36. -/
import Derived.Test.YtnemnkmojiljmaaF27
import Derived.Test.YtnemnkmojiljmaaF35
set_option maxRecDepth 100000
set_option maxHeartbeats 8000000
set_option linter.all false

