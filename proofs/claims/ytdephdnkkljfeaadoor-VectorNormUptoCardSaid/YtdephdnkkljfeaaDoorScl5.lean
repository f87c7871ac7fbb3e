/-
  Sums rounded up and scaling by a power of two. No condition.
-/
import Derived.Test.YtdephdnkkljfeaaDoorScl4
import Derived.Test.YtdephdnkkljfeaaDoorOpp
set_option linter.all false
set_option maxRecDepth 100000
set_option maxHeartbeats 4000000
set_option exponentiation.threshold 5000
namespace Go.Eng
end Go.Eng
