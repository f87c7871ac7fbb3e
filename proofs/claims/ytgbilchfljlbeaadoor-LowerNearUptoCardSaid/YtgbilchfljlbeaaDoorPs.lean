
/-
  Comparing lists of floats on the plain side. No condition.
-/
import Derived.Test.YtgbilchfljlbeaaDoorOpp
import Derived.Test.YtgbilchfljlbeaaDoorTp
set_option linter.all false
set_option maxRecDepth 100000
set_option maxHeartbeats 4000000
namespace Go.Eng
open Go
end Go.Eng
