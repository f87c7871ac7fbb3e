
/-
  Rounding as the document tells it, on the plain side: what girderref02.Rounded answers. No condition.
-/
import Derived.Test.YtgbilchfljlbeaaGreatDoorOf
import Derived.Test.YtgbilchfljlbeaaGreatDoorNr4
set_option linter.all false
set_option maxRecDepth 100000
set_option maxHeartbeats 400000
set_option exponentiation.threshold 70000
namespace Go.Eng
open Go
end Go.Eng
