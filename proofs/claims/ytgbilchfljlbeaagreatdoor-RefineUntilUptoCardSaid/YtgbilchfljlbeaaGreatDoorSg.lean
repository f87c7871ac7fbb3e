
/-
  Dyads on the plain side: signs and the order of numbers. No condition.
-/
import Derived.Test.YtgbilchfljlbeaaGreatDoorDy2
set_option linter.all false
set_option maxRecDepth 100000
set_option maxHeartbeats 400000
set_option exponentiation.threshold 70000
namespace Go.Eng
open Go
end Go.Eng
