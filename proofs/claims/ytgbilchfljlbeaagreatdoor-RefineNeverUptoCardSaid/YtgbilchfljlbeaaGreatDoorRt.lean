
/-
  Exact numbers, as the document reckons with them: sums, by value. No condition.
-/
import Derived.Test.YtgbilchfljlbeaaGreatDoorNr4
import Derived.Test.YtgbilchfljlbeaaGreatDoorSg
set_option linter.all false
set_option maxRecDepth 100000
set_option maxHeartbeats 4000000
set_option exponentiation.threshold 70000
namespace Go.Eng
open Go
end Go.Eng
/-
  Exact numbers, as the document reckons with them: products by value. No condition.
-/
set_option maxRecDepth 100000
set_option maxHeartbeats 400000
set_option exponentiation.threshold 70000
namespace Go.Eng
open Go
end Go.Eng
