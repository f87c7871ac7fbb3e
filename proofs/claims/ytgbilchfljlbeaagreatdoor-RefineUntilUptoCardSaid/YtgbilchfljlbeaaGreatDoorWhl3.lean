/-
  Whole numbers as floats: exact sums and products. No condition. (Groundwork for MatrixWhole, SolveWhole, LowerBack.)
-/
import Derived.Test.YtgbilchfljlbeaaGreatDoorOpp
import Derived.Test.YtgbilchfljlbeaaGreatDoorFlz3
import Derived.Test.YtgbilchfljlbeaaGreatDoorEng
set_option linter.all false
set_option maxRecDepth 100000
set_option maxHeartbeats 4000000
namespace Go.Eng
end Go.Eng
/-
  Whole numbers as floats: exact quotients. No condition. (Groundwork for SolveWhole.)
-/
set_option maxRecDepth 100000
set_option maxHeartbeats 4000000
set_option exponentiation.threshold 3000
namespace Go.Eng
end Go.Eng
/-
  Whole numbers as floats: sums and differences that may be noughts of either sign, comparisons, conversions. No condition. (Groundwork for SolveWhole, MatrixWhole.)
-/
set_option maxRecDepth 100000
set_option maxHeartbeats 4000000
set_option exponentiation.threshold 3000
namespace Go.Eng
open Go
end Go.Eng
