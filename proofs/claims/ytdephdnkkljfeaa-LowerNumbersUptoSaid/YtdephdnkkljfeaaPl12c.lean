
/-
  The package lower on the plain side: Factor, whole. No condition.
-/
import Derived.Test.YtdephdnkkljfeaaPl12b
set_option linter.all false
set_option maxRecDepth 100000
set_option maxHeartbeats 4000000
namespace Go.Eng
open Go
section
variable {a : List Nat} {n : Nat} (hn : n ≤ 48) (ha : a.length = n * n)
include hn ha
end
end Go.Eng
