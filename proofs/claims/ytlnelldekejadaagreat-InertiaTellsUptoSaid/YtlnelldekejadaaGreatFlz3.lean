/-
  Floats of 64 bits by their fields: comparisons with nought, signs, finite ones. No condition.
-/
import Derived.Test.YtlnelldekejadaaGreatFl2
import Derived.Laws.FloatBits
set_option linter.all false
namespace Go.Eng
theorem lp:Ieee.double.leastPlace = -1074:=by decide +kernel
end Go.Eng
/-
  Floats of 64 bits by their fields (continued): opposites, differences with oneself, sums that are nought. No condition.
-/
namespace Go.Eng
end Go.Eng
/-
  Sums of finite floats of 64 bits: when nought, of which sign. No condition.
-/
namespace Go.Eng
end Go.Eng
