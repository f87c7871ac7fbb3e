/-
  The package lower is awake. No condition.
-/
import Derived.Test.YtgbilchfljlbeaaDoorTp
set_option linter.all false
set_option maxRecDepth 100000
namespace Go.Eng
open Go
theorem awake12:T_w12_awake=some true:=by decide +kernel
end Go.Eng
