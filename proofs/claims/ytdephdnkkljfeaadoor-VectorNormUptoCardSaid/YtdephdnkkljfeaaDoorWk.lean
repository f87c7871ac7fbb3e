/-
 All walks. No condition.
-/
import Derived.Test.YtdephdnkkljfeaaDoorWk1
