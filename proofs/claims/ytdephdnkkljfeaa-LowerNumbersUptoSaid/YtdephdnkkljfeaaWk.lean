/-
 All walks. No condition.
-/
import Derived.Test.YtdephdnkkljfeaaWk1
