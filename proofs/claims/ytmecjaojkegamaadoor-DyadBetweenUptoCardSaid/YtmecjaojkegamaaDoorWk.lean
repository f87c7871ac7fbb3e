/-
 All walks. No condition.
-/
import Derived.Test.YtmecjaojkegamaaDoorWk1
