/-
 All walks. No condition.
-/
import Derived.Test.YtdephdnkkljfeaaGreatDoorWk2
