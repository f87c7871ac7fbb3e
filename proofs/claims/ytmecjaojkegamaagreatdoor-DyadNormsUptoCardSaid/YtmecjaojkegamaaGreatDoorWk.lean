/-
 All walks. No condition.
-/
import Derived.Test.YtmecjaojkegamaaGreatDoorWk2
