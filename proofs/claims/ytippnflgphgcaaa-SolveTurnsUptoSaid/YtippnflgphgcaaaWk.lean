/-
  All walks. No condition.
-/
import Derived.Test.YtippnflgphgcaaaWk2
