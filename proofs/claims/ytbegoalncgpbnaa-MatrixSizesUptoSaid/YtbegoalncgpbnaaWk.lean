/-
  All walks. No condition.
-/
import Derived.Test.YtbegoalncgpbnaaWk1
