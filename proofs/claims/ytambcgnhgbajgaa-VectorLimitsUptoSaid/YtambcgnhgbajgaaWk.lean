/-
  All walks. No condition.
-/
import Derived.Test.YtambcgnhgbajgaaWk1
