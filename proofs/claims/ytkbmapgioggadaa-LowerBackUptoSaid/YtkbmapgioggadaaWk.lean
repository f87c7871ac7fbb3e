/-
  All walks. No condition.
-/
import Derived.Test.YtkbmapgioggadaaWk2
