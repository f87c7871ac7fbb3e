/-
  All walks. No condition.
-/
import Derived.Test.YtchhlpbkclkcpaaWk2
