/-
  All walks. No condition.
-/
import Derived.Test.YtlmndpgfnpleiaaWk2
