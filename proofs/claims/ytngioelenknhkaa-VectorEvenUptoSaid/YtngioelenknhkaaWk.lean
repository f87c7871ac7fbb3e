/-
  All walks. No condition.
-/
import Derived.Test.YtngioelenknhkaaWk2
