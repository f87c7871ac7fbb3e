/-
  All walks. No condition.
-/
import Derived.Test.YtfbhhfgelebpnaaWk1
