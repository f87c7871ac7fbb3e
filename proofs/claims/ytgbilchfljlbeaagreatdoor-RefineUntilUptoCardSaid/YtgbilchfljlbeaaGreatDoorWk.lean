/-
 All walks. No condition.
-/
import Derived.Test.YtgbilchfljlbeaaGreatDoorWk3
