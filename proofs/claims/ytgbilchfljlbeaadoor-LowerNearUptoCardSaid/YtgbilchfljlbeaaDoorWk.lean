/-
 All walks. No condition.
-/
import Derived.Test.YtgbilchfljlbeaaDoorWk2
