/-
 All walks. No condition.
-/
import Derived.Test.YtlnelldekejadaaGreatWkL1
