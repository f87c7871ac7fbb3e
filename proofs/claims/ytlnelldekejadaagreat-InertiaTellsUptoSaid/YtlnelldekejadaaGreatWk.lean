/-
 All walks. No condition.
-/
import Derived.Test.YtlnelldekejadaaGreatWk2
