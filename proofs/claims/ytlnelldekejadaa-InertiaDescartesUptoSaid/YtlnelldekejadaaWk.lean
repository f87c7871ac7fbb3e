/-
 All walks. No condition.
-/
import Derived.Test.YtlnelldekejadaaWk1
