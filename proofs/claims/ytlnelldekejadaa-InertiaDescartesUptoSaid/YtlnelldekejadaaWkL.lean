/-
 All walks. No condition.
-/
import Derived.Test.YtlnelldekejadaaWkL1
