
/-
  Dyads on the plain side: sameness. No condition.
-/
import Derived.Test.YtlnelldekejadaaDy2
set_option linter.all false
set_option maxRecDepth 100000
set_option maxHeartbeats 400000
set_option exponentiation.threshold 140000
namespace Go.Eng
open Go
end Go.Eng
/-
  Dyads on the plain side: opposites, differences. No condition.
-/
set_option maxRecDepth 100000
set_option maxHeartbeats 400000
set_option exponentiation.threshold 140000
namespace Go.Eng
open Go
theorem pow_cancel {a b:Int} {k:Nat} (h:a*((2^k:Nat):Int)=b*((2^k:Nat):Int)):a=b:=by
  have:=Nat.two_pow_pos k
  exact Int.eq_of_mul_eq_mul_right (by omega) h
end Go.Eng
