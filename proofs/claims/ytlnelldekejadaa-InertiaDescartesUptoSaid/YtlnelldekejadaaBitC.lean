
/-
  The functions of math/bits that count bits: contracts. The one that reads a table asks that the table lie there. No condition.
-/
import Derived.Test.YtlnelldekejadaaSh
import Derived.Test.YtlnelldekejadaaBgo
set_option linter.all false
set_option maxRecDepth 100000
set_option maxHeartbeats 4000000
namespace Go.Eng
open Go
section
variable {N:Nums} {P:Program} (H:AllOk N P)
include H
theorem len64_c {w0 w:World} {L:List It} {q:Int} {K:Value→World→Prop} (hS:Ho w0 w L) (h0:0≤q) (h1:q≤18446744073709551615) (hK:∀ w1:World,Ho w0 w1 L→K (.int .i64 ((blN q.toNat:Nat):Int)) w1):CallsX P N.f_math_bits_Len64 #[.int .u64 q] w K:=by
  refine H.math_bits_Len64 q h0 h1 w _ ?_
  rw [bitLen_bl (by omega)]
  exact hK w hS
end
end Go.Eng
