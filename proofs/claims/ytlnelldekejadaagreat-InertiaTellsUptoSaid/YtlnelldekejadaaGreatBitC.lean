/-
  The functions of math/bits that count bits: contracts. The one that reads a table asks that the table lie there. No condition.
-/
import Derived.Test.YtlnelldekejadaaGreatSh
import Derived.Test.YtlnelldekejadaaGreatBgo
set_option linter.all false
set_option maxRecDepth 100000
set_option maxHeartbeats 4000000
namespace Go.Eng
open Go
section
variable {N:Nums} {P:Program} (H:AllOk N P)
include H
theorem Gc4 {w0 w:World} {L:List It} {q:Int} {K:Value→World→Prop} (hS:Ho w0 w L) (b:0≤q) (c:q≤18446744073709551615) (hK:∀ a:World,Ho w0 a L→K (.int .i64 ((blN q.toNat:Nat):Int)) a):Aa1 P N.Hh0 #[.int .u64 q] w K:=by
 refine H.math_bits_Len64 q b c w _ ?_
 rw [Fi4 (by omega)]
 exact hK w hS
end
end Go.Eng
