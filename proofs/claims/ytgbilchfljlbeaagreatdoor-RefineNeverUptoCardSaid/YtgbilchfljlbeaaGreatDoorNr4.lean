
/-
  Natural numbers of any length, as the document reckons with them (limbs, digits of 32 bits): noughts cut off, halves, limbs, over one digit, over a power of two; the right dyad of any dyad. No condition.
-/
import Derived.Test.YtgbilchfljlbeaaGreatDoorDy2
set_option linter.all false
set_option maxRecDepth 100000
set_option maxHeartbeats 400000
set_option exponentiation.threshold 70000
namespace Go.Eng
open Go
theorem Ld.take {l:List Int} (h:Ld l) (n:Nat):Ld (l.take n):=fun y hy=>h y (List.mem_of_mem_take hy)
def hvs:List Int→List Int
  | []=>[]
  | x::l=>(x%4294967296)::(x/4294967296)::hvs l
theorem q32 {n:Nat} (hn:n<9223372036854775808):(n:Int).tmod 32=((n%32:Nat):Int)∧IntKind.i64.wrap ((n:Int).tdiv 32)=((n/32:Nat):Int):=by
  refine ⟨by rw [Int.tmod_eq_emod_of_nonneg (by omega)];omega,?_⟩
  rw [Int.tdiv_eq_ediv_of_nonneg (by omega),wrI (by omega) (by omega)];omega
end Go.Eng
/-
  A number of one limb, as the document has it. No condition.
-/
set_option maxRecDepth 100000
set_option maxHeartbeats 400000
set_option exponentiation.threshold 70000
namespace Go.Eng
open Go
end Go.Eng
/-
  Natural numbers of any length, as the document reckons with them: how many bits, sums, times a power of two. No condition.
-/
set_option maxRecDepth 100000
set_option maxHeartbeats 400000
set_option exponentiation.threshold 70000
namespace Go.Eng
open Go
end Go.Eng
/-
  Natural numbers of any length, as the document reckons with them: which is greater, differences. No condition.
-/
set_option maxRecDepth 100000
set_option maxHeartbeats 400000
set_option exponentiation.threshold 70000
namespace Go.Eng
open Go
end Go.Eng
/-
  Natural numbers of any length, as the document reckons with them: products. No condition.
-/
set_option maxRecDepth 100000
set_option maxHeartbeats 400000
set_option exponentiation.threshold 70000
namespace Go.Eng
open Go
end Go.Eng
