
/-
  What the laws of 14 share: lent and kept arguments. No condition.
-/
import Derived.Test.YtgbilchfljlbeaaGreatDoorLe
set_option linter.all false
set_option maxRecDepth 100000
set_option maxHeartbeats 400000
namespace Go.Eng
open Go
theorem awake14:T_w14_awake=some true:=by decide +kernel
theorem great14 (r c:Int) (A:List Nat):T_w14_great r c A=some (decide (100<A.length)):=by
  unfold T_w14_great
  simp only [Option.bind_some]
  congr 1
  rw [Bool.eq_iff_iff];simp;omega
end Go.Eng
