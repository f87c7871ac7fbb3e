
/-
  What the laws of 14 share: lent and kept arguments. No condition.
-/
import Derived.Test.YtgbilchfljlbeaaGreatDoorLe
set_option linter.all false
set_option maxRecDepth 100000
set_option maxHeartbeats 400000
namespace Go.Eng
open Go
theorem Gw7:Bo2=some true:=by decide +kernel
theorem Gu0 (r c:Int) (A:List Nat):Bg6 r c A=some (decide (100<A.length)):=by
  unfold Bg6
  simp only [Option.bind_some]
  congr 1
  rw [Bool.eq_iff_iff];simp;omega
theorem lentR' {l:List Nat} (h:l.length≤1048576):Am0 l=some l:=by
  unfold Am0
  rw [Aa6 (by rw [decide_eq_true_eq];omega)]
theorem keptR' {k l:List Nat} (h:l.length≤1048576):Al2 k l=some true:=by
  unfold Al2
  rw [Aa6 (by rw [decide_eq_true_eq];omega)]
theorem keptM' {r c:Int} {l:List Nat} (h:l.length≤1048576):Au0 r c l r c l=some true:=by
  unfold Au0
  rw [Et6 (by omega)]
  simp only [beq_self_eq_true,Bool.and_self,Option.bind_some,cT]
  rw [keptR' h];rfl
theorem keptF' {q:Int} {l d:List Nat} (h:l.length≤1048576) (k:d.length≤1048576):Au1 q l d q l d=some true:=by
  unfold Au1 Ba8
  rw [Bo1 (by omega),Bo1 (by omega)]
  simp only [beq_self_eq_true,Option.bind_some,cT]
  rw [keptR' h,keptR' k];rfl
end Go.Eng
