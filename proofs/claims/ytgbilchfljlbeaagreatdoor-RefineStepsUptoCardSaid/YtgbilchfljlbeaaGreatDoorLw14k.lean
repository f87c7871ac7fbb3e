
/-
  What the laws of 14 share: lent and kept arguments. No condition.
-/
import Derived.Test.YtgbilchfljlbeaaGreatDoorLe
set_option linter.all false
set_option maxRecDepth 100000
set_option maxHeartbeats 400000
namespace Go.Eng
open Go
theorem awake14:T_w14_awake=some true:=by decide +kernel
theorem great14 (r c:Int) (A:List Nat):T_w14_great r c A=some (decide (100<A.length)):=by
  unfold T_w14_great
  simp only [Option.bind_some]
  congr 1
  rw [Bool.eq_iff_iff];simp;omega
theorem lentR' {l:List Nat} (h:l.length≤1048576):T_k_LentReals l=some l:=by
  unfold T_k_LentReals
  rw [cond_t (by rw [decide_eq_true_eq];omega)]
theorem keptR' {k l:List Nat} (h:l.length≤1048576):T_k_KeptReals k l=some true:=by
  unfold T_k_KeptReals
  rw [cond_t (by rw [decide_eq_true_eq];omega)]
theorem keptM' {r c:Int} {l:List Nat} (h:l.length≤1048576):T_k_KeptMatrix r c l r c l=some true:=by
  unfold T_k_KeptMatrix
  rw [sameMatrix_t (by omega)]
  simp only [beq_self_eq_true,Bool.and_self,Option.bind_some,cT]
  rw [keptR' h];rfl
theorem keptF' {q:Int} {l d:List Nat} (h:l.length≤1048576) (k:d.length≤1048576):T_k_KeptFactor q l d q l d=some true:=by
  unfold T_k_KeptFactor T_k_SameFactor
  rw [sameReals_t (by omega),sameReals_t (by omega)]
  simp only [beq_self_eq_true,Option.bind_some,cT]
  rw [keptR' h,keptR' k];rfl
end Go.Eng
