/-
  Whole numbers as floats: sums and differences that may be noughts of either sign, comparisons, conversions. No condition. (Groundwork for SolveWhole, MatrixWhole.)
-/
import Derived.Test.YtlmndpgfnpleiaaWhl2
import Derived.Test.YtlmndpgfnpleiaaFlz3
set_option linter.unusedVariables false
set_option linter.unusedSimpArgs false
set_option linter.unnecessarySimpa false
set_option linter.unusedSectionVars false
set_option maxRecDepth 100000
set_option maxHeartbeats 4000000
set_option exponentiation.threshold 3000
namespace Go.Eng
open Go

theorem wv_nan {x : Nat} {z : Int} (h : Wv x z) : isNaN x = false := by
  rw [isNaN_mag]
  have := h.1
  simp; omega
theorem wv_feq {x y : Nat} {z : Int} (hx : Wv x z) (hy : Wv y z) : feq x y = true := by
  unfold feq
  rw [order_fin hx.1 hy.1, hx.2, hy.2]
  simp
theorem wv_ne {x y : Nat} {a b : Int} (hx : Wv x a) (hy : Wv y b) (h : a ≠ b) : feq x y = false := by
  unfold feq
  rw [order_fin hx.1 hy.1, hx.2, hy.2]
  have hp := big_pos
  generalize ((2 ^ 1074 : Nat) : Int) = K at *
  have : a * K ≠ b * K := fun e => h (Int.eq_of_mul_eq_mul_right (by omega) e)
  cases hc : compare (a * K) (b * K) with
  | eq => exact absurd (Int.compare_eq_eq.1 hc) this
  | lt => rfl
  | gt => rfl
theorem fadd_wv {x y : Nat} {a b : Int} (hx : Wv x a) (hy : Wv y b) (h : (a + b).natAbs < 9007199254740992) : Wv (fadd x y) (a + b) := by
  by_cases h0 : a + b = 0
  · rw [h0]
    refine wv_zero ((fadd_mag_zero hx.1 hy.1).2 ?_)
    rw [hx.2, hy.2, ← Int.add_mul, h0, Int.zero_mul]
  · rw [fadd_whl hx hy fun e => absurd e h0]
    exact whl_wv h
theorem fsub_wv {x y : Nat} {a b : Int} (hx : Wv x a) (hy : Wv y b) (h : (a - b).natAbs < 9007199254740992) : Wv (fsub x y) (a - b) := by
  rw [fsub_fneg hy.1, Int.sub_eq_add_neg]
  exact fadd_wv hx (wv_fneg hy) (by rw [← Int.sub_eq_add_neg]; exact h)
theorem fdiv_wv {x y : Nat} {a b : Int} (hx : Wv x (a * b)) (hy : Wv y b) (hb : b ≠ 0) (h : a.natAbs < 9007199254740992) : Wv (fdiv x y) a := by
  by_cases ha : a = 0
  · subst ha
    rw [Int.zero_mul] at hx
    exact fdiv_nought hx hy hb
  · rw [fdiv_whl hx hy hb ha h]
    exact whl_wv h
theorem near_whl (z : Int) : FloatKind.f64.nearest z = whl z := rfl
theorem whl_nan {z : Int} (h : z.natAbs < 9007199254740992) : isNaN (whl z) = false := wv_nan (whl_wv h)
theorem nf_whl {z : Int} (h : z.natAbs < 9007199254740992) : nf (FloatKind.f64.nearest z) = whl z := by
  rw [near_whl, nf_of_not (whl_nan h)]

end Go.Eng
