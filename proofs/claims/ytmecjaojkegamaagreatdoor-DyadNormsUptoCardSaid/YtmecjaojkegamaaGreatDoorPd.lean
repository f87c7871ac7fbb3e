/-
  Sums of products of floats, in order. No condition.
-/
import Derived.Test.YtmecjaojkegamaaGreatDoorPl
set_option linter.unusedVariables false
set_option linter.unusedSimpArgs false
set_option linter.unnecessarySimpa false
set_option linter.unusedSectionVars false
namespace Go.Eng
open Go

/-- A sum of products, in order, from +0. -/
def dotN (f g : Nat → Nat) : Nat → Nat
  | 0 => 0
  | n + 1 => fadd (dotN f g n) (fmul (f n) (g n))
theorem nf_dotN (f g : Nat → Nat) (n : Nat) : nf (dotN f g n) = dotN f g n := by
  cases n with
  | zero => exact nf_zero
  | succ n => exact nf_fadd _ _
theorem dotN_congr {f g f' g' : Nat → Nat} : ∀ {n : Nat}, (∀ i, i < n → f i = f' i ∧ g i = g' i) → dotN f g n = dotN f' g' n
  | 0, _ => rfl
  | n + 1, h => by
    unfold dotN
    rw [dotN_congr fun i hi => h i (by omega), (h n (by omega)).1, (h n (by omega)).2]
theorem product_comm (a b : Ieee.Datum) : a.product b = b.product a := by
  cases a <;> cases b <;> simp [Ieee.Datum.product, Bool.xor_comm, Nat.mul_comm, Int.add_comm]
theorem fmul_comm (x y : Nat) : fmul x y = fmul y x := by
  unfold fmul Ieee.Format.mul
  rw [product_comm]
theorem dotN_comm (f g : Nat → Nat) : ∀ n, dotN f g n = dotN g f n
  | 0 => rfl
  | n + 1 => by unfold dotN; rw [dotN_comm f g n, fmul_comm]


end Go.Eng
