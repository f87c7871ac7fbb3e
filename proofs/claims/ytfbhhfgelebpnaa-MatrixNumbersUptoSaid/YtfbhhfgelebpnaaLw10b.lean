/-
  The law MatrixNumbers. No condition.
-/
import Derived.Test.YtfbhhfgelebpnaaWk
import Derived.Test.YtfbhhfgelebpnaaLw0
import Derived.Test.YtfbhhfgelebpnaaPmx
set_option linter.unusedVariables false
set_option linter.unusedSimpArgs false
set_option linter.unnecessarySimpa false
set_option linter.unusedSectionVars false
set_option maxRecDepth 1000000
set_option maxHeartbeats 4000000
namespace Go.Eng
open Go

theorem bind_eq10 {α β : Type} {x : Option α} {f : α → Option β} {a : α} {y : Option β} (h : x = some a) (h2 : f a = y) : x.bind f = y := by subst h; exact h2

theorem make48 : T_matrix_Make 48 48 = some (48, 48, List.replicate 2304 0, 0) := by
  rw [make_t, show mayB 48 48 = true from rfl]; rfl

theorem numbers10 : T_girderlaw10_MatrixNumbers = some true := by
  unfold T_girderlaw10_MatrixNumbers
  refine bind_eq10 make48 ?_
  have hx : (((List.replicate 2304 0).length : Nat) : Int) = 2304 := by simp
  generalize List.replicate 2304 0 = x at hx
  dsimp only
  simp only [hx]
  decide +kernel

section
variable {N : Nums} {P : Program} (H : AllOk N P)
include H
theorem numbers10_f {w : World} : CallsX P N.f_girderlaw10_MatrixNumbers #[] w fun v w' => v = .bool true ∧ ∃ M, St w w' M :=
  wk_girderlaw10_MatrixNumbers H (Ho.start w) numbers10 fun w1 h => ⟨rfl, h.some_old⟩
end
end Go.Eng
