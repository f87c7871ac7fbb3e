/-
  The types of this program, and the numbers of its types and functions. No condition.
-/
import Derived.Test.YtlmndpgfnpleiaaTbl
import Derived.Test.YtlmndpgfnpleiaaNm
import Derived.Test.YtlmndpgfnpleiaaProg
import Derived.KernelRfl
set_option linter.unusedVariables false
set_option linter.unusedSimpArgs false
set_option linter.unnecessarySimpa false
set_option linter.unusedSectionVars false
set_option maxRecDepth 100000
namespace Go.Eng
open Go

def nums : Nums := { t_Errno := 27, t_Factor := 24, t_L_float64 := 22, t_L_float64__Errno := 28, t_L_int := 40, t_Matrix := 32, t_Matrix__Errno := 33, t_bool := 4, t_float64 := 42, t_func_int__int__float64 := 68, t_int := 3, t_uint64 := 61, f_girderkit_KeptFactor := 20, f_girderkit_KeptReals := 21, f_girderkit_LentFactor := 8, f_girderkit_LentReals := 9, f_girderkit_Pick := 30, f_girderkit_SameFactor := 46, f_girderkit_SameFloat := 29, f_girderkit_SameMatrix := 19, f_girderkit_SameReals := 27, f_girderkit_mark := 36, f_girderlaw13_SolveNumbers := 7, f_girderlaw13_SolveScales := 6, f_girderlaw13_SolveTells := 3, f_girderlaw13_SolveTurns := 5, f_girderlaw13_SolveWhole := 4, f_girderlaw13_at := 24, f_girderlaw13_awake := 22, f_girderlaw13_entry := 25, f_girderlaw13_equal := 26, f_girderlaw13_is := 12, f_girderlaw13_minus := 28, f_girderlaw13_one := 32, f_girderlaw13_tame := 31, f_girderlaw13_two := 47, f_girderlaw13_whole := 23, f_girderref13_Back := 14, f_girderref13_Forward := 11, f_girderref13_Inverse := 18, f_girderref13_Right := 40, f_girderref13_Solve := 16, f_girderref13_at := 41, f_girderref13_zero := 43, f_lower_Right := 50, f_math_Copysign := 33, f_math_Float64bits := 48, f_math_Float64frombits := 49, f_math_Inf := 34, f_math_NaN := 35, f_matrix_Identity := 44, f_matrix_Make := 52, f_matrix_Make_1 := 57, f_matrix_Right := 53, f_matrix_Transpose := 45, f_matrix_Transpose_1 := 55, f_matrix_fits := 56, f_matrix_laid := 54, f_slices_Clone___float64_float64 := 38, f_slices_Contains___float64_float64 := 42, f_slices_Index___float64_float64 := 51, f_solve_Back := 13, f_solve_Forward := 10, f_solve_Inverse := 17, f_solve_Solve := 15, f_solve_below := 39, f_solve_fits := 37 }

def tbl : List (Nat × TI) :=
  [(3, { d := .int .i64, size := 1, bytes := 8, zero := .int .i64 0 }),
   (4, { d := .bool, size := 1, bytes := 1, zero := .bool false }),
   (22, { d := .slice 42, size := 1, bytes := 24, zero := .slice none 0 0 }),
   (24, { d := .struct [(3, 0), (22, 1), (22, 2)], size := 3, bytes := 56, zero := .agg #[.int .i64 0, .slice none 0 0, .slice none 0 0] }),
   (27, { d := .int .i64, size := 1, bytes := 8, zero := .int .i64 0 }),
   (28, { d := .tuple [22, 27], size := 1, bytes := 0, zero := .tuple #[.slice none 0 0, .int .i64 0] }),
   (32, { d := .struct [(3, 0), (3, 1), (22, 2)], size := 3, bytes := 40, zero := .agg #[.int .i64 0, .int .i64 0, .slice none 0 0] }),
   (33, { d := .tuple [32, 27], size := 1, bytes := 0, zero := .tuple #[.agg #[.int .i64 0, .int .i64 0, .slice none 0 0], .int .i64 0] }),
   (40, { d := .slice 3, size := 1, bytes := 24, zero := .slice none 0 0 }),
   (42, { d := .float .f64, size := 1, bytes := 8, zero := .float .f64 0 }),
   (61, { d := .int .u64, size := 1, bytes := 8, zero := .int .u64 0 }),
   (68, { d := .func, size := 1, bytes := 8, zero := .nilFunc })]

theorem row3 : TIOk Go.Proofs.Try.prog 3 { d := .int .i64, size := 1, bytes := 8, zero := .int .i64 0 } :=
  tiOk_mk (i := Go.Proofs.Try.t3) (d := Go.Proofs.Try.t3.desc) (by kernel_rfl) (by kernel_rfl) (by kernel_rfl) (by kernel_rfl) (by kernel_rfl) (by kernel_rfl)
theorem row4 : TIOk Go.Proofs.Try.prog 4 { d := .bool, size := 1, bytes := 1, zero := .bool false } :=
  tiOk_mk (i := Go.Proofs.Try.t4) (d := Go.Proofs.Try.t4.desc) (by kernel_rfl) (by kernel_rfl) (by kernel_rfl) (by kernel_rfl) (by kernel_rfl) (by kernel_rfl)
theorem row22 : TIOk Go.Proofs.Try.prog 22 { d := .slice 42, size := 1, bytes := 24, zero := .slice none 0 0 } :=
  tiOk_mk (i := Go.Proofs.Try.t22) (d := Go.Proofs.Try.t22.desc) (by kernel_rfl) (by kernel_rfl) (by kernel_rfl) (by kernel_rfl) (by kernel_rfl) (by kernel_rfl)
theorem row24 : TIOk Go.Proofs.Try.prog 24 { d := .struct [(3, 0), (22, 1), (22, 2)], size := 3, bytes := 56, zero := .agg #[.int .i64 0, .slice none 0 0, .slice none 0 0] } :=
  tiOk_mk (i := Go.Proofs.Try.t24) (d := Go.Proofs.Try.t23.desc) (by kernel_rfl) (by kernel_rfl) (by kernel_rfl) (by kernel_rfl) (by kernel_rfl) (by kernel_rfl)
theorem row27 : TIOk Go.Proofs.Try.prog 27 { d := .int .i64, size := 1, bytes := 8, zero := .int .i64 0 } :=
  tiOk_mk (i := Go.Proofs.Try.t27) (d := Go.Proofs.Try.t3.desc) (by kernel_rfl) (by kernel_rfl) (by kernel_rfl) (by kernel_rfl) (by kernel_rfl) (by kernel_rfl)
theorem row28 : TIOk Go.Proofs.Try.prog 28 { d := .tuple [22, 27], size := 1, bytes := 0, zero := .tuple #[.slice none 0 0, .int .i64 0] } :=
  tiOk_mk (i := Go.Proofs.Try.t28) (d := Go.Proofs.Try.t28.desc) (by kernel_rfl) (by kernel_rfl) (by kernel_rfl) (by kernel_rfl) (by kernel_rfl) (by kernel_rfl)
theorem row32 : TIOk Go.Proofs.Try.prog 32 { d := .struct [(3, 0), (3, 1), (22, 2)], size := 3, bytes := 40, zero := .agg #[.int .i64 0, .int .i64 0, .slice none 0 0] } :=
  tiOk_mk (i := Go.Proofs.Try.t32) (d := Go.Proofs.Try.t31.desc) (by kernel_rfl) (by kernel_rfl) (by kernel_rfl) (by kernel_rfl) (by kernel_rfl) (by kernel_rfl)
theorem row33 : TIOk Go.Proofs.Try.prog 33 { d := .tuple [32, 27], size := 1, bytes := 0, zero := .tuple #[.agg #[.int .i64 0, .int .i64 0, .slice none 0 0], .int .i64 0] } :=
  tiOk_mk (i := Go.Proofs.Try.t33) (d := Go.Proofs.Try.t33.desc) (by kernel_rfl) (by kernel_rfl) (by kernel_rfl) (by kernel_rfl) (by kernel_rfl) (by kernel_rfl)
theorem row40 : TIOk Go.Proofs.Try.prog 40 { d := .slice 3, size := 1, bytes := 24, zero := .slice none 0 0 } :=
  tiOk_mk (i := Go.Proofs.Try.t40) (d := Go.Proofs.Try.t40.desc) (by kernel_rfl) (by kernel_rfl) (by kernel_rfl) (by kernel_rfl) (by kernel_rfl) (by kernel_rfl)
theorem row42 : TIOk Go.Proofs.Try.prog 42 { d := .float .f64, size := 1, bytes := 8, zero := .float .f64 0 } :=
  tiOk_mk (i := Go.Proofs.Try.t42) (d := Go.Proofs.Try.t42.desc) (by kernel_rfl) (by kernel_rfl) (by kernel_rfl) (by kernel_rfl) (by kernel_rfl) (by kernel_rfl)
theorem row61 : TIOk Go.Proofs.Try.prog 61 { d := .int .u64, size := 1, bytes := 8, zero := .int .u64 0 } :=
  tiOk_mk (i := Go.Proofs.Try.t61) (d := Go.Proofs.Try.t61.desc) (by kernel_rfl) (by kernel_rfl) (by kernel_rfl) (by kernel_rfl) (by kernel_rfl) (by kernel_rfl)
theorem row68 : TIOk Go.Proofs.Try.prog 68 { d := .func, size := 1, bytes := 8, zero := .nilFunc } :=
  tiOk_mk (i := Go.Proofs.Try.t68) (d := Go.Proofs.Try.t68.desc) (by kernel_rfl) (by kernel_rfl) (by kernel_rfl) (by kernel_rfl) (by kernel_rfl) (by kernel_rfl)

theorem tok : TOk Go.Proofs.Try.prog (look tbl) := tok_of_rows (l := tbl) ⟨row3, row4, row22, row24, row27, row28, row32, row33, row40, row42, row61, row68, True.intro⟩
theorem tsize : TSize (look tbl) := tsize_of (by kernel_rfl)
theorem mixed : Go.Proofs.Try.prog.follows .mixedOrders = true := by kernel_rfl

end Go.Eng
