/-
  The types of this program, and the numbers of its types and functions. No condition.
-/
import Derived.Test.YtdephdnkkljfeaaTbl
import Derived.Test.YtdephdnkkljfeaaNm
import Derived.Test.YtdephdnkkljfeaaProg
import Derived.KernelRfl
set_option linter.all false
set_option maxRecDepth 100000
namespace Go.Eng
open Go
def nums : Nums := { t_Errno := 28, t_Factor := 27, t_Factor__Errno__int := 29, t_L_L_float64 := 37, t_L_float64 := 22, t_L_int := 38, t_Matrix := 24, t_Matrix__Errno := 44, t_bool := 4, t_float64 := 25, t_func_int__int__float64 := 53, t_int := 3, t_uint64 := 35, f_k_SameFactor := 16, f_k_SameFloat := 31, f_k_SameMatrix := 17, f_k_SameReals := 23, f_w12_LowerNumbers := 3, f_w12_awake := 10, f_lower_Factor := 4, f_lower_Right := 5, f_lower_Times := 15, f_lower_finite := 12, f_lower_row := 13, f_math_Abs := 28, f_math_Copysign := 6, f_math_Float64bits := 14, f_math_Float64frombits := 8, f_math_Inf := 9, f_math_IsInf := 21, f_math_IsNaN := 20, f_math_NaN := 7, f_matrix_Make := 22, f_matrix_Make_1 := 30, f_matrix_Right := 24, f_matrix_Same := 19, f_matrix_Symmetric := 11, f_matrix_Transpose := 18, f_matrix_Transpose_1 := 26, f_matrix_fits := 29, f_matrix_laid := 25, f_vector_Same := 27 }
def tbl : List (Nat × TI) :=
  [(3, { d := .int .i64, size := 1, bytes := 8, zero := .int .i64 0 }),
   (4, { d := .bool, size := 1, bytes := 1, zero := .bool false }),
   (22, { d := .slice 25, size := 1, bytes := 24, zero := .slice none 0 0 }),
   (24, { d := .struct [(3, 0), (3, 1), (22, 2)], size := 3, bytes := 40, zero := .agg #[.int .i64 0, .int .i64 0, .slice none 0 0] }),
   (25, { d := .float .f64, size := 1, bytes := 8, zero := .float .f64 0 }),
   (27, { d := .struct [(3, 0), (22, 1), (22, 2)], size := 3, bytes := 56, zero := .agg #[.int .i64 0, .slice none 0 0, .slice none 0 0] }),
   (28, { d := .int .i64, size := 1, bytes := 8, zero := .int .i64 0 }),
   (29, { d := .tuple [27, 28, 3], size := 1, bytes := 0, zero := .tuple #[.agg #[.int .i64 0, .slice none 0 0, .slice none 0 0], .int .i64 0, .int .i64 0] }),
   (35, { d := .int .u64, size := 1, bytes := 8, zero := .int .u64 0 }),
   (37, { d := .slice 22, size := 1, bytes := 24, zero := .slice none 0 0 }),
   (38, { d := .slice 3, size := 1, bytes := 24, zero := .slice none 0 0 }),
   (44, { d := .tuple [24, 28], size := 1, bytes := 0, zero := .tuple #[.agg #[.int .i64 0, .int .i64 0, .slice none 0 0], .int .i64 0] }),
   (53, { d := .func, size := 1, bytes := 8, zero := .nilFunc })]
theorem row3 : TIOk Go.Proofs.Try.prog 3 { d := .int .i64, size := 1, bytes := 8, zero := .int .i64 0 } :=
  tiOk_mk (i := Go.Proofs.Try.t3) (d := Go.Proofs.Try.t3.desc) (by kernel_rfl) (by kernel_rfl) (by kernel_rfl) (by kernel_rfl) (by kernel_rfl) (by kernel_rfl)
theorem row4 : TIOk Go.Proofs.Try.prog 4 { d := .bool, size := 1, bytes := 1, zero := .bool false } :=
  tiOk_mk (i := Go.Proofs.Try.t4) (d := Go.Proofs.Try.t4.desc) (by kernel_rfl) (by kernel_rfl) (by kernel_rfl) (by kernel_rfl) (by kernel_rfl) (by kernel_rfl)
theorem row22 : TIOk Go.Proofs.Try.prog 22 { d := .slice 25, size := 1, bytes := 24, zero := .slice none 0 0 } :=
  tiOk_mk (i := Go.Proofs.Try.t22) (d := Go.Proofs.Try.t22.desc) (by kernel_rfl) (by kernel_rfl) (by kernel_rfl) (by kernel_rfl) (by kernel_rfl) (by kernel_rfl)
theorem row24 : TIOk Go.Proofs.Try.prog 24 { d := .struct [(3, 0), (3, 1), (22, 2)], size := 3, bytes := 40, zero := .agg #[.int .i64 0, .int .i64 0, .slice none 0 0] } :=
  tiOk_mk (i := Go.Proofs.Try.t24) (d := Go.Proofs.Try.t23.desc) (by kernel_rfl) (by kernel_rfl) (by kernel_rfl) (by kernel_rfl) (by kernel_rfl) (by kernel_rfl)
theorem row25 : TIOk Go.Proofs.Try.prog 25 { d := .float .f64, size := 1, bytes := 8, zero := .float .f64 0 } :=
  tiOk_mk (i := Go.Proofs.Try.t25) (d := Go.Proofs.Try.t25.desc) (by kernel_rfl) (by kernel_rfl) (by kernel_rfl) (by kernel_rfl) (by kernel_rfl) (by kernel_rfl)
theorem row27 : TIOk Go.Proofs.Try.prog 27 { d := .struct [(3, 0), (22, 1), (22, 2)], size := 3, bytes := 56, zero := .agg #[.int .i64 0, .slice none 0 0, .slice none 0 0] } :=
  tiOk_mk (i := Go.Proofs.Try.t27) (d := Go.Proofs.Try.t26.desc) (by kernel_rfl) (by kernel_rfl) (by kernel_rfl) (by kernel_rfl) (by kernel_rfl) (by kernel_rfl)
theorem row28 : TIOk Go.Proofs.Try.prog 28 { d := .int .i64, size := 1, bytes := 8, zero := .int .i64 0 } :=
  tiOk_mk (i := Go.Proofs.Try.t28) (d := Go.Proofs.Try.t3.desc) (by kernel_rfl) (by kernel_rfl) (by kernel_rfl) (by kernel_rfl) (by kernel_rfl) (by kernel_rfl)
theorem row29 : TIOk Go.Proofs.Try.prog 29 { d := .tuple [27, 28, 3], size := 1, bytes := 0, zero := .tuple #[.agg #[.int .i64 0, .slice none 0 0, .slice none 0 0], .int .i64 0, .int .i64 0] } :=
  tiOk_mk (i := Go.Proofs.Try.t29) (d := Go.Proofs.Try.t29.desc) (by kernel_rfl) (by kernel_rfl) (by kernel_rfl) (by kernel_rfl) (by kernel_rfl) (by kernel_rfl)
theorem row35 : TIOk Go.Proofs.Try.prog 35 { d := .int .u64, size := 1, bytes := 8, zero := .int .u64 0 } :=
  tiOk_mk (i := Go.Proofs.Try.t35) (d := Go.Proofs.Try.t35.desc) (by kernel_rfl) (by kernel_rfl) (by kernel_rfl) (by kernel_rfl) (by kernel_rfl) (by kernel_rfl)
theorem row37 : TIOk Go.Proofs.Try.prog 37 { d := .slice 22, size := 1, bytes := 24, zero := .slice none 0 0 } :=
  tiOk_mk (i := Go.Proofs.Try.t37) (d := Go.Proofs.Try.t37.desc) (by kernel_rfl) (by kernel_rfl) (by kernel_rfl) (by kernel_rfl) (by kernel_rfl) (by kernel_rfl)
theorem row38 : TIOk Go.Proofs.Try.prog 38 { d := .slice 3, size := 1, bytes := 24, zero := .slice none 0 0 } :=
  tiOk_mk (i := Go.Proofs.Try.t38) (d := Go.Proofs.Try.t38.desc) (by kernel_rfl) (by kernel_rfl) (by kernel_rfl) (by kernel_rfl) (by kernel_rfl) (by kernel_rfl)
theorem row44 : TIOk Go.Proofs.Try.prog 44 { d := .tuple [24, 28], size := 1, bytes := 0, zero := .tuple #[.agg #[.int .i64 0, .int .i64 0, .slice none 0 0], .int .i64 0] } :=
  tiOk_mk (i := Go.Proofs.Try.t44) (d := Go.Proofs.Try.t44.desc) (by kernel_rfl) (by kernel_rfl) (by kernel_rfl) (by kernel_rfl) (by kernel_rfl) (by kernel_rfl)
theorem row53 : TIOk Go.Proofs.Try.prog 53 { d := .func, size := 1, bytes := 8, zero := .nilFunc } :=
  tiOk_mk (i := Go.Proofs.Try.t53) (d := Go.Proofs.Try.t53.desc) (by kernel_rfl) (by kernel_rfl) (by kernel_rfl) (by kernel_rfl) (by kernel_rfl) (by kernel_rfl)
theorem tok : TOk Go.Proofs.Try.prog (look tbl) := tok_of_rows (l := tbl) ⟨row3, row4, row22, row24, row25, row27, row28, row29, row35, row37, row38, row44, row53, True.intro⟩
theorem tsize : TSize (look tbl) := tsize_of (by kernel_rfl)
theorem mixed : Go.Proofs.Try.prog.follows .mixedOrders = true := by kernel_rfl
end Go.Eng
