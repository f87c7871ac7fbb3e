/-
  The types of this program, and the numbers of its types and functions. No condition.
-/
import Derived.Test.YtbegoalncgpbnaaTbl
import Derived.Test.YtbegoalncgpbnaaNm
import Derived.Test.YtbegoalncgpbnaaProg
import Derived.KernelRfl
set_option linter.unusedVariables false
set_option linter.unusedSimpArgs false
set_option linter.unnecessarySimpa false
set_option linter.unusedSectionVars false
set_option maxRecDepth 100000
namespace Go.Eng
open Go

def nums : Nums := { t_Errno := 27, t_L_bool := 46, t_L_float64 := 22, t_L_float64__Errno := 30, t_Matrix := 24, t_Matrix__Errno := 28, t_Mode := 68, t_bool := 4, t_bool__int__uint64 := 80, t_float64 := 38, t_float64__Errno := 47, t_func_float64__bool := 63, t_func_int__int__float64 := 58, t_int := 3, t_int64 := 2, t_uint64 := 60, f_girderkit_CopyReals := 31, f_girderkit_KeptMatrix := 17, f_girderkit_KeptReals := 18, f_girderkit_LentMatrix := 9, f_girderkit_LentReals := 10, f_girderkit_Pick := 49, f_girderkit_SameFloat := 24, f_girderkit_SameMatrix := 26, f_girderkit_SameReals := 16, f_girderkit_mark := 45, f_girderlaw10_MatrixNumbers := 8, f_girderlaw10_MatrixSizes := 6, f_girderlaw10_MatrixTells := 7, f_girderlaw10_MatrixTimes := 3, f_girderlaw10_MatrixTurns := 5, f_girderlaw10_MatrixWhole := 4, f_girderlaw10_awake := 19, f_girderlaw10_finite := 23, f_girderlaw10_is := 15, f_girderlaw10_laid := 20, f_girderlaw10_of := 30, f_girderref01_Finite := 61, f_girderref01_Kind := 69, f_girderref01_Nan := 68, f_girderref01_Same := 60, f_girderref01_fields := 82, f_girderref03_Add := 62, f_girderref03_Finite := 70, f_girderref03_down := 83, f_girderref03_further := 86, f_girderref03_great := 71, f_girderref03_nearer := 87, f_girderref03_nought := 72, f_girderref03_side := 74, f_girderref03_sign := 75, f_girderref03_up := 84, f_girderref10_Apply := 14, f_girderref10_At := 48, f_girderref10_Identity := 34, f_girderref10_Make := 33, f_girderref10_Mul := 12, f_girderref10_Norm := 41, f_girderref10_Right := 36, f_girderref10_Same := 37, f_girderref10_Sub := 40, f_girderref10_Symmetric := 38, f_girderref10_Transpose := 39, f_girderref10_may := 59, f_math_Abs := 67, f_math_Copysign := 42, f_math_Float64bits := 51, f_math_Float64frombits := 63, f_math_Inf := 43, f_math_IsInf := 79, f_math_IsNaN := 64, f_math_NaN := 44, f_math_Signbit := 73, f_matrix_Apply := 13, f_matrix_Identity := 21, f_matrix_Make := 32, f_matrix_Make_1 := 58, f_matrix_Mul := 11, f_matrix_Mul_1 := 47, f_matrix_Norm := 29, f_matrix_Norm_1 := 55, f_matrix_Right := 35, f_matrix_Same := 27, f_matrix_Sub := 22, f_matrix_Sub_1 := 50, f_matrix_Symmetric := 28, f_matrix_Transpose := 25, f_matrix_Transpose_1 := 52, f_matrix_fits := 57, f_matrix_laid := 46, f_round_Add := 66, f_round_finite := 77, f_round_none := 78, f_round_settle := 80, f_round_sign := 81, f_round_step := 85, f_round_way := 76, f_slices_ContainsFunc___float64_float64 := 54, f_slices_IndexFunc___float64_float64 := 65, f_vector_Norm := 56, f_vector_Same := 53 }

def tbl : List (Nat × TI) :=
  [(2, { d := .int .i64, size := 1, bytes := 8, zero := .int .i64 0 }),
   (3, { d := .int .i64, size := 1, bytes := 8, zero := .int .i64 0 }),
   (4, { d := .bool, size := 1, bytes := 1, zero := .bool false }),
   (22, { d := .slice 38, size := 1, bytes := 24, zero := .slice none 0 0 }),
   (24, { d := .struct [(3, 0), (3, 1), (22, 2)], size := 3, bytes := 40, zero := .agg #[.int .i64 0, .int .i64 0, .slice none 0 0] }),
   (27, { d := .int .i64, size := 1, bytes := 8, zero := .int .i64 0 }),
   (28, { d := .tuple [24, 27], size := 1, bytes := 0, zero := .tuple #[.agg #[.int .i64 0, .int .i64 0, .slice none 0 0], .int .i64 0] }),
   (30, { d := .tuple [22, 27], size := 1, bytes := 0, zero := .tuple #[.slice none 0 0, .int .i64 0] }),
   (38, { d := .float .f64, size := 1, bytes := 8, zero := .float .f64 0 }),
   (46, { d := .slice 4, size := 1, bytes := 24, zero := .slice none 0 0 }),
   (47, { d := .tuple [38, 27], size := 1, bytes := 0, zero := .tuple #[.float .f64 0, .int .i64 0] }),
   (58, { d := .func, size := 1, bytes := 8, zero := .nilFunc }),
   (60, { d := .int .u64, size := 1, bytes := 8, zero := .int .u64 0 }),
   (63, { d := .func, size := 1, bytes := 8, zero := .nilFunc }),
   (68, { d := .int .i8, size := 1, bytes := 1, zero := .int .i8 0 }),
   (80, { d := .tuple [4, 3, 60], size := 1, bytes := 0, zero := .tuple #[.bool false, .int .i64 0, .int .u64 0] })]

theorem row2 : TIOk Go.Proofs.Try.prog 2 { d := .int .i64, size := 1, bytes := 8, zero := .int .i64 0 } :=
  tiOk_mk (i := Go.Proofs.Try.t2) (d := Go.Proofs.Try.t2.desc) (by kernel_rfl) (by kernel_rfl) (by kernel_rfl) (by kernel_rfl) (by kernel_rfl) (by kernel_rfl)
theorem row3 : TIOk Go.Proofs.Try.prog 3 { d := .int .i64, size := 1, bytes := 8, zero := .int .i64 0 } :=
  tiOk_mk (i := Go.Proofs.Try.t3) (d := Go.Proofs.Try.t3.desc) (by kernel_rfl) (by kernel_rfl) (by kernel_rfl) (by kernel_rfl) (by kernel_rfl) (by kernel_rfl)
theorem row4 : TIOk Go.Proofs.Try.prog 4 { d := .bool, size := 1, bytes := 1, zero := .bool false } :=
  tiOk_mk (i := Go.Proofs.Try.t4) (d := Go.Proofs.Try.t4.desc) (by kernel_rfl) (by kernel_rfl) (by kernel_rfl) (by kernel_rfl) (by kernel_rfl) (by kernel_rfl)
theorem row22 : TIOk Go.Proofs.Try.prog 22 { d := .slice 38, size := 1, bytes := 24, zero := .slice none 0 0 } :=
  tiOk_mk (i := Go.Proofs.Try.t22) (d := Go.Proofs.Try.t22.desc) (by kernel_rfl) (by kernel_rfl) (by kernel_rfl) (by kernel_rfl) (by kernel_rfl) (by kernel_rfl)
theorem row24 : TIOk Go.Proofs.Try.prog 24 { d := .struct [(3, 0), (3, 1), (22, 2)], size := 3, bytes := 40, zero := .agg #[.int .i64 0, .int .i64 0, .slice none 0 0] } :=
  tiOk_mk (i := Go.Proofs.Try.t24) (d := Go.Proofs.Try.t23.desc) (by kernel_rfl) (by kernel_rfl) (by kernel_rfl) (by kernel_rfl) (by kernel_rfl) (by kernel_rfl)
theorem row27 : TIOk Go.Proofs.Try.prog 27 { d := .int .i64, size := 1, bytes := 8, zero := .int .i64 0 } :=
  tiOk_mk (i := Go.Proofs.Try.t27) (d := Go.Proofs.Try.t3.desc) (by kernel_rfl) (by kernel_rfl) (by kernel_rfl) (by kernel_rfl) (by kernel_rfl) (by kernel_rfl)
theorem row28 : TIOk Go.Proofs.Try.prog 28 { d := .tuple [24, 27], size := 1, bytes := 0, zero := .tuple #[.agg #[.int .i64 0, .int .i64 0, .slice none 0 0], .int .i64 0] } :=
  tiOk_mk (i := Go.Proofs.Try.t28) (d := Go.Proofs.Try.t28.desc) (by kernel_rfl) (by kernel_rfl) (by kernel_rfl) (by kernel_rfl) (by kernel_rfl) (by kernel_rfl)
theorem row30 : TIOk Go.Proofs.Try.prog 30 { d := .tuple [22, 27], size := 1, bytes := 0, zero := .tuple #[.slice none 0 0, .int .i64 0] } :=
  tiOk_mk (i := Go.Proofs.Try.t30) (d := Go.Proofs.Try.t30.desc) (by kernel_rfl) (by kernel_rfl) (by kernel_rfl) (by kernel_rfl) (by kernel_rfl) (by kernel_rfl)
theorem row38 : TIOk Go.Proofs.Try.prog 38 { d := .float .f64, size := 1, bytes := 8, zero := .float .f64 0 } :=
  tiOk_mk (i := Go.Proofs.Try.t38) (d := Go.Proofs.Try.t38.desc) (by kernel_rfl) (by kernel_rfl) (by kernel_rfl) (by kernel_rfl) (by kernel_rfl) (by kernel_rfl)
theorem row46 : TIOk Go.Proofs.Try.prog 46 { d := .slice 4, size := 1, bytes := 24, zero := .slice none 0 0 } :=
  tiOk_mk (i := Go.Proofs.Try.t46) (d := Go.Proofs.Try.t46.desc) (by kernel_rfl) (by kernel_rfl) (by kernel_rfl) (by kernel_rfl) (by kernel_rfl) (by kernel_rfl)
theorem row47 : TIOk Go.Proofs.Try.prog 47 { d := .tuple [38, 27], size := 1, bytes := 0, zero := .tuple #[.float .f64 0, .int .i64 0] } :=
  tiOk_mk (i := Go.Proofs.Try.t47) (d := Go.Proofs.Try.t47.desc) (by kernel_rfl) (by kernel_rfl) (by kernel_rfl) (by kernel_rfl) (by kernel_rfl) (by kernel_rfl)
theorem row58 : TIOk Go.Proofs.Try.prog 58 { d := .func, size := 1, bytes := 8, zero := .nilFunc } :=
  tiOk_mk (i := Go.Proofs.Try.t58) (d := Go.Proofs.Try.t58.desc) (by kernel_rfl) (by kernel_rfl) (by kernel_rfl) (by kernel_rfl) (by kernel_rfl) (by kernel_rfl)
theorem row60 : TIOk Go.Proofs.Try.prog 60 { d := .int .u64, size := 1, bytes := 8, zero := .int .u64 0 } :=
  tiOk_mk (i := Go.Proofs.Try.t60) (d := Go.Proofs.Try.t60.desc) (by kernel_rfl) (by kernel_rfl) (by kernel_rfl) (by kernel_rfl) (by kernel_rfl) (by kernel_rfl)
theorem row63 : TIOk Go.Proofs.Try.prog 63 { d := .func, size := 1, bytes := 8, zero := .nilFunc } :=
  tiOk_mk (i := Go.Proofs.Try.t63) (d := Go.Proofs.Try.t63.desc) (by kernel_rfl) (by kernel_rfl) (by kernel_rfl) (by kernel_rfl) (by kernel_rfl) (by kernel_rfl)
theorem row68 : TIOk Go.Proofs.Try.prog 68 { d := .int .i8, size := 1, bytes := 1, zero := .int .i8 0 } :=
  tiOk_mk (i := Go.Proofs.Try.t68) (d := Go.Proofs.Try.t67.desc) (by kernel_rfl) (by kernel_rfl) (by kernel_rfl) (by kernel_rfl) (by kernel_rfl) (by kernel_rfl)
theorem row80 : TIOk Go.Proofs.Try.prog 80 { d := .tuple [4, 3, 60], size := 1, bytes := 0, zero := .tuple #[.bool false, .int .i64 0, .int .u64 0] } :=
  tiOk_mk (i := Go.Proofs.Try.t80) (d := Go.Proofs.Try.t80.desc) (by kernel_rfl) (by kernel_rfl) (by kernel_rfl) (by kernel_rfl) (by kernel_rfl) (by kernel_rfl)

theorem tok : TOk Go.Proofs.Try.prog (look tbl) := tok_of_rows (l := tbl) ⟨row2, row3, row4, row22, row24, row27, row28, row30, row38, row46, row47, row58, row60, row63, row68, row80, True.intro⟩
theorem tsize : TSize (look tbl) := tsize_of (by kernel_rfl)
theorem mixed : Go.Proofs.Try.prog.follows .mixedOrders = true := by kernel_rfl

end Go.Eng
