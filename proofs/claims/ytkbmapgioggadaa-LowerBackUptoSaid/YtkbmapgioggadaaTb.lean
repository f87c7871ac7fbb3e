/-
  The types of this program, and the numbers of its types and functions. No condition.
-/
import Derived.Test.YtkbmapgioggadaaTbl
import Derived.Test.YtkbmapgioggadaaNm
import Derived.Test.YtkbmapgioggadaaProg
import Derived.KernelRfl
set_option linter.unusedVariables false
set_option linter.unusedSimpArgs false
set_option linter.unnecessarySimpa false
set_option linter.unusedSectionVars false
set_option maxRecDepth 100000
namespace Go.Eng
open Go

def nums : Nums := { t_Errno := 27, t_Factor := 26, t_Factor__Errno__int := 28, t_L_L_float64 := 44, t_L_float64 := 22, t_L_int := 45, t_Matrix := 24, t_Matrix__Errno := 34, t_bool := 4, t_bool__int__uint64 := 71, t_float64 := 38, t_float64__int := 67, t_func_int__int__float64 := 66, t_int := 3, t_uint64 := 42, f_girderkit_CopyFactor := 28, f_girderkit_CopyMatrix := 25, f_girderkit_CopyReals := 26, f_girderkit_Pick := 24, f_girderkit_SameFactor := 10, f_girderkit_SameFloat := 40, f_girderkit_SameMatrix := 17, f_girderkit_SameReals := 27, f_girderlaw12_LowerBack := 7, f_girderlaw12_LowerFactors := 3, f_girderlaw12_LowerNumbers := 5, f_girderlaw12_LowerScaled := 6, f_girderlaw12_LowerTimes := 4, f_girderlaw12_awake := 12, f_girderlaw12_even := 22, f_girderlaw12_mirrored := 11, f_girderref01_Kind := 57, f_girderref01_Nan := 56, f_girderref01_Same := 46, f_girderref01_fields := 58, f_girderref03_Finite := 33, f_girderref10_At := 47, f_girderref10_Right := 45, f_girderref10_Symmetric := 32, f_girderref10_may := 55, f_girderref12_At := 34, f_girderref12_Factor := 9, f_girderref12_Right := 16, f_girderref12_Times := 14, f_lower_Factor := 8, f_lower_Right := 15, f_lower_Times := 13, f_lower_finite := 30, f_lower_row := 31, f_math_Abs := 37, f_math_Copysign := 18, f_math_Float64bits := 36, f_math_Float64frombits := 20, f_math_Inf := 21, f_math_IsInf := 44, f_math_IsNaN := 43, f_math_Ldexp := 23, f_math_NaN := 19, f_math_ldexp := 39, f_math_normalize := 51, f_matrix_Make := 35, f_matrix_Make_1 := 50, f_matrix_Right := 52, f_matrix_Same := 42, f_matrix_Symmetric := 29, f_matrix_Transpose := 41, f_matrix_Transpose_1 := 53, f_matrix_fits := 48, f_matrix_laid := 49, f_vector_Same := 54 }

def tbl : List (Nat × TI) :=
  [(3, { d := .int .i64, size := 1, bytes := 8, zero := .int .i64 0 }),
   (4, { d := .bool, size := 1, bytes := 1, zero := .bool false }),
   (22, { d := .slice 38, size := 1, bytes := 24, zero := .slice none 0 0 }),
   (24, { d := .struct [(3, 0), (3, 1), (22, 2)], size := 3, bytes := 40, zero := .agg #[.int .i64 0, .int .i64 0, .slice none 0 0] }),
   (26, { d := .struct [(3, 0), (22, 1), (22, 2)], size := 3, bytes := 56, zero := .agg #[.int .i64 0, .slice none 0 0, .slice none 0 0] }),
   (27, { d := .int .i64, size := 1, bytes := 8, zero := .int .i64 0 }),
   (28, { d := .tuple [26, 27, 3], size := 1, bytes := 0, zero := .tuple #[.agg #[.int .i64 0, .slice none 0 0, .slice none 0 0], .int .i64 0, .int .i64 0] }),
   (34, { d := .tuple [24, 27], size := 1, bytes := 0, zero := .tuple #[.agg #[.int .i64 0, .int .i64 0, .slice none 0 0], .int .i64 0] }),
   (38, { d := .float .f64, size := 1, bytes := 8, zero := .float .f64 0 }),
   (42, { d := .int .u64, size := 1, bytes := 8, zero := .int .u64 0 }),
   (44, { d := .slice 22, size := 1, bytes := 24, zero := .slice none 0 0 }),
   (45, { d := .slice 3, size := 1, bytes := 24, zero := .slice none 0 0 }),
   (66, { d := .func, size := 1, bytes := 8, zero := .nilFunc }),
   (67, { d := .tuple [38, 3], size := 1, bytes := 0, zero := .tuple #[.float .f64 0, .int .i64 0] }),
   (71, { d := .tuple [4, 3, 42], size := 1, bytes := 0, zero := .tuple #[.bool false, .int .i64 0, .int .u64 0] })]

theorem row3 : TIOk Go.Proofs.Try.prog 3 { d := .int .i64, size := 1, bytes := 8, zero := .int .i64 0 } :=
  tiOk_mk (i := Go.Proofs.Try.t3) (d := Go.Proofs.Try.t3.desc) (by kernel_rfl) (by kernel_rfl) (by kernel_rfl) (by kernel_rfl) (by kernel_rfl) (by kernel_rfl)
theorem row4 : TIOk Go.Proofs.Try.prog 4 { d := .bool, size := 1, bytes := 1, zero := .bool false } :=
  tiOk_mk (i := Go.Proofs.Try.t4) (d := Go.Proofs.Try.t4.desc) (by kernel_rfl) (by kernel_rfl) (by kernel_rfl) (by kernel_rfl) (by kernel_rfl) (by kernel_rfl)
theorem row22 : TIOk Go.Proofs.Try.prog 22 { d := .slice 38, size := 1, bytes := 24, zero := .slice none 0 0 } :=
  tiOk_mk (i := Go.Proofs.Try.t22) (d := Go.Proofs.Try.t22.desc) (by kernel_rfl) (by kernel_rfl) (by kernel_rfl) (by kernel_rfl) (by kernel_rfl) (by kernel_rfl)
theorem row24 : TIOk Go.Proofs.Try.prog 24 { d := .struct [(3, 0), (3, 1), (22, 2)], size := 3, bytes := 40, zero := .agg #[.int .i64 0, .int .i64 0, .slice none 0 0] } :=
  tiOk_mk (i := Go.Proofs.Try.t24) (d := Go.Proofs.Try.t23.desc) (by kernel_rfl) (by kernel_rfl) (by kernel_rfl) (by kernel_rfl) (by kernel_rfl) (by kernel_rfl)
theorem row26 : TIOk Go.Proofs.Try.prog 26 { d := .struct [(3, 0), (22, 1), (22, 2)], size := 3, bytes := 56, zero := .agg #[.int .i64 0, .slice none 0 0, .slice none 0 0] } :=
  tiOk_mk (i := Go.Proofs.Try.t26) (d := Go.Proofs.Try.t25.desc) (by kernel_rfl) (by kernel_rfl) (by kernel_rfl) (by kernel_rfl) (by kernel_rfl) (by kernel_rfl)
theorem row27 : TIOk Go.Proofs.Try.prog 27 { d := .int .i64, size := 1, bytes := 8, zero := .int .i64 0 } :=
  tiOk_mk (i := Go.Proofs.Try.t27) (d := Go.Proofs.Try.t3.desc) (by kernel_rfl) (by kernel_rfl) (by kernel_rfl) (by kernel_rfl) (by kernel_rfl) (by kernel_rfl)
theorem row28 : TIOk Go.Proofs.Try.prog 28 { d := .tuple [26, 27, 3], size := 1, bytes := 0, zero := .tuple #[.agg #[.int .i64 0, .slice none 0 0, .slice none 0 0], .int .i64 0, .int .i64 0] } :=
  tiOk_mk (i := Go.Proofs.Try.t28) (d := Go.Proofs.Try.t28.desc) (by kernel_rfl) (by kernel_rfl) (by kernel_rfl) (by kernel_rfl) (by kernel_rfl) (by kernel_rfl)
theorem row34 : TIOk Go.Proofs.Try.prog 34 { d := .tuple [24, 27], size := 1, bytes := 0, zero := .tuple #[.agg #[.int .i64 0, .int .i64 0, .slice none 0 0], .int .i64 0] } :=
  tiOk_mk (i := Go.Proofs.Try.t34) (d := Go.Proofs.Try.t34.desc) (by kernel_rfl) (by kernel_rfl) (by kernel_rfl) (by kernel_rfl) (by kernel_rfl) (by kernel_rfl)
theorem row38 : TIOk Go.Proofs.Try.prog 38 { d := .float .f64, size := 1, bytes := 8, zero := .float .f64 0 } :=
  tiOk_mk (i := Go.Proofs.Try.t38) (d := Go.Proofs.Try.t38.desc) (by kernel_rfl) (by kernel_rfl) (by kernel_rfl) (by kernel_rfl) (by kernel_rfl) (by kernel_rfl)
theorem row42 : TIOk Go.Proofs.Try.prog 42 { d := .int .u64, size := 1, bytes := 8, zero := .int .u64 0 } :=
  tiOk_mk (i := Go.Proofs.Try.t42) (d := Go.Proofs.Try.t42.desc) (by kernel_rfl) (by kernel_rfl) (by kernel_rfl) (by kernel_rfl) (by kernel_rfl) (by kernel_rfl)
theorem row44 : TIOk Go.Proofs.Try.prog 44 { d := .slice 22, size := 1, bytes := 24, zero := .slice none 0 0 } :=
  tiOk_mk (i := Go.Proofs.Try.t44) (d := Go.Proofs.Try.t44.desc) (by kernel_rfl) (by kernel_rfl) (by kernel_rfl) (by kernel_rfl) (by kernel_rfl) (by kernel_rfl)
theorem row45 : TIOk Go.Proofs.Try.prog 45 { d := .slice 3, size := 1, bytes := 24, zero := .slice none 0 0 } :=
  tiOk_mk (i := Go.Proofs.Try.t45) (d := Go.Proofs.Try.t45.desc) (by kernel_rfl) (by kernel_rfl) (by kernel_rfl) (by kernel_rfl) (by kernel_rfl) (by kernel_rfl)
theorem row66 : TIOk Go.Proofs.Try.prog 66 { d := .func, size := 1, bytes := 8, zero := .nilFunc } :=
  tiOk_mk (i := Go.Proofs.Try.t66) (d := Go.Proofs.Try.t66.desc) (by kernel_rfl) (by kernel_rfl) (by kernel_rfl) (by kernel_rfl) (by kernel_rfl) (by kernel_rfl)
theorem row67 : TIOk Go.Proofs.Try.prog 67 { d := .tuple [38, 3], size := 1, bytes := 0, zero := .tuple #[.float .f64 0, .int .i64 0] } :=
  tiOk_mk (i := Go.Proofs.Try.t67) (d := Go.Proofs.Try.t67.desc) (by kernel_rfl) (by kernel_rfl) (by kernel_rfl) (by kernel_rfl) (by kernel_rfl) (by kernel_rfl)
theorem row71 : TIOk Go.Proofs.Try.prog 71 { d := .tuple [4, 3, 42], size := 1, bytes := 0, zero := .tuple #[.bool false, .int .i64 0, .int .u64 0] } :=
  tiOk_mk (i := Go.Proofs.Try.t71) (d := Go.Proofs.Try.t71.desc) (by kernel_rfl) (by kernel_rfl) (by kernel_rfl) (by kernel_rfl) (by kernel_rfl) (by kernel_rfl)

theorem tok : TOk Go.Proofs.Try.prog (look tbl) := tok_of_rows (l := tbl) ⟨row3, row4, row22, row24, row26, row27, row28, row34, row38, row42, row44, row45, row66, row67, row71, True.intro⟩
theorem tsize : TSize (look tbl) := tsize_of (by kernel_rfl)
theorem mixed : Go.Proofs.Try.prog.follows .mixedOrders = true := by kernel_rfl

end Go.Eng
