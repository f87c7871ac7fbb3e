/-
  The types of this program, and the numbers of its types and functions. No condition.
-/
import Derived.Test.YtngioelenknhkaaTbl
import Derived.Test.YtngioelenknhkaaNm
import Derived.Test.YtngioelenknhkaaProg
import Derived.KernelRfl
set_option linter.unusedVariables false
set_option linter.unusedSimpArgs false
set_option linter.unnecessarySimpa false
set_option linter.unusedSectionVars false
set_option maxRecDepth 100000
namespace Go.Eng
open Go

def nums : Nums := { t_Errno := 30, t_L_float64 := 22, t_L_float64__Errno := 31, t_Mode := 50, t_bool := 4, t_float64 := 23, t_float64__Errno := 34, t_float64__int := 63, t_func_float64__float64__float64 := 51, t_int := 3, t_int64 := 2, t_int__float64 := 24, t_uint64 := 41, f_girderkit_Edge := 26, f_girderkit_Like := 32, f_girderkit_Pick := 31, f_girderkit_SameFloat := 11, f_girderkit_SameReals := 19, f_girderlaw09_VectorEven := 6, f_girderlaw09_VectorLimits := 5, f_girderlaw09_VectorSums := 4, f_girderlaw09_VectorTells := 3, f_girderlaw09_awake := 14, f_girderref03_Add := 36, f_girderref03_Finite := 54, f_girderref03_down := 61, f_girderref03_further := 63, f_girderref03_great := 55, f_girderref03_nearer := 64, f_girderref03_nought := 56, f_girderref03_side := 57, f_girderref03_sign := 58, f_girderref03_up := 62, f_girderref09_Add := 16, f_girderref09_Axpy := 21, f_girderref09_Dot := 23, f_girderref09_Fit := 41, f_girderref09_Most := 8, f_girderref09_Norm := 13, f_girderref09_Same := 10, f_girderref09_Scale := 25, f_girderref09_Sub := 18, f_math_Abs := 29, f_math_Copysign := 37, f_math_Float64bits := 33, f_math_Float64frombits := 28, f_math_Inf := 44, f_math_IsInf := 51, f_math_IsNaN := 34, f_math_Ldexp := 30, f_math_NaN := 27, f_math_Signbit := 49, f_math_ldexp := 46, f_math_normalize := 59, f_round_Add := 35, f_round_finite := 48, f_round_none := 50, f_round_settle := 52, f_round_sign := 53, f_round_step := 60, f_round_way := 47, f_vector_Add := 15, f_vector_Add_1 := 39, f_vector_Axpy := 20, f_vector_Axpy_1 := 42, f_vector_Dot := 22, f_vector_Most := 7, f_vector_Norm := 12, f_vector_Same := 9, f_vector_Scale := 24, f_vector_Sub := 17, f_vector_Sub_1 := 40, f_vector_each := 38, f_vector_fit := 43 }

def tbl : List (Nat × TI) :=
  [(2, { d := .int .i64, size := 1, bytes := 8, zero := .int .i64 0 }),
   (3, { d := .int .i64, size := 1, bytes := 8, zero := .int .i64 0 }),
   (4, { d := .bool, size := 1, bytes := 1, zero := .bool false }),
   (22, { d := .slice 23, size := 1, bytes := 24, zero := .slice none 0 0 }),
   (23, { d := .float .f64, size := 1, bytes := 8, zero := .float .f64 0 }),
   (24, { d := .tuple [3, 23], size := 1, bytes := 0, zero := .tuple #[.int .i64 0, .float .f64 0] }),
   (30, { d := .int .i64, size := 1, bytes := 8, zero := .int .i64 0 }),
   (31, { d := .tuple [22, 30], size := 1, bytes := 0, zero := .tuple #[.slice none 0 0, .int .i64 0] }),
   (34, { d := .tuple [23, 30], size := 1, bytes := 0, zero := .tuple #[.float .f64 0, .int .i64 0] }),
   (41, { d := .int .u64, size := 1, bytes := 8, zero := .int .u64 0 }),
   (50, { d := .int .i8, size := 1, bytes := 1, zero := .int .i8 0 }),
   (51, { d := .func, size := 1, bytes := 8, zero := .nilFunc }),
   (63, { d := .tuple [23, 3], size := 1, bytes := 0, zero := .tuple #[.float .f64 0, .int .i64 0] })]

theorem row2 : TIOk Go.Proofs.Try.prog 2 { d := .int .i64, size := 1, bytes := 8, zero := .int .i64 0 } :=
  tiOk_mk (i := Go.Proofs.Try.t2) (d := Go.Proofs.Try.t2.desc) (by kernel_rfl) (by kernel_rfl) (by kernel_rfl) (by kernel_rfl) (by kernel_rfl) (by kernel_rfl)
theorem row3 : TIOk Go.Proofs.Try.prog 3 { d := .int .i64, size := 1, bytes := 8, zero := .int .i64 0 } :=
  tiOk_mk (i := Go.Proofs.Try.t3) (d := Go.Proofs.Try.t3.desc) (by kernel_rfl) (by kernel_rfl) (by kernel_rfl) (by kernel_rfl) (by kernel_rfl) (by kernel_rfl)
theorem row4 : TIOk Go.Proofs.Try.prog 4 { d := .bool, size := 1, bytes := 1, zero := .bool false } :=
  tiOk_mk (i := Go.Proofs.Try.t4) (d := Go.Proofs.Try.t4.desc) (by kernel_rfl) (by kernel_rfl) (by kernel_rfl) (by kernel_rfl) (by kernel_rfl) (by kernel_rfl)
theorem row22 : TIOk Go.Proofs.Try.prog 22 { d := .slice 23, size := 1, bytes := 24, zero := .slice none 0 0 } :=
  tiOk_mk (i := Go.Proofs.Try.t22) (d := Go.Proofs.Try.t22.desc) (by kernel_rfl) (by kernel_rfl) (by kernel_rfl) (by kernel_rfl) (by kernel_rfl) (by kernel_rfl)
theorem row23 : TIOk Go.Proofs.Try.prog 23 { d := .float .f64, size := 1, bytes := 8, zero := .float .f64 0 } :=
  tiOk_mk (i := Go.Proofs.Try.t23) (d := Go.Proofs.Try.t23.desc) (by kernel_rfl) (by kernel_rfl) (by kernel_rfl) (by kernel_rfl) (by kernel_rfl) (by kernel_rfl)
theorem row24 : TIOk Go.Proofs.Try.prog 24 { d := .tuple [3, 23], size := 1, bytes := 0, zero := .tuple #[.int .i64 0, .float .f64 0] } :=
  tiOk_mk (i := Go.Proofs.Try.t24) (d := Go.Proofs.Try.t24.desc) (by kernel_rfl) (by kernel_rfl) (by kernel_rfl) (by kernel_rfl) (by kernel_rfl) (by kernel_rfl)
theorem row30 : TIOk Go.Proofs.Try.prog 30 { d := .int .i64, size := 1, bytes := 8, zero := .int .i64 0 } :=
  tiOk_mk (i := Go.Proofs.Try.t30) (d := Go.Proofs.Try.t3.desc) (by kernel_rfl) (by kernel_rfl) (by kernel_rfl) (by kernel_rfl) (by kernel_rfl) (by kernel_rfl)
theorem row31 : TIOk Go.Proofs.Try.prog 31 { d := .tuple [22, 30], size := 1, bytes := 0, zero := .tuple #[.slice none 0 0, .int .i64 0] } :=
  tiOk_mk (i := Go.Proofs.Try.t31) (d := Go.Proofs.Try.t31.desc) (by kernel_rfl) (by kernel_rfl) (by kernel_rfl) (by kernel_rfl) (by kernel_rfl) (by kernel_rfl)
theorem row34 : TIOk Go.Proofs.Try.prog 34 { d := .tuple [23, 30], size := 1, bytes := 0, zero := .tuple #[.float .f64 0, .int .i64 0] } :=
  tiOk_mk (i := Go.Proofs.Try.t34) (d := Go.Proofs.Try.t34.desc) (by kernel_rfl) (by kernel_rfl) (by kernel_rfl) (by kernel_rfl) (by kernel_rfl) (by kernel_rfl)
theorem row41 : TIOk Go.Proofs.Try.prog 41 { d := .int .u64, size := 1, bytes := 8, zero := .int .u64 0 } :=
  tiOk_mk (i := Go.Proofs.Try.t41) (d := Go.Proofs.Try.t41.desc) (by kernel_rfl) (by kernel_rfl) (by kernel_rfl) (by kernel_rfl) (by kernel_rfl) (by kernel_rfl)
theorem row50 : TIOk Go.Proofs.Try.prog 50 { d := .int .i8, size := 1, bytes := 1, zero := .int .i8 0 } :=
  tiOk_mk (i := Go.Proofs.Try.t50) (d := Go.Proofs.Try.t49.desc) (by kernel_rfl) (by kernel_rfl) (by kernel_rfl) (by kernel_rfl) (by kernel_rfl) (by kernel_rfl)
theorem row51 : TIOk Go.Proofs.Try.prog 51 { d := .func, size := 1, bytes := 8, zero := .nilFunc } :=
  tiOk_mk (i := Go.Proofs.Try.t51) (d := Go.Proofs.Try.t51.desc) (by kernel_rfl) (by kernel_rfl) (by kernel_rfl) (by kernel_rfl) (by kernel_rfl) (by kernel_rfl)
theorem row63 : TIOk Go.Proofs.Try.prog 63 { d := .tuple [23, 3], size := 1, bytes := 0, zero := .tuple #[.float .f64 0, .int .i64 0] } :=
  tiOk_mk (i := Go.Proofs.Try.t63) (d := Go.Proofs.Try.t63.desc) (by kernel_rfl) (by kernel_rfl) (by kernel_rfl) (by kernel_rfl) (by kernel_rfl) (by kernel_rfl)

theorem tok : TOk Go.Proofs.Try.prog (look tbl) := tok_of_rows (l := tbl) ⟨row2, row3, row4, row22, row23, row24, row30, row31, row34, row41, row50, row51, row63, True.intro⟩
theorem tsize : TSize (look tbl) := tsize_of (by kernel_rfl)
theorem mixed : Go.Proofs.Try.prog.follows .mixedOrders = true := by kernel_rfl

end Go.Eng
