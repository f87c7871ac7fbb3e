/-
  The types of this program, and the numbers of its types and functions. No condition.
-/
import Derived.Test.YtdephdnkkljfeaaDoorTbl
import Derived.Test.YtdephdnkkljfeaaDoorNm
import Derived.Test.YtdephdnkkljfeaaDoorProg
import Derived.KernelRfl
set_option linter.all false
set_option maxRecDepth 100000
namespace Go.Eng
open Go
def nums : Nums := { t_64_uint8 := 131, t_Dyad := 42, t_Dyad__Errno := 46, t_Errno := 29, t_L_float64 := 22, t_L_float64__Errno := 64, t_L_uint32 := 106, t_L_uint64 := 40, t_Mode := 72, t_Parts := 80, t_Parts__bool := 81, t_bn_Int := 108, t_bool := 4, t_bool__L_uint32 := 116, t_float64 := 33, t_float64__Errno := 66, t_float64__int := 110, t_func_float64__float64__float64 := 69, t_int := 3, t_int64 := 2, t_int__Errno := 50, t_int__float64 := 38, t_p_bn_Int := 74, t_string := 9, t_uint := 88, t_uint32 := 128, t_uint64 := 77, t_uint8 := 5, f_bn_NewInt := 40, f_bn_add := 97, f_bn_bit := 93, f_bn_cmp := 85, f_bn_left := 83, f_bn_length := 94, f_bn_mul := 91, f_bn_right := 98, f_bn_sub := 99, f_bn_sum := 82, f_bn_trim := 108, f_bn_twin := 100, f_bn_words := 101, f_bits_Kind := 74, f_bits_Split := 43, f_dyad_Add := 19, f_dyad_Cmp := 21, f_dyad_Int := 14, f_dyad_Of := 18, f_dyad_Right := 49, f_dyad_Scale := 20, f_dyad_Sign := 50, f_dyad_both := 44, f_dyad_limbs := 70, f_dyad_made := 39, f_dyad_top := 51, f_dyad_whole := 45, f_k_Finite := 16, f_k_SameFloat := 62, f_k_SameReals := 35, f_w09_VectorNorm := 4, f_w09_awake := 11, f_math_Abs := 15, f_math_Copysign := 37, f_math_Float64bits := 42, f_math_Float64frombits := 41, f_math_Frexp := 75, f_math_Inf := 110, f_math_IsInf := 9, f_math_IsNaN := 56, f_math_Ldexp := 76, f_math_Signbit := 17, f_math_bits_Len64 := 84, f_math_bits_TrailingZeros64 := 77, f_math_frexp := 103, f_math_ldexp := 105, f_math_normalize := 109, f_bI_Abs := 72, f_bI_Add := 47, f_bI_And := 95, f_bI_BitLen := 69, f_bI_Cmp := 52, f_bI_Lsh := 48, f_bI_Mul := 58, f_bI_Neg := 80, f_bI_Or := 78, f_bI_Rsh := 71, f_bI_SetInt64 := 73, f_bI_SetUint64 := 79, f_bI_Sign := 46, f_bI_TrailingZeroBits := 68, f_bI_Uint64 := 96, f_bI_give := 81, f_bI_low := 106, f_bI_of := 107, f_round_Add := 38, f_round_finite := 64, f_round_none := 65, f_round_settle := 66, f_round_sign := 67, f_round_step := 92, f_round_way := 63, f_vector_Axpy := 33, f_vector_Axpy_1 := 60, f_vector_Dot := 34, f_vector_Most := 13, f_vector_Norm := 12, f_vector_Same := 36, f_vector_each := 59, f_vector_fit := 61, g_1 := 1 }
def tbl : List (Nat × TI) :=
  [(2, { d := .int .i64, size := 1, bytes := 8, zero := .int .i64 0 }),
   (3, { d := .int .i64, size := 1, bytes := 8, zero := .int .i64 0 }),
   (4, { d := .bool, size := 1, bytes := 1, zero := .bool false }),
   (5, { d := .int .u8, size := 1, bytes := 1, zero := .int .u8 0 }),
   (9, { d := .string, size := 1, bytes := 16, zero := .string ByteArray.empty }),
   (22, { d := .slice 33, size := 1, bytes := 24, zero := .slice none 0 0 }),
   (29, { d := .int .i64, size := 1, bytes := 8, zero := .int .i64 0 }),
   (33, { d := .float .f64, size := 1, bytes := 8, zero := .float .f64 0 }),
   (38, { d := .tuple [3, 33], size := 1, bytes := 0, zero := .tuple #[.int .i64 0, .float .f64 0] }),
   (40, { d := .slice 77, size := 1, bytes := 24, zero := .slice none 0 0 }),
   (42, { d := .struct [(4, 0), (40, 1), (3, 2)], size := 3, bytes := 40, zero := .agg #[.bool false, .slice none 0 0, .int .i64 0] }),
   (46, { d := .tuple [42, 29], size := 1, bytes := 0, zero := .tuple #[.agg #[.bool false, .slice none 0 0, .int .i64 0], .int .i64 0] }),
   (50, { d := .tuple [3, 29], size := 1, bytes := 0, zero := .tuple #[.int .i64 0, .int .i64 0] }),
   (64, { d := .tuple [22, 29], size := 1, bytes := 0, zero := .tuple #[.slice none 0 0, .int .i64 0] }),
   (66, { d := .tuple [33, 29], size := 1, bytes := 0, zero := .tuple #[.float .f64 0, .int .i64 0] }),
   (69, { d := .func, size := 1, bytes := 8, zero := .nilFunc }),
   (72, { d := .int .i8, size := 1, bytes := 1, zero := .int .i8 0 }),
   (74, { d := .ptr 108, size := 1, bytes := 8, zero := .pointer none }),
   (77, { d := .int .u64, size := 1, bytes := 8, zero := .int .u64 0 }),
   (80, { d := .struct [(4, 0), (77, 1), (3, 2)], size := 3, bytes := 24, zero := .agg #[.bool false, .int .u64 0, .int .i64 0] }),
   (81, { d := .tuple [80, 4], size := 1, bytes := 0, zero := .tuple #[.agg #[.bool false, .int .u64 0, .int .i64 0], .bool false] }),
   (88, { d := .int .u64, size := 1, bytes := 8, zero := .int .u64 0 }),
   (106, { d := .slice 128, size := 1, bytes := 24, zero := .slice none 0 0 }),
   (108, { d := .struct [(4, 0), (106, 1)], size := 2, bytes := 32, zero := .agg #[.bool false, .slice none 0 0] }),
   (110, { d := .tuple [33, 3], size := 1, bytes := 0, zero := .tuple #[.float .f64 0, .int .i64 0] }),
   (116, { d := .tuple [4, 106], size := 1, bytes := 0, zero := .tuple #[.bool false, .slice none 0 0] }),
   (128, { d := .int .u32, size := 1, bytes := 4, zero := .int .u32 0 }),
   (131, { d := .array 64 5, size := 64, bytes := 64, zero := .agg #[.int .u8 0, .int .u8 0, .int .u8 0, .int .u8 0, .int .u8 0, .int .u8 0, .int .u8 0, .int .u8 0, .int .u8 0, .int .u8 0, .int .u8 0, .int .u8 0, .int .u8 0, .int .u8 0, .int .u8 0, .int .u8 0, .int .u8 0, .int .u8 0, .int .u8 0, .int .u8 0, .int .u8 0, .int .u8 0, .int .u8 0, .int .u8 0, .int .u8 0, .int .u8 0, .int .u8 0, .int .u8 0, .int .u8 0, .int .u8 0, .int .u8 0, .int .u8 0, .int .u8 0, .int .u8 0, .int .u8 0, .int .u8 0, .int .u8 0, .int .u8 0, .int .u8 0, .int .u8 0, .int .u8 0, .int .u8 0, .int .u8 0, .int .u8 0, .int .u8 0, .int .u8 0, .int .u8 0, .int .u8 0, .int .u8 0, .int .u8 0, .int .u8 0, .int .u8 0, .int .u8 0, .int .u8 0, .int .u8 0, .int .u8 0, .int .u8 0, .int .u8 0, .int .u8 0, .int .u8 0, .int .u8 0, .int .u8 0, .int .u8 0, .int .u8 0] })]
theorem row2 : TIOk Go.Proofs.Tryd.prog 2 { d := .int .i64, size := 1, bytes := 8, zero := .int .i64 0 } :=
  tiOk_mk (i := Go.Proofs.Tryd.t2) (d := Go.Proofs.Tryd.t2.desc) (by kernel_rfl) (by kernel_rfl) (by kernel_rfl) (by kernel_rfl) (by kernel_rfl) (by kernel_rfl)
theorem row3 : TIOk Go.Proofs.Tryd.prog 3 { d := .int .i64, size := 1, bytes := 8, zero := .int .i64 0 } :=
  tiOk_mk (i := Go.Proofs.Tryd.t3) (d := Go.Proofs.Tryd.t3.desc) (by kernel_rfl) (by kernel_rfl) (by kernel_rfl) (by kernel_rfl) (by kernel_rfl) (by kernel_rfl)
theorem row4 : TIOk Go.Proofs.Tryd.prog 4 { d := .bool, size := 1, bytes := 1, zero := .bool false } :=
  tiOk_mk (i := Go.Proofs.Tryd.t4) (d := Go.Proofs.Tryd.t4.desc) (by kernel_rfl) (by kernel_rfl) (by kernel_rfl) (by kernel_rfl) (by kernel_rfl) (by kernel_rfl)
theorem row5 : TIOk Go.Proofs.Tryd.prog 5 { d := .int .u8, size := 1, bytes := 1, zero := .int .u8 0 } :=
  tiOk_mk (i := Go.Proofs.Tryd.t5) (d := Go.Proofs.Tryd.t5.desc) (by kernel_rfl) (by kernel_rfl) (by kernel_rfl) (by kernel_rfl) (by kernel_rfl) (by kernel_rfl)
theorem row9 : TIOk Go.Proofs.Tryd.prog 9 { d := .string, size := 1, bytes := 16, zero := .string ByteArray.empty } :=
  tiOk_mk (i := Go.Proofs.Tryd.t9) (d := Go.Proofs.Tryd.t9.desc) (by kernel_rfl) (by kernel_rfl) (by kernel_rfl) (by kernel_rfl) (by kernel_rfl) (by kernel_rfl)
theorem row22 : TIOk Go.Proofs.Tryd.prog 22 { d := .slice 33, size := 1, bytes := 24, zero := .slice none 0 0 } :=
  tiOk_mk (i := Go.Proofs.Tryd.t22) (d := Go.Proofs.Tryd.t22.desc) (by kernel_rfl) (by kernel_rfl) (by kernel_rfl) (by kernel_rfl) (by kernel_rfl) (by kernel_rfl)
theorem row29 : TIOk Go.Proofs.Tryd.prog 29 { d := .int .i64, size := 1, bytes := 8, zero := .int .i64 0 } :=
  tiOk_mk (i := Go.Proofs.Tryd.t29) (d := Go.Proofs.Tryd.t3.desc) (by kernel_rfl) (by kernel_rfl) (by kernel_rfl) (by kernel_rfl) (by kernel_rfl) (by kernel_rfl)
theorem row33 : TIOk Go.Proofs.Tryd.prog 33 { d := .float .f64, size := 1, bytes := 8, zero := .float .f64 0 } :=
  tiOk_mk (i := Go.Proofs.Tryd.t33) (d := Go.Proofs.Tryd.t33.desc) (by kernel_rfl) (by kernel_rfl) (by kernel_rfl) (by kernel_rfl) (by kernel_rfl) (by kernel_rfl)
theorem row38 : TIOk Go.Proofs.Tryd.prog 38 { d := .tuple [3, 33], size := 1, bytes := 0, zero := .tuple #[.int .i64 0, .float .f64 0] } :=
  tiOk_mk (i := Go.Proofs.Tryd.t38) (d := Go.Proofs.Tryd.t38.desc) (by kernel_rfl) (by kernel_rfl) (by kernel_rfl) (by kernel_rfl) (by kernel_rfl) (by kernel_rfl)
theorem row40 : TIOk Go.Proofs.Tryd.prog 40 { d := .slice 77, size := 1, bytes := 24, zero := .slice none 0 0 } :=
  tiOk_mk (i := Go.Proofs.Tryd.t40) (d := Go.Proofs.Tryd.t40.desc) (by kernel_rfl) (by kernel_rfl) (by kernel_rfl) (by kernel_rfl) (by kernel_rfl) (by kernel_rfl)
theorem row42 : TIOk Go.Proofs.Tryd.prog 42 { d := .struct [(4, 0), (40, 1), (3, 2)], size := 3, bytes := 40, zero := .agg #[.bool false, .slice none 0 0, .int .i64 0] } :=
  tiOk_mk (i := Go.Proofs.Tryd.t42) (d := Go.Proofs.Tryd.t41.desc) (by kernel_rfl) (by kernel_rfl) (by kernel_rfl) (by kernel_rfl) (by kernel_rfl) (by kernel_rfl)
theorem row46 : TIOk Go.Proofs.Tryd.prog 46 { d := .tuple [42, 29], size := 1, bytes := 0, zero := .tuple #[.agg #[.bool false, .slice none 0 0, .int .i64 0], .int .i64 0] } :=
  tiOk_mk (i := Go.Proofs.Tryd.t46) (d := Go.Proofs.Tryd.t46.desc) (by kernel_rfl) (by kernel_rfl) (by kernel_rfl) (by kernel_rfl) (by kernel_rfl) (by kernel_rfl)
theorem row50 : TIOk Go.Proofs.Tryd.prog 50 { d := .tuple [3, 29], size := 1, bytes := 0, zero := .tuple #[.int .i64 0, .int .i64 0] } :=
  tiOk_mk (i := Go.Proofs.Tryd.t50) (d := Go.Proofs.Tryd.t50.desc) (by kernel_rfl) (by kernel_rfl) (by kernel_rfl) (by kernel_rfl) (by kernel_rfl) (by kernel_rfl)
theorem row64 : TIOk Go.Proofs.Tryd.prog 64 { d := .tuple [22, 29], size := 1, bytes := 0, zero := .tuple #[.slice none 0 0, .int .i64 0] } :=
  tiOk_mk (i := Go.Proofs.Tryd.t64) (d := Go.Proofs.Tryd.t64.desc) (by kernel_rfl) (by kernel_rfl) (by kernel_rfl) (by kernel_rfl) (by kernel_rfl) (by kernel_rfl)
theorem row66 : TIOk Go.Proofs.Tryd.prog 66 { d := .tuple [33, 29], size := 1, bytes := 0, zero := .tuple #[.float .f64 0, .int .i64 0] } :=
  tiOk_mk (i := Go.Proofs.Tryd.t66) (d := Go.Proofs.Tryd.t66.desc) (by kernel_rfl) (by kernel_rfl) (by kernel_rfl) (by kernel_rfl) (by kernel_rfl) (by kernel_rfl)
theorem row69 : TIOk Go.Proofs.Tryd.prog 69 { d := .func, size := 1, bytes := 8, zero := .nilFunc } :=
  tiOk_mk (i := Go.Proofs.Tryd.t69) (d := Go.Proofs.Tryd.t69.desc) (by kernel_rfl) (by kernel_rfl) (by kernel_rfl) (by kernel_rfl) (by kernel_rfl) (by kernel_rfl)
theorem row72 : TIOk Go.Proofs.Tryd.prog 72 { d := .int .i8, size := 1, bytes := 1, zero := .int .i8 0 } :=
  tiOk_mk (i := Go.Proofs.Tryd.t72) (d := Go.Proofs.Tryd.t71.desc) (by kernel_rfl) (by kernel_rfl) (by kernel_rfl) (by kernel_rfl) (by kernel_rfl) (by kernel_rfl)
theorem row74 : TIOk Go.Proofs.Tryd.prog 74 { d := .ptr 108, size := 1, bytes := 8, zero := .pointer none } :=
  tiOk_mk (i := Go.Proofs.Tryd.t74) (d := Go.Proofs.Tryd.t74.desc) (by kernel_rfl) (by kernel_rfl) (by kernel_rfl) (by kernel_rfl) (by kernel_rfl) (by kernel_rfl)
theorem row77 : TIOk Go.Proofs.Tryd.prog 77 { d := .int .u64, size := 1, bytes := 8, zero := .int .u64 0 } :=
  tiOk_mk (i := Go.Proofs.Tryd.t77) (d := Go.Proofs.Tryd.t77.desc) (by kernel_rfl) (by kernel_rfl) (by kernel_rfl) (by kernel_rfl) (by kernel_rfl) (by kernel_rfl)
theorem row80 : TIOk Go.Proofs.Tryd.prog 80 { d := .struct [(4, 0), (77, 1), (3, 2)], size := 3, bytes := 24, zero := .agg #[.bool false, .int .u64 0, .int .i64 0] } :=
  tiOk_mk (i := Go.Proofs.Tryd.t80) (d := Go.Proofs.Tryd.t79.desc) (by kernel_rfl) (by kernel_rfl) (by kernel_rfl) (by kernel_rfl) (by kernel_rfl) (by kernel_rfl)
theorem row81 : TIOk Go.Proofs.Tryd.prog 81 { d := .tuple [80, 4], size := 1, bytes := 0, zero := .tuple #[.agg #[.bool false, .int .u64 0, .int .i64 0], .bool false] } :=
  tiOk_mk (i := Go.Proofs.Tryd.t81) (d := Go.Proofs.Tryd.t81.desc) (by kernel_rfl) (by kernel_rfl) (by kernel_rfl) (by kernel_rfl) (by kernel_rfl) (by kernel_rfl)
theorem row88 : TIOk Go.Proofs.Tryd.prog 88 { d := .int .u64, size := 1, bytes := 8, zero := .int .u64 0 } :=
  tiOk_mk (i := Go.Proofs.Tryd.t88) (d := Go.Proofs.Tryd.t88.desc) (by kernel_rfl) (by kernel_rfl) (by kernel_rfl) (by kernel_rfl) (by kernel_rfl) (by kernel_rfl)
theorem row106 : TIOk Go.Proofs.Tryd.prog 106 { d := .slice 128, size := 1, bytes := 24, zero := .slice none 0 0 } :=
  tiOk_mk (i := Go.Proofs.Tryd.t106) (d := Go.Proofs.Tryd.t106.desc) (by kernel_rfl) (by kernel_rfl) (by kernel_rfl) (by kernel_rfl) (by kernel_rfl) (by kernel_rfl)
theorem row108 : TIOk Go.Proofs.Tryd.prog 108 { d := .struct [(4, 0), (106, 1)], size := 2, bytes := 32, zero := .agg #[.bool false, .slice none 0 0] } :=
  tiOk_mk (i := Go.Proofs.Tryd.t108) (d := Go.Proofs.Tryd.t107.desc) (by kernel_rfl) (by kernel_rfl) (by kernel_rfl) (by kernel_rfl) (by kernel_rfl) (by kernel_rfl)
theorem row110 : TIOk Go.Proofs.Tryd.prog 110 { d := .tuple [33, 3], size := 1, bytes := 0, zero := .tuple #[.float .f64 0, .int .i64 0] } :=
  tiOk_mk (i := Go.Proofs.Tryd.t110) (d := Go.Proofs.Tryd.t110.desc) (by kernel_rfl) (by kernel_rfl) (by kernel_rfl) (by kernel_rfl) (by kernel_rfl) (by kernel_rfl)
theorem row116 : TIOk Go.Proofs.Tryd.prog 116 { d := .tuple [4, 106], size := 1, bytes := 0, zero := .tuple #[.bool false, .slice none 0 0] } :=
  tiOk_mk (i := Go.Proofs.Tryd.t116) (d := Go.Proofs.Tryd.t116.desc) (by kernel_rfl) (by kernel_rfl) (by kernel_rfl) (by kernel_rfl) (by kernel_rfl) (by kernel_rfl)
theorem row128 : TIOk Go.Proofs.Tryd.prog 128 { d := .int .u32, size := 1, bytes := 4, zero := .int .u32 0 } :=
  tiOk_mk (i := Go.Proofs.Tryd.t128) (d := Go.Proofs.Tryd.t128.desc) (by kernel_rfl) (by kernel_rfl) (by kernel_rfl) (by kernel_rfl) (by kernel_rfl) (by kernel_rfl)
theorem row131 : TIOk Go.Proofs.Tryd.prog 131 { d := .array 64 5, size := 64, bytes := 64, zero := .agg #[.int .u8 0, .int .u8 0, .int .u8 0, .int .u8 0, .int .u8 0, .int .u8 0, .int .u8 0, .int .u8 0, .int .u8 0, .int .u8 0, .int .u8 0, .int .u8 0, .int .u8 0, .int .u8 0, .int .u8 0, .int .u8 0, .int .u8 0, .int .u8 0, .int .u8 0, .int .u8 0, .int .u8 0, .int .u8 0, .int .u8 0, .int .u8 0, .int .u8 0, .int .u8 0, .int .u8 0, .int .u8 0, .int .u8 0, .int .u8 0, .int .u8 0, .int .u8 0, .int .u8 0, .int .u8 0, .int .u8 0, .int .u8 0, .int .u8 0, .int .u8 0, .int .u8 0, .int .u8 0, .int .u8 0, .int .u8 0, .int .u8 0, .int .u8 0, .int .u8 0, .int .u8 0, .int .u8 0, .int .u8 0, .int .u8 0, .int .u8 0, .int .u8 0, .int .u8 0, .int .u8 0, .int .u8 0, .int .u8 0, .int .u8 0, .int .u8 0, .int .u8 0, .int .u8 0, .int .u8 0, .int .u8 0, .int .u8 0, .int .u8 0, .int .u8 0] } :=
  tiOk_mk (i := Go.Proofs.Tryd.t131) (d := Go.Proofs.Tryd.t131.desc) (by kernel_rfl) (by kernel_rfl) (by kernel_rfl) (by kernel_rfl) (by kernel_rfl) (by kernel_rfl)
theorem tok : TOk Go.Proofs.Tryd.prog (look tbl) := tok_of_rows (l := tbl) ⟨row2, row3, row4, row5, row9, row22, row29, row33, row38, row40, row42, row46, row50, row64, row66, row69, row72, row74, row77, row80, row81, row88, row106, row108, row110, row116, row128, row131, True.intro⟩
theorem tsize : TSize (look tbl) := tsize_of (by kernel_rfl)
theorem mixed : Go.Proofs.Tryd.prog.follows .mixedOrders = true := by kernel_rfl
end Go.Eng
