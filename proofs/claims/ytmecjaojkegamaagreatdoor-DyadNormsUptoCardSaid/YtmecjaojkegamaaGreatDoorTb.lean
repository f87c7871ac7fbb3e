/-
  The types of this program, and the numbers of its types and functions. No condition.
-/
import Derived.Test.YtmecjaojkegamaaGreatDoorTbl
import Derived.Test.YtmecjaojkegamaaGreatDoorNm
import Derived.Test.YtmecjaojkegamaaGreatDoorProg
import Derived.KernelRfl
set_option linter.unusedVariables false
set_option linter.unusedSimpArgs false
set_option linter.unnecessarySimpa false
set_option linter.unusedSectionVars false
set_option maxRecDepth 100000
namespace Go.Eng
open Go

def nums : Nums := { t_ := 0, t_64_uint8 := 115, t_Dyad := 24, t_Dyad__Errno := 37, t_Errno := 30, t_L_uint32 := 52, t_L_uint64 := 22, t_L_uint64__bool := 72, t_L_uint64__uint64 := 103, t_Mode := 26, t_Parts := 79, t_Parts__bool := 80, t_bignum_Int := 54, t_bool := 4, t_bool__L_uint32 := 89, t_bool__int__uint64 := 123, t_float64 := 29, t_float64__Errno := 31, t_float64__bool := 92, t_float64__int := 108, t_girderref02_Num := 65, t_int := 3, t_int64 := 2, t_int64__bool := 117, t_p_bignum_Int := 48, t_string := 9, t_uint := 56, t_uint32 := 87, t_uint64 := 46, t_uint8 := 5, f_bignum_NewInt := 43, f_bignum_add := 76, f_bignum_bit := 119, f_bignum_cmp := 80, f_bignum_left := 75, f_bignum_length := 120, f_bignum_mul := 101, f_bignum_right := 77, f_bignum_sub := 78, f_bignum_sum := 79, f_bignum_trim := 113, f_bignum_twin := 74, f_bignum_words := 112, f_bits_At := 116, f_bits_Join := 83, f_bits_Kind := 105, f_bits_Next := 84, f_bits_Place := 115, f_bits_Split := 68, f_dyad_Add := 20, f_dyad_Fits := 13, f_dyad_Int := 33, f_dyad_Mul := 22, f_dyad_Norm := 14, f_dyad_Of := 32, f_dyad_Right := 12, f_dyad_Round := 8, f_dyad_away := 45, f_dyad_both := 59, f_dyad_float := 46, f_dyad_limbs := 96, f_dyad_made := 52, f_dyad_top := 37, f_dyad_whole := 35, f_girderkit_KeptDyad := 10, f_girderkit_KeptLimbs := 49, f_girderkit_LentDyad := 7, f_girderkit_LentLimbs := 34, f_girderkit_OverDyad := 15, f_girderkit_OverLimbs := 53, f_girderkit_SameDyad := 19, f_girderkit_SameLimbs := 58, f_girderkit_mark := 69, f_girderlaw02_DyadNorms := 4, f_girderlaw02_awake := 6, f_girderref01_Finite := 123, f_girderref01_Join := 118, f_girderref01_Kind := 132, f_girderref01_Split := 100, f_girderref01_fields := 124, f_girderref02_Compare := 57, f_girderref02_Dyad := 48, f_girderref02_Fits := 18, f_girderref02_Minus := 66, f_girderref02_NatAdd := 89, f_girderref02_NatBits := 91, f_girderref02_NatCmp := 102, f_girderref02_NatDown := 55, f_girderref02_NatOf := 90, f_girderref02_NatSub := 103, f_girderref02_NatTrim := 54, f_girderref02_NatUp := 87, f_girderref02_Norm := 16, f_girderref02_Num_Sign := 67, f_girderref02_Num_Zero := 85, f_girderref02_Num_top := 86, f_girderref02_Of := 56, f_girderref02_Plus := 64, f_girderref02_Right := 17, f_girderref02_Rounded := 47, f_girderref02_digit := 117, f_girderref02_float := 93, f_girderref02_halves := 97, f_girderref02_huge := 92, f_girderref02_limbs := 99, f_girderref02_low := 122, f_girderref02_short := 98, f_girderref02_up := 88, f_math_Abs := 108, f_math_Copysign := 114, f_math_Float64bits := 50, f_math_Float64frombits := 129, f_math_Frexp := 107, f_math_Inf := 135, f_math_IsInf := 126, f_math_IsNaN := 133, f_math_Ldexp := 109, f_math_Signbit := 106, f_math_bits_Len64 := 51, f_math_bits_TrailingZeros64 := 82, f_math_frexp := 128, f_math_ldexp := 131, f_math_normalize := 134, f_p_bignum_Int_Abs := 36, f_p_bignum_Int_Add := 60, f_p_bignum_Int_And := 121, f_p_bignum_Int_BitLen := 95, f_p_bignum_Int_Cmp := 42, f_p_bignum_Int_Lsh := 38, f_p_bignum_Int_Mul := 61, f_p_bignum_Int_Neg := 72, f_p_bignum_Int_Or := 70, f_p_bignum_Int_Rsh := 40, f_p_bignum_Int_SetInt64 := 81, f_p_bignum_Int_SetUint64 := 71, f_p_bignum_Int_Sign := 44, f_p_bignum_Int_Sub := 41, f_p_bignum_Int_TrailingZeroBits := 94, f_p_bignum_Int_Uint64 := 39, f_p_bignum_Int_give := 73, f_p_bignum_Int_low := 110, f_p_bignum_Int_of := 111, g_1 := 1 }

def tbl : List (Nat × TI) :=
  [(0, { d := .tuple [], size := 1, bytes := 0, zero := .tuple #[] }),
   (2, { d := .int .i64, size := 1, bytes := 8, zero := .int .i64 0 }),
   (3, { d := .int .i64, size := 1, bytes := 8, zero := .int .i64 0 }),
   (4, { d := .bool, size := 1, bytes := 1, zero := .bool false }),
   (5, { d := .int .u8, size := 1, bytes := 1, zero := .int .u8 0 }),
   (9, { d := .string, size := 1, bytes := 16, zero := .string ByteArray.empty }),
   (22, { d := .slice 46, size := 1, bytes := 24, zero := .slice none 0 0 }),
   (24, { d := .struct [(4, 0), (22, 1), (3, 2)], size := 3, bytes := 40, zero := .agg #[.bool false, .slice none 0 0, .int .i64 0] }),
   (26, { d := .int .i8, size := 1, bytes := 1, zero := .int .i8 0 }),
   (29, { d := .float .f64, size := 1, bytes := 8, zero := .float .f64 0 }),
   (30, { d := .int .i64, size := 1, bytes := 8, zero := .int .i64 0 }),
   (31, { d := .tuple [29, 30], size := 1, bytes := 0, zero := .tuple #[.float .f64 0, .int .i64 0] }),
   (37, { d := .tuple [24, 30], size := 1, bytes := 0, zero := .tuple #[.agg #[.bool false, .slice none 0 0, .int .i64 0], .int .i64 0] }),
   (46, { d := .int .u64, size := 1, bytes := 8, zero := .int .u64 0 }),
   (48, { d := .ptr 54, size := 1, bytes := 8, zero := .pointer none }),
   (52, { d := .slice 87, size := 1, bytes := 24, zero := .slice none 0 0 }),
   (54, { d := .struct [(4, 0), (52, 1)], size := 2, bytes := 32, zero := .agg #[.bool false, .slice none 0 0] }),
   (56, { d := .int .u64, size := 1, bytes := 8, zero := .int .u64 0 }),
   (65, { d := .struct [(4, 0), (22, 1), (3, 2)], size := 3, bytes := 40, zero := .agg #[.bool false, .slice none 0 0, .int .i64 0] }),
   (72, { d := .tuple [22, 4], size := 1, bytes := 0, zero := .tuple #[.slice none 0 0, .bool false] }),
   (79, { d := .struct [(4, 0), (46, 1), (3, 2)], size := 3, bytes := 24, zero := .agg #[.bool false, .int .u64 0, .int .i64 0] }),
   (80, { d := .tuple [79, 4], size := 1, bytes := 0, zero := .tuple #[.agg #[.bool false, .int .u64 0, .int .i64 0], .bool false] }),
   (87, { d := .int .u32, size := 1, bytes := 4, zero := .int .u32 0 }),
   (89, { d := .tuple [4, 52], size := 1, bytes := 0, zero := .tuple #[.bool false, .slice none 0 0] }),
   (92, { d := .tuple [29, 4], size := 1, bytes := 0, zero := .tuple #[.float .f64 0, .bool false] }),
   (103, { d := .tuple [22, 46], size := 1, bytes := 0, zero := .tuple #[.slice none 0 0, .int .u64 0] }),
   (108, { d := .tuple [29, 3], size := 1, bytes := 0, zero := .tuple #[.float .f64 0, .int .i64 0] }),
   (115, { d := .array 64 5, size := 64, bytes := 64, zero := .agg #[.int .u8 0, .int .u8 0, .int .u8 0, .int .u8 0, .int .u8 0, .int .u8 0, .int .u8 0, .int .u8 0, .int .u8 0, .int .u8 0, .int .u8 0, .int .u8 0, .int .u8 0, .int .u8 0, .int .u8 0, .int .u8 0, .int .u8 0, .int .u8 0, .int .u8 0, .int .u8 0, .int .u8 0, .int .u8 0, .int .u8 0, .int .u8 0, .int .u8 0, .int .u8 0, .int .u8 0, .int .u8 0, .int .u8 0, .int .u8 0, .int .u8 0, .int .u8 0, .int .u8 0, .int .u8 0, .int .u8 0, .int .u8 0, .int .u8 0, .int .u8 0, .int .u8 0, .int .u8 0, .int .u8 0, .int .u8 0, .int .u8 0, .int .u8 0, .int .u8 0, .int .u8 0, .int .u8 0, .int .u8 0, .int .u8 0, .int .u8 0, .int .u8 0, .int .u8 0, .int .u8 0, .int .u8 0, .int .u8 0, .int .u8 0, .int .u8 0, .int .u8 0, .int .u8 0, .int .u8 0, .int .u8 0, .int .u8 0, .int .u8 0, .int .u8 0] }),
   (117, { d := .tuple [2, 4], size := 1, bytes := 0, zero := .tuple #[.int .i64 0, .bool false] }),
   (123, { d := .tuple [4, 3, 46], size := 1, bytes := 0, zero := .tuple #[.bool false, .int .i64 0, .int .u64 0] })]

theorem row0 : TIOk Go.Proofs.Tryz.prog 0 { d := .tuple [], size := 1, bytes := 0, zero := .tuple #[] } :=
  tiOk_mk (i := Go.Proofs.Tryz.t0) (d := Go.Proofs.Tryz.t0.desc) (by kernel_rfl) (by kernel_rfl) (by kernel_rfl) (by kernel_rfl) (by kernel_rfl) (by kernel_rfl)
theorem row2 : TIOk Go.Proofs.Tryz.prog 2 { d := .int .i64, size := 1, bytes := 8, zero := .int .i64 0 } :=
  tiOk_mk (i := Go.Proofs.Tryz.t2) (d := Go.Proofs.Tryz.t2.desc) (by kernel_rfl) (by kernel_rfl) (by kernel_rfl) (by kernel_rfl) (by kernel_rfl) (by kernel_rfl)
theorem row3 : TIOk Go.Proofs.Tryz.prog 3 { d := .int .i64, size := 1, bytes := 8, zero := .int .i64 0 } :=
  tiOk_mk (i := Go.Proofs.Tryz.t3) (d := Go.Proofs.Tryz.t3.desc) (by kernel_rfl) (by kernel_rfl) (by kernel_rfl) (by kernel_rfl) (by kernel_rfl) (by kernel_rfl)
theorem row4 : TIOk Go.Proofs.Tryz.prog 4 { d := .bool, size := 1, bytes := 1, zero := .bool false } :=
  tiOk_mk (i := Go.Proofs.Tryz.t4) (d := Go.Proofs.Tryz.t4.desc) (by kernel_rfl) (by kernel_rfl) (by kernel_rfl) (by kernel_rfl) (by kernel_rfl) (by kernel_rfl)
theorem row5 : TIOk Go.Proofs.Tryz.prog 5 { d := .int .u8, size := 1, bytes := 1, zero := .int .u8 0 } :=
  tiOk_mk (i := Go.Proofs.Tryz.t5) (d := Go.Proofs.Tryz.t5.desc) (by kernel_rfl) (by kernel_rfl) (by kernel_rfl) (by kernel_rfl) (by kernel_rfl) (by kernel_rfl)
theorem row9 : TIOk Go.Proofs.Tryz.prog 9 { d := .string, size := 1, bytes := 16, zero := .string ByteArray.empty } :=
  tiOk_mk (i := Go.Proofs.Tryz.t9) (d := Go.Proofs.Tryz.t9.desc) (by kernel_rfl) (by kernel_rfl) (by kernel_rfl) (by kernel_rfl) (by kernel_rfl) (by kernel_rfl)
theorem row22 : TIOk Go.Proofs.Tryz.prog 22 { d := .slice 46, size := 1, bytes := 24, zero := .slice none 0 0 } :=
  tiOk_mk (i := Go.Proofs.Tryz.t22) (d := Go.Proofs.Tryz.t22.desc) (by kernel_rfl) (by kernel_rfl) (by kernel_rfl) (by kernel_rfl) (by kernel_rfl) (by kernel_rfl)
theorem row24 : TIOk Go.Proofs.Tryz.prog 24 { d := .struct [(4, 0), (22, 1), (3, 2)], size := 3, bytes := 40, zero := .agg #[.bool false, .slice none 0 0, .int .i64 0] } :=
  tiOk_mk (i := Go.Proofs.Tryz.t24) (d := Go.Proofs.Tryz.t23.desc) (by kernel_rfl) (by kernel_rfl) (by kernel_rfl) (by kernel_rfl) (by kernel_rfl) (by kernel_rfl)
theorem row26 : TIOk Go.Proofs.Tryz.prog 26 { d := .int .i8, size := 1, bytes := 1, zero := .int .i8 0 } :=
  tiOk_mk (i := Go.Proofs.Tryz.t26) (d := Go.Proofs.Tryz.t25.desc) (by kernel_rfl) (by kernel_rfl) (by kernel_rfl) (by kernel_rfl) (by kernel_rfl) (by kernel_rfl)
theorem row29 : TIOk Go.Proofs.Tryz.prog 29 { d := .float .f64, size := 1, bytes := 8, zero := .float .f64 0 } :=
  tiOk_mk (i := Go.Proofs.Tryz.t29) (d := Go.Proofs.Tryz.t29.desc) (by kernel_rfl) (by kernel_rfl) (by kernel_rfl) (by kernel_rfl) (by kernel_rfl) (by kernel_rfl)
theorem row30 : TIOk Go.Proofs.Tryz.prog 30 { d := .int .i64, size := 1, bytes := 8, zero := .int .i64 0 } :=
  tiOk_mk (i := Go.Proofs.Tryz.t30) (d := Go.Proofs.Tryz.t3.desc) (by kernel_rfl) (by kernel_rfl) (by kernel_rfl) (by kernel_rfl) (by kernel_rfl) (by kernel_rfl)
theorem row31 : TIOk Go.Proofs.Tryz.prog 31 { d := .tuple [29, 30], size := 1, bytes := 0, zero := .tuple #[.float .f64 0, .int .i64 0] } :=
  tiOk_mk (i := Go.Proofs.Tryz.t31) (d := Go.Proofs.Tryz.t31.desc) (by kernel_rfl) (by kernel_rfl) (by kernel_rfl) (by kernel_rfl) (by kernel_rfl) (by kernel_rfl)
theorem row37 : TIOk Go.Proofs.Tryz.prog 37 { d := .tuple [24, 30], size := 1, bytes := 0, zero := .tuple #[.agg #[.bool false, .slice none 0 0, .int .i64 0], .int .i64 0] } :=
  tiOk_mk (i := Go.Proofs.Tryz.t37) (d := Go.Proofs.Tryz.t37.desc) (by kernel_rfl) (by kernel_rfl) (by kernel_rfl) (by kernel_rfl) (by kernel_rfl) (by kernel_rfl)
theorem row46 : TIOk Go.Proofs.Tryz.prog 46 { d := .int .u64, size := 1, bytes := 8, zero := .int .u64 0 } :=
  tiOk_mk (i := Go.Proofs.Tryz.t46) (d := Go.Proofs.Tryz.t46.desc) (by kernel_rfl) (by kernel_rfl) (by kernel_rfl) (by kernel_rfl) (by kernel_rfl) (by kernel_rfl)
theorem row48 : TIOk Go.Proofs.Tryz.prog 48 { d := .ptr 54, size := 1, bytes := 8, zero := .pointer none } :=
  tiOk_mk (i := Go.Proofs.Tryz.t48) (d := Go.Proofs.Tryz.t48.desc) (by kernel_rfl) (by kernel_rfl) (by kernel_rfl) (by kernel_rfl) (by kernel_rfl) (by kernel_rfl)
theorem row52 : TIOk Go.Proofs.Tryz.prog 52 { d := .slice 87, size := 1, bytes := 24, zero := .slice none 0 0 } :=
  tiOk_mk (i := Go.Proofs.Tryz.t52) (d := Go.Proofs.Tryz.t52.desc) (by kernel_rfl) (by kernel_rfl) (by kernel_rfl) (by kernel_rfl) (by kernel_rfl) (by kernel_rfl)
theorem row54 : TIOk Go.Proofs.Tryz.prog 54 { d := .struct [(4, 0), (52, 1)], size := 2, bytes := 32, zero := .agg #[.bool false, .slice none 0 0] } :=
  tiOk_mk (i := Go.Proofs.Tryz.t54) (d := Go.Proofs.Tryz.t53.desc) (by kernel_rfl) (by kernel_rfl) (by kernel_rfl) (by kernel_rfl) (by kernel_rfl) (by kernel_rfl)
theorem row56 : TIOk Go.Proofs.Tryz.prog 56 { d := .int .u64, size := 1, bytes := 8, zero := .int .u64 0 } :=
  tiOk_mk (i := Go.Proofs.Tryz.t56) (d := Go.Proofs.Tryz.t56.desc) (by kernel_rfl) (by kernel_rfl) (by kernel_rfl) (by kernel_rfl) (by kernel_rfl) (by kernel_rfl)
theorem row65 : TIOk Go.Proofs.Tryz.prog 65 { d := .struct [(4, 0), (22, 1), (3, 2)], size := 3, bytes := 40, zero := .agg #[.bool false, .slice none 0 0, .int .i64 0] } :=
  tiOk_mk (i := Go.Proofs.Tryz.t65) (d := Go.Proofs.Tryz.t23.desc) (by kernel_rfl) (by kernel_rfl) (by kernel_rfl) (by kernel_rfl) (by kernel_rfl) (by kernel_rfl)
theorem row72 : TIOk Go.Proofs.Tryz.prog 72 { d := .tuple [22, 4], size := 1, bytes := 0, zero := .tuple #[.slice none 0 0, .bool false] } :=
  tiOk_mk (i := Go.Proofs.Tryz.t72) (d := Go.Proofs.Tryz.t72.desc) (by kernel_rfl) (by kernel_rfl) (by kernel_rfl) (by kernel_rfl) (by kernel_rfl) (by kernel_rfl)
theorem row79 : TIOk Go.Proofs.Tryz.prog 79 { d := .struct [(4, 0), (46, 1), (3, 2)], size := 3, bytes := 24, zero := .agg #[.bool false, .int .u64 0, .int .i64 0] } :=
  tiOk_mk (i := Go.Proofs.Tryz.t79) (d := Go.Proofs.Tryz.t78.desc) (by kernel_rfl) (by kernel_rfl) (by kernel_rfl) (by kernel_rfl) (by kernel_rfl) (by kernel_rfl)
theorem row80 : TIOk Go.Proofs.Tryz.prog 80 { d := .tuple [79, 4], size := 1, bytes := 0, zero := .tuple #[.agg #[.bool false, .int .u64 0, .int .i64 0], .bool false] } :=
  tiOk_mk (i := Go.Proofs.Tryz.t80) (d := Go.Proofs.Tryz.t80.desc) (by kernel_rfl) (by kernel_rfl) (by kernel_rfl) (by kernel_rfl) (by kernel_rfl) (by kernel_rfl)
theorem row87 : TIOk Go.Proofs.Tryz.prog 87 { d := .int .u32, size := 1, bytes := 4, zero := .int .u32 0 } :=
  tiOk_mk (i := Go.Proofs.Tryz.t87) (d := Go.Proofs.Tryz.t87.desc) (by kernel_rfl) (by kernel_rfl) (by kernel_rfl) (by kernel_rfl) (by kernel_rfl) (by kernel_rfl)
theorem row89 : TIOk Go.Proofs.Tryz.prog 89 { d := .tuple [4, 52], size := 1, bytes := 0, zero := .tuple #[.bool false, .slice none 0 0] } :=
  tiOk_mk (i := Go.Proofs.Tryz.t89) (d := Go.Proofs.Tryz.t89.desc) (by kernel_rfl) (by kernel_rfl) (by kernel_rfl) (by kernel_rfl) (by kernel_rfl) (by kernel_rfl)
theorem row92 : TIOk Go.Proofs.Tryz.prog 92 { d := .tuple [29, 4], size := 1, bytes := 0, zero := .tuple #[.float .f64 0, .bool false] } :=
  tiOk_mk (i := Go.Proofs.Tryz.t92) (d := Go.Proofs.Tryz.t92.desc) (by kernel_rfl) (by kernel_rfl) (by kernel_rfl) (by kernel_rfl) (by kernel_rfl) (by kernel_rfl)
theorem row103 : TIOk Go.Proofs.Tryz.prog 103 { d := .tuple [22, 46], size := 1, bytes := 0, zero := .tuple #[.slice none 0 0, .int .u64 0] } :=
  tiOk_mk (i := Go.Proofs.Tryz.t103) (d := Go.Proofs.Tryz.t103.desc) (by kernel_rfl) (by kernel_rfl) (by kernel_rfl) (by kernel_rfl) (by kernel_rfl) (by kernel_rfl)
theorem row108 : TIOk Go.Proofs.Tryz.prog 108 { d := .tuple [29, 3], size := 1, bytes := 0, zero := .tuple #[.float .f64 0, .int .i64 0] } :=
  tiOk_mk (i := Go.Proofs.Tryz.t108) (d := Go.Proofs.Tryz.t108.desc) (by kernel_rfl) (by kernel_rfl) (by kernel_rfl) (by kernel_rfl) (by kernel_rfl) (by kernel_rfl)
theorem row115 : TIOk Go.Proofs.Tryz.prog 115 { d := .array 64 5, size := 64, bytes := 64, zero := .agg #[.int .u8 0, .int .u8 0, .int .u8 0, .int .u8 0, .int .u8 0, .int .u8 0, .int .u8 0, .int .u8 0, .int .u8 0, .int .u8 0, .int .u8 0, .int .u8 0, .int .u8 0, .int .u8 0, .int .u8 0, .int .u8 0, .int .u8 0, .int .u8 0, .int .u8 0, .int .u8 0, .int .u8 0, .int .u8 0, .int .u8 0, .int .u8 0, .int .u8 0, .int .u8 0, .int .u8 0, .int .u8 0, .int .u8 0, .int .u8 0, .int .u8 0, .int .u8 0, .int .u8 0, .int .u8 0, .int .u8 0, .int .u8 0, .int .u8 0, .int .u8 0, .int .u8 0, .int .u8 0, .int .u8 0, .int .u8 0, .int .u8 0, .int .u8 0, .int .u8 0, .int .u8 0, .int .u8 0, .int .u8 0, .int .u8 0, .int .u8 0, .int .u8 0, .int .u8 0, .int .u8 0, .int .u8 0, .int .u8 0, .int .u8 0, .int .u8 0, .int .u8 0, .int .u8 0, .int .u8 0, .int .u8 0, .int .u8 0, .int .u8 0, .int .u8 0] } :=
  tiOk_mk (i := Go.Proofs.Tryz.t115) (d := Go.Proofs.Tryz.t115.desc) (by kernel_rfl) (by kernel_rfl) (by kernel_rfl) (by kernel_rfl) (by kernel_rfl) (by kernel_rfl)
theorem row117 : TIOk Go.Proofs.Tryz.prog 117 { d := .tuple [2, 4], size := 1, bytes := 0, zero := .tuple #[.int .i64 0, .bool false] } :=
  tiOk_mk (i := Go.Proofs.Tryz.t117) (d := Go.Proofs.Tryz.t117.desc) (by kernel_rfl) (by kernel_rfl) (by kernel_rfl) (by kernel_rfl) (by kernel_rfl) (by kernel_rfl)
theorem row123 : TIOk Go.Proofs.Tryz.prog 123 { d := .tuple [4, 3, 46], size := 1, bytes := 0, zero := .tuple #[.bool false, .int .i64 0, .int .u64 0] } :=
  tiOk_mk (i := Go.Proofs.Tryz.t123) (d := Go.Proofs.Tryz.t123.desc) (by kernel_rfl) (by kernel_rfl) (by kernel_rfl) (by kernel_rfl) (by kernel_rfl) (by kernel_rfl)

theorem tok : TOk Go.Proofs.Tryz.prog (look tbl) := tok_of_rows (l := tbl) ⟨row0, row2, row3, row4, row5, row9, row22, row24, row26, row29, row30, row31, row37, row46, row48, row52, row54, row56, row65, row72, row79, row80, row87, row89, row92, row103, row108, row115, row117, row123, True.intro⟩
theorem tsize : TSize (look tbl) := tsize_of (by kernel_rfl)
theorem mixed : Go.Proofs.Tryz.prog.follows .mixedOrders = true := by kernel_rfl

end Go.Eng
