/-
  The types of this program, and the numbers of its types and functions. No condition.
-/
import Derived.Test.YtmecjaojkegamaaDoorTbl
import Derived.Test.YtmecjaojkegamaaDoorNm
import Derived.Test.YtmecjaojkegamaaDoorProg
import Derived.KernelRfl
set_option linter.unusedVariables false
set_option linter.unusedSimpArgs false
set_option linter.unnecessarySimpa false
set_option linter.unusedSectionVars false
set_option maxRecDepth 100000
namespace Go.Eng
open Go

def nums : Nums := { t_ := 0, t_64_uint8 := 116, t_Dyad := 26, t_Dyad__Errno := 28, t_Errno := 27, t_L_uint32 := 78, t_L_uint64 := 24, t_Mode := 43, t_Parts := 58, t_Parts__bool := 59, t_bignum_Int := 80, t_bool := 4, t_bool__L_uint32 := 104, t_float64 := 22, t_float64__Errno := 45, t_float64__bool := 111, t_float64__int := 90, t_int := 3, t_int64 := 2, t_int64__bool := 87, t_int__Errno := 48, t_p_bignum_Int := 63, t_string := 9, t_uint := 75, t_uint32 := 109, t_uint64 := 54, t_uint64__bool := 55, t_uint8 := 5, f_bignum_NewInt := 40, f_bignum_add := 91, f_bignum_bit := 107, f_bignum_cmp := 94, f_bignum_left := 88, f_bignum_length := 108, f_bignum_mul := 89, f_bignum_right := 92, f_bignum_sub := 93, f_bignum_sum := 87, f_bignum_trim := 113, f_bignum_twin := 90, f_bignum_words := 110, f_bits_At := 115, f_bits_Between := 34, f_bits_Join := 95, f_bits_Kind := 67, f_bits_Next := 96, f_bits_Place := 66, f_bits_Split := 35, f_dyad_Add := 21, f_dyad_Cmp := 31, f_dyad_Fits := 29, f_dyad_Int := 13, f_dyad_Mul := 22, f_dyad_Neg := 54, f_dyad_Norm := 32, f_dyad_Of := 10, f_dyad_Right := 30, f_dyad_Round := 26, f_dyad_Sign := 28, f_dyad_Sub := 24, f_dyad_away := 61, f_dyad_both := 49, f_dyad_float := 62, f_dyad_limbs := 79, f_dyad_made := 39, f_dyad_top := 56, f_dyad_whole := 44, f_girderkit_CopyDyad := 33, f_girderkit_CopyLimbs := 65, f_girderkit_Finite := 25, f_girderkit_KeptDyad := 17, f_girderkit_KeptLimbs := 45, f_girderkit_LentDyad := 15, f_girderkit_LentLimbs := 43, f_girderkit_OverDyad := 18, f_girderkit_OverLimbs := 46, f_girderkit_SameDyad := 12, f_girderkit_SameFloat := 27, f_girderkit_SameLimbs := 38, f_girderkit_mark := 82, f_girderlaw02_DyadBetween := 8, f_girderlaw02_awake := 9, f_math_Abs := 70, f_math_Copysign := 114, f_math_Float64bits := 63, f_math_Float64frombits := 100, f_math_Frexp := 69, f_math_Inf := 118, f_math_IsInf := 97, f_math_IsNaN := 116, f_math_Ldexp := 71, f_math_Signbit := 68, f_math_bits_Len64 := 64, f_math_bits_TrailingZeros64 := 72, f_math_frexp := 99, f_math_ldexp := 102, f_math_normalize := 117, f_p_bignum_Int_Abs := 55, f_p_bignum_Int_Add := 51, f_p_bignum_Int_And := 109, f_p_bignum_Int_BitLen := 78, f_p_bignum_Int_Cmp := 60, f_p_bignum_Int_Lsh := 52, f_p_bignum_Int_Mul := 53, f_p_bignum_Int_Neg := 85, f_p_bignum_Int_Or := 83, f_p_bignum_Int_Rsh := 58, f_p_bignum_Int_SetInt64 := 80, f_p_bignum_Int_SetUint64 := 84, f_p_bignum_Int_Sign := 50, f_p_bignum_Int_Sub := 59, f_p_bignum_Int_TrailingZeroBits := 77, f_p_bignum_Int_Uint64 := 57, f_p_bignum_Int_give := 86, f_p_bignum_Int_low := 111, f_p_bignum_Int_of := 112, g_1 := 1 }

def tbl : List (Nat × TI) :=
  [(0, { d := .tuple [], size := 1, bytes := 0, zero := .tuple #[] }),
   (2, { d := .int .i64, size := 1, bytes := 8, zero := .int .i64 0 }),
   (3, { d := .int .i64, size := 1, bytes := 8, zero := .int .i64 0 }),
   (4, { d := .bool, size := 1, bytes := 1, zero := .bool false }),
   (5, { d := .int .u8, size := 1, bytes := 1, zero := .int .u8 0 }),
   (9, { d := .string, size := 1, bytes := 16, zero := .string ByteArray.empty }),
   (22, { d := .float .f64, size := 1, bytes := 8, zero := .float .f64 0 }),
   (24, { d := .slice 54, size := 1, bytes := 24, zero := .slice none 0 0 }),
   (26, { d := .struct [(4, 0), (24, 1), (3, 2)], size := 3, bytes := 40, zero := .agg #[.bool false, .slice none 0 0, .int .i64 0] }),
   (27, { d := .int .i64, size := 1, bytes := 8, zero := .int .i64 0 }),
   (28, { d := .tuple [26, 27], size := 1, bytes := 0, zero := .tuple #[.agg #[.bool false, .slice none 0 0, .int .i64 0], .int .i64 0] }),
   (43, { d := .int .i8, size := 1, bytes := 1, zero := .int .i8 0 }),
   (45, { d := .tuple [22, 27], size := 1, bytes := 0, zero := .tuple #[.float .f64 0, .int .i64 0] }),
   (48, { d := .tuple [3, 27], size := 1, bytes := 0, zero := .tuple #[.int .i64 0, .int .i64 0] }),
   (54, { d := .int .u64, size := 1, bytes := 8, zero := .int .u64 0 }),
   (55, { d := .tuple [54, 4], size := 1, bytes := 0, zero := .tuple #[.int .u64 0, .bool false] }),
   (58, { d := .struct [(4, 0), (54, 1), (3, 2)], size := 3, bytes := 24, zero := .agg #[.bool false, .int .u64 0, .int .i64 0] }),
   (59, { d := .tuple [58, 4], size := 1, bytes := 0, zero := .tuple #[.agg #[.bool false, .int .u64 0, .int .i64 0], .bool false] }),
   (63, { d := .ptr 80, size := 1, bytes := 8, zero := .pointer none }),
   (75, { d := .int .u64, size := 1, bytes := 8, zero := .int .u64 0 }),
   (78, { d := .slice 109, size := 1, bytes := 24, zero := .slice none 0 0 }),
   (80, { d := .struct [(4, 0), (78, 1)], size := 2, bytes := 32, zero := .agg #[.bool false, .slice none 0 0] }),
   (87, { d := .tuple [2, 4], size := 1, bytes := 0, zero := .tuple #[.int .i64 0, .bool false] }),
   (90, { d := .tuple [22, 3], size := 1, bytes := 0, zero := .tuple #[.float .f64 0, .int .i64 0] }),
   (104, { d := .tuple [4, 78], size := 1, bytes := 0, zero := .tuple #[.bool false, .slice none 0 0] }),
   (109, { d := .int .u32, size := 1, bytes := 4, zero := .int .u32 0 }),
   (111, { d := .tuple [22, 4], size := 1, bytes := 0, zero := .tuple #[.float .f64 0, .bool false] }),
   (116, { d := .array 64 5, size := 64, bytes := 64, zero := .agg #[.int .u8 0, .int .u8 0, .int .u8 0, .int .u8 0, .int .u8 0, .int .u8 0, .int .u8 0, .int .u8 0, .int .u8 0, .int .u8 0, .int .u8 0, .int .u8 0, .int .u8 0, .int .u8 0, .int .u8 0, .int .u8 0, .int .u8 0, .int .u8 0, .int .u8 0, .int .u8 0, .int .u8 0, .int .u8 0, .int .u8 0, .int .u8 0, .int .u8 0, .int .u8 0, .int .u8 0, .int .u8 0, .int .u8 0, .int .u8 0, .int .u8 0, .int .u8 0, .int .u8 0, .int .u8 0, .int .u8 0, .int .u8 0, .int .u8 0, .int .u8 0, .int .u8 0, .int .u8 0, .int .u8 0, .int .u8 0, .int .u8 0, .int .u8 0, .int .u8 0, .int .u8 0, .int .u8 0, .int .u8 0, .int .u8 0, .int .u8 0, .int .u8 0, .int .u8 0, .int .u8 0, .int .u8 0, .int .u8 0, .int .u8 0, .int .u8 0, .int .u8 0, .int .u8 0, .int .u8 0, .int .u8 0, .int .u8 0, .int .u8 0, .int .u8 0] })]

theorem row0 : TIOk Go.Proofs.Tryd.prog 0 { d := .tuple [], size := 1, bytes := 0, zero := .tuple #[] } :=
  tiOk_mk (i := Go.Proofs.Tryd.t0) (d := Go.Proofs.Tryd.t0.desc) (by kernel_rfl) (by kernel_rfl) (by kernel_rfl) (by kernel_rfl) (by kernel_rfl) (by kernel_rfl)
theorem row2 : TIOk Go.Proofs.Tryd.prog 2 { d := .int .i64, size := 1, bytes := 8, zero := .int .i64 0 } :=
  tiOk_mk (i := Go.Proofs.Tryd.t2) (d := Go.Proofs.Tryd.t2.desc) (by kernel_rfl) (by kernel_rfl) (by kernel_rfl) (by kernel_rfl) (by kernel_rfl) (by kernel_rfl)
theorem row3 : TIOk Go.Proofs.Tryd.prog 3 { d := .int .i64, size := 1, bytes := 8, zero := .int .i64 0 } :=
  tiOk_mk (i := Go.Proofs.Tryd.t3) (d := Go.Proofs.Tryd.t3.desc) (by kernel_rfl) (by kernel_rfl) (by kernel_rfl) (by kernel_rfl) (by kernel_rfl) (by kernel_rfl)
theorem row4 : TIOk Go.Proofs.Tryd.prog 4 { d := .bool, size := 1, bytes := 1, zero := .bool false } :=
  tiOk_mk (i := Go.Proofs.Tryd.t4) (d := Go.Proofs.Tryd.t4.desc) (by kernel_rfl) (by kernel_rfl) (by kernel_rfl) (by kernel_rfl) (by kernel_rfl) (by kernel_rfl)
theorem row5 : TIOk Go.Proofs.Tryd.prog 5 { d := .int .u8, size := 1, bytes := 1, zero := .int .u8 0 } :=
  tiOk_mk (i := Go.Proofs.Tryd.t5) (d := Go.Proofs.Tryd.t5.desc) (by kernel_rfl) (by kernel_rfl) (by kernel_rfl) (by kernel_rfl) (by kernel_rfl) (by kernel_rfl)
theorem row9 : TIOk Go.Proofs.Tryd.prog 9 { d := .string, size := 1, bytes := 16, zero := .string ByteArray.empty } :=
  tiOk_mk (i := Go.Proofs.Tryd.t9) (d := Go.Proofs.Tryd.t9.desc) (by kernel_rfl) (by kernel_rfl) (by kernel_rfl) (by kernel_rfl) (by kernel_rfl) (by kernel_rfl)
theorem row22 : TIOk Go.Proofs.Tryd.prog 22 { d := .float .f64, size := 1, bytes := 8, zero := .float .f64 0 } :=
  tiOk_mk (i := Go.Proofs.Tryd.t22) (d := Go.Proofs.Tryd.t22.desc) (by kernel_rfl) (by kernel_rfl) (by kernel_rfl) (by kernel_rfl) (by kernel_rfl) (by kernel_rfl)
theorem row24 : TIOk Go.Proofs.Tryd.prog 24 { d := .slice 54, size := 1, bytes := 24, zero := .slice none 0 0 } :=
  tiOk_mk (i := Go.Proofs.Tryd.t24) (d := Go.Proofs.Tryd.t24.desc) (by kernel_rfl) (by kernel_rfl) (by kernel_rfl) (by kernel_rfl) (by kernel_rfl) (by kernel_rfl)
theorem row26 : TIOk Go.Proofs.Tryd.prog 26 { d := .struct [(4, 0), (24, 1), (3, 2)], size := 3, bytes := 40, zero := .agg #[.bool false, .slice none 0 0, .int .i64 0] } :=
  tiOk_mk (i := Go.Proofs.Tryd.t26) (d := Go.Proofs.Tryd.t25.desc) (by kernel_rfl) (by kernel_rfl) (by kernel_rfl) (by kernel_rfl) (by kernel_rfl) (by kernel_rfl)
theorem row27 : TIOk Go.Proofs.Tryd.prog 27 { d := .int .i64, size := 1, bytes := 8, zero := .int .i64 0 } :=
  tiOk_mk (i := Go.Proofs.Tryd.t27) (d := Go.Proofs.Tryd.t3.desc) (by kernel_rfl) (by kernel_rfl) (by kernel_rfl) (by kernel_rfl) (by kernel_rfl) (by kernel_rfl)
theorem row28 : TIOk Go.Proofs.Tryd.prog 28 { d := .tuple [26, 27], size := 1, bytes := 0, zero := .tuple #[.agg #[.bool false, .slice none 0 0, .int .i64 0], .int .i64 0] } :=
  tiOk_mk (i := Go.Proofs.Tryd.t28) (d := Go.Proofs.Tryd.t28.desc) (by kernel_rfl) (by kernel_rfl) (by kernel_rfl) (by kernel_rfl) (by kernel_rfl) (by kernel_rfl)
theorem row43 : TIOk Go.Proofs.Tryd.prog 43 { d := .int .i8, size := 1, bytes := 1, zero := .int .i8 0 } :=
  tiOk_mk (i := Go.Proofs.Tryd.t43) (d := Go.Proofs.Tryd.t42.desc) (by kernel_rfl) (by kernel_rfl) (by kernel_rfl) (by kernel_rfl) (by kernel_rfl) (by kernel_rfl)
theorem row45 : TIOk Go.Proofs.Tryd.prog 45 { d := .tuple [22, 27], size := 1, bytes := 0, zero := .tuple #[.float .f64 0, .int .i64 0] } :=
  tiOk_mk (i := Go.Proofs.Tryd.t45) (d := Go.Proofs.Tryd.t45.desc) (by kernel_rfl) (by kernel_rfl) (by kernel_rfl) (by kernel_rfl) (by kernel_rfl) (by kernel_rfl)
theorem row48 : TIOk Go.Proofs.Tryd.prog 48 { d := .tuple [3, 27], size := 1, bytes := 0, zero := .tuple #[.int .i64 0, .int .i64 0] } :=
  tiOk_mk (i := Go.Proofs.Tryd.t48) (d := Go.Proofs.Tryd.t48.desc) (by kernel_rfl) (by kernel_rfl) (by kernel_rfl) (by kernel_rfl) (by kernel_rfl) (by kernel_rfl)
theorem row54 : TIOk Go.Proofs.Tryd.prog 54 { d := .int .u64, size := 1, bytes := 8, zero := .int .u64 0 } :=
  tiOk_mk (i := Go.Proofs.Tryd.t54) (d := Go.Proofs.Tryd.t54.desc) (by kernel_rfl) (by kernel_rfl) (by kernel_rfl) (by kernel_rfl) (by kernel_rfl) (by kernel_rfl)
theorem row55 : TIOk Go.Proofs.Tryd.prog 55 { d := .tuple [54, 4], size := 1, bytes := 0, zero := .tuple #[.int .u64 0, .bool false] } :=
  tiOk_mk (i := Go.Proofs.Tryd.t55) (d := Go.Proofs.Tryd.t55.desc) (by kernel_rfl) (by kernel_rfl) (by kernel_rfl) (by kernel_rfl) (by kernel_rfl) (by kernel_rfl)
theorem row58 : TIOk Go.Proofs.Tryd.prog 58 { d := .struct [(4, 0), (54, 1), (3, 2)], size := 3, bytes := 24, zero := .agg #[.bool false, .int .u64 0, .int .i64 0] } :=
  tiOk_mk (i := Go.Proofs.Tryd.t58) (d := Go.Proofs.Tryd.t57.desc) (by kernel_rfl) (by kernel_rfl) (by kernel_rfl) (by kernel_rfl) (by kernel_rfl) (by kernel_rfl)
theorem row59 : TIOk Go.Proofs.Tryd.prog 59 { d := .tuple [58, 4], size := 1, bytes := 0, zero := .tuple #[.agg #[.bool false, .int .u64 0, .int .i64 0], .bool false] } :=
  tiOk_mk (i := Go.Proofs.Tryd.t59) (d := Go.Proofs.Tryd.t59.desc) (by kernel_rfl) (by kernel_rfl) (by kernel_rfl) (by kernel_rfl) (by kernel_rfl) (by kernel_rfl)
theorem row63 : TIOk Go.Proofs.Tryd.prog 63 { d := .ptr 80, size := 1, bytes := 8, zero := .pointer none } :=
  tiOk_mk (i := Go.Proofs.Tryd.t63) (d := Go.Proofs.Tryd.t63.desc) (by kernel_rfl) (by kernel_rfl) (by kernel_rfl) (by kernel_rfl) (by kernel_rfl) (by kernel_rfl)
theorem row75 : TIOk Go.Proofs.Tryd.prog 75 { d := .int .u64, size := 1, bytes := 8, zero := .int .u64 0 } :=
  tiOk_mk (i := Go.Proofs.Tryd.t75) (d := Go.Proofs.Tryd.t75.desc) (by kernel_rfl) (by kernel_rfl) (by kernel_rfl) (by kernel_rfl) (by kernel_rfl) (by kernel_rfl)
theorem row78 : TIOk Go.Proofs.Tryd.prog 78 { d := .slice 109, size := 1, bytes := 24, zero := .slice none 0 0 } :=
  tiOk_mk (i := Go.Proofs.Tryd.t78) (d := Go.Proofs.Tryd.t78.desc) (by kernel_rfl) (by kernel_rfl) (by kernel_rfl) (by kernel_rfl) (by kernel_rfl) (by kernel_rfl)
theorem row80 : TIOk Go.Proofs.Tryd.prog 80 { d := .struct [(4, 0), (78, 1)], size := 2, bytes := 32, zero := .agg #[.bool false, .slice none 0 0] } :=
  tiOk_mk (i := Go.Proofs.Tryd.t80) (d := Go.Proofs.Tryd.t79.desc) (by kernel_rfl) (by kernel_rfl) (by kernel_rfl) (by kernel_rfl) (by kernel_rfl) (by kernel_rfl)
theorem row87 : TIOk Go.Proofs.Tryd.prog 87 { d := .tuple [2, 4], size := 1, bytes := 0, zero := .tuple #[.int .i64 0, .bool false] } :=
  tiOk_mk (i := Go.Proofs.Tryd.t87) (d := Go.Proofs.Tryd.t87.desc) (by kernel_rfl) (by kernel_rfl) (by kernel_rfl) (by kernel_rfl) (by kernel_rfl) (by kernel_rfl)
theorem row90 : TIOk Go.Proofs.Tryd.prog 90 { d := .tuple [22, 3], size := 1, bytes := 0, zero := .tuple #[.float .f64 0, .int .i64 0] } :=
  tiOk_mk (i := Go.Proofs.Tryd.t90) (d := Go.Proofs.Tryd.t90.desc) (by kernel_rfl) (by kernel_rfl) (by kernel_rfl) (by kernel_rfl) (by kernel_rfl) (by kernel_rfl)
theorem row104 : TIOk Go.Proofs.Tryd.prog 104 { d := .tuple [4, 78], size := 1, bytes := 0, zero := .tuple #[.bool false, .slice none 0 0] } :=
  tiOk_mk (i := Go.Proofs.Tryd.t104) (d := Go.Proofs.Tryd.t104.desc) (by kernel_rfl) (by kernel_rfl) (by kernel_rfl) (by kernel_rfl) (by kernel_rfl) (by kernel_rfl)
theorem row109 : TIOk Go.Proofs.Tryd.prog 109 { d := .int .u32, size := 1, bytes := 4, zero := .int .u32 0 } :=
  tiOk_mk (i := Go.Proofs.Tryd.t109) (d := Go.Proofs.Tryd.t109.desc) (by kernel_rfl) (by kernel_rfl) (by kernel_rfl) (by kernel_rfl) (by kernel_rfl) (by kernel_rfl)
theorem row111 : TIOk Go.Proofs.Tryd.prog 111 { d := .tuple [22, 4], size := 1, bytes := 0, zero := .tuple #[.float .f64 0, .bool false] } :=
  tiOk_mk (i := Go.Proofs.Tryd.t111) (d := Go.Proofs.Tryd.t111.desc) (by kernel_rfl) (by kernel_rfl) (by kernel_rfl) (by kernel_rfl) (by kernel_rfl) (by kernel_rfl)
theorem row116 : TIOk Go.Proofs.Tryd.prog 116 { d := .array 64 5, size := 64, bytes := 64, zero := .agg #[.int .u8 0, .int .u8 0, .int .u8 0, .int .u8 0, .int .u8 0, .int .u8 0, .int .u8 0, .int .u8 0, .int .u8 0, .int .u8 0, .int .u8 0, .int .u8 0, .int .u8 0, .int .u8 0, .int .u8 0, .int .u8 0, .int .u8 0, .int .u8 0, .int .u8 0, .int .u8 0, .int .u8 0, .int .u8 0, .int .u8 0, .int .u8 0, .int .u8 0, .int .u8 0, .int .u8 0, .int .u8 0, .int .u8 0, .int .u8 0, .int .u8 0, .int .u8 0, .int .u8 0, .int .u8 0, .int .u8 0, .int .u8 0, .int .u8 0, .int .u8 0, .int .u8 0, .int .u8 0, .int .u8 0, .int .u8 0, .int .u8 0, .int .u8 0, .int .u8 0, .int .u8 0, .int .u8 0, .int .u8 0, .int .u8 0, .int .u8 0, .int .u8 0, .int .u8 0, .int .u8 0, .int .u8 0, .int .u8 0, .int .u8 0, .int .u8 0, .int .u8 0, .int .u8 0, .int .u8 0, .int .u8 0, .int .u8 0, .int .u8 0, .int .u8 0] } :=
  tiOk_mk (i := Go.Proofs.Tryd.t116) (d := Go.Proofs.Tryd.t116.desc) (by kernel_rfl) (by kernel_rfl) (by kernel_rfl) (by kernel_rfl) (by kernel_rfl) (by kernel_rfl)

theorem tok : TOk Go.Proofs.Tryd.prog (look tbl) := tok_of_rows (l := tbl) ⟨row0, row2, row3, row4, row5, row9, row22, row24, row26, row27, row28, row43, row45, row48, row54, row55, row58, row59, row63, row75, row78, row80, row87, row90, row104, row109, row111, row116, True.intro⟩
theorem tsize : TSize (look tbl) := tsize_of (by kernel_rfl)
theorem mixed : Go.Proofs.Tryd.prog.follows .mixedOrders = true := by kernel_rfl

end Go.Eng
