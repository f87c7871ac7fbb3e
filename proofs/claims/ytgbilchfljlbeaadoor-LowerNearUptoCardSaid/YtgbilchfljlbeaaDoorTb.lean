/-
  The types of this program, and the numbers of its types and functions. No condition.
-/
import Derived.Test.YtgbilchfljlbeaaDoorTbl
import Derived.Test.YtgbilchfljlbeaaDoorNm
import Derived.Test.YtgbilchfljlbeaaDoorProg
import Derived.KernelRfl
set_option linter.all false
set_option maxRecDepth 100000
namespace Go.Eng
open Go
def nums:Nums:={ t_:=0,t_64_uint8:=128,t_Dyad:=30,t_Dyad__Errno:=36,t_Errno:=32,t_Factor:=47,t_Factor__Errno__int:=48,t_L_float64:=22,t_L_uint32:=103,t_L_uint64:=28,t_Matrix:=44,t_Matrix__Errno:=82,t_Parts:=69,t_Parts__bool:=70,t_bn_Int:=105,t_bool:=4,t_bool__L_uint32:=113,t_float64:=24,t_float64__int:=107,t_func_int__int__float64:=133,t_w12_sums:=89,t_int:=3,t_int64:=2,t_int__Errno:=40,t_p_bn_Int:=63,t_p_w12_sums:=87,t_string:=9,t_uint:=77,t_uint32:=125,t_uint64:=66,t_uint8:=5,f_bn_NewInt:=29,f_bn_add:=91,f_bn_bit:=87,f_bn_cmp:=80,f_bn_left:=78,f_bn_length:=88,f_bn_mul:=108,f_bn_right:=92,f_bn_sub:=93,f_bn_sum:=77,f_bn_trim:=102,f_bn_twin:=94,f_bn_words:=95,f_bits_Kind:=69,f_bits_Split:=32,f_dyad_Add:=14,f_dyad_Cmp:=16,f_dyad_Int:=8,f_dyad_Mul:=52,f_dyad_Neg:=84,f_dyad_Of:=13,f_dyad_Right:=38,f_dyad_Scale:=15,f_dyad_Sign:=39,f_dyad_both:=33,f_dyad_limbs:=65,f_dyad_made:=28,f_dyad_top:=40,f_dyad_whole:=34,f_k_SameFactor:=43,f_k_SameFloat:=56,f_k_SameMatrix:=44,f_k_SameReals:=24,f_w12_LowerNear:=4,f_w12_at:=50,f_w12_awake:=17,f_w12_mirrored:=45,f_w12_near:=21,f_w12_product:=49,f_w12_small:=18,f_lower_Factor:=19,f_lower_Right:=20,f_lower_Times:=42,f_lower_finite:=47,f_lower_row:=48,f_math_Abs:=9,f_math_Copysign:=26,f_math_Float64bits:=31,f_math_Float64frombits:=30,f_math_Frexp:=70,f_math_Inf:=110,f_math_IsInf:=12,f_math_IsNaN:=57,f_math_Ldexp:=71,f_math_Signbit:=11,f_math_bits_Len64:=79,f_math_bits_TrailingZeros64:=72,f_math_frexp:=97,f_math_ldexp:=99,f_math_normalize:=109,f_matrix_Make:=81,f_matrix_Make_1:=105,f_matrix_Right:=106,f_matrix_Same:=83,f_matrix_Symmetric:=46,f_matrix_Transpose:=82,f_matrix_Transpose_1:=107,f_matrix_fits:=103,f_matrix_laid:=104,f_bI_Abs:=67,f_bI_Add:=36,f_bI_And:=89,f_bI_BitLen:=64,f_bI_Cmp:=41,f_bI_Lsh:=37,f_bI_Mul:=85,f_bI_Neg:=75,f_bI_Or:=73,f_bI_Rsh:=66,f_bI_SetInt64:=68,f_bI_SetUint64:=74,f_bI_Sign:=35,f_bI_TrailingZeroBits:=63,f_bI_Uint64:=90,f_bI_give:=76,f_bI_low:=100,f_bI_of:=101,f_p_w12_sums_adds:=51,f_vector_Same:=25,g_1:=1 }
def tbl:List (Nat×TI):=
  [(0, { d := .tuple [],size:=1,bytes:=0,zero := .tuple #[] }),
   (2, { d := .int .i64,size:=1,bytes:=8,zero := .int .i64 0 }),
   (3, { d := .int .i64,size:=1,bytes:=8,zero := .int .i64 0 }),
   (4, { d := .bool,size:=1,bytes:=1,zero := .bool false }),
   (5, { d := .int .u8,size:=1,bytes:=1,zero := .int .u8 0 }),
   (9, { d := .string,size:=1,bytes:=16,zero := .string ByteArray.empty }),
   (22, { d := .slice 24,size:=1,bytes:=24,zero := .slice none 0 0 }),
   (24, { d := .float .f64,size:=1,bytes:=8,zero := .float .f64 0 }),
   (28, { d := .slice 66,size:=1,bytes:=24,zero := .slice none 0 0 }),
   (30, { d := .struct [(4,0),(28,1),(3,2)],size:=3,bytes:=40,zero := .agg #[.bool false,.slice none 0 0,.int .i64 0] }),
   (32, { d := .int .i64,size:=1,bytes:=8,zero := .int .i64 0 }),
   (36, { d := .tuple [30,32],size:=1,bytes:=0,zero := .tuple #[.agg #[.bool false,.slice none 0 0,.int .i64 0],.int .i64 0] }),
   (40, { d := .tuple [3,32],size:=1,bytes:=0,zero := .tuple #[.int .i64 0,.int .i64 0] }),
   (44, { d := .struct [(3,0),(3,1),(22,2)],size:=3,bytes:=40,zero := .agg #[.int .i64 0,.int .i64 0,.slice none 0 0] }),
   (47, { d := .struct [(3,0),(22,1),(22,2)],size:=3,bytes:=56,zero := .agg #[.int .i64 0,.slice none 0 0,.slice none 0 0] }),
   (48, { d := .tuple [47,32,3],size:=1,bytes:=0,zero := .tuple #[.agg #[.int .i64 0,.slice none 0 0,.slice none 0 0],.int .i64 0,.int .i64 0] }),
   (63, { d := .ptr 105,size:=1,bytes:=8,zero := .pointer none }),
   (66, { d := .int .u64,size:=1,bytes:=8,zero := .int .u64 0 }),
   (69, { d := .struct [(4,0),(66,1),(3,2)],size:=3,bytes:=24,zero := .agg #[.bool false,.int .u64 0,.int .i64 0] }),
   (70, { d := .tuple [69,4],size:=1,bytes:=0,zero := .tuple #[.agg #[.bool false,.int .u64 0,.int .i64 0],.bool false] }),
   (77, { d := .int .u64,size:=1,bytes:=8,zero := .int .u64 0 }),
   (82, { d := .tuple [44,32],size:=1,bytes:=0,zero := .tuple #[.agg #[.int .i64 0,.int .i64 0,.slice none 0 0],.int .i64 0] }),
   (87, { d := .ptr 89,size:=1,bytes:=8,zero := .pointer none }),
   (89, { d := .struct [(30,0),(4,3)],size:=4,bytes:=48,zero := .agg #[.bool false,.slice none 0 0,.int .i64 0,.bool false] }),
   (103, { d := .slice 125,size:=1,bytes:=24,zero := .slice none 0 0 }),
   (105, { d := .struct [(4,0),(103,1)],size:=2,bytes:=32,zero := .agg #[.bool false,.slice none 0 0] }),
   (107, { d := .tuple [24,3],size:=1,bytes:=0,zero := .tuple #[.float .f64 0,.int .i64 0] }),
   (113, { d := .tuple [4,103],size:=1,bytes:=0,zero := .tuple #[.bool false,.slice none 0 0] }),
   (125, { d := .int .u32,size:=1,bytes:=4,zero := .int .u32 0 }),
   (128, { d := .array 64 5,size:=64,bytes:=64,zero := .agg #[.int .u8 0,.int .u8 0,.int .u8 0,.int .u8 0,.int .u8 0,.int .u8 0,.int .u8 0,.int .u8 0,.int .u8 0,.int .u8 0,.int .u8 0,.int .u8 0,.int .u8 0,.int .u8 0,.int .u8 0,.int .u8 0,.int .u8 0,.int .u8 0,.int .u8 0,.int .u8 0,.int .u8 0,.int .u8 0,.int .u8 0,.int .u8 0,.int .u8 0,.int .u8 0,.int .u8 0,.int .u8 0,.int .u8 0,.int .u8 0,.int .u8 0,.int .u8 0,.int .u8 0,.int .u8 0,.int .u8 0,.int .u8 0,.int .u8 0,.int .u8 0,.int .u8 0,.int .u8 0,.int .u8 0,.int .u8 0,.int .u8 0,.int .u8 0,.int .u8 0,.int .u8 0,.int .u8 0,.int .u8 0,.int .u8 0,.int .u8 0,.int .u8 0,.int .u8 0,.int .u8 0,.int .u8 0,.int .u8 0,.int .u8 0,.int .u8 0,.int .u8 0,.int .u8 0,.int .u8 0,.int .u8 0,.int .u8 0,.int .u8 0,.int .u8 0] }),
   (133, { d := .func,size:=1,bytes:=8,zero := .nilFunc })]
theorem row0:TIOk Go.Proofs.Tryd.prog 0 { d := .tuple [],size:=1,bytes:=0,zero := .tuple #[] }:=
  tiOk_mk (i:=Go.Proofs.Tryd.t0) (d:=Go.Proofs.Tryd.t0.desc) (by kernel_rfl) (by kernel_rfl) (by kernel_rfl) (by kernel_rfl) (by kernel_rfl) (by kernel_rfl)
theorem row2:TIOk Go.Proofs.Tryd.prog 2 { d := .int .i64,size:=1,bytes:=8,zero := .int .i64 0 }:=
  tiOk_mk (i:=Go.Proofs.Tryd.t2) (d:=Go.Proofs.Tryd.t2.desc) (by kernel_rfl) (by kernel_rfl) (by kernel_rfl) (by kernel_rfl) (by kernel_rfl) (by kernel_rfl)
theorem row3:TIOk Go.Proofs.Tryd.prog 3 { d := .int .i64,size:=1,bytes:=8,zero := .int .i64 0 }:=
  tiOk_mk (i:=Go.Proofs.Tryd.t3) (d:=Go.Proofs.Tryd.t3.desc) (by kernel_rfl) (by kernel_rfl) (by kernel_rfl) (by kernel_rfl) (by kernel_rfl) (by kernel_rfl)
theorem row4:TIOk Go.Proofs.Tryd.prog 4 { d := .bool,size:=1,bytes:=1,zero := .bool false }:=
  tiOk_mk (i:=Go.Proofs.Tryd.t4) (d:=Go.Proofs.Tryd.t4.desc) (by kernel_rfl) (by kernel_rfl) (by kernel_rfl) (by kernel_rfl) (by kernel_rfl) (by kernel_rfl)
theorem row5:TIOk Go.Proofs.Tryd.prog 5 { d := .int .u8,size:=1,bytes:=1,zero := .int .u8 0 }:=
  tiOk_mk (i:=Go.Proofs.Tryd.t5) (d:=Go.Proofs.Tryd.t5.desc) (by kernel_rfl) (by kernel_rfl) (by kernel_rfl) (by kernel_rfl) (by kernel_rfl) (by kernel_rfl)
theorem row9:TIOk Go.Proofs.Tryd.prog 9 { d := .string,size:=1,bytes:=16,zero := .string ByteArray.empty }:=
  tiOk_mk (i:=Go.Proofs.Tryd.t9) (d:=Go.Proofs.Tryd.t9.desc) (by kernel_rfl) (by kernel_rfl) (by kernel_rfl) (by kernel_rfl) (by kernel_rfl) (by kernel_rfl)
theorem row22:TIOk Go.Proofs.Tryd.prog 22 { d := .slice 24,size:=1,bytes:=24,zero := .slice none 0 0 }:=
  tiOk_mk (i:=Go.Proofs.Tryd.t22) (d:=Go.Proofs.Tryd.t22.desc) (by kernel_rfl) (by kernel_rfl) (by kernel_rfl) (by kernel_rfl) (by kernel_rfl) (by kernel_rfl)
theorem row24:TIOk Go.Proofs.Tryd.prog 24 { d := .float .f64,size:=1,bytes:=8,zero := .float .f64 0 }:=
  tiOk_mk (i:=Go.Proofs.Tryd.t24) (d:=Go.Proofs.Tryd.t24.desc) (by kernel_rfl) (by kernel_rfl) (by kernel_rfl) (by kernel_rfl) (by kernel_rfl) (by kernel_rfl)
theorem row28:TIOk Go.Proofs.Tryd.prog 28 { d := .slice 66,size:=1,bytes:=24,zero := .slice none 0 0 }:=
  tiOk_mk (i:=Go.Proofs.Tryd.t28) (d:=Go.Proofs.Tryd.t28.desc) (by kernel_rfl) (by kernel_rfl) (by kernel_rfl) (by kernel_rfl) (by kernel_rfl) (by kernel_rfl)
theorem row30:TIOk Go.Proofs.Tryd.prog 30 { d := .struct [(4,0),(28,1),(3,2)],size:=3,bytes:=40,zero := .agg #[.bool false,.slice none 0 0,.int .i64 0] }:=
  tiOk_mk (i:=Go.Proofs.Tryd.t30) (d:=Go.Proofs.Tryd.t29.desc) (by kernel_rfl) (by kernel_rfl) (by kernel_rfl) (by kernel_rfl) (by kernel_rfl) (by kernel_rfl)
theorem row32:TIOk Go.Proofs.Tryd.prog 32 { d := .int .i64,size:=1,bytes:=8,zero := .int .i64 0 }:=
  tiOk_mk (i:=Go.Proofs.Tryd.t32) (d:=Go.Proofs.Tryd.t3.desc) (by kernel_rfl) (by kernel_rfl) (by kernel_rfl) (by kernel_rfl) (by kernel_rfl) (by kernel_rfl)
theorem row36:TIOk Go.Proofs.Tryd.prog 36 { d := .tuple [30,32],size:=1,bytes:=0,zero := .tuple #[.agg #[.bool false,.slice none 0 0,.int .i64 0],.int .i64 0] }:=
  tiOk_mk (i:=Go.Proofs.Tryd.t36) (d:=Go.Proofs.Tryd.t36.desc) (by kernel_rfl) (by kernel_rfl) (by kernel_rfl) (by kernel_rfl) (by kernel_rfl) (by kernel_rfl)
theorem row40:TIOk Go.Proofs.Tryd.prog 40 { d := .tuple [3,32],size:=1,bytes:=0,zero := .tuple #[.int .i64 0,.int .i64 0] }:=
  tiOk_mk (i:=Go.Proofs.Tryd.t40) (d:=Go.Proofs.Tryd.t40.desc) (by kernel_rfl) (by kernel_rfl) (by kernel_rfl) (by kernel_rfl) (by kernel_rfl) (by kernel_rfl)
theorem row44:TIOk Go.Proofs.Tryd.prog 44 { d := .struct [(3,0),(3,1),(22,2)],size:=3,bytes:=40,zero := .agg #[.int .i64 0,.int .i64 0,.slice none 0 0] }:=
  tiOk_mk (i:=Go.Proofs.Tryd.t44) (d:=Go.Proofs.Tryd.t43.desc) (by kernel_rfl) (by kernel_rfl) (by kernel_rfl) (by kernel_rfl) (by kernel_rfl) (by kernel_rfl)
theorem row47:TIOk Go.Proofs.Tryd.prog 47 { d := .struct [(3,0),(22,1),(22,2)],size:=3,bytes:=56,zero := .agg #[.int .i64 0,.slice none 0 0,.slice none 0 0] }:=
  tiOk_mk (i:=Go.Proofs.Tryd.t47) (d:=Go.Proofs.Tryd.t46.desc) (by kernel_rfl) (by kernel_rfl) (by kernel_rfl) (by kernel_rfl) (by kernel_rfl) (by kernel_rfl)
theorem row48:TIOk Go.Proofs.Tryd.prog 48 { d := .tuple [47,32,3],size:=1,bytes:=0,zero := .tuple #[.agg #[.int .i64 0,.slice none 0 0,.slice none 0 0],.int .i64 0,.int .i64 0] }:=
  tiOk_mk (i:=Go.Proofs.Tryd.t48) (d:=Go.Proofs.Tryd.t48.desc) (by kernel_rfl) (by kernel_rfl) (by kernel_rfl) (by kernel_rfl) (by kernel_rfl) (by kernel_rfl)
theorem row63:TIOk Go.Proofs.Tryd.prog 63 { d := .ptr 105,size:=1,bytes:=8,zero := .pointer none }:=
  tiOk_mk (i:=Go.Proofs.Tryd.t63) (d:=Go.Proofs.Tryd.t63.desc) (by kernel_rfl) (by kernel_rfl) (by kernel_rfl) (by kernel_rfl) (by kernel_rfl) (by kernel_rfl)
theorem row66:TIOk Go.Proofs.Tryd.prog 66 { d := .int .u64,size:=1,bytes:=8,zero := .int .u64 0 }:=
  tiOk_mk (i:=Go.Proofs.Tryd.t66) (d:=Go.Proofs.Tryd.t66.desc) (by kernel_rfl) (by kernel_rfl) (by kernel_rfl) (by kernel_rfl) (by kernel_rfl) (by kernel_rfl)
theorem row69:TIOk Go.Proofs.Tryd.prog 69 { d := .struct [(4,0),(66,1),(3,2)],size:=3,bytes:=24,zero := .agg #[.bool false,.int .u64 0,.int .i64 0] }:=
  tiOk_mk (i:=Go.Proofs.Tryd.t69) (d:=Go.Proofs.Tryd.t68.desc) (by kernel_rfl) (by kernel_rfl) (by kernel_rfl) (by kernel_rfl) (by kernel_rfl) (by kernel_rfl)
theorem row70:TIOk Go.Proofs.Tryd.prog 70 { d := .tuple [69,4],size:=1,bytes:=0,zero := .tuple #[.agg #[.bool false,.int .u64 0,.int .i64 0],.bool false] }:=
  tiOk_mk (i:=Go.Proofs.Tryd.t70) (d:=Go.Proofs.Tryd.t70.desc) (by kernel_rfl) (by kernel_rfl) (by kernel_rfl) (by kernel_rfl) (by kernel_rfl) (by kernel_rfl)
theorem row77:TIOk Go.Proofs.Tryd.prog 77 { d := .int .u64,size:=1,bytes:=8,zero := .int .u64 0 }:=
  tiOk_mk (i:=Go.Proofs.Tryd.t77) (d:=Go.Proofs.Tryd.t77.desc) (by kernel_rfl) (by kernel_rfl) (by kernel_rfl) (by kernel_rfl) (by kernel_rfl) (by kernel_rfl)
theorem row82:TIOk Go.Proofs.Tryd.prog 82 { d := .tuple [44,32],size:=1,bytes:=0,zero := .tuple #[.agg #[.int .i64 0,.int .i64 0,.slice none 0 0],.int .i64 0] }:=
  tiOk_mk (i:=Go.Proofs.Tryd.t82) (d:=Go.Proofs.Tryd.t82.desc) (by kernel_rfl) (by kernel_rfl) (by kernel_rfl) (by kernel_rfl) (by kernel_rfl) (by kernel_rfl)
theorem row87:TIOk Go.Proofs.Tryd.prog 87 { d := .ptr 89,size:=1,bytes:=8,zero := .pointer none }:=
  tiOk_mk (i:=Go.Proofs.Tryd.t87) (d:=Go.Proofs.Tryd.t87.desc) (by kernel_rfl) (by kernel_rfl) (by kernel_rfl) (by kernel_rfl) (by kernel_rfl) (by kernel_rfl)
theorem row89:TIOk Go.Proofs.Tryd.prog 89 { d := .struct [(30,0),(4,3)],size:=4,bytes:=48,zero := .agg #[.bool false,.slice none 0 0,.int .i64 0,.bool false] }:=
  tiOk_mk (i:=Go.Proofs.Tryd.t89) (d:=Go.Proofs.Tryd.t88.desc) (by kernel_rfl) (by kernel_rfl) (by kernel_rfl) (by kernel_rfl) (by kernel_rfl) (by kernel_rfl)
theorem row103:TIOk Go.Proofs.Tryd.prog 103 { d := .slice 125,size:=1,bytes:=24,zero := .slice none 0 0 }:=
  tiOk_mk (i:=Go.Proofs.Tryd.t103) (d:=Go.Proofs.Tryd.t103.desc) (by kernel_rfl) (by kernel_rfl) (by kernel_rfl) (by kernel_rfl) (by kernel_rfl) (by kernel_rfl)
theorem row105:TIOk Go.Proofs.Tryd.prog 105 { d := .struct [(4,0),(103,1)],size:=2,bytes:=32,zero := .agg #[.bool false,.slice none 0 0] }:=
  tiOk_mk (i:=Go.Proofs.Tryd.t105) (d:=Go.Proofs.Tryd.t104.desc) (by kernel_rfl) (by kernel_rfl) (by kernel_rfl) (by kernel_rfl) (by kernel_rfl) (by kernel_rfl)
theorem row107:TIOk Go.Proofs.Tryd.prog 107 { d := .tuple [24,3],size:=1,bytes:=0,zero := .tuple #[.float .f64 0,.int .i64 0] }:=
  tiOk_mk (i:=Go.Proofs.Tryd.t107) (d:=Go.Proofs.Tryd.t107.desc) (by kernel_rfl) (by kernel_rfl) (by kernel_rfl) (by kernel_rfl) (by kernel_rfl) (by kernel_rfl)
theorem row113:TIOk Go.Proofs.Tryd.prog 113 { d := .tuple [4,103],size:=1,bytes:=0,zero := .tuple #[.bool false,.slice none 0 0] }:=
  tiOk_mk (i:=Go.Proofs.Tryd.t113) (d:=Go.Proofs.Tryd.t113.desc) (by kernel_rfl) (by kernel_rfl) (by kernel_rfl) (by kernel_rfl) (by kernel_rfl) (by kernel_rfl)
theorem row125:TIOk Go.Proofs.Tryd.prog 125 { d := .int .u32,size:=1,bytes:=4,zero := .int .u32 0 }:=
  tiOk_mk (i:=Go.Proofs.Tryd.t125) (d:=Go.Proofs.Tryd.t125.desc) (by kernel_rfl) (by kernel_rfl) (by kernel_rfl) (by kernel_rfl) (by kernel_rfl) (by kernel_rfl)
theorem row128:TIOk Go.Proofs.Tryd.prog 128 { d := .array 64 5,size:=64,bytes:=64,zero := .agg #[.int .u8 0,.int .u8 0,.int .u8 0,.int .u8 0,.int .u8 0,.int .u8 0,.int .u8 0,.int .u8 0,.int .u8 0,.int .u8 0,.int .u8 0,.int .u8 0,.int .u8 0,.int .u8 0,.int .u8 0,.int .u8 0,.int .u8 0,.int .u8 0,.int .u8 0,.int .u8 0,.int .u8 0,.int .u8 0,.int .u8 0,.int .u8 0,.int .u8 0,.int .u8 0,.int .u8 0,.int .u8 0,.int .u8 0,.int .u8 0,.int .u8 0,.int .u8 0,.int .u8 0,.int .u8 0,.int .u8 0,.int .u8 0,.int .u8 0,.int .u8 0,.int .u8 0,.int .u8 0,.int .u8 0,.int .u8 0,.int .u8 0,.int .u8 0,.int .u8 0,.int .u8 0,.int .u8 0,.int .u8 0,.int .u8 0,.int .u8 0,.int .u8 0,.int .u8 0,.int .u8 0,.int .u8 0,.int .u8 0,.int .u8 0,.int .u8 0,.int .u8 0,.int .u8 0,.int .u8 0,.int .u8 0,.int .u8 0,.int .u8 0,.int .u8 0] }:=
  tiOk_mk (i:=Go.Proofs.Tryd.t128) (d:=Go.Proofs.Tryd.t128.desc) (by kernel_rfl) (by kernel_rfl) (by kernel_rfl) (by kernel_rfl) (by kernel_rfl) (by kernel_rfl)
theorem row133:TIOk Go.Proofs.Tryd.prog 133 { d := .func,size:=1,bytes:=8,zero := .nilFunc }:=
  tiOk_mk (i:=Go.Proofs.Tryd.t133) (d:=Go.Proofs.Tryd.t133.desc) (by kernel_rfl) (by kernel_rfl) (by kernel_rfl) (by kernel_rfl) (by kernel_rfl) (by kernel_rfl)
theorem tok:TOk Go.Proofs.Tryd.prog (look tbl):=tok_of_rows (l:=tbl) ⟨row0,row2,row3,row4,row5,row9,row22,row24,row28,row30,row32,row36,row40,row44,row47,row48,row63,row66,row69,row70,row77,row82,row87,row89,row103,row105,row107,row113,row125,row128,row133,True.intro⟩
theorem tsize:TSize (look tbl):=tsize_of (by kernel_rfl)
theorem mixed:Go.Proofs.Tryd.prog.follows .mixedOrders=true:=by kernel_rfl
end Go.Eng
