/-
  The types of this program, and the numbers of its types and functions. No condition.
-/
import Derived.Test.YtgbilchfljlbeaaGreatDoorTbl
import Derived.Test.YtgbilchfljlbeaaGreatDoorNm
import Derived.Test.YtgbilchfljlbeaaGreatDoorProg
import Derived.KernelRfl
set_option linter.all false
set_option maxRecDepth 100000
namespace Go.Eng
open Go
def nums:Nums:={ t_64_uint8:=164,t_Dyad:=78,t_Dyad__Errno:=80,t_Errno:=29,t_Factor:=36,t_L_L_float64:=77,t_L_float64:=22,t_L_float64__Errno:=30,t_L_float64__int__Errno:=43,t_L_uint32:=122,t_L_uint64:=66,t_Matrix:=24,t_Matrix__Factor:=59,t_Mode:=64,t_Parts:=87,t_Parts__bool:=88,t_bn_Int:=124,t_bool:=4,t_bool__L_uint32:=160,t_float64:=48,t_float64__Errno:=62,t_float64__bool:=49,t_float64__int:=148,t_func_float64__float64__float64:=104,t_func_int__Dyad:=83,t_w14_Case:=38,t_int:=3,t_int64:=2,t_int64__bool:=170,t_p_bn_Int:=115,t_string:=9,t_uint:=126,t_uint32:=159,t_uint64:=85,t_uint8:=5,f_bn_NewInt:=107,f_bn_add:=154,f_bn_bit:=175,f_bn_cmp:=158,f_bn_left:=153,f_bn_length:=176,f_bn_mul:=150,f_bn_right:=155,f_bn_sub:=156,f_bn_sum:=157,f_bn_trim:=178,f_bn_twin:=151,f_bn_words:=174,f_bits_At:=180,f_bits_Join:=160,f_bits_Kind:=139,f_bits_Next:=161,f_bits_Place:=179,f_bits_Split:=94,f_dyad_Add:=93,f_dyad_Int:=92,f_dyad_Mul:=58,f_dyad_Of:=57,f_dyad_Right:=99,f_dyad_Round:=59,f_dyad_away:=109,f_dyad_both:=95,f_dyad_float:=110,f_dyad_limbs:=148,f_dyad_made:=97,f_dyad_top:=101,f_dyad_whole:=96,f_k_Like:=52,f_k_LikeReals:=27,f_k_Pick:=24,f_k_SameFloat:=41,f_k_SameReals:=15,f_k_mark:=30,f_w14_RefineNever:=6,f_w14_awake:=9,f_w14_great:=10,f_w14_left:=26,f_w14_two:=29,f_lower_Right:=76,f_math_Abs:=83,f_math_Copysign:=164,f_math_Float64bits:=75,f_math_Float64frombits:=131,f_math_Frexp:=140,f_math_Inf:=184,f_math_IsInf:=91,f_math_IsNaN:=90,f_math_Ldexp:=141,f_math_Signbit:=127,f_math_bits_Len64:=152,f_math_bits_TrailingZeros64:=142,f_math_frexp:=169,f_math_ldexp:=171,f_math_normalize:=183,f_matrix_Right:=53,f_matrix_fits:=89,f_bI_Abs:=100,f_bI_Add:=138,f_bI_And:=177,f_bI_BitLen:=147,f_bI_Cmp:=106,f_bI_Lsh:=102,f_bI_Mul:=98,f_bI_Neg:=145,f_bI_Or:=143,f_bI_Rsh:=104,f_bI_SetInt64:=159,f_bI_SetUint64:=144,f_bI_Sign:=108,f_bI_Sub:=105,f_bI_TrailingZeroBits:=146,f_bI_Uint64:=103,f_bI_give:=149,f_bI_low:=172,f_bI_of:=173,f_refine_Left:=13,f_refine_Step:=19,f_refine_Until:=22,f_refine_finite:=32,f_refine_fit:=31,f_refine_fits:=43,f_round_Add:=82,f_round_finite:=126,f_round_none:=128,f_round_settle:=129,f_round_sign:=130,f_round_step:=165,f_round_way:=125,f_slices_Clone___float64_float64:=86,f_slices_Contains___float64_float64:=88,f_slices_Index___float64_float64:=137,f_solve_Back:=51,f_solve_Forward:=50,f_solve_Solve:=25,f_solve_below:=87,f_solve_fits:=85,f_sums_DotExact:=33,f_sums_DotExact_1:=56,f_sums_finite:=54,f_sums_total:=55,f_vector_Add:=44,f_vector_Add_1:=78,f_vector_Norm:=48,f_vector_each:=77,f_vector_fit:=121,g_1:=1 }
def tbl:List (Nat×TI):=
  [(2, { d := .int .i64,size:=1,bytes:=8,zero := .int .i64 0 }),
   (3, { d := .int .i64,size:=1,bytes:=8,zero := .int .i64 0 }),
   (4, { d := .bool,size:=1,bytes:=1,zero := .bool false }),
   (5, { d := .int .u8,size:=1,bytes:=1,zero := .int .u8 0 }),
   (9, { d := .string,size:=1,bytes:=16,zero := .string ByteArray.empty }),
   (22, { d := .slice 48,size:=1,bytes:=24,zero := .slice none 0 0 }),
   (24, { d := .struct [(3,0),(3,1),(22,2)],size:=3,bytes:=40,zero := .agg #[.int .i64 0,.int .i64 0,.slice none 0 0] }),
   (29, { d := .int .i64,size:=1,bytes:=8,zero := .int .i64 0 }),
   (30, { d := .tuple [22,29],size:=1,bytes:=0,zero := .tuple #[.slice none 0 0,.int .i64 0] }),
   (36, { d := .struct [(3,0),(22,1),(22,2)],size:=3,bytes:=56,zero := .agg #[.int .i64 0,.slice none 0 0,.slice none 0 0] }),
   (38, { d := .struct [(24,0),(36,3),(22,6),(22,7)],size:=8,bytes:=144,zero := .agg #[.int .i64 0,.int .i64 0,.slice none 0 0,.int .i64 0,.slice none 0 0,.slice none 0 0,.slice none 0 0,.slice none 0 0] }),
   (43, { d := .tuple [22,3,29],size:=1,bytes:=0,zero := .tuple #[.slice none 0 0,.int .i64 0,.int .i64 0] }),
   (48, { d := .float .f64,size:=1,bytes:=8,zero := .float .f64 0 }),
   (49, { d := .tuple [48,4],size:=1,bytes:=0,zero := .tuple #[.float .f64 0,.bool false] }),
   (59, { d := .tuple [24,36],size:=1,bytes:=0,zero := .tuple #[.agg #[.int .i64 0,.int .i64 0,.slice none 0 0],.agg #[.int .i64 0,.slice none 0 0,.slice none 0 0]] }),
   (62, { d := .tuple [48,29],size:=1,bytes:=0,zero := .tuple #[.float .f64 0,.int .i64 0] }),
   (64, { d := .int .i8,size:=1,bytes:=1,zero := .int .i8 0 }),
   (66, { d := .slice 85,size:=1,bytes:=24,zero := .slice none 0 0 }),
   (77, { d := .slice 22,size:=1,bytes:=24,zero := .slice none 0 0 }),
   (78, { d := .struct [(4,0),(66,1),(3,2)],size:=3,bytes:=40,zero := .agg #[.bool false,.slice none 0 0,.int .i64 0] }),
   (80, { d := .tuple [78,29],size:=1,bytes:=0,zero := .tuple #[.agg #[.bool false,.slice none 0 0,.int .i64 0],.int .i64 0] }),
   (83, { d := .func,size:=1,bytes:=8,zero := .nilFunc }),
   (85, { d := .int .u64,size:=1,bytes:=8,zero := .int .u64 0 }),
   (87, { d := .struct [(4,0),(85,1),(3,2)],size:=3,bytes:=24,zero := .agg #[.bool false,.int .u64 0,.int .i64 0] }),
   (88, { d := .tuple [87,4],size:=1,bytes:=0,zero := .tuple #[.agg #[.bool false,.int .u64 0,.int .i64 0],.bool false] }),
   (104, { d := .func,size:=1,bytes:=8,zero := .nilFunc }),
   (115, { d := .ptr 124,size:=1,bytes:=8,zero := .pointer none }),
   (122, { d := .slice 159,size:=1,bytes:=24,zero := .slice none 0 0 }),
   (124, { d := .struct [(4,0),(122,1)],size:=2,bytes:=32,zero := .agg #[.bool false,.slice none 0 0] }),
   (126, { d := .int .u64,size:=1,bytes:=8,zero := .int .u64 0 }),
   (148, { d := .tuple [48,3],size:=1,bytes:=0,zero := .tuple #[.float .f64 0,.int .i64 0] }),
   (159, { d := .int .u32,size:=1,bytes:=4,zero := .int .u32 0 }),
   (160, { d := .tuple [4,122],size:=1,bytes:=0,zero := .tuple #[.bool false,.slice none 0 0] }),
   (164, { d := .array 64 5,size:=64,bytes:=64,zero := .agg #[.int .u8 0,.int .u8 0,.int .u8 0,.int .u8 0,.int .u8 0,.int .u8 0,.int .u8 0,.int .u8 0,.int .u8 0,.int .u8 0,.int .u8 0,.int .u8 0,.int .u8 0,.int .u8 0,.int .u8 0,.int .u8 0,.int .u8 0,.int .u8 0,.int .u8 0,.int .u8 0,.int .u8 0,.int .u8 0,.int .u8 0,.int .u8 0,.int .u8 0,.int .u8 0,.int .u8 0,.int .u8 0,.int .u8 0,.int .u8 0,.int .u8 0,.int .u8 0,.int .u8 0,.int .u8 0,.int .u8 0,.int .u8 0,.int .u8 0,.int .u8 0,.int .u8 0,.int .u8 0,.int .u8 0,.int .u8 0,.int .u8 0,.int .u8 0,.int .u8 0,.int .u8 0,.int .u8 0,.int .u8 0,.int .u8 0,.int .u8 0,.int .u8 0,.int .u8 0,.int .u8 0,.int .u8 0,.int .u8 0,.int .u8 0,.int .u8 0,.int .u8 0,.int .u8 0,.int .u8 0,.int .u8 0,.int .u8 0,.int .u8 0,.int .u8 0] }),
   (170, { d := .tuple [2,4],size:=1,bytes:=0,zero := .tuple #[.int .i64 0,.bool false] })]
theorem row2:TIOk Go.Proofs.Tryz.prog 2 { d := .int .i64,size:=1,bytes:=8,zero := .int .i64 0 }:=
  tiOk_mk (i:=Go.Proofs.Tryz.t2) (d:=Go.Proofs.Tryz.t2.desc) (by kernel_rfl) (by kernel_rfl) (by kernel_rfl) (by kernel_rfl) (by kernel_rfl) (by kernel_rfl)
theorem row3:TIOk Go.Proofs.Tryz.prog 3 { d := .int .i64,size:=1,bytes:=8,zero := .int .i64 0 }:=
  tiOk_mk (i:=Go.Proofs.Tryz.t3) (d:=Go.Proofs.Tryz.t3.desc) (by kernel_rfl) (by kernel_rfl) (by kernel_rfl) (by kernel_rfl) (by kernel_rfl) (by kernel_rfl)
theorem row4:TIOk Go.Proofs.Tryz.prog 4 { d := .bool,size:=1,bytes:=1,zero := .bool false }:=
  tiOk_mk (i:=Go.Proofs.Tryz.t4) (d:=Go.Proofs.Tryz.t4.desc) (by kernel_rfl) (by kernel_rfl) (by kernel_rfl) (by kernel_rfl) (by kernel_rfl) (by kernel_rfl)
theorem row5:TIOk Go.Proofs.Tryz.prog 5 { d := .int .u8,size:=1,bytes:=1,zero := .int .u8 0 }:=
  tiOk_mk (i:=Go.Proofs.Tryz.t5) (d:=Go.Proofs.Tryz.t5.desc) (by kernel_rfl) (by kernel_rfl) (by kernel_rfl) (by kernel_rfl) (by kernel_rfl) (by kernel_rfl)
theorem row9:TIOk Go.Proofs.Tryz.prog 9 { d := .string,size:=1,bytes:=16,zero := .string ByteArray.empty }:=
  tiOk_mk (i:=Go.Proofs.Tryz.t9) (d:=Go.Proofs.Tryz.t9.desc) (by kernel_rfl) (by kernel_rfl) (by kernel_rfl) (by kernel_rfl) (by kernel_rfl) (by kernel_rfl)
theorem row22:TIOk Go.Proofs.Tryz.prog 22 { d := .slice 48,size:=1,bytes:=24,zero := .slice none 0 0 }:=
  tiOk_mk (i:=Go.Proofs.Tryz.t22) (d:=Go.Proofs.Tryz.t22.desc) (by kernel_rfl) (by kernel_rfl) (by kernel_rfl) (by kernel_rfl) (by kernel_rfl) (by kernel_rfl)
theorem row24:TIOk Go.Proofs.Tryz.prog 24 { d := .struct [(3,0),(3,1),(22,2)],size:=3,bytes:=40,zero := .agg #[.int .i64 0,.int .i64 0,.slice none 0 0] }:=
  tiOk_mk (i:=Go.Proofs.Tryz.t24) (d:=Go.Proofs.Tryz.t23.desc) (by kernel_rfl) (by kernel_rfl) (by kernel_rfl) (by kernel_rfl) (by kernel_rfl) (by kernel_rfl)
theorem row29:TIOk Go.Proofs.Tryz.prog 29 { d := .int .i64,size:=1,bytes:=8,zero := .int .i64 0 }:=
  tiOk_mk (i:=Go.Proofs.Tryz.t29) (d:=Go.Proofs.Tryz.t3.desc) (by kernel_rfl) (by kernel_rfl) (by kernel_rfl) (by kernel_rfl) (by kernel_rfl) (by kernel_rfl)
theorem row30:TIOk Go.Proofs.Tryz.prog 30 { d := .tuple [22,29],size:=1,bytes:=0,zero := .tuple #[.slice none 0 0,.int .i64 0] }:=
  tiOk_mk (i:=Go.Proofs.Tryz.t30) (d:=Go.Proofs.Tryz.t30.desc) (by kernel_rfl) (by kernel_rfl) (by kernel_rfl) (by kernel_rfl) (by kernel_rfl) (by kernel_rfl)
theorem row36:TIOk Go.Proofs.Tryz.prog 36 { d := .struct [(3,0),(22,1),(22,2)],size:=3,bytes:=56,zero := .agg #[.int .i64 0,.slice none 0 0,.slice none 0 0] }:=
  tiOk_mk (i:=Go.Proofs.Tryz.t36) (d:=Go.Proofs.Tryz.t35.desc) (by kernel_rfl) (by kernel_rfl) (by kernel_rfl) (by kernel_rfl) (by kernel_rfl) (by kernel_rfl)
theorem row38:TIOk Go.Proofs.Tryz.prog 38 { d := .struct [(24,0),(36,3),(22,6),(22,7)],size:=8,bytes:=144,zero := .agg #[.int .i64 0,.int .i64 0,.slice none 0 0,.int .i64 0,.slice none 0 0,.slice none 0 0,.slice none 0 0,.slice none 0 0] }:=
  tiOk_mk (i:=Go.Proofs.Tryz.t38) (d:=Go.Proofs.Tryz.t37.desc) (by kernel_rfl) (by kernel_rfl) (by kernel_rfl) (by kernel_rfl) (by kernel_rfl) (by kernel_rfl)
theorem row43:TIOk Go.Proofs.Tryz.prog 43 { d := .tuple [22,3,29],size:=1,bytes:=0,zero := .tuple #[.slice none 0 0,.int .i64 0,.int .i64 0] }:=
  tiOk_mk (i:=Go.Proofs.Tryz.t43) (d:=Go.Proofs.Tryz.t43.desc) (by kernel_rfl) (by kernel_rfl) (by kernel_rfl) (by kernel_rfl) (by kernel_rfl) (by kernel_rfl)
theorem row48:TIOk Go.Proofs.Tryz.prog 48 { d := .float .f64,size:=1,bytes:=8,zero := .float .f64 0 }:=
  tiOk_mk (i:=Go.Proofs.Tryz.t48) (d:=Go.Proofs.Tryz.t48.desc) (by kernel_rfl) (by kernel_rfl) (by kernel_rfl) (by kernel_rfl) (by kernel_rfl) (by kernel_rfl)
theorem row49:TIOk Go.Proofs.Tryz.prog 49 { d := .tuple [48,4],size:=1,bytes:=0,zero := .tuple #[.float .f64 0,.bool false] }:=
  tiOk_mk (i:=Go.Proofs.Tryz.t49) (d:=Go.Proofs.Tryz.t49.desc) (by kernel_rfl) (by kernel_rfl) (by kernel_rfl) (by kernel_rfl) (by kernel_rfl) (by kernel_rfl)
theorem row59:TIOk Go.Proofs.Tryz.prog 59 { d := .tuple [24,36],size:=1,bytes:=0,zero := .tuple #[.agg #[.int .i64 0,.int .i64 0,.slice none 0 0],.agg #[.int .i64 0,.slice none 0 0,.slice none 0 0]] }:=
  tiOk_mk (i:=Go.Proofs.Tryz.t59) (d:=Go.Proofs.Tryz.t59.desc) (by kernel_rfl) (by kernel_rfl) (by kernel_rfl) (by kernel_rfl) (by kernel_rfl) (by kernel_rfl)
theorem row62:TIOk Go.Proofs.Tryz.prog 62 { d := .tuple [48,29],size:=1,bytes:=0,zero := .tuple #[.float .f64 0,.int .i64 0] }:=
  tiOk_mk (i:=Go.Proofs.Tryz.t62) (d:=Go.Proofs.Tryz.t62.desc) (by kernel_rfl) (by kernel_rfl) (by kernel_rfl) (by kernel_rfl) (by kernel_rfl) (by kernel_rfl)
theorem row64:TIOk Go.Proofs.Tryz.prog 64 { d := .int .i8,size:=1,bytes:=1,zero := .int .i8 0 }:=
  tiOk_mk (i:=Go.Proofs.Tryz.t64) (d:=Go.Proofs.Tryz.t52.desc) (by kernel_rfl) (by kernel_rfl) (by kernel_rfl) (by kernel_rfl) (by kernel_rfl) (by kernel_rfl)
theorem row66:TIOk Go.Proofs.Tryz.prog 66 { d := .slice 85,size:=1,bytes:=24,zero := .slice none 0 0 }:=
  tiOk_mk (i:=Go.Proofs.Tryz.t66) (d:=Go.Proofs.Tryz.t66.desc) (by kernel_rfl) (by kernel_rfl) (by kernel_rfl) (by kernel_rfl) (by kernel_rfl) (by kernel_rfl)
theorem row77:TIOk Go.Proofs.Tryz.prog 77 { d := .slice 22,size:=1,bytes:=24,zero := .slice none 0 0 }:=
  tiOk_mk (i:=Go.Proofs.Tryz.t77) (d:=Go.Proofs.Tryz.t77.desc) (by kernel_rfl) (by kernel_rfl) (by kernel_rfl) (by kernel_rfl) (by kernel_rfl) (by kernel_rfl)
theorem row78:TIOk Go.Proofs.Tryz.prog 78 { d := .struct [(4,0),(66,1),(3,2)],size:=3,bytes:=40,zero := .agg #[.bool false,.slice none 0 0,.int .i64 0] }:=
  tiOk_mk (i:=Go.Proofs.Tryz.t78) (d:=Go.Proofs.Tryz.t67.desc) (by kernel_rfl) (by kernel_rfl) (by kernel_rfl) (by kernel_rfl) (by kernel_rfl) (by kernel_rfl)
theorem row80:TIOk Go.Proofs.Tryz.prog 80 { d := .tuple [78,29],size:=1,bytes:=0,zero := .tuple #[.agg #[.bool false,.slice none 0 0,.int .i64 0],.int .i64 0] }:=
  tiOk_mk (i:=Go.Proofs.Tryz.t80) (d:=Go.Proofs.Tryz.t80.desc) (by kernel_rfl) (by kernel_rfl) (by kernel_rfl) (by kernel_rfl) (by kernel_rfl) (by kernel_rfl)
theorem row83:TIOk Go.Proofs.Tryz.prog 83 { d := .func,size:=1,bytes:=8,zero := .nilFunc }:=
  tiOk_mk (i:=Go.Proofs.Tryz.t83) (d:=Go.Proofs.Tryz.t83.desc) (by kernel_rfl) (by kernel_rfl) (by kernel_rfl) (by kernel_rfl) (by kernel_rfl) (by kernel_rfl)
theorem row85:TIOk Go.Proofs.Tryz.prog 85 { d := .int .u64,size:=1,bytes:=8,zero := .int .u64 0 }:=
  tiOk_mk (i:=Go.Proofs.Tryz.t85) (d:=Go.Proofs.Tryz.t85.desc) (by kernel_rfl) (by kernel_rfl) (by kernel_rfl) (by kernel_rfl) (by kernel_rfl) (by kernel_rfl)
theorem row87:TIOk Go.Proofs.Tryz.prog 87 { d := .struct [(4,0),(85,1),(3,2)],size:=3,bytes:=24,zero := .agg #[.bool false,.int .u64 0,.int .i64 0] }:=
  tiOk_mk (i:=Go.Proofs.Tryz.t87) (d:=Go.Proofs.Tryz.t86.desc) (by kernel_rfl) (by kernel_rfl) (by kernel_rfl) (by kernel_rfl) (by kernel_rfl) (by kernel_rfl)
theorem row88:TIOk Go.Proofs.Tryz.prog 88 { d := .tuple [87,4],size:=1,bytes:=0,zero := .tuple #[.agg #[.bool false,.int .u64 0,.int .i64 0],.bool false] }:=
  tiOk_mk (i:=Go.Proofs.Tryz.t88) (d:=Go.Proofs.Tryz.t88.desc) (by kernel_rfl) (by kernel_rfl) (by kernel_rfl) (by kernel_rfl) (by kernel_rfl) (by kernel_rfl)
theorem row104:TIOk Go.Proofs.Tryz.prog 104 { d := .func,size:=1,bytes:=8,zero := .nilFunc }:=
  tiOk_mk (i:=Go.Proofs.Tryz.t104) (d:=Go.Proofs.Tryz.t104.desc) (by kernel_rfl) (by kernel_rfl) (by kernel_rfl) (by kernel_rfl) (by kernel_rfl) (by kernel_rfl)
theorem row115:TIOk Go.Proofs.Tryz.prog 115 { d := .ptr 124,size:=1,bytes:=8,zero := .pointer none }:=
  tiOk_mk (i:=Go.Proofs.Tryz.t115) (d:=Go.Proofs.Tryz.t115.desc) (by kernel_rfl) (by kernel_rfl) (by kernel_rfl) (by kernel_rfl) (by kernel_rfl) (by kernel_rfl)
theorem row122:TIOk Go.Proofs.Tryz.prog 122 { d := .slice 159,size:=1,bytes:=24,zero := .slice none 0 0 }:=
  tiOk_mk (i:=Go.Proofs.Tryz.t122) (d:=Go.Proofs.Tryz.t122.desc) (by kernel_rfl) (by kernel_rfl) (by kernel_rfl) (by kernel_rfl) (by kernel_rfl) (by kernel_rfl)
theorem row124:TIOk Go.Proofs.Tryz.prog 124 { d := .struct [(4,0),(122,1)],size:=2,bytes:=32,zero := .agg #[.bool false,.slice none 0 0] }:=
  tiOk_mk (i:=Go.Proofs.Tryz.t124) (d:=Go.Proofs.Tryz.t123.desc) (by kernel_rfl) (by kernel_rfl) (by kernel_rfl) (by kernel_rfl) (by kernel_rfl) (by kernel_rfl)
theorem row126:TIOk Go.Proofs.Tryz.prog 126 { d := .int .u64,size:=1,bytes:=8,zero := .int .u64 0 }:=
  tiOk_mk (i:=Go.Proofs.Tryz.t126) (d:=Go.Proofs.Tryz.t126.desc) (by kernel_rfl) (by kernel_rfl) (by kernel_rfl) (by kernel_rfl) (by kernel_rfl) (by kernel_rfl)
theorem row148:TIOk Go.Proofs.Tryz.prog 148 { d := .tuple [48,3],size:=1,bytes:=0,zero := .tuple #[.float .f64 0,.int .i64 0] }:=
  tiOk_mk (i:=Go.Proofs.Tryz.t148) (d:=Go.Proofs.Tryz.t148.desc) (by kernel_rfl) (by kernel_rfl) (by kernel_rfl) (by kernel_rfl) (by kernel_rfl) (by kernel_rfl)
theorem row159:TIOk Go.Proofs.Tryz.prog 159 { d := .int .u32,size:=1,bytes:=4,zero := .int .u32 0 }:=
  tiOk_mk (i:=Go.Proofs.Tryz.t159) (d:=Go.Proofs.Tryz.t159.desc) (by kernel_rfl) (by kernel_rfl) (by kernel_rfl) (by kernel_rfl) (by kernel_rfl) (by kernel_rfl)
theorem row160:TIOk Go.Proofs.Tryz.prog 160 { d := .tuple [4,122],size:=1,bytes:=0,zero := .tuple #[.bool false,.slice none 0 0] }:=
  tiOk_mk (i:=Go.Proofs.Tryz.t160) (d:=Go.Proofs.Tryz.t160.desc) (by kernel_rfl) (by kernel_rfl) (by kernel_rfl) (by kernel_rfl) (by kernel_rfl) (by kernel_rfl)
theorem row164:TIOk Go.Proofs.Tryz.prog 164 { d := .array 64 5,size:=64,bytes:=64,zero := .agg #[.int .u8 0,.int .u8 0,.int .u8 0,.int .u8 0,.int .u8 0,.int .u8 0,.int .u8 0,.int .u8 0,.int .u8 0,.int .u8 0,.int .u8 0,.int .u8 0,.int .u8 0,.int .u8 0,.int .u8 0,.int .u8 0,.int .u8 0,.int .u8 0,.int .u8 0,.int .u8 0,.int .u8 0,.int .u8 0,.int .u8 0,.int .u8 0,.int .u8 0,.int .u8 0,.int .u8 0,.int .u8 0,.int .u8 0,.int .u8 0,.int .u8 0,.int .u8 0,.int .u8 0,.int .u8 0,.int .u8 0,.int .u8 0,.int .u8 0,.int .u8 0,.int .u8 0,.int .u8 0,.int .u8 0,.int .u8 0,.int .u8 0,.int .u8 0,.int .u8 0,.int .u8 0,.int .u8 0,.int .u8 0,.int .u8 0,.int .u8 0,.int .u8 0,.int .u8 0,.int .u8 0,.int .u8 0,.int .u8 0,.int .u8 0,.int .u8 0,.int .u8 0,.int .u8 0,.int .u8 0,.int .u8 0,.int .u8 0,.int .u8 0,.int .u8 0] }:=
  tiOk_mk (i:=Go.Proofs.Tryz.t164) (d:=Go.Proofs.Tryz.t164.desc) (by kernel_rfl) (by kernel_rfl) (by kernel_rfl) (by kernel_rfl) (by kernel_rfl) (by kernel_rfl)
theorem row170:TIOk Go.Proofs.Tryz.prog 170 { d := .tuple [2,4],size:=1,bytes:=0,zero := .tuple #[.int .i64 0,.bool false] }:=
  tiOk_mk (i:=Go.Proofs.Tryz.t170) (d:=Go.Proofs.Tryz.t170.desc) (by kernel_rfl) (by kernel_rfl) (by kernel_rfl) (by kernel_rfl) (by kernel_rfl) (by kernel_rfl)
theorem tok:TOk Go.Proofs.Tryz.prog (look tbl):=tok_of_rows (l:=tbl) ⟨row2,row3,row4,row5,row9,row22,row24,row29,row30,row36,row38,row43,row48,row49,row59,row62,row64,row66,row77,row78,row80,row83,row85,row87,row88,row104,row115,row122,row124,row126,row148,row159,row160,row164,row170,True.intro⟩
theorem tsize:TSize (look tbl):=tsize_of (by kernel_rfl)
theorem mixed:Go.Proofs.Tryz.prog.follows .mixedOrders=true:=by kernel_rfl
end Go.Eng
