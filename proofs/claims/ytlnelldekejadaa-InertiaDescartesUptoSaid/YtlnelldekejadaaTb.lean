/-
  The types of this program, and the numbers of its types and functions. No condition.
-/
import Derived.Test.YtlnelldekejadaaTbl
import Derived.Test.YtlnelldekejadaaNm
import Derived.Test.YtlnelldekejadaaProg
import Derived.KernelRfl
set_option linter.all false
set_option maxRecDepth 100000
namespace Go.Eng
open Go
def nums:Nums:={ t_:=0,t_Dyad:=38,t_Dyad__Errno:=42,t_Dyads:=29,t_Errno:=24,t_L_Dyad:=27,t_L_Dyad__Errno:=31,t_L_L_p_bn_Int:=57,t_L_int64:=63,t_L_p_bn_Int:=64,t_L_uint32:=88,t_L_uint32__L_uint32:=125,t_L_uint32__uint32:=130,t_L_uint64:=36,t_L_uint64__bool:=117,t_L_uint64__uint64:=127,t_Signs:=23,t_Signs__Errno:=25,t_bn_Int:=90,t_bool:=4,t_bool__L_uint32:=103,t_func_Dyad__bool:=53,t_r02_Num:=71,t_inertia_rows:=59,t_inertia_rows__bool:=60,t_int:=3,t_int64:=2,t_int__Errno:=39,t_int__int:=112,t_p_bn_Int:=66,t_bI__p_bn_Int:=114,t_p_inertia_rows:=86,t_string:=9,t_uint:=81,t_uint32:=111,t_uint64:=35,t_uint8:=5,f_bn_NewInt:=44,f_bn_add:=91,f_bn_bit:=89,f_bn_cmp:=87,f_bn_div:=109,f_bn_left:=85,f_bn_length:=90,f_bn_mul:=95,f_bn_plain:=112,f_bn_right:=92,f_bn_small:=113,f_bn_sub:=93,f_bn_sum:=84,f_bn_trim:=108,f_bn_twin:=97,f_bn_words:=106,f_dyad_Add:=25,f_dyad_Cmp:=27,f_dyad_Int:=20,f_dyad_Neg:=21,f_dyad_Norm:=66,f_dyad_Right:=26,f_dyad_Sign:=46,f_dyad_both:=47,f_dyad_limbs:=76,f_dyad_made:=42,f_dyad_top:=51,f_dyad_whole:=43,f_k_SameDyad:=35,f_k_SameDyads:=10,f_k_SameLimbs:=67,f_w16_InertiaDescartes:=5,f_w16_awake:=15,f_w16_great:=22,f_w16_of:=8,f_w16_sign:=24,f_r02_Int:=13,f_r02_NatDown:=98,f_r02_NatOf:=69,f_r02_NatTrim:=75,f_r02_Norm:=68,f_r02_Told:=36,f_r02_Whole:=37,f_r02_halves:=100,f_r02_limbs:=101,f_r02_low:=111,f_r02_short:=110,f_inertia_Below:=12,f_inertia_Poly:=9,f_inertia_Right:=45,f_inertia_Right_1:=82,f_inertia_Signs:=7,f_inertia_Symmetric:=23,f_inertia_fits:=80,f_inertia_scaled:=30,f_inertia_told:=33,f_inertia_whole:=55,f_math_bits_Len64:=86,f_bI_Abs:=64,f_bI_Add:=49,f_bI_And:=103,f_bI_BitLen:=58,f_bI_Cmp:=52,f_bI_Lsh:=50,f_bI_Mul:=61,f_bI_Neg:=63,f_bI_Or:=77,f_bI_Quo:=62,f_bI_QuoRem:=96,f_bI_Rsh:=59,f_bI_SetInt64:=79,f_bI_SetUint64:=78,f_bI_Sign:=48,f_bI_Sub:=56,f_bI_TrailingZeroBits:=57,f_bI_Uint64:=65,f_bI_give:=83,f_bI_low:=104,f_bI_of:=105,f_p_inertia_rows_coefficients:=32,f_p_inertia_rows_find:=94,f_p_inertia_rows_pivot:=60,f_p_inertia_rows_signs:=31,f_slices_Clone___api_Dyad_api_Dyad:=54,f_slices_ContainsFunc___api_Dyad_api_Dyad:=81,f_slices_IndexFunc___api_Dyad_api_Dyad:=107,f_slices_Reverse___api_Dyad_api_Dyad:=34 }
def tbl:List (Nat×TI):=
  [(0, { d := .tuple [],size:=1,bytes:=0,zero := .tuple #[] }),
   (2, { d := .int .i64,size:=1,bytes:=8,zero := .int .i64 0 }),
   (3, { d := .int .i64,size:=1,bytes:=8,zero := .int .i64 0 }),
   (4, { d := .bool,size:=1,bytes:=1,zero := .bool false }),
   (5, { d := .int .u8,size:=1,bytes:=1,zero := .int .u8 0 }),
   (9, { d := .string,size:=1,bytes:=16,zero := .string ByteArray.empty }),
   (23, { d := .struct [(3,0),(3,1),(3,2)],size:=3,bytes:=24,zero := .agg #[.int .i64 0,.int .i64 0,.int .i64 0],eq3:=true }),
   (24, { d := .int .i64,size:=1,bytes:=8,zero := .int .i64 0 }),
   (25, { d := .tuple [23,24],size:=1,bytes:=0,zero := .tuple #[.agg #[.int .i64 0,.int .i64 0,.int .i64 0],.int .i64 0] }),
   (27, { d := .slice 38,size:=1,bytes:=24,zero := .slice none 0 0 }),
   (29, { d := .struct [(3,0),(3,1),(27,2)],size:=3,bytes:=40,zero := .agg #[.int .i64 0,.int .i64 0,.slice none 0 0] }),
   (31, { d := .tuple [27,24],size:=1,bytes:=0,zero := .tuple #[.slice none 0 0,.int .i64 0] }),
   (35, { d := .int .u64,size:=1,bytes:=8,zero := .int .u64 0 }),
   (36, { d := .slice 35,size:=1,bytes:=24,zero := .slice none 0 0 }),
   (38, { d := .struct [(4,0),(36,1),(3,2)],size:=3,bytes:=40,zero := .agg #[.bool false,.slice none 0 0,.int .i64 0] }),
   (39, { d := .tuple [3,24],size:=1,bytes:=0,zero := .tuple #[.int .i64 0,.int .i64 0] }),
   (42, { d := .tuple [38,24],size:=1,bytes:=0,zero := .tuple #[.agg #[.bool false,.slice none 0 0,.int .i64 0],.int .i64 0] }),
   (53, { d := .func,size:=1,bytes:=8,zero := .nilFunc }),
   (57, { d := .slice 64,size:=1,bytes:=24,zero := .slice none 0 0 }),
   (59, { d := .struct [(57,0),(3,1)],size:=2,bytes:=32,zero := .agg #[.slice none 0 0,.int .i64 0] }),
   (60, { d := .tuple [59,4],size:=1,bytes:=0,zero := .tuple #[.agg #[.slice none 0 0,.int .i64 0],.bool false] }),
   (63, { d := .slice 2,size:=1,bytes:=24,zero := .slice none 0 0 }),
   (64, { d := .slice 66,size:=1,bytes:=24,zero := .slice none 0 0 }),
   (66, { d := .ptr 90,size:=1,bytes:=8,zero := .pointer none }),
   (71, { d := .struct [(4,0),(36,1),(3,2)],size:=3,bytes:=40,zero := .agg #[.bool false,.slice none 0 0,.int .i64 0] }),
   (81, { d := .int .u64,size:=1,bytes:=8,zero := .int .u64 0 }),
   (86, { d := .ptr 59,size:=1,bytes:=8,zero := .pointer none }),
   (88, { d := .slice 111,size:=1,bytes:=24,zero := .slice none 0 0 }),
   (90, { d := .struct [(4,0),(88,1)],size:=2,bytes:=32,zero := .agg #[.bool false,.slice none 0 0] }),
   (103, { d := .tuple [4,88],size:=1,bytes:=0,zero := .tuple #[.bool false,.slice none 0 0] }),
   (111, { d := .int .u32,size:=1,bytes:=4,zero := .int .u32 0 }),
   (112, { d := .tuple [3,3],size:=1,bytes:=0,zero := .tuple #[.int .i64 0,.int .i64 0] }),
   (114, { d := .tuple [66,66],size:=1,bytes:=0,zero := .tuple #[.pointer none,.pointer none] }),
   (117, { d := .tuple [36,4],size:=1,bytes:=0,zero := .tuple #[.slice none 0 0,.bool false] }),
   (125, { d := .tuple [88,88],size:=1,bytes:=0,zero := .tuple #[.slice none 0 0,.slice none 0 0] }),
   (127, { d := .tuple [36,35],size:=1,bytes:=0,zero := .tuple #[.slice none 0 0,.int .u64 0] }),
   (130, { d := .tuple [88,111],size:=1,bytes:=0,zero := .tuple #[.slice none 0 0,.int .u32 0] })]
theorem row0:TIOk Go.Proofs.Try.prog 0 { d := .tuple [],size:=1,bytes:=0,zero := .tuple #[] }:=
  tiOk_mk (i:=Go.Proofs.Try.t0) (d:=Go.Proofs.Try.t0.desc) (by kernel_rfl) (by kernel_rfl) (by kernel_rfl) (by kernel_rfl) (by kernel_rfl) (by kernel_rfl)
theorem row2:TIOk Go.Proofs.Try.prog 2 { d := .int .i64,size:=1,bytes:=8,zero := .int .i64 0 }:=
  tiOk_mk (i:=Go.Proofs.Try.t2) (d:=Go.Proofs.Try.t2.desc) (by kernel_rfl) (by kernel_rfl) (by kernel_rfl) (by kernel_rfl) (by kernel_rfl) (by kernel_rfl)
theorem row3:TIOk Go.Proofs.Try.prog 3 { d := .int .i64,size:=1,bytes:=8,zero := .int .i64 0 }:=
  tiOk_mk (i:=Go.Proofs.Try.t3) (d:=Go.Proofs.Try.t3.desc) (by kernel_rfl) (by kernel_rfl) (by kernel_rfl) (by kernel_rfl) (by kernel_rfl) (by kernel_rfl)
theorem row4:TIOk Go.Proofs.Try.prog 4 { d := .bool,size:=1,bytes:=1,zero := .bool false }:=
  tiOk_mk (i:=Go.Proofs.Try.t4) (d:=Go.Proofs.Try.t4.desc) (by kernel_rfl) (by kernel_rfl) (by kernel_rfl) (by kernel_rfl) (by kernel_rfl) (by kernel_rfl)
theorem row5:TIOk Go.Proofs.Try.prog 5 { d := .int .u8,size:=1,bytes:=1,zero := .int .u8 0 }:=
  tiOk_mk (i:=Go.Proofs.Try.t5) (d:=Go.Proofs.Try.t5.desc) (by kernel_rfl) (by kernel_rfl) (by kernel_rfl) (by kernel_rfl) (by kernel_rfl) (by kernel_rfl)
theorem row9:TIOk Go.Proofs.Try.prog 9 { d := .string,size:=1,bytes:=16,zero := .string ByteArray.empty }:=
  tiOk_mk (i:=Go.Proofs.Try.t9) (d:=Go.Proofs.Try.t9.desc) (by kernel_rfl) (by kernel_rfl) (by kernel_rfl) (by kernel_rfl) (by kernel_rfl) (by kernel_rfl)
theorem row23:TIOk Go.Proofs.Try.prog 23 { d := .struct [(3,0),(3,1),(3,2)],size:=3,bytes:=24,zero := .agg #[.int .i64 0,.int .i64 0,.int .i64 0],eq3:=true }:=
  tiOk_mk3 (i:=Go.Proofs.Try.t23) (d:=Go.Proofs.Try.t22.desc) (by kernel_rfl) (by kernel_rfl) (by kernel_rfl) (by kernel_rfl) (by kernel_rfl) (by kernel_rfl) (eq3_mk Go.Proofs.Try.underlying23 (by kernel_rfl) (by kernel_rfl) (by kernel_rfl) (by kernel_rfl) (by kernel_rfl) (by kernel_rfl) (by kernel_rfl) (by kernel_rfl) (by kernel_rfl) (by kernel_rfl) (by kernel_rfl))
theorem row24:TIOk Go.Proofs.Try.prog 24 { d := .int .i64,size:=1,bytes:=8,zero := .int .i64 0 }:=
  tiOk_mk (i:=Go.Proofs.Try.t24) (d:=Go.Proofs.Try.t3.desc) (by kernel_rfl) (by kernel_rfl) (by kernel_rfl) (by kernel_rfl) (by kernel_rfl) (by kernel_rfl)
theorem row25:TIOk Go.Proofs.Try.prog 25 { d := .tuple [23,24],size:=1,bytes:=0,zero := .tuple #[.agg #[.int .i64 0,.int .i64 0,.int .i64 0],.int .i64 0] }:=
  tiOk_mk (i:=Go.Proofs.Try.t25) (d:=Go.Proofs.Try.t25.desc) (by kernel_rfl) (by kernel_rfl) (by kernel_rfl) (by kernel_rfl) (by kernel_rfl) (by kernel_rfl)
theorem row27:TIOk Go.Proofs.Try.prog 27 { d := .slice 38,size:=1,bytes:=24,zero := .slice none 0 0 }:=
  tiOk_mk (i:=Go.Proofs.Try.t27) (d:=Go.Proofs.Try.t27.desc) (by kernel_rfl) (by kernel_rfl) (by kernel_rfl) (by kernel_rfl) (by kernel_rfl) (by kernel_rfl)
theorem row29:TIOk Go.Proofs.Try.prog 29 { d := .struct [(3,0),(3,1),(27,2)],size:=3,bytes:=40,zero := .agg #[.int .i64 0,.int .i64 0,.slice none 0 0] }:=
  tiOk_mk (i:=Go.Proofs.Try.t29) (d:=Go.Proofs.Try.t28.desc) (by kernel_rfl) (by kernel_rfl) (by kernel_rfl) (by kernel_rfl) (by kernel_rfl) (by kernel_rfl)
theorem row31:TIOk Go.Proofs.Try.prog 31 { d := .tuple [27,24],size:=1,bytes:=0,zero := .tuple #[.slice none 0 0,.int .i64 0] }:=
  tiOk_mk (i:=Go.Proofs.Try.t31) (d:=Go.Proofs.Try.t31.desc) (by kernel_rfl) (by kernel_rfl) (by kernel_rfl) (by kernel_rfl) (by kernel_rfl) (by kernel_rfl)
theorem row35:TIOk Go.Proofs.Try.prog 35 { d := .int .u64,size:=1,bytes:=8,zero := .int .u64 0 }:=
  tiOk_mk (i:=Go.Proofs.Try.t35) (d:=Go.Proofs.Try.t35.desc) (by kernel_rfl) (by kernel_rfl) (by kernel_rfl) (by kernel_rfl) (by kernel_rfl) (by kernel_rfl)
theorem row36:TIOk Go.Proofs.Try.prog 36 { d := .slice 35,size:=1,bytes:=24,zero := .slice none 0 0 }:=
  tiOk_mk (i:=Go.Proofs.Try.t36) (d:=Go.Proofs.Try.t36.desc) (by kernel_rfl) (by kernel_rfl) (by kernel_rfl) (by kernel_rfl) (by kernel_rfl) (by kernel_rfl)
theorem row38:TIOk Go.Proofs.Try.prog 38 { d := .struct [(4,0),(36,1),(3,2)],size:=3,bytes:=40,zero := .agg #[.bool false,.slice none 0 0,.int .i64 0] }:=
  tiOk_mk (i:=Go.Proofs.Try.t38) (d:=Go.Proofs.Try.t37.desc) (by kernel_rfl) (by kernel_rfl) (by kernel_rfl) (by kernel_rfl) (by kernel_rfl) (by kernel_rfl)
theorem row39:TIOk Go.Proofs.Try.prog 39 { d := .tuple [3,24],size:=1,bytes:=0,zero := .tuple #[.int .i64 0,.int .i64 0] }:=
  tiOk_mk (i:=Go.Proofs.Try.t39) (d:=Go.Proofs.Try.t39.desc) (by kernel_rfl) (by kernel_rfl) (by kernel_rfl) (by kernel_rfl) (by kernel_rfl) (by kernel_rfl)
theorem row42:TIOk Go.Proofs.Try.prog 42 { d := .tuple [38,24],size:=1,bytes:=0,zero := .tuple #[.agg #[.bool false,.slice none 0 0,.int .i64 0],.int .i64 0] }:=
  tiOk_mk (i:=Go.Proofs.Try.t42) (d:=Go.Proofs.Try.t42.desc) (by kernel_rfl) (by kernel_rfl) (by kernel_rfl) (by kernel_rfl) (by kernel_rfl) (by kernel_rfl)
theorem row53:TIOk Go.Proofs.Try.prog 53 { d := .func,size:=1,bytes:=8,zero := .nilFunc }:=
  tiOk_mk (i:=Go.Proofs.Try.t53) (d:=Go.Proofs.Try.t53.desc) (by kernel_rfl) (by kernel_rfl) (by kernel_rfl) (by kernel_rfl) (by kernel_rfl) (by kernel_rfl)
theorem row57:TIOk Go.Proofs.Try.prog 57 { d := .slice 64,size:=1,bytes:=24,zero := .slice none 0 0 }:=
  tiOk_mk (i:=Go.Proofs.Try.t57) (d:=Go.Proofs.Try.t57.desc) (by kernel_rfl) (by kernel_rfl) (by kernel_rfl) (by kernel_rfl) (by kernel_rfl) (by kernel_rfl)
theorem row59:TIOk Go.Proofs.Try.prog 59 { d := .struct [(57,0),(3,1)],size:=2,bytes:=32,zero := .agg #[.slice none 0 0,.int .i64 0] }:=
  tiOk_mk (i:=Go.Proofs.Try.t59) (d:=Go.Proofs.Try.t58.desc) (by kernel_rfl) (by kernel_rfl) (by kernel_rfl) (by kernel_rfl) (by kernel_rfl) (by kernel_rfl)
theorem row60:TIOk Go.Proofs.Try.prog 60 { d := .tuple [59,4],size:=1,bytes:=0,zero := .tuple #[.agg #[.slice none 0 0,.int .i64 0],.bool false] }:=
  tiOk_mk (i:=Go.Proofs.Try.t60) (d:=Go.Proofs.Try.t60.desc) (by kernel_rfl) (by kernel_rfl) (by kernel_rfl) (by kernel_rfl) (by kernel_rfl) (by kernel_rfl)
theorem row63:TIOk Go.Proofs.Try.prog 63 { d := .slice 2,size:=1,bytes:=24,zero := .slice none 0 0 }:=
  tiOk_mk (i:=Go.Proofs.Try.t63) (d:=Go.Proofs.Try.t63.desc) (by kernel_rfl) (by kernel_rfl) (by kernel_rfl) (by kernel_rfl) (by kernel_rfl) (by kernel_rfl)
theorem row64:TIOk Go.Proofs.Try.prog 64 { d := .slice 66,size:=1,bytes:=24,zero := .slice none 0 0 }:=
  tiOk_mk (i:=Go.Proofs.Try.t64) (d:=Go.Proofs.Try.t64.desc) (by kernel_rfl) (by kernel_rfl) (by kernel_rfl) (by kernel_rfl) (by kernel_rfl) (by kernel_rfl)
theorem row66:TIOk Go.Proofs.Try.prog 66 { d := .ptr 90,size:=1,bytes:=8,zero := .pointer none }:=
  tiOk_mk (i:=Go.Proofs.Try.t66) (d:=Go.Proofs.Try.t66.desc) (by kernel_rfl) (by kernel_rfl) (by kernel_rfl) (by kernel_rfl) (by kernel_rfl) (by kernel_rfl)
theorem row71:TIOk Go.Proofs.Try.prog 71 { d := .struct [(4,0),(36,1),(3,2)],size:=3,bytes:=40,zero := .agg #[.bool false,.slice none 0 0,.int .i64 0] }:=
  tiOk_mk (i:=Go.Proofs.Try.t71) (d:=Go.Proofs.Try.t37.desc) (by kernel_rfl) (by kernel_rfl) (by kernel_rfl) (by kernel_rfl) (by kernel_rfl) (by kernel_rfl)
theorem row81:TIOk Go.Proofs.Try.prog 81 { d := .int .u64,size:=1,bytes:=8,zero := .int .u64 0 }:=
  tiOk_mk (i:=Go.Proofs.Try.t81) (d:=Go.Proofs.Try.t81.desc) (by kernel_rfl) (by kernel_rfl) (by kernel_rfl) (by kernel_rfl) (by kernel_rfl) (by kernel_rfl)
theorem row86:TIOk Go.Proofs.Try.prog 86 { d := .ptr 59,size:=1,bytes:=8,zero := .pointer none }:=
  tiOk_mk (i:=Go.Proofs.Try.t86) (d:=Go.Proofs.Try.t86.desc) (by kernel_rfl) (by kernel_rfl) (by kernel_rfl) (by kernel_rfl) (by kernel_rfl) (by kernel_rfl)
theorem row88:TIOk Go.Proofs.Try.prog 88 { d := .slice 111,size:=1,bytes:=24,zero := .slice none 0 0 }:=
  tiOk_mk (i:=Go.Proofs.Try.t88) (d:=Go.Proofs.Try.t88.desc) (by kernel_rfl) (by kernel_rfl) (by kernel_rfl) (by kernel_rfl) (by kernel_rfl) (by kernel_rfl)
theorem row90:TIOk Go.Proofs.Try.prog 90 { d := .struct [(4,0),(88,1)],size:=2,bytes:=32,zero := .agg #[.bool false,.slice none 0 0] }:=
  tiOk_mk (i:=Go.Proofs.Try.t90) (d:=Go.Proofs.Try.t89.desc) (by kernel_rfl) (by kernel_rfl) (by kernel_rfl) (by kernel_rfl) (by kernel_rfl) (by kernel_rfl)
theorem row103:TIOk Go.Proofs.Try.prog 103 { d := .tuple [4,88],size:=1,bytes:=0,zero := .tuple #[.bool false,.slice none 0 0] }:=
  tiOk_mk (i:=Go.Proofs.Try.t103) (d:=Go.Proofs.Try.t103.desc) (by kernel_rfl) (by kernel_rfl) (by kernel_rfl) (by kernel_rfl) (by kernel_rfl) (by kernel_rfl)
theorem row111:TIOk Go.Proofs.Try.prog 111 { d := .int .u32,size:=1,bytes:=4,zero := .int .u32 0 }:=
  tiOk_mk (i:=Go.Proofs.Try.t111) (d:=Go.Proofs.Try.t111.desc) (by kernel_rfl) (by kernel_rfl) (by kernel_rfl) (by kernel_rfl) (by kernel_rfl) (by kernel_rfl)
theorem row112:TIOk Go.Proofs.Try.prog 112 { d := .tuple [3,3],size:=1,bytes:=0,zero := .tuple #[.int .i64 0,.int .i64 0] }:=
  tiOk_mk (i:=Go.Proofs.Try.t112) (d:=Go.Proofs.Try.t112.desc) (by kernel_rfl) (by kernel_rfl) (by kernel_rfl) (by kernel_rfl) (by kernel_rfl) (by kernel_rfl)
theorem row114:TIOk Go.Proofs.Try.prog 114 { d := .tuple [66,66],size:=1,bytes:=0,zero := .tuple #[.pointer none,.pointer none] }:=
  tiOk_mk (i:=Go.Proofs.Try.t114) (d:=Go.Proofs.Try.t114.desc) (by kernel_rfl) (by kernel_rfl) (by kernel_rfl) (by kernel_rfl) (by kernel_rfl) (by kernel_rfl)
theorem row117:TIOk Go.Proofs.Try.prog 117 { d := .tuple [36,4],size:=1,bytes:=0,zero := .tuple #[.slice none 0 0,.bool false] }:=
  tiOk_mk (i:=Go.Proofs.Try.t117) (d:=Go.Proofs.Try.t117.desc) (by kernel_rfl) (by kernel_rfl) (by kernel_rfl) (by kernel_rfl) (by kernel_rfl) (by kernel_rfl)
theorem row125:TIOk Go.Proofs.Try.prog 125 { d := .tuple [88,88],size:=1,bytes:=0,zero := .tuple #[.slice none 0 0,.slice none 0 0] }:=
  tiOk_mk (i:=Go.Proofs.Try.t125) (d:=Go.Proofs.Try.t125.desc) (by kernel_rfl) (by kernel_rfl) (by kernel_rfl) (by kernel_rfl) (by kernel_rfl) (by kernel_rfl)
theorem row127:TIOk Go.Proofs.Try.prog 127 { d := .tuple [36,35],size:=1,bytes:=0,zero := .tuple #[.slice none 0 0,.int .u64 0] }:=
  tiOk_mk (i:=Go.Proofs.Try.t127) (d:=Go.Proofs.Try.t127.desc) (by kernel_rfl) (by kernel_rfl) (by kernel_rfl) (by kernel_rfl) (by kernel_rfl) (by kernel_rfl)
theorem row130:TIOk Go.Proofs.Try.prog 130 { d := .tuple [88,111],size:=1,bytes:=0,zero := .tuple #[.slice none 0 0,.int .u32 0] }:=
  tiOk_mk (i:=Go.Proofs.Try.t130) (d:=Go.Proofs.Try.t130.desc) (by kernel_rfl) (by kernel_rfl) (by kernel_rfl) (by kernel_rfl) (by kernel_rfl) (by kernel_rfl)
theorem tok:TOk Go.Proofs.Try.prog (look tbl):=tok_of_rows (l:=tbl) ⟨row0,row2,row3,row4,row5,row9,row23,row24,row25,row27,row29,row31,row35,row36,row38,row39,row42,row53,row57,row59,row60,row63,row64,row66,row71,row81,row86,row88,row90,row103,row111,row112,row114,row117,row125,row127,row130,True.intro⟩
theorem tsize:TSize (look tbl):=tsize_of (by kernel_rfl)
theorem mixed:Go.Proofs.Try.prog.follows .mixedOrders=true:=by kernel_rfl
end Go.Eng
