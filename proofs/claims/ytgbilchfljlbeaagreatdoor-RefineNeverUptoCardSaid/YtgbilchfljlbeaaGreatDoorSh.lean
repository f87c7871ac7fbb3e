/-
  All that is asked of the propositions of the functions. No condition.
-/
import Derived.Test.YtgbilchfljlbeaaGreatDoorSh1
import Derived.Lib.BitFns
set_option linter.all false
set_option maxRecDepth 100000
namespace Go.Eng
open Go
open Go.IntKind (i64 u64 u32 u8)
def Ok_w14_RefineNever (N:Nums) (P:Program):Prop:=∀ qa qb qc qd qe vv vw qz ve vx vf vg vy vh vj vz vk vm q1 w K,S_w14_RefineNever N P qa qb qc qd qe vv vw qz ve vx vf vg vy vh vj vz vk vm q1 w K→CallsX P N.f_w14_RefineNever #[.agg #[.int .i64 qa,.int .i64 qb,.slice qc qd qe,.int .i64 vv,.slice vw qz ve,.slice vx vf vg,.slice vy vh vj,.slice vz vk vm],.int .i64 q1] w K
def Ok_w14_awake (N:Nums) (P:Program):Prop:=∀ w K,S_w14_awake N P  w K→CallsX P N.f_w14_awake #[] w K
def Ok_w14_great (N:Nums) (P:Program):Prop:=∀ qa qb qc qd qe w K,S_w14_great N P qa qb qc qd qe w K→CallsX P N.f_w14_great #[.agg #[.int .i64 qa,.int .i64 qb,.slice qc qd qe]] w K
def Ok_refine_Left (N:Nums) (P:Program):Prop:=∀ qa qb qc qd qe q1 qk qp q2 qx vo w K,S_refine_Left N P qa qb qc qd qe q1 qk qp q2 qx vo w K→CallsX P N.f_refine_Left #[.agg #[.int .i64 qa,.int .i64 qb,.slice qc qd qe],.slice q1 qk qp,.slice q2 qx vo] w K
def Ok_k_SameReals (N:Nums) (P:Program):Prop:=∀ q0 qh qn q1 qk qp w K,S_k_SameReals N P q0 qh qn q1 qk qp w K→CallsX P N.f_k_SameReals #[.slice q0 qh qn,.slice q1 qk qp] w K
def Ok_refine_Step (N:Nums) (P:Program):Prop:=∀ qa qb qc qd qe ql qm qi qj qt qv qw q2 qx vo q3 vt yk w K,S_refine_Step N P qa qb qc qd qe ql qm qi qj qt qv qw q2 qx vo q3 vt yk w K→CallsX P N.f_refine_Step #[.agg #[.int .i64 qa,.int .i64 qb,.slice qc qd qe],.agg #[.int .i64 ql,.slice qm qi qj,.slice qt qv qw],.slice q2 qx vo,.slice q3 vt yk] w K
def Ok_refine_Until (N:Nums) (P:Program):Prop:=∀ qa qb qc qd qe ql qm qi qj qt qv qw q2 qx vo q3 w K,S_refine_Until N P qa qb qc qd qe ql qm qi qj qt qv qw q2 qx vo q3 w K→CallsX P N.f_refine_Until #[.agg #[.int .i64 qa,.int .i64 qb,.slice qc qd qe],.agg #[.int .i64 ql,.slice qm qi qj,.slice qt qv qw],.slice q2 qx vo,.int .i64 q3] w K
def Ok_k_Pick (N:Nums) (P:Program):Prop:=∀ q0 q1 w K,S_k_Pick N P q0 q1 w K→CallsX P N.f_k_Pick #[.int .i64 q0,.int .i64 q1] w K
def Ok_solve_Solve (N:Nums) (P:Program):Prop:=∀ qa qb qf qg qc qd qe q1 qk qp w K,S_solve_Solve N P qa qb qf qg qc qd qe q1 qk qp w K→CallsX P N.f_solve_Solve #[.agg #[.int .i64 qa,.slice qb qf qg,.slice qc qd qe],.slice q1 qk qp] w K
def Ok_w14_left (N:Nums) (P:Program):Prop:=∀ qa qb qc qd qe vv vw qz ve vx vf vg vy vh vj vz vk vm q1 qk qp w K,S_w14_left N P qa qb qc qd qe vv vw qz ve vx vf vg vy vh vj vz vk vm q1 qk qp w K→CallsX P N.f_w14_left #[.agg #[.int .i64 qa,.int .i64 qb,.slice qc qd qe,.int .i64 vv,.slice vw qz ve,.slice vx vf vg,.slice vy vh vj,.slice vz vk vm],.slice q1 qk qp] w K
def Ok_k_LikeReals (N:Nums) (P:Program):Prop:=∀ q0 qh qn q1 qk qp w K,S_k_LikeReals N P q0 qh qn q1 qk qp w K→CallsX P N.f_k_LikeReals #[.slice q0 qh qn,.slice q1 qk qp] w K
def Ok_w14_two (N:Nums) (P:Program):Prop:=∀ w K,S_w14_two N P  w K→CallsX P N.f_w14_two #[] w K
def Ok_k_mark (N:Nums) (P:Program):Prop:=∀ q0 q1 w K,S_k_mark N P q0 q1 w K→CallsX P N.f_k_mark #[.int .i64 q0,.int .i64 q1] w K
def Ok_refine_fit (N:Nums) (P:Program):Prop:=∀ qa qb qc qd qe q1 qk qp q2 qx vo w K,S_refine_fit N P qa qb qc qd qe q1 qk qp q2 qx vo w K→CallsX P N.f_refine_fit #[.agg #[.int .i64 qa,.int .i64 qb,.slice qc qd qe],.slice q1 qk qp,.slice q2 qx vo] w K
def Ok_refine_finite (N:Nums) (P:Program):Prop:=∀ q0 qh qn w K,S_refine_finite N P q0 qh qn w K→CallsX P N.f_refine_finite #[.slice q0 qh qn] w K
def Ok_sums_DotExact (N:Nums) (P:Program):Prop:=∀ q0 qh qn q1 qk qp q2 w K,S_sums_DotExact N P q0 qh qn q1 qk qp q2 w K→CallsX P N.f_sums_DotExact #[.slice q0 qh qn,.slice q1 qk qp,.int .i8 q2] w K
def Ok_k_SameFloat (N:Nums) (P:Program):Prop:=∀ q0 q1 w K,S_k_SameFloat N P q0 q1 w K→CallsX P N.f_k_SameFloat #[.float .f64 q0,.float .f64 q1] w K
def Ok_refine_fits (N:Nums) (P:Program):Prop:=∀ qa qb qc qd qe ql qm qi qj qt qv qw w K,S_refine_fits N P qa qb qc qd qe ql qm qi qj qt qv qw w K→CallsX P N.f_refine_fits #[.agg #[.int .i64 qa,.int .i64 qb,.slice qc qd qe],.agg #[.int .i64 ql,.slice qm qi qj,.slice qt qv qw]] w K
def Ok_vector_Add (N:Nums) (P:Program):Prop:=∀ q0 qh qn q1 qk qp w K,S_vector_Add N P q0 qh qn q1 qk qp w K→CallsX P N.f_vector_Add #[.slice q0 qh qn,.slice q1 qk qp] w K
def Ok_vector_Norm (N:Nums) (P:Program):Prop:=∀ q0 qh qn w K,S_vector_Norm N P q0 qh qn w K→CallsX P N.f_vector_Norm #[.slice q0 qh qn] w K
def Ok_solve_Forward (N:Nums) (P:Program):Prop:=∀ qa qb qf qg qc qd qe q1 qk qp w K,S_solve_Forward N P qa qb qf qg qc qd qe q1 qk qp w K→CallsX P N.f_solve_Forward #[.agg #[.int .i64 qa,.slice qb qf qg,.slice qc qd qe],.slice q1 qk qp] w K
def Ok_solve_Back (N:Nums) (P:Program):Prop:=∀ qa qb qf qg qc qd qe q1 qk qp w K,S_solve_Back N P qa qb qf qg qc qd qe q1 qk qp w K→CallsX P N.f_solve_Back #[.agg #[.int .i64 qa,.slice qb qf qg,.slice qc qd qe],.slice q1 qk qp] w K
def Ok_k_Like (N:Nums) (P:Program):Prop:=∀ q0 q1 w K,S_k_Like N P q0 q1 w K→CallsX P N.f_k_Like #[.float .f64 q0,.float .f64 q1] w K
def Ok_matrix_Right (N:Nums) (P:Program):Prop:=∀ qa qb qc qd qe w K,S_matrix_Right N P qa qb qc qd qe w K→CallsX P N.f_matrix_Right #[.agg #[.int .i64 qa,.int .i64 qb,.slice qc qd qe]] w K
def Ok_sums_finite (N:Nums) (P:Program):Prop:=∀ q0 qh qn w K,S_sums_finite N P q0 qh qn w K→CallsX P N.f_sums_finite #[.slice q0 qh qn] w K
def Ok_sums_total (N:Nums) (P:Program):Prop:=∀ q0 q1 w K,S_sums_total N P q0 q1 w K→CallsX P N.f_sums_total #[.int .i64 q0,q1] w K
def Ok_sums_DotExact_1 (N:Nums) (P:Program):Prop:=∀ q0 q1 q2 w K,S_sums_DotExact_1 N P q0 q1 q2 w K→CallsX P N.f_sums_DotExact_1 #[.int .i64 q0,.pointer q1,.pointer q2] w K
def Ok_dyad_Of (N:Nums) (P:Program):Prop:=∀ q0 w K,S_dyad_Of N P q0 w K→CallsX P N.f_dyad_Of #[.float .f64 q0] w K
def Ok_dyad_Mul (N:Nums) (P:Program):Prop:=∀ qa qb qf qg qc ql qm qi qj qt w K,S_dyad_Mul N P qa qb qf qg qc ql qm qi qj qt w K→CallsX P N.f_dyad_Mul #[.agg #[.bool qa,.slice qb qf qg,.int .i64 qc],.agg #[.bool ql,.slice qm qi qj,.int .i64 qt]] w K
def Ok_dyad_Round (N:Nums) (P:Program):Prop:=∀ qa qb qf qg qc q1 w K,S_dyad_Round N P qa qb qf qg qc q1 w K→CallsX P N.f_dyad_Round #[.agg #[.bool qa,.slice qb qf qg,.int .i64 qc],.int .i8 q1] w K
def Ok_lower_Right (N:Nums) (P:Program):Prop:=∀ qa qb qf qg qc qd qe w K,S_lower_Right N P qa qb qf qg qc qd qe w K→CallsX P N.f_lower_Right #[.agg #[.int .i64 qa,.slice qb qf qg,.slice qc qd qe]] w K
def Ok_vector_each (N:Nums) (P:Program):Prop:=∀ q0 qh qn q1 qk qp q2 w K,S_vector_each N P q0 qh qn q1 qk qp q2 w K→CallsX P N.f_vector_each #[.slice q0 qh qn,.slice q1 qk qp,q2] w K
def Ok_vector_Add_1 (N:Nums) (P:Program):Prop:=∀ q0 q1 w K,S_vector_Add_1 N P q0 q1 w K→CallsX P N.f_vector_Add_1 #[.float .f64 q0,.float .f64 q1] w K
def Ok_round_Add (N:Nums) (P:Program):Prop:=∀ q0 q1 q2 w K,S_round_Add N P q0 q1 q2 w K→CallsX P N.f_round_Add #[.float .f64 q0,.float .f64 q1,.int .i8 q2] w K
def Ok_math_Abs (N:Nums) (P:Program):Prop:=∀ q0 w K,S_math_Abs N P q0 w K→CallsX P N.f_math_Abs #[.float .f64 q0] w K
def Ok_solve_fits (N:Nums) (P:Program):Prop:=∀ qa qb qf qg qc qd qe q1 w K,S_solve_fits N P qa qb qf qg qc qd qe q1 w K→CallsX P N.f_solve_fits #[.agg #[.int .i64 qa,.slice qb qf qg,.slice qc qd qe],.int .i64 q1] w K
def Ok_slices_Clone___float64_float64 (N:Nums) (P:Program):Prop:=∀ q0 qh qn w K,S_slices_Clone___float64_float64 N P q0 qh qn w K→CallsX P N.f_slices_Clone___float64_float64 #[.slice q0 qh qn] w K
def Ok_solve_below (N:Nums) (P:Program):Prop:=∀ qa qb qf qg qc qd qe q1 q2 w K,S_solve_below N P qa qb qf qg qc qd qe q1 q2 w K→CallsX P N.f_solve_below #[.agg #[.int .i64 qa,.slice qb qf qg,.slice qc qd qe],.int .i64 q1,.int .i64 q2] w K
def Ok_slices_Contains___float64_float64 (N:Nums) (P:Program):Prop:=∀ q0 qh qn q1 w K,S_slices_Contains___float64_float64 N P q0 qh qn q1 w K→CallsX P N.f_slices_Contains___float64_float64 #[.slice q0 qh qn,.float .f64 q1] w K
def Ok_matrix_fits (N:Nums) (P:Program):Prop:=∀ q0 w K,S_matrix_fits N P q0 w K→CallsX P N.f_matrix_fits #[.int .i64 q0] w K
def Ok_math_IsNaN (N:Nums) (P:Program):Prop:=∀ q0 w K,S_math_IsNaN N P q0 w K→CallsX P N.f_math_IsNaN #[.float .f64 q0] w K
def Ok_math_IsInf (N:Nums) (P:Program):Prop:=∀ q0 q1 w K,S_math_IsInf N P q0 q1 w K→CallsX P N.f_math_IsInf #[.float .f64 q0,.int .i64 q1] w K
def Ok_dyad_Int (N:Nums) (P:Program):Prop:=∀ q0 w K,S_dyad_Int N P q0 w K→CallsX P N.f_dyad_Int #[.int .i64 q0] w K
def Ok_dyad_Add (N:Nums) (P:Program):Prop:=∀ qa qb qf qg qc ql qm qi qj qt w K,S_dyad_Add N P qa qb qf qg qc ql qm qi qj qt w K→CallsX P N.f_dyad_Add #[.agg #[.bool qa,.slice qb qf qg,.int .i64 qc],.agg #[.bool ql,.slice qm qi qj,.int .i64 qt]] w K
def Ok_bits_Split (N:Nums) (P:Program):Prop:=∀ q0 w K,S_bits_Split N P q0 w K→CallsX P N.f_bits_Split #[.float .f64 q0] w K
def Ok_dyad_both (N:Nums) (P:Program):Prop:=∀ qa qb qf qg qc ql qm qi qj qt w K,S_dyad_both N P qa qb qf qg qc ql qm qi qj qt w K→CallsX P N.f_dyad_both #[.agg #[.bool qa,.slice qb qf qg,.int .i64 qc],.agg #[.bool ql,.slice qm qi qj,.int .i64 qt]] w K
def Ok_dyad_whole (N:Nums) (P:Program):Prop:=∀ qa qb qf qg qc w K,S_dyad_whole N P qa qb qf qg qc w K→CallsX P N.f_dyad_whole #[.agg #[.bool qa,.slice qb qf qg,.int .i64 qc]] w K
def Ok_dyad_made (N:Nums) (P:Program):Prop:=∀ q0 q1 w K,S_dyad_made N P q0 q1 w K→CallsX P N.f_dyad_made #[.pointer q0,.int .i64 q1] w K
def Ok_bI_Mul (N:Nums) (P:Program):Prop:=∀ q0 q1 q2 w K,S_bI_Mul N P q0 q1 q2 w K→CallsX P N.f_bI_Mul #[.pointer q0,.pointer q1,.pointer q2] w K
def Ok_dyad_Right (N:Nums) (P:Program):Prop:=∀ qa qb qf qg qc w K,S_dyad_Right N P qa qb qf qg qc w K→CallsX P N.f_dyad_Right #[.agg #[.bool qa,.slice qb qf qg,.int .i64 qc]] w K
def Ok_bI_Abs (N:Nums) (P:Program):Prop:=∀ q0 q1 w K,S_bI_Abs N P q0 q1 w K→CallsX P N.f_bI_Abs #[.pointer q0,.pointer q1] w K
def Ok_dyad_top (N:Nums) (P:Program):Prop:=∀ qa qb qf qg qc w K,S_dyad_top N P qa qb qf qg qc w K→CallsX P N.f_dyad_top #[.agg #[.bool qa,.slice qb qf qg,.int .i64 qc]] w K
def Ok_bI_Lsh (N:Nums) (P:Program):Prop:=∀ q0 q1 q2 w K,S_bI_Lsh N P q0 q1 q2 w K→CallsX P N.f_bI_Lsh #[.pointer q0,.pointer q1,.int .u64 q2] w K
def Ok_bI_Uint64 (N:Nums) (P:Program):Prop:=∀ q0 w K,S_bI_Uint64 N P q0 w K→CallsX P N.f_bI_Uint64 #[.pointer q0] w K
def Ok_bI_Rsh (N:Nums) (P:Program):Prop:=∀ q0 q1 q2 w K,S_bI_Rsh N P q0 q1 q2 w K→CallsX P N.f_bI_Rsh #[.pointer q0,.pointer q1,.int .u64 q2] w K
def Ok_bI_Sub (N:Nums) (P:Program):Prop:=∀ q0 q1 q2 w K,S_bI_Sub N P q0 q1 q2 w K→CallsX P N.f_bI_Sub #[.pointer q0,.pointer q1,.pointer q2] w K
def Ok_bI_Cmp (N:Nums) (P:Program):Prop:=∀ q0 q1 w K,S_bI_Cmp N P q0 q1 w K→CallsX P N.f_bI_Cmp #[.pointer q0,.pointer q1] w K
def Ok_bn_NewInt (N:Nums) (P:Program):Prop:=∀ q0 w K,S_bn_NewInt N P q0 w K→CallsX P N.f_bn_NewInt #[.int .i64 q0] w K
def Ok_bI_Sign (N:Nums) (P:Program):Prop:=∀ q0 w K,S_bI_Sign N P q0 w K→CallsX P N.f_bI_Sign #[.pointer q0] w K
def Ok_dyad_away (N:Nums) (P:Program):Prop:=∀ q0 q1 q2 q3 w K,S_dyad_away N P q0 q1 q2 q3 w K→CallsX P N.f_dyad_away #[.int .i8 q0,.bool q1,.int .i64 q2,.bool q3] w K
def Ok_dyad_float (N:Nums) (P:Program):Prop:=∀ q0 q1 q2 q3 w K,S_dyad_float N P q0 q1 q2 q3 w K→CallsX P N.f_dyad_float #[.bool q0,.int .u64 q1,.int .i64 q2,.int .i8 q3] w K
def Ok_vector_fit (N:Nums) (P:Program):Prop:=∀ q0 qh qn q1 qk qp w K,S_vector_fit N P q0 qh qn q1 qk qp w K→CallsX P N.f_vector_fit #[.slice q0 qh qn,.slice q1 qk qp] w K
def Ok_round_way (N:Nums) (P:Program):Prop:=∀ q0 w K,S_round_way N P q0 w K→CallsX P N.f_round_way #[.int .i8 q0] w K
def Ok_round_finite (N:Nums) (P:Program):Prop:=∀ q0 qh qn w K,S_round_finite N P q0 qh qn w K→CallsX P N.f_round_finite #[.slice q0 qh qn] w K
def Ok_math_Signbit (N:Nums) (P:Program):Prop:=∀ q0 w K,S_math_Signbit N P q0 w K→CallsX P N.f_math_Signbit #[.float .f64 q0] w K
def Ok_round_none (N:Nums) (P:Program):Prop:=∀ q0 w K,S_round_none N P q0 w K→CallsX P N.f_round_none #[.int .i8 q0] w K
def Ok_round_settle (N:Nums) (P:Program):Prop:=∀ q0 q1 q2 w K,S_round_settle N P q0 q1 q2 w K→CallsX P N.f_round_settle #[.float .f64 q0,.int .i64 q1,.int .i8 q2] w K
def Ok_round_sign (N:Nums) (P:Program):Prop:=∀ q0 w K,S_round_sign N P q0 w K→CallsX P N.f_round_sign #[.float .f64 q0] w K
def Ok_slices_Index___float64_float64 (N:Nums) (P:Program):Prop:=∀ q0 qh qn q1 w K,S_slices_Index___float64_float64 N P q0 qh qn q1 w K→CallsX P N.f_slices_Index___float64_float64 #[.slice q0 qh qn,.float .f64 q1] w K
def Ok_bI_Add (N:Nums) (P:Program):Prop:=∀ q0 q1 q2 w K,S_bI_Add N P q0 q1 q2 w K→CallsX P N.f_bI_Add #[.pointer q0,.pointer q1,.pointer q2] w K
def Ok_bits_Kind (N:Nums) (P:Program):Prop:=∀ q0 w K,S_bits_Kind N P q0 w K→CallsX P N.f_bits_Kind #[.float .f64 q0] w K
def Ok_math_Frexp (N:Nums) (P:Program):Prop:=∀ q0 w K,S_math_Frexp N P q0 w K→CallsX P N.f_math_Frexp #[.float .f64 q0] w K
def Ok_math_Ldexp (N:Nums) (P:Program):Prop:=∀ q0 q1 w K,S_math_Ldexp N P q0 q1 w K→CallsX P N.f_math_Ldexp #[.float .f64 q0,.int .i64 q1] w K
def Ok_math_bits_TrailingZeros64 (N:Nums) (P:Program):Prop:=∀ q0 w K,S_math_bits_TrailingZeros64 N P q0 w K→CallsX P N.f_math_bits_TrailingZeros64 #[.int .u64 q0] w K
def Ok_bI_Or (N:Nums) (P:Program):Prop:=∀ q0 q1 q2 w K,S_bI_Or N P q0 q1 q2 w K→CallsX P N.f_bI_Or #[.pointer q0,.pointer q1,.pointer q2] w K
def Ok_bI_SetUint64 (N:Nums) (P:Program):Prop:=∀ q0 q1 w K,S_bI_SetUint64 N P q0 q1 w K→CallsX P N.f_bI_SetUint64 #[.pointer q0,.int .u64 q1] w K
def Ok_bI_Neg (N:Nums) (P:Program):Prop:=∀ q0 q1 w K,S_bI_Neg N P q0 q1 w K→CallsX P N.f_bI_Neg #[.pointer q0,.pointer q1] w K
def Ok_bI_TrailingZeroBits (N:Nums) (P:Program):Prop:=∀ q0 w K,S_bI_TrailingZeroBits N P q0 w K→CallsX P N.f_bI_TrailingZeroBits #[.pointer q0] w K
def Ok_bI_BitLen (N:Nums) (P:Program):Prop:=∀ q0 w K,S_bI_BitLen N P q0 w K→CallsX P N.f_bI_BitLen #[.pointer q0] w K
def Ok_dyad_limbs (N:Nums) (P:Program):Prop:=∀ q0 w K,S_dyad_limbs N P q0 w K→CallsX P N.f_dyad_limbs #[.pointer q0] w K
def Ok_bI_give (N:Nums) (P:Program):Prop:=∀ q0 q1 q2 qx vo w K,S_bI_give N P q0 q1 q2 qx vo w K→CallsX P N.f_bI_give #[.pointer q0,.bool q1,.slice q2 qx vo] w K
def Ok_bn_mul (N:Nums) (P:Program):Prop:=∀ q0 qh qn q1 qk qp w K,S_bn_mul N P q0 qh qn q1 qk qp w K→CallsX P N.f_bn_mul #[.slice q0 qh qn,.slice q1 qk qp] w K
def Ok_bn_twin (N:Nums) (P:Program):Prop:=∀ q0 qh qn w K,S_bn_twin N P q0 qh qn w K→CallsX P N.f_bn_twin #[.slice q0 qh qn] w K
def Ok_bn_left (N:Nums) (P:Program):Prop:=∀ q0 qh qn q1 w K,S_bn_left N P q0 qh qn q1 w K→CallsX P N.f_bn_left #[.slice q0 qh qn,.int .u64 q1] w K
def Ok_bn_add (N:Nums) (P:Program):Prop:=∀ q0 qh qn q1 qk qp w K,S_bn_add N P q0 qh qn q1 qk qp w K→CallsX P N.f_bn_add #[.slice q0 qh qn,.slice q1 qk qp] w K
def Ok_bn_right (N:Nums) (P:Program):Prop:=∀ q0 qh qn q1 w K,S_bn_right N P q0 qh qn q1 w K→CallsX P N.f_bn_right #[.slice q0 qh qn,.int .u64 q1] w K
def Ok_bn_sub (N:Nums) (P:Program):Prop:=∀ q0 qh qn q1 qk qp w K,S_bn_sub N P q0 qh qn q1 qk qp w K→CallsX P N.f_bn_sub #[.slice q0 qh qn,.slice q1 qk qp] w K
def Ok_bn_sum (N:Nums) (P:Program):Prop:=∀ q0 q1 qk qp q2 q3 vt yk w K,S_bn_sum N P q0 q1 qk qp q2 q3 vt yk w K→CallsX P N.f_bn_sum #[.bool q0,.slice q1 qk qp,.bool q2,.slice q3 vt yk] w K
def Ok_bn_cmp (N:Nums) (P:Program):Prop:=∀ q0 qh qn q1 qk qp w K,S_bn_cmp N P q0 qh qn q1 qk qp w K→CallsX P N.f_bn_cmp #[.slice q0 qh qn,.slice q1 qk qp] w K
def Ok_bI_SetInt64 (N:Nums) (P:Program):Prop:=∀ q0 q1 w K,S_bI_SetInt64 N P q0 q1 w K→CallsX P N.f_bI_SetInt64 #[.pointer q0,.int .i64 q1] w K
def Ok_bits_Join (N:Nums) (P:Program):Prop:=∀ qa qb qc w K,S_bits_Join N P qa qb qc w K→CallsX P N.f_bits_Join #[.agg #[.bool qa,.int .u64 qb,.int .i64 qc]] w K
def Ok_bits_Next (N:Nums) (P:Program):Prop:=∀ q0 q1 w K,S_bits_Next N P q0 q1 w K→CallsX P N.f_bits_Next #[.float .f64 q0,.bool q1] w K
def Ok_math_Copysign (N:Nums) (P:Program):Prop:=∀ q0 q1 w K,S_math_Copysign N P q0 q1 w K→CallsX P N.f_math_Copysign #[.float .f64 q0,.float .f64 q1] w K
def Ok_round_step (N:Nums) (P:Program):Prop:=∀ q0 q1 w K,S_round_step N P q0 q1 w K→CallsX P N.f_round_step #[.float .f64 q0,.bool q1] w K
def Ok_math_frexp (N:Nums) (P:Program):Prop:=∀ q0 w K,S_math_frexp N P q0 w K→CallsX P N.f_math_frexp #[.float .f64 q0] w K
def Ok_math_ldexp (N:Nums) (P:Program):Prop:=∀ q0 q1 w K,S_math_ldexp N P q0 q1 w K→CallsX P N.f_math_ldexp #[.float .f64 q0,.int .i64 q1] w K
def Ok_bI_low (N:Nums) (P:Program):Prop:=∀ q0 q1 w K,S_bI_low N P q0 q1 w K→CallsX P N.f_bI_low #[.pointer q0,.int .i64 q1] w K
def Ok_bI_of (N:Nums) (P:Program):Prop:=∀ q0 q1 qk qp w K,S_bI_of N P q0 q1 qk qp w K→CallsX P N.f_bI_of #[.pointer q0,.slice q1 qk qp] w K
def Ok_bn_words (N:Nums) (P:Program):Prop:=∀ q0 w K,S_bn_words N P q0 w K→CallsX P N.f_bn_words #[.int .u64 q0] w K
def Ok_bn_bit (N:Nums) (P:Program):Prop:=∀ q0 qh qn q1 w K,S_bn_bit N P q0 qh qn q1 w K→CallsX P N.f_bn_bit #[.slice q0 qh qn,.int .i64 q1] w K
def Ok_bn_length (N:Nums) (P:Program):Prop:=∀ q0 qh qn w K,S_bn_length N P q0 qh qn w K→CallsX P N.f_bn_length #[.slice q0 qh qn] w K
def Ok_bI_And (N:Nums) (P:Program):Prop:=∀ q0 q1 q2 w K,S_bI_And N P q0 q1 q2 w K→CallsX P N.f_bI_And #[.pointer q0,.pointer q1,.pointer q2] w K
def Ok_bn_trim (N:Nums) (P:Program):Prop:=∀ q0 qh qn w K,S_bn_trim N P q0 qh qn w K→CallsX P N.f_bn_trim #[.slice q0 qh qn] w K
def Ok_bits_Place (N:Nums) (P:Program):Prop:=∀ q0 w K,S_bits_Place N P q0 w K→CallsX P N.f_bits_Place #[.float .f64 q0] w K
def Ok_bits_At (N:Nums) (P:Program):Prop:=∀ q0 w K,S_bits_At N P q0 w K→CallsX P N.f_bits_At #[.int .i64 q0] w K
def Ok_math_normalize (N:Nums) (P:Program):Prop:=∀ q0 w K,S_math_normalize N P q0 w K→CallsX P N.f_math_normalize #[.float .f64 q0] w K
def Ok_math_Inf (N:Nums) (P:Program):Prop:=∀ q0 w K,S_math_Inf N P q0 w K→CallsX P N.f_math_Inf #[.int .i64 q0] w K
def Ok_math_Float64bits (N:Nums) (P:Program):Prop:=∀ (x:Nat) (w:World) (K:KV),K (.int .u64 x) w→CallsX P N.f_math_Float64bits #[.float .f64 x] w K
def Ok_math_Float64frombits (N:Nums) (P:Program):Prop:=∀ (n:Int) (w:World) (K:KV),K (.float .f64 n.toNat) w→CallsX P N.f_math_Float64frombits #[.int .u64 n] w K
def Ok_math_bits_Len64 (N:Nums) (P:Program):Prop:=∀ (x:Int) (_:0≤x) (_:x≤18446744073709551615) (w:World) (K:KV),K (.int .i64 (Lib.bitLen x.toNat)) w→CallsX P N.f_math_bits_Len64 #[.int .u64 x] w K
structure AllOk (N:Nums) (P:Program):Prop where
 w14_RefineNever:Ok_w14_RefineNever N P
 w14_awake:Ok_w14_awake N P
 w14_great:Ok_w14_great N P
 refine_Left:Ok_refine_Left N P
 k_SameReals:Ok_k_SameReals N P
 refine_Step:Ok_refine_Step N P
 refine_Until:Ok_refine_Until N P
 k_Pick:Ok_k_Pick N P
 solve_Solve:Ok_solve_Solve N P
 w14_left:Ok_w14_left N P
 k_LikeReals:Ok_k_LikeReals N P
 w14_two:Ok_w14_two N P
 k_mark:Ok_k_mark N P
 refine_fit:Ok_refine_fit N P
 refine_finite:Ok_refine_finite N P
 sums_DotExact:Ok_sums_DotExact N P
 k_SameFloat:Ok_k_SameFloat N P
 refine_fits:Ok_refine_fits N P
 vector_Add:Ok_vector_Add N P
 vector_Norm:Ok_vector_Norm N P
 solve_Forward:Ok_solve_Forward N P
 solve_Back:Ok_solve_Back N P
 k_Like:Ok_k_Like N P
 matrix_Right:Ok_matrix_Right N P
 sums_finite:Ok_sums_finite N P
 sums_total:Ok_sums_total N P
 sums_DotExact_1:Ok_sums_DotExact_1 N P
 dyad_Of:Ok_dyad_Of N P
 dyad_Mul:Ok_dyad_Mul N P
 dyad_Round:Ok_dyad_Round N P
 lower_Right:Ok_lower_Right N P
 vector_each:Ok_vector_each N P
 vector_Add_1:Ok_vector_Add_1 N P
 round_Add:Ok_round_Add N P
 math_Abs:Ok_math_Abs N P
 solve_fits:Ok_solve_fits N P
 slices_Clone___float64_float64:Ok_slices_Clone___float64_float64 N P
 solve_below:Ok_solve_below N P
 slices_Contains___float64_float64:Ok_slices_Contains___float64_float64 N P
 matrix_fits:Ok_matrix_fits N P
 math_IsNaN:Ok_math_IsNaN N P
 math_IsInf:Ok_math_IsInf N P
 dyad_Int:Ok_dyad_Int N P
 dyad_Add:Ok_dyad_Add N P
 bits_Split:Ok_bits_Split N P
 dyad_both:Ok_dyad_both N P
 dyad_whole:Ok_dyad_whole N P
 dyad_made:Ok_dyad_made N P
 bI_Mul:Ok_bI_Mul N P
 dyad_Right:Ok_dyad_Right N P
 bI_Abs:Ok_bI_Abs N P
 dyad_top:Ok_dyad_top N P
 bI_Lsh:Ok_bI_Lsh N P
 bI_Uint64:Ok_bI_Uint64 N P
 bI_Rsh:Ok_bI_Rsh N P
 bI_Sub:Ok_bI_Sub N P
 bI_Cmp:Ok_bI_Cmp N P
 bn_NewInt:Ok_bn_NewInt N P
 bI_Sign:Ok_bI_Sign N P
 dyad_away:Ok_dyad_away N P
 dyad_float:Ok_dyad_float N P
 vector_fit:Ok_vector_fit N P
 round_way:Ok_round_way N P
 round_finite:Ok_round_finite N P
 math_Signbit:Ok_math_Signbit N P
 round_none:Ok_round_none N P
 round_settle:Ok_round_settle N P
 round_sign:Ok_round_sign N P
 slices_Index___float64_float64:Ok_slices_Index___float64_float64 N P
 bI_Add:Ok_bI_Add N P
 bits_Kind:Ok_bits_Kind N P
 math_Frexp:Ok_math_Frexp N P
 math_Ldexp:Ok_math_Ldexp N P
 math_bits_TrailingZeros64:Ok_math_bits_TrailingZeros64 N P
 bI_Or:Ok_bI_Or N P
 bI_SetUint64:Ok_bI_SetUint64 N P
 bI_Neg:Ok_bI_Neg N P
 bI_TrailingZeroBits:Ok_bI_TrailingZeroBits N P
 bI_BitLen:Ok_bI_BitLen N P
 dyad_limbs:Ok_dyad_limbs N P
 bI_give:Ok_bI_give N P
 bn_mul:Ok_bn_mul N P
 bn_twin:Ok_bn_twin N P
 bn_left:Ok_bn_left N P
 bn_add:Ok_bn_add N P
 bn_right:Ok_bn_right N P
 bn_sub:Ok_bn_sub N P
 bn_sum:Ok_bn_sum N P
 bn_cmp:Ok_bn_cmp N P
 bI_SetInt64:Ok_bI_SetInt64 N P
 bits_Join:Ok_bits_Join N P
 bits_Next:Ok_bits_Next N P
 math_Copysign:Ok_math_Copysign N P
 round_step:Ok_round_step N P
 math_frexp:Ok_math_frexp N P
 math_ldexp:Ok_math_ldexp N P
 bI_low:Ok_bI_low N P
 bI_of:Ok_bI_of N P
 bn_words:Ok_bn_words N P
 bn_bit:Ok_bn_bit N P
 bn_length:Ok_bn_length N P
 bI_And:Ok_bI_And N P
 bn_trim:Ok_bn_trim N P
 bits_Place:Ok_bits_Place N P
 bits_At:Ok_bits_At N P
 math_normalize:Ok_math_normalize N P
 math_Inf:Ok_math_Inf N P
 math_Float64bits:Ok_math_Float64bits N P
 math_Float64frombits:Ok_math_Float64frombits N P
 math_bits_Len64:Ok_math_bits_Len64 N P
end Go.Eng
