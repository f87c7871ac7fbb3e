/-
  All that is asked of the propositions of the functions. No condition.
-/
import Derived.Test.YtgbilchfljlbeaaGreatDoorSh1
import Derived.Test.YtgbilchfljlbeaaGreatDoorSh2
import Derived.Lib.BitFns
set_option linter.all false
set_option maxRecDepth 100000
namespace Go.Eng
open Go
open Go.IntKind (i64 u64 u32 u8)
def Ok_w14_RefineSteps (N:Nums) (P:Program):Prop:=∀ qa qc qe qb qg ym yn vp yb yo vq yc yp vr yd yq vt ye w K,S_w14_RefineSteps N P qa qc qe qb qg ym yn vp yb yo vq yc yp vr yd yq vt ye w K→CallsX P N.f_w14_RefineSteps #[.agg #[.int .i64 qa,.int .i64 qc,.slice qe qb qg,.int .i64 ym,.slice yn vp yb,.slice yo vq yc,.slice yp vr yd,.slice yq vt ye]] w K
def Ok_w14_awake (N:Nums) (P:Program):Prop:=∀ w K,S_w14_awake N P  w K→CallsX P N.f_w14_awake #[] w K
def Ok_w14_great (N:Nums) (P:Program):Prop:=∀ qa qc qe qb qg w K,S_w14_great N P qa qc qe qb qg w K→CallsX P N.f_w14_great #[.agg #[.int .i64 qa,.int .i64 qc,.slice qe qb qg]] w K
def Ok_k_LentMatrix (N:Nums) (P:Program):Prop:=∀ qa qc qe qb qg w K,S_k_LentMatrix N P qa qc qe qb qg w K→CallsX P N.f_k_LentMatrix #[.agg #[.int .i64 qa,.int .i64 qc,.slice qe qb qg]] w K
def Ok_k_LentReals (N:Nums) (P:Program):Prop:=∀ q0 qh qn w K,S_k_LentReals N P q0 qh qn w K→CallsX P N.f_k_LentReals #[.slice q0 qh qn] w K
def Ok_refine_Left (N:Nums) (P:Program):Prop:=∀ qa qc qe qb qg q1 qo qu q2 qy vg w K,S_refine_Left N P qa qc qe qb qg q1 qo qu q2 qy vg w K→CallsX P N.f_refine_Left #[.agg #[.int .i64 qa,.int .i64 qc,.slice qe qb qg],.slice q1 qo qu,.slice q2 qy vg] w K
def Ok_r14_Left (N:Nums) (P:Program):Prop:=∀ qa qc qe qb qg q1 qo qu q2 qy vg w K,S_r14_Left N P qa qc qe qb qg q1 qo qu q2 qy vg w K→CallsX P N.f_r14_Left #[.agg #[.int .i64 qa,.int .i64 qc,.slice qe qb qg],.slice q1 qo qu,.slice q2 qy vg] w K
def Ok_k_SameReals (N:Nums) (P:Program):Prop:=∀ q0 qh qn q1 qo qu w K,S_k_SameReals N P q0 qh qn q1 qo qu w K→CallsX P N.f_k_SameReals #[.slice q0 qh qn,.slice q1 qo qu] w K
def Ok_k_KeptMatrix (N:Nums) (P:Program):Prop:=∀ qa qc qe qb qg ql qk qr qs qt w K,S_k_KeptMatrix N P qa qc qe qb qg ql qk qr qs qt w K→CallsX P N.f_k_KeptMatrix #[.agg #[.int .i64 qa,.int .i64 qc,.slice qe qb qg],.agg #[.int .i64 ql,.int .i64 qk,.slice qr qs qt]] w K
def Ok_k_KeptReals (N:Nums) (P:Program):Prop:=∀ q0 qh qn q1 qo qu w K,S_k_KeptReals N P q0 qh qn q1 qo qu w K→CallsX P N.f_k_KeptReals #[.slice q0 qh qn,.slice q1 qo qu] w K
def Ok_k_LentFactor (N:Nums) (P:Program):Prop:=∀ qa qc qd qf qe qb qg w K,S_k_LentFactor N P qa qc qd qf qe qb qg w K→CallsX P N.f_k_LentFactor #[.agg #[.int .i64 qa,.slice qc qd qf,.slice qe qb qg]] w K
def Ok_refine_Step (N:Nums) (P:Program):Prop:=∀ qa qc qe qb qg ql qk qi qj qr qs qt q2 qy vg q3 vn yf w K,S_refine_Step N P qa qc qe qb qg ql qk qi qj qr qs qt q2 qy vg q3 vn yf w K→CallsX P N.f_refine_Step #[.agg #[.int .i64 qa,.int .i64 qc,.slice qe qb qg],.agg #[.int .i64 ql,.slice qk qi qj,.slice qr qs qt],.slice q2 qy vg,.slice q3 vn yf] w K
def Ok_r14_Step (N:Nums) (P:Program):Prop:=∀ qa qc qe qb qg ql qk qi qj qr qs qt q2 qy vg q3 vn yf w K,S_r14_Step N P qa qc qe qb qg ql qk qi qj qr qs qt q2 qy vg q3 vn yf w K→CallsX P N.f_r14_Step #[.agg #[.int .i64 qa,.int .i64 qc,.slice qe qb qg],.agg #[.int .i64 ql,.slice qk qi qj,.slice qr qs qt],.slice q2 qy vg,.slice q3 vn yf] w K
def Ok_k_KeptFactor (N:Nums) (P:Program):Prop:=∀ qa qc qd qf qe qb qg ql qk qi qj qr qs qt w K,S_k_KeptFactor N P qa qc qd qf qe qb qg ql qk qi qj qr qs qt w K→CallsX P N.f_k_KeptFactor #[.agg #[.int .i64 qa,.slice qc qd qf,.slice qe qb qg],.agg #[.int .i64 ql,.slice qk qi qj,.slice qr qs qt]] w K
def Ok_refine_Until (N:Nums) (P:Program):Prop:=∀ qa qc qe qb qg ql qk qi qj qr qs qt q2 qy vg q3 w K,S_refine_Until N P qa qc qe qb qg ql qk qi qj qr qs qt q2 qy vg q3 w K→CallsX P N.f_refine_Until #[.agg #[.int .i64 qa,.int .i64 qc,.slice qe qb qg],.agg #[.int .i64 ql,.slice qk qi qj,.slice qr qs qt],.slice q2 qy vg,.int .i64 q3] w K
def Ok_solve_Solve (N:Nums) (P:Program):Prop:=∀ qa qc qd qf qe qb qg q1 qo qu w K,S_solve_Solve N P qa qc qd qf qe qb qg q1 qo qu w K→CallsX P N.f_solve_Solve #[.agg #[.int .i64 qa,.slice qc qd qf,.slice qe qb qg],.slice q1 qo qu] w K
def Ok_k_LikeReals (N:Nums) (P:Program):Prop:=∀ q0 qh qn q1 qo qu w K,S_k_LikeReals N P q0 qh qn q1 qo qu w K→CallsX P N.f_k_LikeReals #[.slice q0 qh qn,.slice q1 qo qu] w K
def Ok_w14_two (N:Nums) (P:Program):Prop:=∀ w K,S_w14_two N P  w K→CallsX P N.f_w14_two #[] w K
def Ok_k_mark (N:Nums) (P:Program):Prop:=∀ q0 q1 w K,S_k_mark N P q0 q1 w K→CallsX P N.f_k_mark #[.int .i64 q0,.int .i64 q1] w K
def Ok_refine_fit (N:Nums) (P:Program):Prop:=∀ qa qc qe qb qg q1 qo qu q2 qy vg w K,S_refine_fit N P qa qc qe qb qg q1 qo qu q2 qy vg w K→CallsX P N.f_refine_fit #[.agg #[.int .i64 qa,.int .i64 qc,.slice qe qb qg],.slice q1 qo qu,.slice q2 qy vg] w K
def Ok_refine_finite (N:Nums) (P:Program):Prop:=∀ q0 qh qn w K,S_refine_finite N P q0 qh qn w K→CallsX P N.f_refine_finite #[.slice q0 qh qn] w K
def Ok_sums_DotExact (N:Nums) (P:Program):Prop:=∀ q0 qh qn q1 qo qu q2 w K,S_sums_DotExact N P q0 qh qn q1 qo qu q2 w K→CallsX P N.f_sums_DotExact #[.slice q0 qh qn,.slice q1 qo qu,.int .i8 q2] w K
def Ok_r14_fit (N:Nums) (P:Program):Prop:=∀ qa qc qe qb qg q1 qo qu q2 qy vg w K,S_r14_fit N P qa qc qe qb qg q1 qo qu q2 qy vg w K→CallsX P N.f_r14_fit #[.agg #[.int .i64 qa,.int .i64 qc,.slice qe qb qg],.slice q1 qo qu,.slice q2 qy vg] w K
def Ok_r14_finite (N:Nums) (P:Program):Prop:=∀ q0 qh qn w K,S_r14_finite N P q0 qh qn w K→CallsX P N.f_r14_finite #[.slice q0 qh qn] w K
def Ok_r02_Float (N:Nums) (P:Program):Prop:=∀ q0 w K,S_r02_Float N P q0 w K→CallsX P N.f_r02_Float #[.float .f64 q0] w K
def Ok_r02_Times (N:Nums) (P:Program):Prop:=∀ qa qc qd qf qe ql qk qi qj qr w K,S_r02_Times N P qa qc qd qf qe ql qk qi qj qr w K→CallsX P N.f_r02_Times #[.agg #[.bool qa,.slice qc qd qf,.int .i64 qe],.agg #[.bool ql,.slice qk qi qj,.int .i64 qr]] w K
def Ok_r02_Plus (N:Nums) (P:Program):Prop:=∀ qa qc qd qf qe ql qk qi qj qr w K,S_r02_Plus N P qa qc qd qf qe ql qk qi qj qr w K→CallsX P N.f_r02_Plus #[.agg #[.bool qa,.slice qc qd qf,.int .i64 qe],.agg #[.bool ql,.slice qk qi qj,.int .i64 qr]] w K
def Ok_r02_Minus (N:Nums) (P:Program):Prop:=∀ qa qc qd qf qe w K,S_r02_Minus N P qa qc qd qf qe w K→CallsX P N.f_r02_Minus #[.agg #[.bool qa,.slice qc qd qf,.int .i64 qe]] w K
def Ok_r02_Rounded (N:Nums) (P:Program):Prop:=∀ qa qc qd qf qe q1 w K,S_r02_Rounded N P qa qc qd qf qe q1 w K→CallsX P N.f_r02_Rounded #[.agg #[.bool qa,.slice qc qd qf,.int .i64 qe],.int .i8 q1] w K
def Ok_k_SameFloat (N:Nums) (P:Program):Prop:=∀ q0 q1 w K,S_k_SameFloat N P q0 q1 w K→CallsX P N.f_k_SameFloat #[.float .f64 q0,.float .f64 q1] w K
def Ok_k_SameMatrix (N:Nums) (P:Program):Prop:=∀ qa qc qe qb qg ql qk qr qs qt w K,S_k_SameMatrix N P qa qc qe qb qg ql qk qr qs qt w K→CallsX P N.f_k_SameMatrix #[.agg #[.int .i64 qa,.int .i64 qc,.slice qe qb qg],.agg #[.int .i64 ql,.int .i64 qk,.slice qr qs qt]] w K
def Ok_refine_fits (N:Nums) (P:Program):Prop:=∀ qa qc qe qb qg ql qk qi qj qr qs qt w K,S_refine_fits N P qa qc qe qb qg ql qk qi qj qr qs qt w K→CallsX P N.f_refine_fits #[.agg #[.int .i64 qa,.int .i64 qc,.slice qe qb qg],.agg #[.int .i64 ql,.slice qk qi qj,.slice qr qs qt]] w K
def Ok_vector_Add (N:Nums) (P:Program):Prop:=∀ q0 qh qn q1 qo qu w K,S_vector_Add N P q0 qh qn q1 qo qu w K→CallsX P N.f_vector_Add #[.slice q0 qh qn,.slice q1 qo qu] w K
def Ok_r14_fits (N:Nums) (P:Program):Prop:=∀ qa qc qe qb qg ql qk qi qj qr qs qt w K,S_r14_fits N P qa qc qe qb qg ql qk qi qj qr qs qt w K→CallsX P N.f_r14_fits #[.agg #[.int .i64 qa,.int .i64 qc,.slice qe qb qg],.agg #[.int .i64 ql,.slice qk qi qj,.slice qr qs qt]] w K
def Ok_r13_Solve (N:Nums) (P:Program):Prop:=∀ qa qc qd qf qe qb qg q1 qo qu w K,S_r13_Solve N P qa qc qd qf qe qb qg q1 qo qu w K→CallsX P N.f_r13_Solve #[.agg #[.int .i64 qa,.slice qc qd qf,.slice qe qb qg],.slice q1 qo qu] w K
def Ok_k_SameFactor (N:Nums) (P:Program):Prop:=∀ qa qc qd qf qe qb qg ql qk qi qj qr qs qt w K,S_k_SameFactor N P qa qc qd qf qe qb qg ql qk qi qj qr qs qt w K→CallsX P N.f_k_SameFactor #[.agg #[.int .i64 qa,.slice qc qd qf,.slice qe qb qg],.agg #[.int .i64 ql,.slice qk qi qj,.slice qr qs qt]] w K
def Ok_vector_Norm (N:Nums) (P:Program):Prop:=∀ q0 qh qn w K,S_vector_Norm N P q0 qh qn w K→CallsX P N.f_vector_Norm #[.slice q0 qh qn] w K
def Ok_solve_Forward (N:Nums) (P:Program):Prop:=∀ qa qc qd qf qe qb qg q1 qo qu w K,S_solve_Forward N P qa qc qd qf qe qb qg q1 qo qu w K→CallsX P N.f_solve_Forward #[.agg #[.int .i64 qa,.slice qc qd qf,.slice qe qb qg],.slice q1 qo qu] w K
def Ok_solve_Back (N:Nums) (P:Program):Prop:=∀ qa qc qd qf qe qb qg q1 qo qu w K,S_solve_Back N P qa qc qd qf qe qb qg q1 qo qu w K→CallsX P N.f_solve_Back #[.agg #[.int .i64 qa,.slice qc qd qf,.slice qe qb qg],.slice q1 qo qu] w K
def Ok_k_Like (N:Nums) (P:Program):Prop:=∀ q0 q1 w K,S_k_Like N P q0 q1 w K→CallsX P N.f_k_Like #[.float .f64 q0,.float .f64 q1] w K
def Ok_matrix_Right (N:Nums) (P:Program):Prop:=∀ qa qc qe qb qg w K,S_matrix_Right N P qa qc qe qb qg w K→CallsX P N.f_matrix_Right #[.agg #[.int .i64 qa,.int .i64 qc,.slice qe qb qg]] w K
def Ok_sums_finite (N:Nums) (P:Program):Prop:=∀ q0 qh qn w K,S_sums_finite N P q0 qh qn w K→CallsX P N.f_sums_finite #[.slice q0 qh qn] w K
def Ok_sums_total (N:Nums) (P:Program):Prop:=∀ q0 q1 w K,S_sums_total N P q0 q1 w K→CallsX P N.f_sums_total #[.int .i64 q0,q1] w K
def Ok_sums_DotExact_1 (N:Nums) (P:Program):Prop:=∀ q0 q1 q2 w K,S_sums_DotExact_1 N P q0 q1 q2 w K→CallsX P N.f_sums_DotExact_1 #[.int .i64 q0,.pointer q1,.pointer q2] w K
def Ok_dyad_Of (N:Nums) (P:Program):Prop:=∀ q0 w K,S_dyad_Of N P q0 w K→CallsX P N.f_dyad_Of #[.float .f64 q0] w K
def Ok_dyad_Mul (N:Nums) (P:Program):Prop:=∀ qa qc qd qf qe ql qk qi qj qr w K,S_dyad_Mul N P qa qc qd qf qe ql qk qi qj qr w K→CallsX P N.f_dyad_Mul #[.agg #[.bool qa,.slice qc qd qf,.int .i64 qe],.agg #[.bool ql,.slice qk qi qj,.int .i64 qr]] w K
def Ok_dyad_Round (N:Nums) (P:Program):Prop:=∀ qa qc qd qf qe q1 w K,S_dyad_Round N P qa qc qd qf qe q1 w K→CallsX P N.f_dyad_Round #[.agg #[.bool qa,.slice qc qd qf,.int .i64 qe],.int .i8 q1] w K
def Ok_r10_Right (N:Nums) (P:Program):Prop:=∀ qa qc qe qb qg w K,S_r10_Right N P qa qc qe qb qg w K→CallsX P N.f_r10_Right #[.agg #[.int .i64 qa,.int .i64 qc,.slice qe qb qg]] w K
def Ok_r01_Split (N:Nums) (P:Program):Prop:=∀ q0 w K,S_r01_Split N P q0 w K→CallsX P N.f_r01_Split #[.float .f64 q0] w K
def Ok_r02_NatOf (N:Nums) (P:Program):Prop:=∀ q0 w K,S_r02_NatOf N P q0 w K→CallsX P N.f_r02_NatOf #[.int .u64 q0] w K
def Ok_r02_NatMul (N:Nums) (P:Program):Prop:=∀ q0 qh qn q1 qo qu w K,S_r02_NatMul N P q0 qh qn q1 qo qu w K→CallsX P N.f_r02_NatMul #[.slice q0 qh qn,.slice q1 qo qu] w K
def Ok_r02_Num_Zero (N:Nums) (P:Program):Prop:=∀ qa qc qd qf qe w K,S_r02_Num_Zero N P qa qc qd qf qe w K→CallsX P N.f_r02_Num_Zero #[.agg #[.bool qa,.slice qc qd qf,.int .i64 qe]] w K
def Ok_r02_NatUp (N:Nums) (P:Program):Prop:=∀ q0 qh qn q1 w K,S_r02_NatUp N P q0 qh qn q1 w K→CallsX P N.f_r02_NatUp #[.slice q0 qh qn,.int .i64 q1] w K
def Ok_r02_NatAdd (N:Nums) (P:Program):Prop:=∀ q0 qh qn q1 qo qu w K,S_r02_NatAdd N P q0 qh qn q1 qo qu w K→CallsX P N.f_r02_NatAdd #[.slice q0 qh qn,.slice q1 qo qu] w K
def Ok_r02_NatCmp (N:Nums) (P:Program):Prop:=∀ q0 qh qn q1 qo qu w K,S_r02_NatCmp N P q0 qh qn q1 qo qu w K→CallsX P N.f_r02_NatCmp #[.slice q0 qh qn,.slice q1 qo qu] w K
def Ok_r02_NatSub (N:Nums) (P:Program):Prop:=∀ q0 qh qn q1 qo qu w K,S_r02_NatSub N P q0 qh qn q1 qo qu w K→CallsX P N.f_r02_NatSub #[.slice q0 qh qn,.slice q1 qo qu] w K
def Ok_r02_Num_top (N:Nums) (P:Program):Prop:=∀ qa qc qd qf qe w K,S_r02_Num_top N P qa qc qd qf qe w K→CallsX P N.f_r02_Num_top #[.agg #[.bool qa,.slice qc qd qf,.int .i64 qe]] w K
def Ok_r02_NatDown (N:Nums) (P:Program):Prop:=∀ q0 qh qn q1 w K,S_r02_NatDown N P q0 qh qn q1 w K→CallsX P N.f_r02_NatDown #[.slice q0 qh qn,.int .i64 q1] w K
def Ok_r02_up (N:Nums) (P:Program):Prop:=∀ q0 q1 q2 q3 w K,S_r02_up N P q0 q1 q2 q3 w K→CallsX P N.f_r02_up #[.int .i8 q0,.bool q1,.int .i64 q2,.bool q3] w K
def Ok_r02_NatBits (N:Nums) (P:Program):Prop:=∀ q0 qh qn w K,S_r02_NatBits N P q0 qh qn w K→CallsX P N.f_r02_NatBits #[.slice q0 qh qn] w K
def Ok_r02_huge (N:Nums) (P:Program):Prop:=∀ q0 q1 w K,S_r02_huge N P q0 q1 w K→CallsX P N.f_r02_huge #[.int .i8 q0,.bool q1] w K
def Ok_r02_float (N:Nums) (P:Program):Prop:=∀ q0 q1 q2 w K,S_r02_float N P q0 q1 q2 w K→CallsX P N.f_r02_float #[.bool q0,.int .u64 q1,.int .i64 q2] w K
def Ok_lower_Right (N:Nums) (P:Program):Prop:=∀ qa qc qd qf qe qb qg w K,S_lower_Right N P qa qc qd qf qe qb qg w K→CallsX P N.f_lower_Right #[.agg #[.int .i64 qa,.slice qc qd qf,.slice qe qb qg]] w K
def Ok_vector_each (N:Nums) (P:Program):Prop:=∀ q0 qh qn q1 qo qu q2 w K,S_vector_each N P q0 qh qn q1 qo qu q2 w K→CallsX P N.f_vector_each #[.slice q0 qh qn,.slice q1 qo qu,q2] w K
def Ok_vector_Add_1 (N:Nums) (P:Program):Prop:=∀ q0 q1 w K,S_vector_Add_1 N P q0 q1 w K→CallsX P N.f_vector_Add_1 #[.float .f64 q0,.float .f64 q1] w K
def Ok_r12_Right (N:Nums) (P:Program):Prop:=∀ qa qc qd qf qe qb qg w K,S_r12_Right N P qa qc qd qf qe qb qg w K→CallsX P N.f_r12_Right #[.agg #[.int .i64 qa,.slice qc qd qf,.slice qe qb qg]] w K
def Ok_r13_Forward (N:Nums) (P:Program):Prop:=∀ qa qc qd qf qe qb qg q1 qo qu w K,S_r13_Forward N P qa qc qd qf qe qb qg q1 qo qu w K→CallsX P N.f_r13_Forward #[.agg #[.int .i64 qa,.slice qc qd qf,.slice qe qb qg],.slice q1 qo qu] w K
def Ok_r13_Back (N:Nums) (P:Program):Prop:=∀ qa qc qd qf qe qb qg q1 qo qu w K,S_r13_Back N P qa qc qd qf qe qb qg q1 qo qu w K→CallsX P N.f_r13_Back #[.agg #[.int .i64 qa,.slice qc qd qf,.slice qe qb qg],.slice q1 qo qu] w K
def Ok_round_Add (N:Nums) (P:Program):Prop:=∀ q0 q1 q2 w K,S_round_Add N P q0 q1 q2 w K→CallsX P N.f_round_Add #[.float .f64 q0,.float .f64 q1,.int .i8 q2] w K
def Ok_math_Abs (N:Nums) (P:Program):Prop:=∀ q0 w K,S_math_Abs N P q0 w K→CallsX P N.f_math_Abs #[.float .f64 q0] w K
def Ok_solve_fits (N:Nums) (P:Program):Prop:=∀ qa qc qd qf qe qb qg q1 w K,S_solve_fits N P qa qc qd qf qe qb qg q1 w K→CallsX P N.f_solve_fits #[.agg #[.int .i64 qa,.slice qc qd qf,.slice qe qb qg],.int .i64 q1] w K
def Ok_slices_Clone___float64_float64 (N:Nums) (P:Program):Prop:=∀ q0 qh qn w K,S_slices_Clone___float64_float64 N P q0 qh qn w K→CallsX P N.f_slices_Clone___float64_float64 #[.slice q0 qh qn] w K
def Ok_solve_below (N:Nums) (P:Program):Prop:=∀ qa qc qd qf qe qb qg q1 q2 w K,S_solve_below N P qa qc qd qf qe qb qg q1 q2 w K→CallsX P N.f_solve_below #[.agg #[.int .i64 qa,.slice qc qd qf,.slice qe qb qg],.int .i64 q1,.int .i64 q2] w K
def Ok_slices_Contains___float64_float64 (N:Nums) (P:Program):Prop:=∀ q0 qh qn q1 w K,S_slices_Contains___float64_float64 N P q0 qh qn q1 w K→CallsX P N.f_slices_Contains___float64_float64 #[.slice q0 qh qn,.float .f64 q1] w K
def Ok_matrix_fits (N:Nums) (P:Program):Prop:=∀ q0 w K,S_matrix_fits N P q0 w K→CallsX P N.f_matrix_fits #[.int .i64 q0] w K
def Ok_math_IsNaN (N:Nums) (P:Program):Prop:=∀ q0 w K,S_math_IsNaN N P q0 w K→CallsX P N.f_math_IsNaN #[.float .f64 q0] w K
def Ok_math_IsInf (N:Nums) (P:Program):Prop:=∀ q0 q1 w K,S_math_IsInf N P q0 q1 w K→CallsX P N.f_math_IsInf #[.float .f64 q0,.int .i64 q1] w K
def Ok_dyad_Int (N:Nums) (P:Program):Prop:=∀ q0 w K,S_dyad_Int N P q0 w K→CallsX P N.f_dyad_Int #[.int .i64 q0] w K
def Ok_dyad_Add (N:Nums) (P:Program):Prop:=∀ qa qc qd qf qe ql qk qi qj qr w K,S_dyad_Add N P qa qc qd qf qe ql qk qi qj qr w K→CallsX P N.f_dyad_Add #[.agg #[.bool qa,.slice qc qd qf,.int .i64 qe],.agg #[.bool ql,.slice qk qi qj,.int .i64 qr]] w K
def Ok_bits_Split (N:Nums) (P:Program):Prop:=∀ q0 w K,S_bits_Split N P q0 w K→CallsX P N.f_bits_Split #[.float .f64 q0] w K
def Ok_dyad_both (N:Nums) (P:Program):Prop:=∀ qa qc qd qf qe ql qk qi qj qr w K,S_dyad_both N P qa qc qd qf qe ql qk qi qj qr w K→CallsX P N.f_dyad_both #[.agg #[.bool qa,.slice qc qd qf,.int .i64 qe],.agg #[.bool ql,.slice qk qi qj,.int .i64 qr]] w K
def Ok_dyad_whole (N:Nums) (P:Program):Prop:=∀ qa qc qd qf qe w K,S_dyad_whole N P qa qc qd qf qe w K→CallsX P N.f_dyad_whole #[.agg #[.bool qa,.slice qc qd qf,.int .i64 qe]] w K
def Ok_dyad_made (N:Nums) (P:Program):Prop:=∀ q0 q1 w K,S_dyad_made N P q0 q1 w K→CallsX P N.f_dyad_made #[.pointer q0,.int .i64 q1] w K
def Ok_bI_Mul (N:Nums) (P:Program):Prop:=∀ q0 q1 q2 w K,S_bI_Mul N P q0 q1 q2 w K→CallsX P N.f_bI_Mul #[.pointer q0,.pointer q1,.pointer q2] w K
def Ok_dyad_Right (N:Nums) (P:Program):Prop:=∀ qa qc qd qf qe w K,S_dyad_Right N P qa qc qd qf qe w K→CallsX P N.f_dyad_Right #[.agg #[.bool qa,.slice qc qd qf,.int .i64 qe]] w K
def Ok_bI_Abs (N:Nums) (P:Program):Prop:=∀ q0 q1 w K,S_bI_Abs N P q0 q1 w K→CallsX P N.f_bI_Abs #[.pointer q0,.pointer q1] w K
def Ok_dyad_top (N:Nums) (P:Program):Prop:=∀ qa qc qd qf qe w K,S_dyad_top N P qa qc qd qf qe w K→CallsX P N.f_dyad_top #[.agg #[.bool qa,.slice qc qd qf,.int .i64 qe]] w K
def Ok_bI_Lsh (N:Nums) (P:Program):Prop:=∀ q0 q1 q2 w K,S_bI_Lsh N P q0 q1 q2 w K→CallsX P N.f_bI_Lsh #[.pointer q0,.pointer q1,.int .u64 q2] w K
def Ok_bI_Uint64 (N:Nums) (P:Program):Prop:=∀ q0 w K,S_bI_Uint64 N P q0 w K→CallsX P N.f_bI_Uint64 #[.pointer q0] w K
def Ok_bI_Rsh (N:Nums) (P:Program):Prop:=∀ q0 q1 q2 w K,S_bI_Rsh N P q0 q1 q2 w K→CallsX P N.f_bI_Rsh #[.pointer q0,.pointer q1,.int .u64 q2] w K
def Ok_bI_Sub (N:Nums) (P:Program):Prop:=∀ q0 q1 q2 w K,S_bI_Sub N P q0 q1 q2 w K→CallsX P N.f_bI_Sub #[.pointer q0,.pointer q1,.pointer q2] w K
def Ok_bI_Cmp (N:Nums) (P:Program):Prop:=∀ q0 q1 w K,S_bI_Cmp N P q0 q1 w K→CallsX P N.f_bI_Cmp #[.pointer q0,.pointer q1] w K
def Ok_bn_NewInt (N:Nums) (P:Program):Prop:=∀ q0 w K,S_bn_NewInt N P q0 w K→CallsX P N.f_bn_NewInt #[.int .i64 q0] w K
def Ok_bI_Sign (N:Nums) (P:Program):Prop:=∀ q0 w K,S_bI_Sign N P q0 w K→CallsX P N.f_bI_Sign #[.pointer q0] w K
def Ok_dyad_away (N:Nums) (P:Program):Prop:=∀ q0 q1 q2 q3 w K,S_dyad_away N P q0 q1 q2 q3 w K→CallsX P N.f_dyad_away #[.int .i8 q0,.bool q1,.int .i64 q2,.bool q3] w K
def Ok_dyad_float (N:Nums) (P:Program):Prop:=∀ q0 q1 q2 q3 w K,S_dyad_float N P q0 q1 q2 q3 w K→CallsX P N.f_dyad_float #[.bool q0,.int .u64 q1,.int .i64 q2,.int .i8 q3] w K
def Ok_r10_may (N:Nums) (P:Program):Prop:=∀ q0 w K,S_r10_may N P q0 w K→CallsX P N.f_r10_may #[.int .i64 q0] w K
def Ok_r01_Finite (N:Nums) (P:Program):Prop:=∀ q0 w K,S_r01_Finite N P q0 w K→CallsX P N.f_r01_Finite #[.float .f64 q0] w K
def Ok_r01_fields (N:Nums) (P:Program):Prop:=∀ q0 w K,S_r01_fields N P q0 w K→CallsX P N.f_r01_fields #[.float .f64 q0] w K
def Ok_r02_NatTrim (N:Nums) (P:Program):Prop:=∀ q0 qh qn w K,S_r02_NatTrim N P q0 qh qn w K→CallsX P N.f_r02_NatTrim #[.slice q0 qh qn] w K
def Ok_r02_limbs (N:Nums) (P:Program):Prop:=∀ q0 qh qn w K,S_r02_limbs N P q0 qh qn w K→CallsX P N.f_r02_limbs #[.slice q0 qh qn] w K
def Ok_r02_product (N:Nums) (P:Program):Prop:=∀ q0 qh qn q1 qo qu w K,S_r02_product N P q0 qh qn q1 qo qu w K→CallsX P N.f_r02_product #[.slice q0 qh qn,.slice q1 qo qu] w K
def Ok_r02_halves (N:Nums) (P:Program):Prop:=∀ q0 qh qn w K,S_r02_halves N P q0 qh qn w K→CallsX P N.f_r02_halves #[.slice q0 qh qn] w K
def Ok_r02_digit (N:Nums) (P:Program):Prop:=∀ q0 qh qn q1 w K,S_r02_digit N P q0 qh qn q1 w K→CallsX P N.f_r02_digit #[.slice q0 qh qn,.int .i64 q1] w K
def Ok_r02_short (N:Nums) (P:Program):Prop:=∀ q0 qh qn q1 w K,S_r02_short N P q0 qh qn q1 w K→CallsX P N.f_r02_short #[.slice q0 qh qn,.int .u64 q1] w K
def Ok_r01_Join (N:Nums) (P:Program):Prop:=∀ qa qc qe w K,S_r01_Join N P qa qc qe w K→CallsX P N.f_r01_Join #[.agg #[.bool qa,.int .u64 qc,.int .i64 qe]] w K
def Ok_vector_fit (N:Nums) (P:Program):Prop:=∀ q0 qh qn q1 qo qu w K,S_vector_fit N P q0 qh qn q1 qo qu w K→CallsX P N.f_vector_fit #[.slice q0 qh qn,.slice q1 qo qu] w K
def Ok_r13_Right (N:Nums) (P:Program):Prop:=∀ qa qc qd qf qe qb qg w K,S_r13_Right N P qa qc qd qf qe qb qg w K→CallsX P N.f_r13_Right #[.agg #[.int .i64 qa,.slice qc qd qf,.slice qe qb qg]] w K
def Ok_r13_at (N:Nums) (P:Program):Prop:=∀ qa qc qd qf qe qb qg q1 q2 w K,S_r13_at N P qa qc qd qf qe qb qg q1 q2 w K→CallsX P N.f_r13_at #[.agg #[.int .i64 qa,.slice qc qd qf,.slice qe qb qg],.int .i64 q1,.int .i64 q2] w K
def Ok_r13_zero (N:Nums) (P:Program):Prop:=∀ qa qc qd qf qe qb qg w K,S_r13_zero N P qa qc qd qf qe qb qg w K→CallsX P N.f_r13_zero #[.agg #[.int .i64 qa,.slice qc qd qf,.slice qe qb qg]] w K
def Ok_round_way (N:Nums) (P:Program):Prop:=∀ q0 w K,S_round_way N P q0 w K→CallsX P N.f_round_way #[.int .i8 q0] w K
def Ok_round_finite (N:Nums) (P:Program):Prop:=∀ q0 qh qn w K,S_round_finite N P q0 qh qn w K→CallsX P N.f_round_finite #[.slice q0 qh qn] w K
def Ok_math_Signbit (N:Nums) (P:Program):Prop:=∀ q0 w K,S_math_Signbit N P q0 w K→CallsX P N.f_math_Signbit #[.float .f64 q0] w K
def Ok_round_none (N:Nums) (P:Program):Prop:=∀ q0 w K,S_round_none N P q0 w K→CallsX P N.f_round_none #[.int .i8 q0] w K
def Ok_round_settle (N:Nums) (P:Program):Prop:=∀ q0 q1 q2 w K,S_round_settle N P q0 q1 q2 w K→CallsX P N.f_round_settle #[.float .f64 q0,.int .i64 q1,.int .i8 q2] w K
def Ok_round_sign (N:Nums) (P:Program):Prop:=∀ q0 w K,S_round_sign N P q0 w K→CallsX P N.f_round_sign #[.float .f64 q0] w K
def Ok_slices_Index___float64_float64 (N:Nums) (P:Program):Prop:=∀ q0 qh qn q1 w K,S_slices_Index___float64_float64 N P q0 qh qn q1 w K→CallsX P N.f_slices_Index___float64_float64 #[.slice q0 qh qn,.float .f64 q1] w K
def Ok_bI_Add (N:Nums) (P:Program):Prop:=∀ q0 q1 q2 w K,S_bI_Add N P q0 q1 q2 w K→CallsX P N.f_bI_Add #[.pointer q0,.pointer q1,.pointer q2] w K
def Ok_bits_Kind (N:Nums) (P:Program):Prop:=∀ q0 w K,S_bits_Kind N P q0 w K→CallsX P N.f_bits_Kind #[.float .f64 q0] w K
def Ok_math_Frexp (N:Nums) (P:Program):Prop:=∀ q0 w K,S_math_Frexp N P q0 w K→CallsX P N.f_math_Frexp #[.float .f64 q0] w K
def Ok_math_Ldexp (N:Nums) (P:Program):Prop:=∀ q0 q1 w K,S_math_Ldexp N P q0 q1 w K→CallsX P N.f_math_Ldexp #[.float .f64 q0,.int .i64 q1] w K
def Ok_math_bits_TrailingZeros64 (N:Nums) (P:Program):Prop:=∀ q0 w K,S_math_bits_TrailingZeros64 N P q0 w K→CallsX P N.f_math_bits_TrailingZeros64 #[.int .u64 q0] w K
def Ok_bI_Or (N:Nums) (P:Program):Prop:=∀ q0 q1 q2 w K,S_bI_Or N P q0 q1 q2 w K→CallsX P N.f_bI_Or #[.pointer q0,.pointer q1,.pointer q2] w K
def Ok_bI_SetUint64 (N:Nums) (P:Program):Prop:=∀ q0 q1 w K,S_bI_SetUint64 N P q0 q1 w K→CallsX P N.f_bI_SetUint64 #[.pointer q0,.int .u64 q1] w K
def Ok_bI_Neg (N:Nums) (P:Program):Prop:=∀ q0 q1 w K,S_bI_Neg N P q0 q1 w K→CallsX P N.f_bI_Neg #[.pointer q0,.pointer q1] w K
def Ok_bI_TrailingZeroBits (N:Nums) (P:Program):Prop:=∀ q0 w K,S_bI_TrailingZeroBits N P q0 w K→CallsX P N.f_bI_TrailingZeroBits #[.pointer q0] w K
def Ok_bI_BitLen (N:Nums) (P:Program):Prop:=∀ q0 w K,S_bI_BitLen N P q0 w K→CallsX P N.f_bI_BitLen #[.pointer q0] w K
def Ok_dyad_limbs (N:Nums) (P:Program):Prop:=∀ q0 w K,S_dyad_limbs N P q0 w K→CallsX P N.f_dyad_limbs #[.pointer q0] w K
def Ok_bI_give (N:Nums) (P:Program):Prop:=∀ q0 q1 q2 qy vg w K,S_bI_give N P q0 q1 q2 qy vg w K→CallsX P N.f_bI_give #[.pointer q0,.bool q1,.slice q2 qy vg] w K
def Ok_bn_mul (N:Nums) (P:Program):Prop:=∀ q0 qh qn q1 qo qu w K,S_bn_mul N P q0 qh qn q1 qo qu w K→CallsX P N.f_bn_mul #[.slice q0 qh qn,.slice q1 qo qu] w K
def Ok_bn_twin (N:Nums) (P:Program):Prop:=∀ q0 qh qn w K,S_bn_twin N P q0 qh qn w K→CallsX P N.f_bn_twin #[.slice q0 qh qn] w K
def Ok_bn_left (N:Nums) (P:Program):Prop:=∀ q0 qh qn q1 w K,S_bn_left N P q0 qh qn q1 w K→CallsX P N.f_bn_left #[.slice q0 qh qn,.int .u64 q1] w K
def Ok_bn_add (N:Nums) (P:Program):Prop:=∀ q0 qh qn q1 qo qu w K,S_bn_add N P q0 qh qn q1 qo qu w K→CallsX P N.f_bn_add #[.slice q0 qh qn,.slice q1 qo qu] w K
def Ok_bn_right (N:Nums) (P:Program):Prop:=∀ q0 qh qn q1 w K,S_bn_right N P q0 qh qn q1 w K→CallsX P N.f_bn_right #[.slice q0 qh qn,.int .u64 q1] w K
def Ok_bn_sub (N:Nums) (P:Program):Prop:=∀ q0 qh qn q1 qo qu w K,S_bn_sub N P q0 qh qn q1 qo qu w K→CallsX P N.f_bn_sub #[.slice q0 qh qn,.slice q1 qo qu] w K
def Ok_bn_sum (N:Nums) (P:Program):Prop:=∀ q0 q1 qo qu q2 q3 vn yf w K,S_bn_sum N P q0 q1 qo qu q2 q3 vn yf w K→CallsX P N.f_bn_sum #[.bool q0,.slice q1 qo qu,.bool q2,.slice q3 vn yf] w K
def Ok_bn_cmp (N:Nums) (P:Program):Prop:=∀ q0 qh qn q1 qo qu w K,S_bn_cmp N P q0 qh qn q1 qo qu w K→CallsX P N.f_bn_cmp #[.slice q0 qh qn,.slice q1 qo qu] w K
def Ok_bI_SetInt64 (N:Nums) (P:Program):Prop:=∀ q0 q1 w K,S_bI_SetInt64 N P q0 q1 w K→CallsX P N.f_bI_SetInt64 #[.pointer q0,.int .i64 q1] w K
def Ok_bits_Join (N:Nums) (P:Program):Prop:=∀ qa qc qe w K,S_bits_Join N P qa qc qe w K→CallsX P N.f_bits_Join #[.agg #[.bool qa,.int .u64 qc,.int .i64 qe]] w K
def Ok_bits_Next (N:Nums) (P:Program):Prop:=∀ q0 q1 w K,S_bits_Next N P q0 q1 w K→CallsX P N.f_bits_Next #[.float .f64 q0,.bool q1] w K
def Ok_r01_Kind (N:Nums) (P:Program):Prop:=∀ q0 w K,S_r01_Kind N P q0 w K→CallsX P N.f_r01_Kind #[.float .f64 q0] w K
def Ok_r02_low (N:Nums) (P:Program):Prop:=∀ q0 qh qn w K,S_r02_low N P q0 qh qn w K→CallsX P N.f_r02_low #[.slice q0 qh qn] w K
def Ok_math_Copysign (N:Nums) (P:Program):Prop:=∀ q0 q1 w K,S_math_Copysign N P q0 q1 w K→CallsX P N.f_math_Copysign #[.float .f64 q0,.float .f64 q1] w K
def Ok_round_step (N:Nums) (P:Program):Prop:=∀ q0 q1 w K,S_round_step N P q0 q1 w K→CallsX P N.f_round_step #[.float .f64 q0,.bool q1] w K
def Ok_math_frexp (N:Nums) (P:Program):Prop:=∀ q0 w K,S_math_frexp N P q0 w K→CallsX P N.f_math_frexp #[.float .f64 q0] w K
def Ok_math_ldexp (N:Nums) (P:Program):Prop:=∀ q0 q1 w K,S_math_ldexp N P q0 q1 w K→CallsX P N.f_math_ldexp #[.float .f64 q0,.int .i64 q1] w K
def Ok_bI_low (N:Nums) (P:Program):Prop:=∀ q0 q1 w K,S_bI_low N P q0 q1 w K→CallsX P N.f_bI_low #[.pointer q0,.int .i64 q1] w K
def Ok_bI_of (N:Nums) (P:Program):Prop:=∀ q0 q1 qo qu w K,S_bI_of N P q0 q1 qo qu w K→CallsX P N.f_bI_of #[.pointer q0,.slice q1 qo qu] w K
def Ok_bn_words (N:Nums) (P:Program):Prop:=∀ q0 w K,S_bn_words N P q0 w K→CallsX P N.f_bn_words #[.int .u64 q0] w K
def Ok_bn_bit (N:Nums) (P:Program):Prop:=∀ q0 qh qn q1 w K,S_bn_bit N P q0 qh qn q1 w K→CallsX P N.f_bn_bit #[.slice q0 qh qn,.int .i64 q1] w K
def Ok_bn_length (N:Nums) (P:Program):Prop:=∀ q0 qh qn w K,S_bn_length N P q0 qh qn w K→CallsX P N.f_bn_length #[.slice q0 qh qn] w K
def Ok_bI_And (N:Nums) (P:Program):Prop:=∀ q0 q1 q2 w K,S_bI_And N P q0 q1 q2 w K→CallsX P N.f_bI_And #[.pointer q0,.pointer q1,.pointer q2] w K
def Ok_bn_trim (N:Nums) (P:Program):Prop:=∀ q0 qh qn w K,S_bn_trim N P q0 qh qn w K→CallsX P N.f_bn_trim #[.slice q0 qh qn] w K
def Ok_bits_Place (N:Nums) (P:Program):Prop:=∀ q0 w K,S_bits_Place N P q0 w K→CallsX P N.f_bits_Place #[.float .f64 q0] w K
def Ok_bits_At (N:Nums) (P:Program):Prop:=∀ q0 w K,S_bits_At N P q0 w K→CallsX P N.f_bits_At #[.int .i64 q0] w K
def Ok_math_normalize (N:Nums) (P:Program):Prop:=∀ q0 w K,S_math_normalize N P q0 w K→CallsX P N.f_math_normalize #[.float .f64 q0] w K
def Ok_math_Inf (N:Nums) (P:Program):Prop:=∀ q0 w K,S_math_Inf N P q0 w K→CallsX P N.f_math_Inf #[.int .i64 q0] w K
def Ok_math_Float64bits (N:Nums) (P:Program):Prop:=∀ (x:Nat) (w:World) (K:KV),K (.int .u64 x) w→CallsX P N.f_math_Float64bits #[.float .f64 x] w K
def Ok_math_Float64frombits (N:Nums) (P:Program):Prop:=∀ (n:Int) (w:World) (K:KV),K (.float .f64 n.toNat) w→CallsX P N.f_math_Float64frombits #[.int .u64 n] w K
def Ok_math_bits_Len64 (N:Nums) (P:Program):Prop:=∀ (x:Int) (_:0≤x) (_:x≤18446744073709551615) (w:World) (K:KV),K (.int .i64 (Lib.bitLen x.toNat)) w→CallsX P N.f_math_bits_Len64 #[.int .u64 x] w K
structure AllOk (N:Nums) (P:Program):Prop where
 w14_RefineSteps:Ok_w14_RefineSteps N P
 w14_awake:Ok_w14_awake N P
 w14_great:Ok_w14_great N P
 k_LentMatrix:Ok_k_LentMatrix N P
 k_LentReals:Ok_k_LentReals N P
 refine_Left:Ok_refine_Left N P
 r14_Left:Ok_r14_Left N P
 k_SameReals:Ok_k_SameReals N P
 k_KeptMatrix:Ok_k_KeptMatrix N P
 k_KeptReals:Ok_k_KeptReals N P
 k_LentFactor:Ok_k_LentFactor N P
 refine_Step:Ok_refine_Step N P
 r14_Step:Ok_r14_Step N P
 k_KeptFactor:Ok_k_KeptFactor N P
 refine_Until:Ok_refine_Until N P
 solve_Solve:Ok_solve_Solve N P
 k_LikeReals:Ok_k_LikeReals N P
 w14_two:Ok_w14_two N P
 k_mark:Ok_k_mark N P
 refine_fit:Ok_refine_fit N P
 refine_finite:Ok_refine_finite N P
 sums_DotExact:Ok_sums_DotExact N P
 r14_fit:Ok_r14_fit N P
 r14_finite:Ok_r14_finite N P
 r02_Float:Ok_r02_Float N P
 r02_Times:Ok_r02_Times N P
 r02_Plus:Ok_r02_Plus N P
 r02_Minus:Ok_r02_Minus N P
 r02_Rounded:Ok_r02_Rounded N P
 k_SameFloat:Ok_k_SameFloat N P
 k_SameMatrix:Ok_k_SameMatrix N P
 refine_fits:Ok_refine_fits N P
 vector_Add:Ok_vector_Add N P
 r14_fits:Ok_r14_fits N P
 r13_Solve:Ok_r13_Solve N P
 k_SameFactor:Ok_k_SameFactor N P
 vector_Norm:Ok_vector_Norm N P
 solve_Forward:Ok_solve_Forward N P
 solve_Back:Ok_solve_Back N P
 k_Like:Ok_k_Like N P
 matrix_Right:Ok_matrix_Right N P
 sums_finite:Ok_sums_finite N P
 sums_total:Ok_sums_total N P
 sums_DotExact_1:Ok_sums_DotExact_1 N P
 dyad_Of:Ok_dyad_Of N P
 dyad_Mul:Ok_dyad_Mul N P
 dyad_Round:Ok_dyad_Round N P
 r10_Right:Ok_r10_Right N P
 r01_Split:Ok_r01_Split N P
 r02_NatOf:Ok_r02_NatOf N P
 r02_NatMul:Ok_r02_NatMul N P
 r02_Num_Zero:Ok_r02_Num_Zero N P
 r02_NatUp:Ok_r02_NatUp N P
 r02_NatAdd:Ok_r02_NatAdd N P
 r02_NatCmp:Ok_r02_NatCmp N P
 r02_NatSub:Ok_r02_NatSub N P
 r02_Num_top:Ok_r02_Num_top N P
 r02_NatDown:Ok_r02_NatDown N P
 r02_up:Ok_r02_up N P
 r02_NatBits:Ok_r02_NatBits N P
 r02_huge:Ok_r02_huge N P
 r02_float:Ok_r02_float N P
 lower_Right:Ok_lower_Right N P
 vector_each:Ok_vector_each N P
 vector_Add_1:Ok_vector_Add_1 N P
 r12_Right:Ok_r12_Right N P
 r13_Forward:Ok_r13_Forward N P
 r13_Back:Ok_r13_Back N P
 round_Add:Ok_round_Add N P
 math_Abs:Ok_math_Abs N P
 solve_fits:Ok_solve_fits N P
 slices_Clone___float64_float64:Ok_slices_Clone___float64_float64 N P
 solve_below:Ok_solve_below N P
 slices_Contains___float64_float64:Ok_slices_Contains___float64_float64 N P
 matrix_fits:Ok_matrix_fits N P
 math_IsNaN:Ok_math_IsNaN N P
 math_IsInf:Ok_math_IsInf N P
 dyad_Int:Ok_dyad_Int N P
 dyad_Add:Ok_dyad_Add N P
 bits_Split:Ok_bits_Split N P
 dyad_both:Ok_dyad_both N P
 dyad_whole:Ok_dyad_whole N P
 dyad_made:Ok_dyad_made N P
 bI_Mul:Ok_bI_Mul N P
 dyad_Right:Ok_dyad_Right N P
 bI_Abs:Ok_bI_Abs N P
 dyad_top:Ok_dyad_top N P
 bI_Lsh:Ok_bI_Lsh N P
 bI_Uint64:Ok_bI_Uint64 N P
 bI_Rsh:Ok_bI_Rsh N P
 bI_Sub:Ok_bI_Sub N P
 bI_Cmp:Ok_bI_Cmp N P
 bn_NewInt:Ok_bn_NewInt N P
 bI_Sign:Ok_bI_Sign N P
 dyad_away:Ok_dyad_away N P
 dyad_float:Ok_dyad_float N P
 r10_may:Ok_r10_may N P
 r01_Finite:Ok_r01_Finite N P
 r01_fields:Ok_r01_fields N P
 r02_NatTrim:Ok_r02_NatTrim N P
 r02_limbs:Ok_r02_limbs N P
 r02_product:Ok_r02_product N P
 r02_halves:Ok_r02_halves N P
 r02_digit:Ok_r02_digit N P
 r02_short:Ok_r02_short N P
 r01_Join:Ok_r01_Join N P
 vector_fit:Ok_vector_fit N P
 r13_Right:Ok_r13_Right N P
 r13_at:Ok_r13_at N P
 r13_zero:Ok_r13_zero N P
 round_way:Ok_round_way N P
 round_finite:Ok_round_finite N P
 math_Signbit:Ok_math_Signbit N P
 round_none:Ok_round_none N P
 round_settle:Ok_round_settle N P
 round_sign:Ok_round_sign N P
 slices_Index___float64_float64:Ok_slices_Index___float64_float64 N P
 bI_Add:Ok_bI_Add N P
 bits_Kind:Ok_bits_Kind N P
 math_Frexp:Ok_math_Frexp N P
 math_Ldexp:Ok_math_Ldexp N P
 math_bits_TrailingZeros64:Ok_math_bits_TrailingZeros64 N P
 bI_Or:Ok_bI_Or N P
 bI_SetUint64:Ok_bI_SetUint64 N P
 bI_Neg:Ok_bI_Neg N P
 bI_TrailingZeroBits:Ok_bI_TrailingZeroBits N P
 bI_BitLen:Ok_bI_BitLen N P
 dyad_limbs:Ok_dyad_limbs N P
 bI_give:Ok_bI_give N P
 bn_mul:Ok_bn_mul N P
 bn_twin:Ok_bn_twin N P
 bn_left:Ok_bn_left N P
 bn_add:Ok_bn_add N P
 bn_right:Ok_bn_right N P
 bn_sub:Ok_bn_sub N P
 bn_sum:Ok_bn_sum N P
 bn_cmp:Ok_bn_cmp N P
 bI_SetInt64:Ok_bI_SetInt64 N P
 bits_Join:Ok_bits_Join N P
 bits_Next:Ok_bits_Next N P
 r01_Kind:Ok_r01_Kind N P
 r02_low:Ok_r02_low N P
 math_Copysign:Ok_math_Copysign N P
 round_step:Ok_round_step N P
 math_frexp:Ok_math_frexp N P
 math_ldexp:Ok_math_ldexp N P
 bI_low:Ok_bI_low N P
 bI_of:Ok_bI_of N P
 bn_words:Ok_bn_words N P
 bn_bit:Ok_bn_bit N P
 bn_length:Ok_bn_length N P
 bI_And:Ok_bI_And N P
 bn_trim:Ok_bn_trim N P
 bits_Place:Ok_bits_Place N P
 bits_At:Ok_bits_At N P
 math_normalize:Ok_math_normalize N P
 math_Inf:Ok_math_Inf N P
 math_Float64bits:Ok_math_Float64bits N P
 math_Float64frombits:Ok_math_Float64frombits N P
 math_bits_Len64:Ok_math_bits_Len64 N P
end Go.Eng
