/-
  All that is asked of the propositions of the functions. No condition.
-/
import Derived.Test.YtgbilchfljlbeaaDoorSh1
import Derived.Test.YtgbilchfljlbeaaDoorSh2
import Derived.Lib.BitFns
set_option linter.all false
set_option maxRecDepth 100000
namespace Go.Eng
open Go
open Go.IntKind (i64 u64 u32 u8)
def Ok_w12_LowerNear (N:Nums) (P:Program):Prop:=∀ qa qb qe qf qg w K,S_w12_LowerNear N P qa qb qe qf qg w K→CallsX P N.f_w12_LowerNear #[.agg #[.int .i64 qa,.int .i64 qb,.slice qe qf qg]] w K
def Ok_dyad_Int (N:Nums) (P:Program):Prop:=∀ q0 w K,S_dyad_Int N P q0 w K→CallsX P N.f_dyad_Int #[.int .i64 q0] w K
def Ok_math_Abs (N:Nums) (P:Program):Prop:=∀ q0 w K,S_math_Abs N P q0 w K→CallsX P N.f_math_Abs #[.float .f64 q0] w K
def Ok_math_Signbit (N:Nums) (P:Program):Prop:=∀ q0 w K,S_math_Signbit N P q0 w K→CallsX P N.f_math_Signbit #[.float .f64 q0] w K
def Ok_math_IsInf (N:Nums) (P:Program):Prop:=∀ q0 q1 w K,S_math_IsInf N P q0 q1 w K→CallsX P N.f_math_IsInf #[.float .f64 q0,.int .i64 q1] w K
def Ok_dyad_Of (N:Nums) (P:Program):Prop:=∀ q0 w K,S_dyad_Of N P q0 w K→CallsX P N.f_dyad_Of #[.float .f64 q0] w K
def Ok_dyad_Add (N:Nums) (P:Program):Prop:=∀ qa qb qc qd qe qk ql qi qj qo w K,S_dyad_Add N P qa qb qc qd qe qk ql qi qj qo w K→CallsX P N.f_dyad_Add #[.agg #[.bool qa,.slice qb qc qd,.int .i64 qe],.agg #[.bool qk,.slice ql qi qj,.int .i64 qo]] w K
def Ok_dyad_Scale (N:Nums) (P:Program):Prop:=∀ qa qb qc qd qe q1 w K,S_dyad_Scale N P qa qb qc qd qe q1 w K→CallsX P N.f_dyad_Scale #[.agg #[.bool qa,.slice qb qc qd,.int .i64 qe],.int .i64 q1] w K
def Ok_dyad_Cmp (N:Nums) (P:Program):Prop:=∀ qa qb qc qd qe qk ql qi qj qo w K,S_dyad_Cmp N P qa qb qc qd qe qk ql qi qj qo w K→CallsX P N.f_dyad_Cmp #[.agg #[.bool qa,.slice qb qc qd,.int .i64 qe],.agg #[.bool qk,.slice ql qi qj,.int .i64 qo]] w K
def Ok_w12_awake (N:Nums) (P:Program):Prop:=∀ w K,S_w12_awake N P  w K→CallsX P N.f_w12_awake #[] w K
def Ok_w12_small (N:Nums) (P:Program):Prop:=∀ qa qb qe qf qg w K,S_w12_small N P qa qb qe qf qg w K→CallsX P N.f_w12_small #[.agg #[.int .i64 qa,.int .i64 qb,.slice qe qf qg]] w K
def Ok_lower_Factor (N:Nums) (P:Program):Prop:=∀ qa qb qe qf qg w K,S_lower_Factor N P qa qb qe qf qg w K→CallsX P N.f_lower_Factor #[.agg #[.int .i64 qa,.int .i64 qb,.slice qe qf qg]] w K
def Ok_lower_Right (N:Nums) (P:Program):Prop:=∀ qa qb qc qd qe qf qg w K,S_lower_Right N P qa qb qc qd qe qf qg w K→CallsX P N.f_lower_Right #[.agg #[.int .i64 qa,.slice qb qc qd,.slice qe qf qg]] w K
def Ok_w12_near (N:Nums) (P:Program):Prop:=∀ qa qb qc qd qe qf qg q1 q2 q3 w K,S_w12_near N P qa qb qc qd qe qf qg q1 q2 q3 w K→CallsX P N.f_w12_near #[.agg #[.int .i64 qa,.slice qb qc qd,.slice qe qf qg],.int .i64 q1,.int .i64 q2,.float .f64 q3] w K
def Ok_k_SameReals (N:Nums) (P:Program):Prop:=∀ q0 qm qs q1 qr qw w K,S_k_SameReals N P q0 qm qs q1 qr qw w K→CallsX P N.f_k_SameReals #[.slice q0 qm qs,.slice q1 qr qw] w K
def Ok_vector_Same (N:Nums) (P:Program):Prop:=∀ q0 qm qs q1 qr qw w K,S_vector_Same N P q0 qm qs q1 qr qw w K→CallsX P N.f_vector_Same #[.slice q0 qm qs,.slice q1 qr qw] w K
def Ok_math_Copysign (N:Nums) (P:Program):Prop:=∀ q0 q1 w K,S_math_Copysign N P q0 q1 w K→CallsX P N.f_math_Copysign #[.float .f64 q0,.float .f64 q1] w K
def Ok_dyad_made (N:Nums) (P:Program):Prop:=∀ q0 q1 w K,S_dyad_made N P q0 q1 w K→CallsX P N.f_dyad_made #[.pointer q0,.int .i64 q1] w K
def Ok_bn_NewInt (N:Nums) (P:Program):Prop:=∀ q0 w K,S_bn_NewInt N P q0 w K→CallsX P N.f_bn_NewInt #[.int .i64 q0] w K
def Ok_bits_Split (N:Nums) (P:Program):Prop:=∀ q0 w K,S_bits_Split N P q0 w K→CallsX P N.f_bits_Split #[.float .f64 q0] w K
def Ok_dyad_both (N:Nums) (P:Program):Prop:=∀ qa qb qc qd qe qk ql qi qj qo w K,S_dyad_both N P qa qb qc qd qe qk ql qi qj qo w K→CallsX P N.f_dyad_both #[.agg #[.bool qa,.slice qb qc qd,.int .i64 qe],.agg #[.bool qk,.slice ql qi qj,.int .i64 qo]] w K
def Ok_dyad_whole (N:Nums) (P:Program):Prop:=∀ qa qb qc qd qe w K,S_dyad_whole N P qa qb qc qd qe w K→CallsX P N.f_dyad_whole #[.agg #[.bool qa,.slice qb qc qd,.int .i64 qe]] w K
def Ok_bI_Sign (N:Nums) (P:Program):Prop:=∀ q0 w K,S_bI_Sign N P q0 w K→CallsX P N.f_bI_Sign #[.pointer q0] w K
def Ok_bI_Add (N:Nums) (P:Program):Prop:=∀ q0 q1 q2 w K,S_bI_Add N P q0 q1 q2 w K→CallsX P N.f_bI_Add #[.pointer q0,.pointer q1,.pointer q2] w K
def Ok_bI_Lsh (N:Nums) (P:Program):Prop:=∀ q0 q1 q2 w K,S_bI_Lsh N P q0 q1 q2 w K→CallsX P N.f_bI_Lsh #[.pointer q0,.pointer q1,.int .u64 q2] w K
def Ok_dyad_Right (N:Nums) (P:Program):Prop:=∀ qa qb qc qd qe w K,S_dyad_Right N P qa qb qc qd qe w K→CallsX P N.f_dyad_Right #[.agg #[.bool qa,.slice qb qc qd,.int .i64 qe]] w K
def Ok_dyad_Sign (N:Nums) (P:Program):Prop:=∀ qa qb qc qd qe w K,S_dyad_Sign N P qa qb qc qd qe w K→CallsX P N.f_dyad_Sign #[.agg #[.bool qa,.slice qb qc qd,.int .i64 qe]] w K
def Ok_dyad_top (N:Nums) (P:Program):Prop:=∀ qa qb qc qd qe w K,S_dyad_top N P qa qb qc qd qe w K→CallsX P N.f_dyad_top #[.agg #[.bool qa,.slice qb qc qd,.int .i64 qe]] w K
def Ok_bI_Cmp (N:Nums) (P:Program):Prop:=∀ q0 q1 w K,S_bI_Cmp N P q0 q1 w K→CallsX P N.f_bI_Cmp #[.pointer q0,.pointer q1] w K
def Ok_lower_Times (N:Nums) (P:Program):Prop:=∀ qa qb qc qd qe qf qg w K,S_lower_Times N P qa qb qc qd qe qf qg w K→CallsX P N.f_lower_Times #[.agg #[.int .i64 qa,.slice qb qc qd,.slice qe qf qg]] w K
def Ok_k_SameFactor (N:Nums) (P:Program):Prop:=∀ qa qb qc qd qe qf qg qk ql qi qj qo qt qu w K,S_k_SameFactor N P qa qb qc qd qe qf qg qk ql qi qj qo qt qu w K→CallsX P N.f_k_SameFactor #[.agg #[.int .i64 qa,.slice qb qc qd,.slice qe qf qg],.agg #[.int .i64 qk,.slice ql qi qj,.slice qo qt qu]] w K
def Ok_k_SameMatrix (N:Nums) (P:Program):Prop:=∀ qa qb qe qf qg qk ql qo qt qu w K,S_k_SameMatrix N P qa qb qe qf qg qk ql qo qt qu w K→CallsX P N.f_k_SameMatrix #[.agg #[.int .i64 qa,.int .i64 qb,.slice qe qf qg],.agg #[.int .i64 qk,.int .i64 ql,.slice qo qt qu]] w K
def Ok_w12_mirrored (N:Nums) (P:Program):Prop:=∀ qa qb qe qf qg w K,S_w12_mirrored N P qa qb qe qf qg w K→CallsX P N.f_w12_mirrored #[.agg #[.int .i64 qa,.int .i64 qb,.slice qe qf qg]] w K
def Ok_matrix_Symmetric (N:Nums) (P:Program):Prop:=∀ qa qb qe qf qg w K,S_matrix_Symmetric N P qa qb qe qf qg w K→CallsX P N.f_matrix_Symmetric #[.agg #[.int .i64 qa,.int .i64 qb,.slice qe qf qg]] w K
def Ok_lower_finite (N:Nums) (P:Program):Prop:=∀ q0 w K,S_lower_finite N P q0 w K→CallsX P N.f_lower_finite #[.float .f64 q0] w K
def Ok_lower_row (N:Nums) (P:Program):Prop:=∀ q0 qm qs q1 w K,S_lower_row N P q0 qm qs q1 w K→CallsX P N.f_lower_row #[.slice q0 qm qs,.int .i64 q1] w K
def Ok_w12_product (N:Nums) (P:Program):Prop:=∀ q0 q1 q2 w K,S_w12_product N P q0 q1 q2 w K→CallsX P N.f_w12_product #[.float .f64 q0,.float .f64 q1,.float .f64 q2] w K
def Ok_w12_at (N:Nums) (P:Program):Prop:=∀ qa qb qc qd qe qf qg q1 q2 w K,S_w12_at N P qa qb qc qd qe qf qg q1 q2 w K→CallsX P N.f_w12_at #[.agg #[.int .i64 qa,.slice qb qc qd,.slice qe qf qg],.int .i64 q1,.int .i64 q2] w K
def Ok_p_w12_sums_adds (N:Nums) (P:Program):Prop:=∀ q0 qk ql qi qj qo q2 q3 w K,S_p_w12_sums_adds N P q0 qk ql qi qj qo q2 q3 w K→CallsX P N.f_p_w12_sums_adds #[.pointer q0,.agg #[.bool qk,.slice ql qi qj,.int .i64 qo],.int .i64 q2,.bool q3] w K
def Ok_dyad_Mul (N:Nums) (P:Program):Prop:=∀ qa qb qc qd qe qk ql qi qj qo w K,S_dyad_Mul N P qa qb qc qd qe qk ql qi qj qo w K→CallsX P N.f_dyad_Mul #[.agg #[.bool qa,.slice qb qc qd,.int .i64 qe],.agg #[.bool qk,.slice ql qi qj,.int .i64 qo]] w K
def Ok_k_SameFloat (N:Nums) (P:Program):Prop:=∀ q0 q1 w K,S_k_SameFloat N P q0 q1 w K→CallsX P N.f_k_SameFloat #[.float .f64 q0,.float .f64 q1] w K
def Ok_math_IsNaN (N:Nums) (P:Program):Prop:=∀ q0 w K,S_math_IsNaN N P q0 w K→CallsX P N.f_math_IsNaN #[.float .f64 q0] w K
def Ok_bI_TrailingZeroBits (N:Nums) (P:Program):Prop:=∀ q0 w K,S_bI_TrailingZeroBits N P q0 w K→CallsX P N.f_bI_TrailingZeroBits #[.pointer q0] w K
def Ok_bI_BitLen (N:Nums) (P:Program):Prop:=∀ q0 w K,S_bI_BitLen N P q0 w K→CallsX P N.f_bI_BitLen #[.pointer q0] w K
def Ok_dyad_limbs (N:Nums) (P:Program):Prop:=∀ q0 w K,S_dyad_limbs N P q0 w K→CallsX P N.f_dyad_limbs #[.pointer q0] w K
def Ok_bI_Rsh (N:Nums) (P:Program):Prop:=∀ q0 q1 q2 w K,S_bI_Rsh N P q0 q1 q2 w K→CallsX P N.f_bI_Rsh #[.pointer q0,.pointer q1,.int .u64 q2] w K
def Ok_bI_Abs (N:Nums) (P:Program):Prop:=∀ q0 q1 w K,S_bI_Abs N P q0 q1 w K→CallsX P N.f_bI_Abs #[.pointer q0,.pointer q1] w K
def Ok_bI_SetInt64 (N:Nums) (P:Program):Prop:=∀ q0 q1 w K,S_bI_SetInt64 N P q0 q1 w K→CallsX P N.f_bI_SetInt64 #[.pointer q0,.int .i64 q1] w K
def Ok_bits_Kind (N:Nums) (P:Program):Prop:=∀ q0 w K,S_bits_Kind N P q0 w K→CallsX P N.f_bits_Kind #[.float .f64 q0] w K
def Ok_math_Frexp (N:Nums) (P:Program):Prop:=∀ q0 w K,S_math_Frexp N P q0 w K→CallsX P N.f_math_Frexp #[.float .f64 q0] w K
def Ok_math_Ldexp (N:Nums) (P:Program):Prop:=∀ q0 q1 w K,S_math_Ldexp N P q0 q1 w K→CallsX P N.f_math_Ldexp #[.float .f64 q0,.int .i64 q1] w K
def Ok_math_bits_TrailingZeros64 (N:Nums) (P:Program):Prop:=∀ q0 w K,S_math_bits_TrailingZeros64 N P q0 w K→CallsX P N.f_math_bits_TrailingZeros64 #[.int .u64 q0] w K
def Ok_bI_Or (N:Nums) (P:Program):Prop:=∀ q0 q1 q2 w K,S_bI_Or N P q0 q1 q2 w K→CallsX P N.f_bI_Or #[.pointer q0,.pointer q1,.pointer q2] w K
def Ok_bI_SetUint64 (N:Nums) (P:Program):Prop:=∀ q0 q1 w K,S_bI_SetUint64 N P q0 q1 w K→CallsX P N.f_bI_SetUint64 #[.pointer q0,.int .u64 q1] w K
def Ok_bI_Neg (N:Nums) (P:Program):Prop:=∀ q0 q1 w K,S_bI_Neg N P q0 q1 w K→CallsX P N.f_bI_Neg #[.pointer q0,.pointer q1] w K
def Ok_bI_give (N:Nums) (P:Program):Prop:=∀ q0 q1 q2 vo gi w K,S_bI_give N P q0 q1 q2 vo gi w K→CallsX P N.f_bI_give #[.pointer q0,.bool q1,.slice q2 vo gi] w K
def Ok_bn_sum (N:Nums) (P:Program):Prop:=∀ q0 q1 qr qw q2 q3 vm vx w K,S_bn_sum N P q0 q1 qr qw q2 q3 vm vx w K→CallsX P N.f_bn_sum #[.bool q0,.slice q1 qr qw,.bool q2,.slice q3 vm vx] w K
def Ok_bn_left (N:Nums) (P:Program):Prop:=∀ q0 qm qs q1 w K,S_bn_left N P q0 qm qs q1 w K→CallsX P N.f_bn_left #[.slice q0 qm qs,.int .u64 q1] w K
def Ok_bn_cmp (N:Nums) (P:Program):Prop:=∀ q0 qm qs q1 qr qw w K,S_bn_cmp N P q0 qm qs q1 qr qw w K→CallsX P N.f_bn_cmp #[.slice q0 qm qs,.slice q1 qr qw] w K
def Ok_matrix_Make (N:Nums) (P:Program):Prop:=∀ q0 q1 w K,S_matrix_Make N P q0 q1 w K→CallsX P N.f_matrix_Make #[.int .i64 q0,.int .i64 q1] w K
def Ok_matrix_Transpose (N:Nums) (P:Program):Prop:=∀ qa qb qe qf qg w K,S_matrix_Transpose N P qa qb qe qf qg w K→CallsX P N.f_matrix_Transpose #[.agg #[.int .i64 qa,.int .i64 qb,.slice qe qf qg]] w K
def Ok_matrix_Same (N:Nums) (P:Program):Prop:=∀ qa qb qe qf qg qk ql qo qt qu w K,S_matrix_Same N P qa qb qe qf qg qk ql qo qt qu w K→CallsX P N.f_matrix_Same #[.agg #[.int .i64 qa,.int .i64 qb,.slice qe qf qg],.agg #[.int .i64 qk,.int .i64 ql,.slice qo qt qu]] w K
def Ok_dyad_Neg (N:Nums) (P:Program):Prop:=∀ qa qb qc qd qe w K,S_dyad_Neg N P qa qb qc qd qe w K→CallsX P N.f_dyad_Neg #[.agg #[.bool qa,.slice qb qc qd,.int .i64 qe]] w K
def Ok_bI_Mul (N:Nums) (P:Program):Prop:=∀ q0 q1 q2 w K,S_bI_Mul N P q0 q1 q2 w K→CallsX P N.f_bI_Mul #[.pointer q0,.pointer q1,.pointer q2] w K
def Ok_bn_bit (N:Nums) (P:Program):Prop:=∀ q0 qm qs q1 w K,S_bn_bit N P q0 qm qs q1 w K→CallsX P N.f_bn_bit #[.slice q0 qm qs,.int .i64 q1] w K
def Ok_bn_length (N:Nums) (P:Program):Prop:=∀ q0 qm qs w K,S_bn_length N P q0 qm qs w K→CallsX P N.f_bn_length #[.slice q0 qm qs] w K
def Ok_bI_And (N:Nums) (P:Program):Prop:=∀ q0 q1 q2 w K,S_bI_And N P q0 q1 q2 w K→CallsX P N.f_bI_And #[.pointer q0,.pointer q1,.pointer q2] w K
def Ok_bI_Uint64 (N:Nums) (P:Program):Prop:=∀ q0 w K,S_bI_Uint64 N P q0 w K→CallsX P N.f_bI_Uint64 #[.pointer q0] w K
def Ok_bn_add (N:Nums) (P:Program):Prop:=∀ q0 qm qs q1 qr qw w K,S_bn_add N P q0 qm qs q1 qr qw w K→CallsX P N.f_bn_add #[.slice q0 qm qs,.slice q1 qr qw] w K
def Ok_bn_right (N:Nums) (P:Program):Prop:=∀ q0 qm qs q1 w K,S_bn_right N P q0 qm qs q1 w K→CallsX P N.f_bn_right #[.slice q0 qm qs,.int .u64 q1] w K
def Ok_bn_sub (N:Nums) (P:Program):Prop:=∀ q0 qm qs q1 qr qw w K,S_bn_sub N P q0 qm qs q1 qr qw w K→CallsX P N.f_bn_sub #[.slice q0 qm qs,.slice q1 qr qw] w K
def Ok_bn_twin (N:Nums) (P:Program):Prop:=∀ q0 qm qs w K,S_bn_twin N P q0 qm qs w K→CallsX P N.f_bn_twin #[.slice q0 qm qs] w K
def Ok_bn_words (N:Nums) (P:Program):Prop:=∀ q0 w K,S_bn_words N P q0 w K→CallsX P N.f_bn_words #[.int .u64 q0] w K
def Ok_math_frexp (N:Nums) (P:Program):Prop:=∀ q0 w K,S_math_frexp N P q0 w K→CallsX P N.f_math_frexp #[.float .f64 q0] w K
def Ok_math_ldexp (N:Nums) (P:Program):Prop:=∀ q0 q1 w K,S_math_ldexp N P q0 q1 w K→CallsX P N.f_math_ldexp #[.float .f64 q0,.int .i64 q1] w K
def Ok_bI_low (N:Nums) (P:Program):Prop:=∀ q0 q1 w K,S_bI_low N P q0 q1 w K→CallsX P N.f_bI_low #[.pointer q0,.int .i64 q1] w K
def Ok_bI_of (N:Nums) (P:Program):Prop:=∀ q0 q1 qr qw w K,S_bI_of N P q0 q1 qr qw w K→CallsX P N.f_bI_of #[.pointer q0,.slice q1 qr qw] w K
def Ok_bn_trim (N:Nums) (P:Program):Prop:=∀ q0 qm qs w K,S_bn_trim N P q0 qm qs w K→CallsX P N.f_bn_trim #[.slice q0 qm qs] w K
def Ok_matrix_fits (N:Nums) (P:Program):Prop:=∀ q0 w K,S_matrix_fits N P q0 w K→CallsX P N.f_matrix_fits #[.int .i64 q0] w K
def Ok_matrix_laid (N:Nums) (P:Program):Prop:=∀ q0 q1 q2 w K,S_matrix_laid N P q0 q1 q2 w K→CallsX P N.f_matrix_laid #[.int .i64 q0,.int .i64 q1,q2] w K
def Ok_matrix_Make_1 (N:Nums) (P:Program):Prop:=∀ q0 q1 w K,S_matrix_Make_1 N P q0 q1 w K→CallsX P N.f_matrix_Make_1 #[.int .i64 q0,.int .i64 q1] w K
def Ok_matrix_Right (N:Nums) (P:Program):Prop:=∀ qa qb qe qf qg w K,S_matrix_Right N P qa qb qe qf qg w K→CallsX P N.f_matrix_Right #[.agg #[.int .i64 qa,.int .i64 qb,.slice qe qf qg]] w K
def Ok_matrix_Transpose_1 (N:Nums) (P:Program):Prop:=∀ q0 q1 q2 w K,S_matrix_Transpose_1 N P q0 q1 q2 w K→CallsX P N.f_matrix_Transpose_1 #[.int .i64 q0,.int .i64 q1,.pointer q2] w K
def Ok_bn_mul (N:Nums) (P:Program):Prop:=∀ q0 qm qs q1 qr qw w K,S_bn_mul N P q0 qm qs q1 qr qw w K→CallsX P N.f_bn_mul #[.slice q0 qm qs,.slice q1 qr qw] w K
def Ok_math_normalize (N:Nums) (P:Program):Prop:=∀ q0 w K,S_math_normalize N P q0 w K→CallsX P N.f_math_normalize #[.float .f64 q0] w K
def Ok_math_Inf (N:Nums) (P:Program):Prop:=∀ q0 w K,S_math_Inf N P q0 w K→CallsX P N.f_math_Inf #[.int .i64 q0] w K
def Ok_math_Float64frombits (N:Nums) (P:Program):Prop:=∀ (n:Int) (w:World) (K:KV),K (.float .f64 n.toNat) w→CallsX P N.f_math_Float64frombits #[.int .u64 n] w K
def Ok_math_Float64bits (N:Nums) (P:Program):Prop:=∀ (x:Nat) (w:World) (K:KV),K (.int .u64 x) w→CallsX P N.f_math_Float64bits #[.float .f64 x] w K
def Ok_math_bits_Len64 (N:Nums) (P:Program):Prop:=∀ (x:Int) (_:0≤x) (_:x≤18446744073709551615) (w:World) (K:KV),K (.int .i64 (Lib.bitLen x.toNat)) w→CallsX P N.f_math_bits_Len64 #[.int .u64 x] w K
structure AllOk (N:Nums) (P:Program):Prop where
 w12_LowerNear:Ok_w12_LowerNear N P
 dyad_Int:Ok_dyad_Int N P
 math_Abs:Ok_math_Abs N P
 math_Signbit:Ok_math_Signbit N P
 math_IsInf:Ok_math_IsInf N P
 dyad_Of:Ok_dyad_Of N P
 dyad_Add:Ok_dyad_Add N P
 dyad_Scale:Ok_dyad_Scale N P
 dyad_Cmp:Ok_dyad_Cmp N P
 w12_awake:Ok_w12_awake N P
 w12_small:Ok_w12_small N P
 lower_Factor:Ok_lower_Factor N P
 lower_Right:Ok_lower_Right N P
 w12_near:Ok_w12_near N P
 k_SameReals:Ok_k_SameReals N P
 vector_Same:Ok_vector_Same N P
 math_Copysign:Ok_math_Copysign N P
 dyad_made:Ok_dyad_made N P
 bn_NewInt:Ok_bn_NewInt N P
 bits_Split:Ok_bits_Split N P
 dyad_both:Ok_dyad_both N P
 dyad_whole:Ok_dyad_whole N P
 bI_Sign:Ok_bI_Sign N P
 bI_Add:Ok_bI_Add N P
 bI_Lsh:Ok_bI_Lsh N P
 dyad_Right:Ok_dyad_Right N P
 dyad_Sign:Ok_dyad_Sign N P
 dyad_top:Ok_dyad_top N P
 bI_Cmp:Ok_bI_Cmp N P
 lower_Times:Ok_lower_Times N P
 k_SameFactor:Ok_k_SameFactor N P
 k_SameMatrix:Ok_k_SameMatrix N P
 w12_mirrored:Ok_w12_mirrored N P
 matrix_Symmetric:Ok_matrix_Symmetric N P
 lower_finite:Ok_lower_finite N P
 lower_row:Ok_lower_row N P
 w12_product:Ok_w12_product N P
 w12_at:Ok_w12_at N P
 p_w12_sums_adds:Ok_p_w12_sums_adds N P
 dyad_Mul:Ok_dyad_Mul N P
 k_SameFloat:Ok_k_SameFloat N P
 math_IsNaN:Ok_math_IsNaN N P
 bI_TrailingZeroBits:Ok_bI_TrailingZeroBits N P
 bI_BitLen:Ok_bI_BitLen N P
 dyad_limbs:Ok_dyad_limbs N P
 bI_Rsh:Ok_bI_Rsh N P
 bI_Abs:Ok_bI_Abs N P
 bI_SetInt64:Ok_bI_SetInt64 N P
 bits_Kind:Ok_bits_Kind N P
 math_Frexp:Ok_math_Frexp N P
 math_Ldexp:Ok_math_Ldexp N P
 math_bits_TrailingZeros64:Ok_math_bits_TrailingZeros64 N P
 bI_Or:Ok_bI_Or N P
 bI_SetUint64:Ok_bI_SetUint64 N P
 bI_Neg:Ok_bI_Neg N P
 bI_give:Ok_bI_give N P
 bn_sum:Ok_bn_sum N P
 bn_left:Ok_bn_left N P
 bn_cmp:Ok_bn_cmp N P
 matrix_Make:Ok_matrix_Make N P
 matrix_Transpose:Ok_matrix_Transpose N P
 matrix_Same:Ok_matrix_Same N P
 dyad_Neg:Ok_dyad_Neg N P
 bI_Mul:Ok_bI_Mul N P
 bn_bit:Ok_bn_bit N P
 bn_length:Ok_bn_length N P
 bI_And:Ok_bI_And N P
 bI_Uint64:Ok_bI_Uint64 N P
 bn_add:Ok_bn_add N P
 bn_right:Ok_bn_right N P
 bn_sub:Ok_bn_sub N P
 bn_twin:Ok_bn_twin N P
 bn_words:Ok_bn_words N P
 math_frexp:Ok_math_frexp N P
 math_ldexp:Ok_math_ldexp N P
 bI_low:Ok_bI_low N P
 bI_of:Ok_bI_of N P
 bn_trim:Ok_bn_trim N P
 matrix_fits:Ok_matrix_fits N P
 matrix_laid:Ok_matrix_laid N P
 matrix_Make_1:Ok_matrix_Make_1 N P
 matrix_Right:Ok_matrix_Right N P
 matrix_Transpose_1:Ok_matrix_Transpose_1 N P
 bn_mul:Ok_bn_mul N P
 math_normalize:Ok_math_normalize N P
 math_Inf:Ok_math_Inf N P
 math_Float64frombits:Ok_math_Float64frombits N P
 math_Float64bits:Ok_math_Float64bits N P
 math_bits_Len64:Ok_math_bits_Len64 N P
end Go.Eng
