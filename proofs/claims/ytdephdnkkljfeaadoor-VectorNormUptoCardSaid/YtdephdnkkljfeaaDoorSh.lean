/-
  All that is asked of the propositions of the functions. No condition.
-/
import Derived.Test.YtdephdnkkljfeaaDoorSh1
import Derived.Lib.BitFns
set_option linter.all false
set_option maxRecDepth 100000
namespace Go.Eng
open Go
def Ok_w09_VectorNorm (N : Nums) (P : Program) : Prop := ∀ (q0 : Option Addr) (q0l q0c : Nat) (w : World) (K : Value → World → Prop), S_w09_VectorNorm N P q0 q0l q0c w K → CallsX P N.f_w09_VectorNorm #[.slice q0 q0l q0c] w K
def Ok_math_IsInf (N : Nums) (P : Program) : Prop := ∀ (q0 : Nat) (q1 : Int) (w : World) (K : Value → World → Prop), S_math_IsInf N P q0 q1 w K → CallsX P N.f_math_IsInf #[.float .f64 q0, .int .i64 q1] w K
def Ok_w09_awake (N : Nums) (P : Program) : Prop := ∀  (w : World) (K : Value → World → Prop), S_w09_awake N P  w K → CallsX P N.f_w09_awake #[] w K
def Ok_vector_Norm (N : Nums) (P : Program) : Prop := ∀ (q0 : Option Addr) (q0l q0c : Nat) (w : World) (K : Value → World → Prop), S_vector_Norm N P q0 q0l q0c w K → CallsX P N.f_vector_Norm #[.slice q0 q0l q0c] w K
def Ok_vector_Most (N : Nums) (P : Program) : Prop := ∀ (q0 : Option Addr) (q0l q0c : Nat) (w : World) (K : Value → World → Prop), S_vector_Most N P q0 q0l q0c w K → CallsX P N.f_vector_Most #[.slice q0 q0l q0c] w K
def Ok_dyad_Int (N : Nums) (P : Program) : Prop := ∀ (q0 : Int) (w : World) (K : Value → World → Prop), S_dyad_Int N P q0 w K → CallsX P N.f_dyad_Int #[.int .i64 q0] w K
def Ok_math_Abs (N : Nums) (P : Program) : Prop := ∀ (q0 : Nat) (w : World) (K : Value → World → Prop), S_math_Abs N P q0 w K → CallsX P N.f_math_Abs #[.float .f64 q0] w K
def Ok_k_Finite (N : Nums) (P : Program) : Prop := ∀ (q0 : Nat) (w : World) (K : Value → World → Prop), S_k_Finite N P q0 w K → CallsX P N.f_k_Finite #[.float .f64 q0] w K
def Ok_math_Signbit (N : Nums) (P : Program) : Prop := ∀ (q0 : Nat) (w : World) (K : Value → World → Prop), S_math_Signbit N P q0 w K → CallsX P N.f_math_Signbit #[.float .f64 q0] w K
def Ok_dyad_Of (N : Nums) (P : Program) : Prop := ∀ (q0 : Nat) (w : World) (K : Value → World → Prop), S_dyad_Of N P q0 w K → CallsX P N.f_dyad_Of #[.float .f64 q0] w K
def Ok_dyad_Add (N : Nums) (P : Program) : Prop := ∀ (q0_0 : Bool) (q0_1 : Option Addr) (q0_1l q0_1c : Nat) (q0_2 : Int) (q1_0 : Bool) (q1_1 : Option Addr) (q1_1l q1_1c : Nat) (q1_2 : Int) (w : World) (K : Value → World → Prop), S_dyad_Add N P q0_0 q0_1 q0_1l q0_1c q0_2 q1_0 q1_1 q1_1l q1_1c q1_2 w K → CallsX P N.f_dyad_Add #[.agg #[.bool q0_0, .slice q0_1 q0_1l q0_1c, .int .i64 q0_2], .agg #[.bool q1_0, .slice q1_1 q1_1l q1_1c, .int .i64 q1_2]] w K
def Ok_dyad_Scale (N : Nums) (P : Program) : Prop := ∀ (q0_0 : Bool) (q0_1 : Option Addr) (q0_1l q0_1c : Nat) (q0_2 : Int) (q1 : Int) (w : World) (K : Value → World → Prop), S_dyad_Scale N P q0_0 q0_1 q0_1l q0_1c q0_2 q1 w K → CallsX P N.f_dyad_Scale #[.agg #[.bool q0_0, .slice q0_1 q0_1l q0_1c, .int .i64 q0_2], .int .i64 q1] w K
def Ok_dyad_Cmp (N : Nums) (P : Program) : Prop := ∀ (q0_0 : Bool) (q0_1 : Option Addr) (q0_1l q0_1c : Nat) (q0_2 : Int) (q1_0 : Bool) (q1_1 : Option Addr) (q1_1l q1_1c : Nat) (q1_2 : Int) (w : World) (K : Value → World → Prop), S_dyad_Cmp N P q0_0 q0_1 q0_1l q0_1c q0_2 q1_0 q1_1 q1_1l q1_1c q1_2 w K → CallsX P N.f_dyad_Cmp #[.agg #[.bool q0_0, .slice q0_1 q0_1l q0_1c, .int .i64 q0_2], .agg #[.bool q1_0, .slice q1_1 q1_1l q1_1c, .int .i64 q1_2]] w K
def Ok_vector_Axpy (N : Nums) (P : Program) : Prop := ∀ (q0 : Nat) (q1 : Option Addr) (q1l q1c : Nat) (q2 : Option Addr) (q2l q2c : Nat) (w : World) (K : Value → World → Prop), S_vector_Axpy N P q0 q1 q1l q1c q2 q2l q2c w K → CallsX P N.f_vector_Axpy #[.float .f64 q0, .slice q1 q1l q1c, .slice q2 q2l q2c] w K
def Ok_vector_Dot (N : Nums) (P : Program) : Prop := ∀ (q0 : Option Addr) (q0l q0c : Nat) (q1 : Option Addr) (q1l q1c : Nat) (w : World) (K : Value → World → Prop), S_vector_Dot N P q0 q0l q0c q1 q1l q1c w K → CallsX P N.f_vector_Dot #[.slice q0 q0l q0c, .slice q1 q1l q1c] w K
def Ok_k_SameReals (N : Nums) (P : Program) : Prop := ∀ (q0 : Option Addr) (q0l q0c : Nat) (q1 : Option Addr) (q1l q1c : Nat) (w : World) (K : Value → World → Prop), S_k_SameReals N P q0 q0l q0c q1 q1l q1c w K → CallsX P N.f_k_SameReals #[.slice q0 q0l q0c, .slice q1 q1l q1c] w K
def Ok_vector_Same (N : Nums) (P : Program) : Prop := ∀ (q0 : Option Addr) (q0l q0c : Nat) (q1 : Option Addr) (q1l q1c : Nat) (w : World) (K : Value → World → Prop), S_vector_Same N P q0 q0l q0c q1 q1l q1c w K → CallsX P N.f_vector_Same #[.slice q0 q0l q0c, .slice q1 q1l q1c] w K
def Ok_math_Copysign (N : Nums) (P : Program) : Prop := ∀ (q0 : Nat) (q1 : Nat) (w : World) (K : Value → World → Prop), S_math_Copysign N P q0 q1 w K → CallsX P N.f_math_Copysign #[.float .f64 q0, .float .f64 q1] w K
def Ok_round_Add (N : Nums) (P : Program) : Prop := ∀ (q0 : Nat) (q1 : Nat) (q2 : Int) (w : World) (K : Value → World → Prop), S_round_Add N P q0 q1 q2 w K → CallsX P N.f_round_Add #[.float .f64 q0, .float .f64 q1, .int .i8 q2] w K
def Ok_dyad_made (N : Nums) (P : Program) : Prop := ∀ (q0 : Option Addr) (q1 : Int) (w : World) (K : Value → World → Prop), S_dyad_made N P q0 q1 w K → CallsX P N.f_dyad_made #[.pointer q0, .int .i64 q1] w K
def Ok_bn_NewInt (N : Nums) (P : Program) : Prop := ∀ (q0 : Int) (w : World) (K : Value → World → Prop), S_bn_NewInt N P q0 w K → CallsX P N.f_bn_NewInt #[.int .i64 q0] w K
def Ok_bits_Split (N : Nums) (P : Program) : Prop := ∀ (q0 : Nat) (w : World) (K : Value → World → Prop), S_bits_Split N P q0 w K → CallsX P N.f_bits_Split #[.float .f64 q0] w K
def Ok_dyad_both (N : Nums) (P : Program) : Prop := ∀ (q0_0 : Bool) (q0_1 : Option Addr) (q0_1l q0_1c : Nat) (q0_2 : Int) (q1_0 : Bool) (q1_1 : Option Addr) (q1_1l q1_1c : Nat) (q1_2 : Int) (w : World) (K : Value → World → Prop), S_dyad_both N P q0_0 q0_1 q0_1l q0_1c q0_2 q1_0 q1_1 q1_1l q1_1c q1_2 w K → CallsX P N.f_dyad_both #[.agg #[.bool q0_0, .slice q0_1 q0_1l q0_1c, .int .i64 q0_2], .agg #[.bool q1_0, .slice q1_1 q1_1l q1_1c, .int .i64 q1_2]] w K
def Ok_dyad_whole (N : Nums) (P : Program) : Prop := ∀ (q0_0 : Bool) (q0_1 : Option Addr) (q0_1l q0_1c : Nat) (q0_2 : Int) (w : World) (K : Value → World → Prop), S_dyad_whole N P q0_0 q0_1 q0_1l q0_1c q0_2 w K → CallsX P N.f_dyad_whole #[.agg #[.bool q0_0, .slice q0_1 q0_1l q0_1c, .int .i64 q0_2]] w K
def Ok_bI_Sign (N : Nums) (P : Program) : Prop := ∀ (q0 : Option Addr) (w : World) (K : Value → World → Prop), S_bI_Sign N P q0 w K → CallsX P N.f_bI_Sign #[.pointer q0] w K
def Ok_bI_Add (N : Nums) (P : Program) : Prop := ∀ (q0 : Option Addr) (q1 : Option Addr) (q2 : Option Addr) (w : World) (K : Value → World → Prop), S_bI_Add N P q0 q1 q2 w K → CallsX P N.f_bI_Add #[.pointer q0, .pointer q1, .pointer q2] w K
def Ok_bI_Lsh (N : Nums) (P : Program) : Prop := ∀ (q0 : Option Addr) (q1 : Option Addr) (q2 : Int) (w : World) (K : Value → World → Prop), S_bI_Lsh N P q0 q1 q2 w K → CallsX P N.f_bI_Lsh #[.pointer q0, .pointer q1, .int .u64 q2] w K
def Ok_dyad_Right (N : Nums) (P : Program) : Prop := ∀ (q0_0 : Bool) (q0_1 : Option Addr) (q0_1l q0_1c : Nat) (q0_2 : Int) (w : World) (K : Value → World → Prop), S_dyad_Right N P q0_0 q0_1 q0_1l q0_1c q0_2 w K → CallsX P N.f_dyad_Right #[.agg #[.bool q0_0, .slice q0_1 q0_1l q0_1c, .int .i64 q0_2]] w K
def Ok_dyad_Sign (N : Nums) (P : Program) : Prop := ∀ (q0_0 : Bool) (q0_1 : Option Addr) (q0_1l q0_1c : Nat) (q0_2 : Int) (w : World) (K : Value → World → Prop), S_dyad_Sign N P q0_0 q0_1 q0_1l q0_1c q0_2 w K → CallsX P N.f_dyad_Sign #[.agg #[.bool q0_0, .slice q0_1 q0_1l q0_1c, .int .i64 q0_2]] w K
def Ok_dyad_top (N : Nums) (P : Program) : Prop := ∀ (q0_0 : Bool) (q0_1 : Option Addr) (q0_1l q0_1c : Nat) (q0_2 : Int) (w : World) (K : Value → World → Prop), S_dyad_top N P q0_0 q0_1 q0_1l q0_1c q0_2 w K → CallsX P N.f_dyad_top #[.agg #[.bool q0_0, .slice q0_1 q0_1l q0_1c, .int .i64 q0_2]] w K
def Ok_bI_Cmp (N : Nums) (P : Program) : Prop := ∀ (q0 : Option Addr) (q1 : Option Addr) (w : World) (K : Value → World → Prop), S_bI_Cmp N P q0 q1 w K → CallsX P N.f_bI_Cmp #[.pointer q0, .pointer q1] w K
def Ok_math_IsNaN (N : Nums) (P : Program) : Prop := ∀ (q0 : Nat) (w : World) (K : Value → World → Prop), S_math_IsNaN N P q0 w K → CallsX P N.f_math_IsNaN #[.float .f64 q0] w K
def Ok_bI_Mul (N : Nums) (P : Program) : Prop := ∀ (q0 : Option Addr) (q1 : Option Addr) (q2 : Option Addr) (w : World) (K : Value → World → Prop), S_bI_Mul N P q0 q1 q2 w K → CallsX P N.f_bI_Mul #[.pointer q0, .pointer q1, .pointer q2] w K
def Ok_vector_each (N : Nums) (P : Program) : Prop := ∀ (q0 : Option Addr) (q0l q0c : Nat) (q1 : Option Addr) (q1l q1c : Nat) (q2 : Value) (w : World) (K : Value → World → Prop), S_vector_each N P q0 q0l q0c q1 q1l q1c q2 w K → CallsX P N.f_vector_each #[.slice q0 q0l q0c, .slice q1 q1l q1c, q2] w K
def Ok_vector_Axpy_1 (N : Nums) (P : Program) : Prop := ∀ (q0 : Nat) (q1 : Nat) (q2 : Option Addr) (w : World) (K : Value → World → Prop), S_vector_Axpy_1 N P q0 q1 q2 w K → CallsX P N.f_vector_Axpy_1 #[.float .f64 q0, .float .f64 q1, .pointer q2] w K
def Ok_vector_fit (N : Nums) (P : Program) : Prop := ∀ (q0 : Option Addr) (q0l q0c : Nat) (q1 : Option Addr) (q1l q1c : Nat) (w : World) (K : Value → World → Prop), S_vector_fit N P q0 q0l q0c q1 q1l q1c w K → CallsX P N.f_vector_fit #[.slice q0 q0l q0c, .slice q1 q1l q1c] w K
def Ok_k_SameFloat (N : Nums) (P : Program) : Prop := ∀ (q0 : Nat) (q1 : Nat) (w : World) (K : Value → World → Prop), S_k_SameFloat N P q0 q1 w K → CallsX P N.f_k_SameFloat #[.float .f64 q0, .float .f64 q1] w K
def Ok_round_way (N : Nums) (P : Program) : Prop := ∀ (q0 : Int) (w : World) (K : Value → World → Prop), S_round_way N P q0 w K → CallsX P N.f_round_way #[.int .i8 q0] w K
def Ok_round_finite (N : Nums) (P : Program) : Prop := ∀ (q0 : Option Addr) (q0l q0c : Nat) (w : World) (K : Value → World → Prop), S_round_finite N P q0 q0l q0c w K → CallsX P N.f_round_finite #[.slice q0 q0l q0c] w K
def Ok_round_none (N : Nums) (P : Program) : Prop := ∀ (q0 : Int) (w : World) (K : Value → World → Prop), S_round_none N P q0 w K → CallsX P N.f_round_none #[.int .i8 q0] w K
def Ok_round_settle (N : Nums) (P : Program) : Prop := ∀ (q0 : Nat) (q1 : Int) (q2 : Int) (w : World) (K : Value → World → Prop), S_round_settle N P q0 q1 q2 w K → CallsX P N.f_round_settle #[.float .f64 q0, .int .i64 q1, .int .i8 q2] w K
def Ok_round_sign (N : Nums) (P : Program) : Prop := ∀ (q0 : Nat) (w : World) (K : Value → World → Prop), S_round_sign N P q0 w K → CallsX P N.f_round_sign #[.float .f64 q0] w K
def Ok_bI_TrailingZeroBits (N : Nums) (P : Program) : Prop := ∀ (q0 : Option Addr) (w : World) (K : Value → World → Prop), S_bI_TrailingZeroBits N P q0 w K → CallsX P N.f_bI_TrailingZeroBits #[.pointer q0] w K
def Ok_bI_BitLen (N : Nums) (P : Program) : Prop := ∀ (q0 : Option Addr) (w : World) (K : Value → World → Prop), S_bI_BitLen N P q0 w K → CallsX P N.f_bI_BitLen #[.pointer q0] w K
def Ok_dyad_limbs (N : Nums) (P : Program) : Prop := ∀ (q0 : Option Addr) (w : World) (K : Value → World → Prop), S_dyad_limbs N P q0 w K → CallsX P N.f_dyad_limbs #[.pointer q0] w K
def Ok_bI_Rsh (N : Nums) (P : Program) : Prop := ∀ (q0 : Option Addr) (q1 : Option Addr) (q2 : Int) (w : World) (K : Value → World → Prop), S_bI_Rsh N P q0 q1 q2 w K → CallsX P N.f_bI_Rsh #[.pointer q0, .pointer q1, .int .u64 q2] w K
def Ok_bI_Abs (N : Nums) (P : Program) : Prop := ∀ (q0 : Option Addr) (q1 : Option Addr) (w : World) (K : Value → World → Prop), S_bI_Abs N P q0 q1 w K → CallsX P N.f_bI_Abs #[.pointer q0, .pointer q1] w K
def Ok_bI_SetInt64 (N : Nums) (P : Program) : Prop := ∀ (q0 : Option Addr) (q1 : Int) (w : World) (K : Value → World → Prop), S_bI_SetInt64 N P q0 q1 w K → CallsX P N.f_bI_SetInt64 #[.pointer q0, .int .i64 q1] w K
def Ok_bits_Kind (N : Nums) (P : Program) : Prop := ∀ (q0 : Nat) (w : World) (K : Value → World → Prop), S_bits_Kind N P q0 w K → CallsX P N.f_bits_Kind #[.float .f64 q0] w K
def Ok_math_Frexp (N : Nums) (P : Program) : Prop := ∀ (q0 : Nat) (w : World) (K : Value → World → Prop), S_math_Frexp N P q0 w K → CallsX P N.f_math_Frexp #[.float .f64 q0] w K
def Ok_math_Ldexp (N : Nums) (P : Program) : Prop := ∀ (q0 : Nat) (q1 : Int) (w : World) (K : Value → World → Prop), S_math_Ldexp N P q0 q1 w K → CallsX P N.f_math_Ldexp #[.float .f64 q0, .int .i64 q1] w K
def Ok_math_bits_TrailingZeros64 (N : Nums) (P : Program) : Prop := ∀ (q0 : Int) (w : World) (K : Value → World → Prop), S_math_bits_TrailingZeros64 N P q0 w K → CallsX P N.f_math_bits_TrailingZeros64 #[.int .u64 q0] w K
def Ok_bI_Or (N : Nums) (P : Program) : Prop := ∀ (q0 : Option Addr) (q1 : Option Addr) (q2 : Option Addr) (w : World) (K : Value → World → Prop), S_bI_Or N P q0 q1 q2 w K → CallsX P N.f_bI_Or #[.pointer q0, .pointer q1, .pointer q2] w K
def Ok_bI_SetUint64 (N : Nums) (P : Program) : Prop := ∀ (q0 : Option Addr) (q1 : Int) (w : World) (K : Value → World → Prop), S_bI_SetUint64 N P q0 q1 w K → CallsX P N.f_bI_SetUint64 #[.pointer q0, .int .u64 q1] w K
def Ok_bI_Neg (N : Nums) (P : Program) : Prop := ∀ (q0 : Option Addr) (q1 : Option Addr) (w : World) (K : Value → World → Prop), S_bI_Neg N P q0 q1 w K → CallsX P N.f_bI_Neg #[.pointer q0, .pointer q1] w K
def Ok_bI_give (N : Nums) (P : Program) : Prop := ∀ (q0 : Option Addr) (q1 : Bool) (q2 : Option Addr) (q2l q2c : Nat) (w : World) (K : Value → World → Prop), S_bI_give N P q0 q1 q2 q2l q2c w K → CallsX P N.f_bI_give #[.pointer q0, .bool q1, .slice q2 q2l q2c] w K
def Ok_bn_sum (N : Nums) (P : Program) : Prop := ∀ (q0 : Bool) (q1 : Option Addr) (q1l q1c : Nat) (q2 : Bool) (q3 : Option Addr) (q3l q3c : Nat) (w : World) (K : Value → World → Prop), S_bn_sum N P q0 q1 q1l q1c q2 q3 q3l q3c w K → CallsX P N.f_bn_sum #[.bool q0, .slice q1 q1l q1c, .bool q2, .slice q3 q3l q3c] w K
def Ok_bn_left (N : Nums) (P : Program) : Prop := ∀ (q0 : Option Addr) (q0l q0c : Nat) (q1 : Int) (w : World) (K : Value → World → Prop), S_bn_left N P q0 q0l q0c q1 w K → CallsX P N.f_bn_left #[.slice q0 q0l q0c, .int .u64 q1] w K
def Ok_bn_cmp (N : Nums) (P : Program) : Prop := ∀ (q0 : Option Addr) (q0l q0c : Nat) (q1 : Option Addr) (q1l q1c : Nat) (w : World) (K : Value → World → Prop), S_bn_cmp N P q0 q0l q0c q1 q1l q1c w K → CallsX P N.f_bn_cmp #[.slice q0 q0l q0c, .slice q1 q1l q1c] w K
def Ok_bn_mul (N : Nums) (P : Program) : Prop := ∀ (q0 : Option Addr) (q0l q0c : Nat) (q1 : Option Addr) (q1l q1c : Nat) (w : World) (K : Value → World → Prop), S_bn_mul N P q0 q0l q0c q1 q1l q1c w K → CallsX P N.f_bn_mul #[.slice q0 q0l q0c, .slice q1 q1l q1c] w K
def Ok_round_step (N : Nums) (P : Program) : Prop := ∀ (q0 : Nat) (q1 : Bool) (w : World) (K : Value → World → Prop), S_round_step N P q0 q1 w K → CallsX P N.f_round_step #[.float .f64 q0, .bool q1] w K
def Ok_bn_bit (N : Nums) (P : Program) : Prop := ∀ (q0 : Option Addr) (q0l q0c : Nat) (q1 : Int) (w : World) (K : Value → World → Prop), S_bn_bit N P q0 q0l q0c q1 w K → CallsX P N.f_bn_bit #[.slice q0 q0l q0c, .int .i64 q1] w K
def Ok_bn_length (N : Nums) (P : Program) : Prop := ∀ (q0 : Option Addr) (q0l q0c : Nat) (w : World) (K : Value → World → Prop), S_bn_length N P q0 q0l q0c w K → CallsX P N.f_bn_length #[.slice q0 q0l q0c] w K
def Ok_bI_And (N : Nums) (P : Program) : Prop := ∀ (q0 : Option Addr) (q1 : Option Addr) (q2 : Option Addr) (w : World) (K : Value → World → Prop), S_bI_And N P q0 q1 q2 w K → CallsX P N.f_bI_And #[.pointer q0, .pointer q1, .pointer q2] w K
def Ok_bI_Uint64 (N : Nums) (P : Program) : Prop := ∀ (q0 : Option Addr) (w : World) (K : Value → World → Prop), S_bI_Uint64 N P q0 w K → CallsX P N.f_bI_Uint64 #[.pointer q0] w K
def Ok_bn_add (N : Nums) (P : Program) : Prop := ∀ (q0 : Option Addr) (q0l q0c : Nat) (q1 : Option Addr) (q1l q1c : Nat) (w : World) (K : Value → World → Prop), S_bn_add N P q0 q0l q0c q1 q1l q1c w K → CallsX P N.f_bn_add #[.slice q0 q0l q0c, .slice q1 q1l q1c] w K
def Ok_bn_right (N : Nums) (P : Program) : Prop := ∀ (q0 : Option Addr) (q0l q0c : Nat) (q1 : Int) (w : World) (K : Value → World → Prop), S_bn_right N P q0 q0l q0c q1 w K → CallsX P N.f_bn_right #[.slice q0 q0l q0c, .int .u64 q1] w K
def Ok_bn_sub (N : Nums) (P : Program) : Prop := ∀ (q0 : Option Addr) (q0l q0c : Nat) (q1 : Option Addr) (q1l q1c : Nat) (w : World) (K : Value → World → Prop), S_bn_sub N P q0 q0l q0c q1 q1l q1c w K → CallsX P N.f_bn_sub #[.slice q0 q0l q0c, .slice q1 q1l q1c] w K
def Ok_bn_twin (N : Nums) (P : Program) : Prop := ∀ (q0 : Option Addr) (q0l q0c : Nat) (w : World) (K : Value → World → Prop), S_bn_twin N P q0 q0l q0c w K → CallsX P N.f_bn_twin #[.slice q0 q0l q0c] w K
def Ok_bn_words (N : Nums) (P : Program) : Prop := ∀ (q0 : Int) (w : World) (K : Value → World → Prop), S_bn_words N P q0 w K → CallsX P N.f_bn_words #[.int .u64 q0] w K
def Ok_math_frexp (N : Nums) (P : Program) : Prop := ∀ (q0 : Nat) (w : World) (K : Value → World → Prop), S_math_frexp N P q0 w K → CallsX P N.f_math_frexp #[.float .f64 q0] w K
def Ok_math_ldexp (N : Nums) (P : Program) : Prop := ∀ (q0 : Nat) (q1 : Int) (w : World) (K : Value → World → Prop), S_math_ldexp N P q0 q1 w K → CallsX P N.f_math_ldexp #[.float .f64 q0, .int .i64 q1] w K
def Ok_bI_low (N : Nums) (P : Program) : Prop := ∀ (q0 : Option Addr) (q1 : Int) (w : World) (K : Value → World → Prop), S_bI_low N P q0 q1 w K → CallsX P N.f_bI_low #[.pointer q0, .int .i64 q1] w K
def Ok_bI_of (N : Nums) (P : Program) : Prop := ∀ (q0 : Option Addr) (q1 : Option Addr) (q1l q1c : Nat) (w : World) (K : Value → World → Prop), S_bI_of N P q0 q1 q1l q1c w K → CallsX P N.f_bI_of #[.pointer q0, .slice q1 q1l q1c] w K
def Ok_bn_trim (N : Nums) (P : Program) : Prop := ∀ (q0 : Option Addr) (q0l q0c : Nat) (w : World) (K : Value → World → Prop), S_bn_trim N P q0 q0l q0c w K → CallsX P N.f_bn_trim #[.slice q0 q0l q0c] w K
def Ok_math_normalize (N : Nums) (P : Program) : Prop := ∀ (q0 : Nat) (w : World) (K : Value → World → Prop), S_math_normalize N P q0 w K → CallsX P N.f_math_normalize #[.float .f64 q0] w K
def Ok_math_Inf (N : Nums) (P : Program) : Prop := ∀ (q0 : Int) (w : World) (K : Value → World → Prop), S_math_Inf N P q0 w K → CallsX P N.f_math_Inf #[.int .i64 q0] w K
def Ok_math_Float64frombits (N : Nums) (P : Program) : Prop := ∀ (n : Int) (w : World) (K : Value → World → Prop), K (.float .f64 n.toNat) w → CallsX P N.f_math_Float64frombits #[.int .u64 n] w K
def Ok_math_Float64bits (N : Nums) (P : Program) : Prop := ∀ (x : Nat) (w : World) (K : Value → World → Prop), K (.int .u64 x) w → CallsX P N.f_math_Float64bits #[.float .f64 x] w K
def Ok_math_bits_Len64 (N : Nums) (P : Program) : Prop := ∀ (x : Int) (_ : 0 ≤ x) (_ : x ≤ 18446744073709551615) (w : World) (K : Value → World → Prop), K (.int .i64 (Lib.bitLen x.toNat)) w → CallsX P N.f_math_bits_Len64 #[.int .u64 x] w K
structure AllOk (N : Nums) (P : Program) : Prop where
  w09_VectorNorm : Ok_w09_VectorNorm N P
  math_IsInf : Ok_math_IsInf N P
  w09_awake : Ok_w09_awake N P
  vector_Norm : Ok_vector_Norm N P
  vector_Most : Ok_vector_Most N P
  dyad_Int : Ok_dyad_Int N P
  math_Abs : Ok_math_Abs N P
  k_Finite : Ok_k_Finite N P
  math_Signbit : Ok_math_Signbit N P
  dyad_Of : Ok_dyad_Of N P
  dyad_Add : Ok_dyad_Add N P
  dyad_Scale : Ok_dyad_Scale N P
  dyad_Cmp : Ok_dyad_Cmp N P
  vector_Axpy : Ok_vector_Axpy N P
  vector_Dot : Ok_vector_Dot N P
  k_SameReals : Ok_k_SameReals N P
  vector_Same : Ok_vector_Same N P
  math_Copysign : Ok_math_Copysign N P
  round_Add : Ok_round_Add N P
  dyad_made : Ok_dyad_made N P
  bn_NewInt : Ok_bn_NewInt N P
  bits_Split : Ok_bits_Split N P
  dyad_both : Ok_dyad_both N P
  dyad_whole : Ok_dyad_whole N P
  bI_Sign : Ok_bI_Sign N P
  bI_Add : Ok_bI_Add N P
  bI_Lsh : Ok_bI_Lsh N P
  dyad_Right : Ok_dyad_Right N P
  dyad_Sign : Ok_dyad_Sign N P
  dyad_top : Ok_dyad_top N P
  bI_Cmp : Ok_bI_Cmp N P
  math_IsNaN : Ok_math_IsNaN N P
  bI_Mul : Ok_bI_Mul N P
  vector_each : Ok_vector_each N P
  vector_Axpy_1 : Ok_vector_Axpy_1 N P
  vector_fit : Ok_vector_fit N P
  k_SameFloat : Ok_k_SameFloat N P
  round_way : Ok_round_way N P
  round_finite : Ok_round_finite N P
  round_none : Ok_round_none N P
  round_settle : Ok_round_settle N P
  round_sign : Ok_round_sign N P
  bI_TrailingZeroBits : Ok_bI_TrailingZeroBits N P
  bI_BitLen : Ok_bI_BitLen N P
  dyad_limbs : Ok_dyad_limbs N P
  bI_Rsh : Ok_bI_Rsh N P
  bI_Abs : Ok_bI_Abs N P
  bI_SetInt64 : Ok_bI_SetInt64 N P
  bits_Kind : Ok_bits_Kind N P
  math_Frexp : Ok_math_Frexp N P
  math_Ldexp : Ok_math_Ldexp N P
  math_bits_TrailingZeros64 : Ok_math_bits_TrailingZeros64 N P
  bI_Or : Ok_bI_Or N P
  bI_SetUint64 : Ok_bI_SetUint64 N P
  bI_Neg : Ok_bI_Neg N P
  bI_give : Ok_bI_give N P
  bn_sum : Ok_bn_sum N P
  bn_left : Ok_bn_left N P
  bn_cmp : Ok_bn_cmp N P
  bn_mul : Ok_bn_mul N P
  round_step : Ok_round_step N P
  bn_bit : Ok_bn_bit N P
  bn_length : Ok_bn_length N P
  bI_And : Ok_bI_And N P
  bI_Uint64 : Ok_bI_Uint64 N P
  bn_add : Ok_bn_add N P
  bn_right : Ok_bn_right N P
  bn_sub : Ok_bn_sub N P
  bn_twin : Ok_bn_twin N P
  bn_words : Ok_bn_words N P
  math_frexp : Ok_math_frexp N P
  math_ldexp : Ok_math_ldexp N P
  bI_low : Ok_bI_low N P
  bI_of : Ok_bI_of N P
  bn_trim : Ok_bn_trim N P
  math_normalize : Ok_math_normalize N P
  math_Inf : Ok_math_Inf N P
  math_Float64frombits : Ok_math_Float64frombits N P
  math_Float64bits : Ok_math_Float64bits N P
  math_bits_Len64 : Ok_math_bits_Len64 N P
end Go.Eng
