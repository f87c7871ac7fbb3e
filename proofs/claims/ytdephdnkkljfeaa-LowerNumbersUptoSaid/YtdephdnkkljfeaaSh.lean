/-
  All that is asked of the propositions of the functions. No condition.
-/
import Derived.Test.YtdephdnkkljfeaaSh1
set_option linter.all false
set_option maxRecDepth 100000
namespace Go.Eng
open Go
def Ok_w12_LowerNumbers (N : Nums) (P : Program) : Prop := ∀  (w : World) (K : Value → World → Prop), S_w12_LowerNumbers N P  w K → CallsX P N.f_w12_LowerNumbers #[] w K
def Ok_lower_Factor (N : Nums) (P : Program) : Prop := ∀ (q0_0 : Int) (q0_1 : Int) (q0_2 : Option Addr) (q0_2l q0_2c : Nat) (w : World) (K : Value → World → Prop), S_lower_Factor N P q0_0 q0_1 q0_2 q0_2l q0_2c w K → CallsX P N.f_lower_Factor #[.agg #[.int .i64 q0_0, .int .i64 q0_1, .slice q0_2 q0_2l q0_2c]] w K
def Ok_lower_Right (N : Nums) (P : Program) : Prop := ∀ (q0_0 : Int) (q0_1 : Option Addr) (q0_1l q0_1c : Nat) (q0_2 : Option Addr) (q0_2l q0_2c : Nat) (w : World) (K : Value → World → Prop), S_lower_Right N P q0_0 q0_1 q0_1l q0_1c q0_2 q0_2l q0_2c w K → CallsX P N.f_lower_Right #[.agg #[.int .i64 q0_0, .slice q0_1 q0_1l q0_1c, .slice q0_2 q0_2l q0_2c]] w K
def Ok_math_Copysign (N : Nums) (P : Program) : Prop := ∀ (q0 : Nat) (q1 : Nat) (w : World) (K : Value → World → Prop), S_math_Copysign N P q0 q1 w K → CallsX P N.f_math_Copysign #[.float .f64 q0, .float .f64 q1] w K
def Ok_math_NaN (N : Nums) (P : Program) : Prop := ∀  (w : World) (K : Value → World → Prop), S_math_NaN N P  w K → CallsX P N.f_math_NaN #[] w K
def Ok_math_Inf (N : Nums) (P : Program) : Prop := ∀ (q0 : Int) (w : World) (K : Value → World → Prop), S_math_Inf N P q0 w K → CallsX P N.f_math_Inf #[.int .i64 q0] w K
def Ok_w12_awake (N : Nums) (P : Program) : Prop := ∀  (w : World) (K : Value → World → Prop), S_w12_awake N P  w K → CallsX P N.f_w12_awake #[] w K
def Ok_matrix_Symmetric (N : Nums) (P : Program) : Prop := ∀ (q0_0 : Int) (q0_1 : Int) (q0_2 : Option Addr) (q0_2l q0_2c : Nat) (w : World) (K : Value → World → Prop), S_matrix_Symmetric N P q0_0 q0_1 q0_2 q0_2l q0_2c w K → CallsX P N.f_matrix_Symmetric #[.agg #[.int .i64 q0_0, .int .i64 q0_1, .slice q0_2 q0_2l q0_2c]] w K
def Ok_lower_finite (N : Nums) (P : Program) : Prop := ∀ (q0 : Nat) (w : World) (K : Value → World → Prop), S_lower_finite N P q0 w K → CallsX P N.f_lower_finite #[.float .f64 q0] w K
def Ok_lower_row (N : Nums) (P : Program) : Prop := ∀ (q0 : Option Addr) (q0l q0c : Nat) (q1 : Int) (w : World) (K : Value → World → Prop), S_lower_row N P q0 q0l q0c q1 w K → CallsX P N.f_lower_row #[.slice q0 q0l q0c, .int .i64 q1] w K
def Ok_lower_Times (N : Nums) (P : Program) : Prop := ∀ (q0_0 : Int) (q0_1 : Option Addr) (q0_1l q0_1c : Nat) (q0_2 : Option Addr) (q0_2l q0_2c : Nat) (w : World) (K : Value → World → Prop), S_lower_Times N P q0_0 q0_1 q0_1l q0_1c q0_2 q0_2l q0_2c w K → CallsX P N.f_lower_Times #[.agg #[.int .i64 q0_0, .slice q0_1 q0_1l q0_1c, .slice q0_2 q0_2l q0_2c]] w K
def Ok_k_SameFactor (N : Nums) (P : Program) : Prop := ∀ (q0_0 : Int) (q0_1 : Option Addr) (q0_1l q0_1c : Nat) (q0_2 : Option Addr) (q0_2l q0_2c : Nat) (q1_0 : Int) (q1_1 : Option Addr) (q1_1l q1_1c : Nat) (q1_2 : Option Addr) (q1_2l q1_2c : Nat) (w : World) (K : Value → World → Prop), S_k_SameFactor N P q0_0 q0_1 q0_1l q0_1c q0_2 q0_2l q0_2c q1_0 q1_1 q1_1l q1_1c q1_2 q1_2l q1_2c w K → CallsX P N.f_k_SameFactor #[.agg #[.int .i64 q0_0, .slice q0_1 q0_1l q0_1c, .slice q0_2 q0_2l q0_2c], .agg #[.int .i64 q1_0, .slice q1_1 q1_1l q1_1c, .slice q1_2 q1_2l q1_2c]] w K
def Ok_k_SameMatrix (N : Nums) (P : Program) : Prop := ∀ (q0_0 : Int) (q0_1 : Int) (q0_2 : Option Addr) (q0_2l q0_2c : Nat) (q1_0 : Int) (q1_1 : Int) (q1_2 : Option Addr) (q1_2l q1_2c : Nat) (w : World) (K : Value → World → Prop), S_k_SameMatrix N P q0_0 q0_1 q0_2 q0_2l q0_2c q1_0 q1_1 q1_2 q1_2l q1_2c w K → CallsX P N.f_k_SameMatrix #[.agg #[.int .i64 q0_0, .int .i64 q0_1, .slice q0_2 q0_2l q0_2c], .agg #[.int .i64 q1_0, .int .i64 q1_1, .slice q1_2 q1_2l q1_2c]] w K
def Ok_matrix_Transpose (N : Nums) (P : Program) : Prop := ∀ (q0_0 : Int) (q0_1 : Int) (q0_2 : Option Addr) (q0_2l q0_2c : Nat) (w : World) (K : Value → World → Prop), S_matrix_Transpose N P q0_0 q0_1 q0_2 q0_2l q0_2c w K → CallsX P N.f_matrix_Transpose #[.agg #[.int .i64 q0_0, .int .i64 q0_1, .slice q0_2 q0_2l q0_2c]] w K
def Ok_matrix_Same (N : Nums) (P : Program) : Prop := ∀ (q0_0 : Int) (q0_1 : Int) (q0_2 : Option Addr) (q0_2l q0_2c : Nat) (q1_0 : Int) (q1_1 : Int) (q1_2 : Option Addr) (q1_2l q1_2c : Nat) (w : World) (K : Value → World → Prop), S_matrix_Same N P q0_0 q0_1 q0_2 q0_2l q0_2c q1_0 q1_1 q1_2 q1_2l q1_2c w K → CallsX P N.f_matrix_Same #[.agg #[.int .i64 q0_0, .int .i64 q0_1, .slice q0_2 q0_2l q0_2c], .agg #[.int .i64 q1_0, .int .i64 q1_1, .slice q1_2 q1_2l q1_2c]] w K
def Ok_math_IsNaN (N : Nums) (P : Program) : Prop := ∀ (q0 : Nat) (w : World) (K : Value → World → Prop), S_math_IsNaN N P q0 w K → CallsX P N.f_math_IsNaN #[.float .f64 q0] w K
def Ok_math_IsInf (N : Nums) (P : Program) : Prop := ∀ (q0 : Nat) (q1 : Int) (w : World) (K : Value → World → Prop), S_math_IsInf N P q0 q1 w K → CallsX P N.f_math_IsInf #[.float .f64 q0, .int .i64 q1] w K
def Ok_matrix_Make (N : Nums) (P : Program) : Prop := ∀ (q0 : Int) (q1 : Int) (w : World) (K : Value → World → Prop), S_matrix_Make N P q0 q1 w K → CallsX P N.f_matrix_Make #[.int .i64 q0, .int .i64 q1] w K
def Ok_k_SameReals (N : Nums) (P : Program) : Prop := ∀ (q0 : Option Addr) (q0l q0c : Nat) (q1 : Option Addr) (q1l q1c : Nat) (w : World) (K : Value → World → Prop), S_k_SameReals N P q0 q0l q0c q1 q1l q1c w K → CallsX P N.f_k_SameReals #[.slice q0 q0l q0c, .slice q1 q1l q1c] w K
def Ok_matrix_Right (N : Nums) (P : Program) : Prop := ∀ (q0_0 : Int) (q0_1 : Int) (q0_2 : Option Addr) (q0_2l q0_2c : Nat) (w : World) (K : Value → World → Prop), S_matrix_Right N P q0_0 q0_1 q0_2 q0_2l q0_2c w K → CallsX P N.f_matrix_Right #[.agg #[.int .i64 q0_0, .int .i64 q0_1, .slice q0_2 q0_2l q0_2c]] w K
def Ok_matrix_laid (N : Nums) (P : Program) : Prop := ∀ (q0 : Int) (q1 : Int) (q2 : Value) (w : World) (K : Value → World → Prop), S_matrix_laid N P q0 q1 q2 w K → CallsX P N.f_matrix_laid #[.int .i64 q0, .int .i64 q1, q2] w K
def Ok_matrix_Transpose_1 (N : Nums) (P : Program) : Prop := ∀ (q0 : Int) (q1 : Int) (q2 : Option Addr) (w : World) (K : Value → World → Prop), S_matrix_Transpose_1 N P q0 q1 q2 w K → CallsX P N.f_matrix_Transpose_1 #[.int .i64 q0, .int .i64 q1, .pointer q2] w K
def Ok_vector_Same (N : Nums) (P : Program) : Prop := ∀ (q0 : Option Addr) (q0l q0c : Nat) (q1 : Option Addr) (q1l q1c : Nat) (w : World) (K : Value → World → Prop), S_vector_Same N P q0 q0l q0c q1 q1l q1c w K → CallsX P N.f_vector_Same #[.slice q0 q0l q0c, .slice q1 q1l q1c] w K
def Ok_math_Abs (N : Nums) (P : Program) : Prop := ∀ (q0 : Nat) (w : World) (K : Value → World → Prop), S_math_Abs N P q0 w K → CallsX P N.f_math_Abs #[.float .f64 q0] w K
def Ok_matrix_fits (N : Nums) (P : Program) : Prop := ∀ (q0 : Int) (w : World) (K : Value → World → Prop), S_matrix_fits N P q0 w K → CallsX P N.f_matrix_fits #[.int .i64 q0] w K
def Ok_matrix_Make_1 (N : Nums) (P : Program) : Prop := ∀ (q0 : Int) (q1 : Int) (w : World) (K : Value → World → Prop), S_matrix_Make_1 N P q0 q1 w K → CallsX P N.f_matrix_Make_1 #[.int .i64 q0, .int .i64 q1] w K
def Ok_k_SameFloat (N : Nums) (P : Program) : Prop := ∀ (q0 : Nat) (q1 : Nat) (w : World) (K : Value → World → Prop), S_k_SameFloat N P q0 q1 w K → CallsX P N.f_k_SameFloat #[.float .f64 q0, .float .f64 q1] w K
def Ok_math_Float64frombits (N : Nums) (P : Program) : Prop := ∀ (n : Int) (w : World) (K : Value → World → Prop), K (.float .f64 n.toNat) w → CallsX P N.f_math_Float64frombits #[.int .u64 n] w K
def Ok_math_Float64bits (N : Nums) (P : Program) : Prop := ∀ (x : Nat) (w : World) (K : Value → World → Prop), K (.int .u64 x) w → CallsX P N.f_math_Float64bits #[.float .f64 x] w K
structure AllOk (N : Nums) (P : Program) : Prop where
  w12_LowerNumbers : Ok_w12_LowerNumbers N P
  lower_Factor : Ok_lower_Factor N P
  lower_Right : Ok_lower_Right N P
  math_Copysign : Ok_math_Copysign N P
  math_NaN : Ok_math_NaN N P
  math_Inf : Ok_math_Inf N P
  w12_awake : Ok_w12_awake N P
  matrix_Symmetric : Ok_matrix_Symmetric N P
  lower_finite : Ok_lower_finite N P
  lower_row : Ok_lower_row N P
  lower_Times : Ok_lower_Times N P
  k_SameFactor : Ok_k_SameFactor N P
  k_SameMatrix : Ok_k_SameMatrix N P
  matrix_Transpose : Ok_matrix_Transpose N P
  matrix_Same : Ok_matrix_Same N P
  math_IsNaN : Ok_math_IsNaN N P
  math_IsInf : Ok_math_IsInf N P
  matrix_Make : Ok_matrix_Make N P
  k_SameReals : Ok_k_SameReals N P
  matrix_Right : Ok_matrix_Right N P
  matrix_laid : Ok_matrix_laid N P
  matrix_Transpose_1 : Ok_matrix_Transpose_1 N P
  vector_Same : Ok_vector_Same N P
  math_Abs : Ok_math_Abs N P
  matrix_fits : Ok_matrix_fits N P
  matrix_Make_1 : Ok_matrix_Make_1 N P
  k_SameFloat : Ok_k_SameFloat N P
  math_Float64frombits : Ok_math_Float64frombits N P
  math_Float64bits : Ok_math_Float64bits N P
end Go.Eng
