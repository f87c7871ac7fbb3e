/-
  All that is asked of the propositions of the functions. No condition.
-/
import Derived.Test.YtbegoalncgpbnaaSh1
import Derived.Test.YtbegoalncgpbnaaSh2
set_option linter.unusedSimpArgs false
set_option linter.unnecessarySimpa false
set_option linter.unusedSectionVars false
set_option linter.unusedVariables false
set_option maxRecDepth 100000
namespace Go.Eng
open Go

def Ok_girderlaw10_MatrixTimes (N : Nums) (P : Program) : Prop := ∀ (q0_0 : Int) (q0_1 : Int) (q0_2 : Option Addr) (q0_2l q0_2c : Nat) (q1_0 : Int) (q1_1 : Int) (q1_2 : Option Addr) (q1_2l q1_2c : Nat) (q2 : Option Addr) (q2l q2c : Nat) (w : World) (K : Value → World → Prop), S_girderlaw10_MatrixTimes N P q0_0 q0_1 q0_2 q0_2l q0_2c q1_0 q1_1 q1_2 q1_2l q1_2c q2 q2l q2c w K → CallsX P N.f_girderlaw10_MatrixTimes #[.agg #[.int .i64 q0_0, .int .i64 q0_1, .slice q0_2 q0_2l q0_2c], .agg #[.int .i64 q1_0, .int .i64 q1_1, .slice q1_2 q1_2l q1_2c], .slice q2 q2l q2c] w K

def Ok_girderlaw10_MatrixWhole (N : Nums) (P : Program) : Prop := ∀ (q0 : Int) (q1 : Int) (q2 : Int) (q3 : Int) (q4 : Option Addr) (q4l q4c : Nat) (q5 : Option Addr) (q5l q5c : Nat) (q6 : Option Addr) (q6l q6c : Nat) (w : World) (K : Value → World → Prop), S_girderlaw10_MatrixWhole N P q0 q1 q2 q3 q4 q4l q4c q5 q5l q5c q6 q6l q6c w K → CallsX P N.f_girderlaw10_MatrixWhole #[.int .i64 q0, .int .i64 q1, .int .i64 q2, .int .i64 q3, .slice q4 q4l q4c, .slice q5 q5l q5c, .slice q6 q6l q6c] w K

def Ok_girderlaw10_MatrixTurns (N : Nums) (P : Program) : Prop := ∀ (q0 : Int) (q1 : Int) (q2 : Int) (q3 : Option Addr) (q3l q3c : Nat) (q4 : Option Addr) (q4l q4c : Nat) (w : World) (K : Value → World → Prop), S_girderlaw10_MatrixTurns N P q0 q1 q2 q3 q3l q3c q4 q4l q4c w K → CallsX P N.f_girderlaw10_MatrixTurns #[.int .i64 q0, .int .i64 q1, .int .i64 q2, .slice q3 q3l q3c, .slice q4 q4l q4c] w K

def Ok_girderlaw10_MatrixSizes (N : Nums) (P : Program) : Prop := ∀ (q0 : Int) (q1 : Int) (q2 : Option Addr) (q2l q2c : Nat) (q3 : Option Addr) (q3l q3c : Nat) (w : World) (K : Value → World → Prop), S_girderlaw10_MatrixSizes N P q0 q1 q2 q2l q2c q3 q3l q3c w K → CallsX P N.f_girderlaw10_MatrixSizes #[.int .i64 q0, .int .i64 q1, .slice q2 q2l q2c, .slice q3 q3l q3c] w K

def Ok_girderlaw10_MatrixTells (N : Nums) (P : Program) : Prop := ∀ (q0_0 : Int) (q0_1 : Int) (q0_2 : Option Addr) (q0_2l q0_2c : Nat) (q1_0 : Int) (q1_1 : Int) (q1_2 : Option Addr) (q1_2l q1_2c : Nat) (q2 : Int) (q3 : Int) (w : World) (K : Value → World → Prop), S_girderlaw10_MatrixTells N P q0_0 q0_1 q0_2 q0_2l q0_2c q1_0 q1_1 q1_2 q1_2l q1_2c q2 q3 w K → CallsX P N.f_girderlaw10_MatrixTells #[.agg #[.int .i64 q0_0, .int .i64 q0_1, .slice q0_2 q0_2l q0_2c], .agg #[.int .i64 q1_0, .int .i64 q1_1, .slice q1_2 q1_2l q1_2c], .int .i64 q2, .int .i64 q3] w K

def Ok_girderlaw10_MatrixNumbers (N : Nums) (P : Program) : Prop := ∀  (w : World) (K : Value → World → Prop), S_girderlaw10_MatrixNumbers N P  w K → CallsX P N.f_girderlaw10_MatrixNumbers #[] w K

def Ok_girderkit_LentMatrix (N : Nums) (P : Program) : Prop := ∀ (q0_0 : Int) (q0_1 : Int) (q0_2 : Option Addr) (q0_2l q0_2c : Nat) (w : World) (K : Value → World → Prop), S_girderkit_LentMatrix N P q0_0 q0_1 q0_2 q0_2l q0_2c w K → CallsX P N.f_girderkit_LentMatrix #[.agg #[.int .i64 q0_0, .int .i64 q0_1, .slice q0_2 q0_2l q0_2c]] w K

def Ok_girderkit_LentReals (N : Nums) (P : Program) : Prop := ∀ (q0 : Option Addr) (q0l q0c : Nat) (w : World) (K : Value → World → Prop), S_girderkit_LentReals N P q0 q0l q0c w K → CallsX P N.f_girderkit_LentReals #[.slice q0 q0l q0c] w K

def Ok_matrix_Mul (N : Nums) (P : Program) : Prop := ∀ (q0_0 : Int) (q0_1 : Int) (q0_2 : Option Addr) (q0_2l q0_2c : Nat) (q1_0 : Int) (q1_1 : Int) (q1_2 : Option Addr) (q1_2l q1_2c : Nat) (w : World) (K : Value → World → Prop), S_matrix_Mul N P q0_0 q0_1 q0_2 q0_2l q0_2c q1_0 q1_1 q1_2 q1_2l q1_2c w K → CallsX P N.f_matrix_Mul #[.agg #[.int .i64 q0_0, .int .i64 q0_1, .slice q0_2 q0_2l q0_2c], .agg #[.int .i64 q1_0, .int .i64 q1_1, .slice q1_2 q1_2l q1_2c]] w K

def Ok_girderref10_Mul (N : Nums) (P : Program) : Prop := ∀ (q0_0 : Int) (q0_1 : Int) (q0_2 : Option Addr) (q0_2l q0_2c : Nat) (q1_0 : Int) (q1_1 : Int) (q1_2 : Option Addr) (q1_2l q1_2c : Nat) (w : World) (K : Value → World → Prop), S_girderref10_Mul N P q0_0 q0_1 q0_2 q0_2l q0_2c q1_0 q1_1 q1_2 q1_2l q1_2c w K → CallsX P N.f_girderref10_Mul #[.agg #[.int .i64 q0_0, .int .i64 q0_1, .slice q0_2 q0_2l q0_2c], .agg #[.int .i64 q1_0, .int .i64 q1_1, .slice q1_2 q1_2l q1_2c]] w K

def Ok_matrix_Apply (N : Nums) (P : Program) : Prop := ∀ (q0_0 : Int) (q0_1 : Int) (q0_2 : Option Addr) (q0_2l q0_2c : Nat) (q1 : Option Addr) (q1l q1c : Nat) (w : World) (K : Value → World → Prop), S_matrix_Apply N P q0_0 q0_1 q0_2 q0_2l q0_2c q1 q1l q1c w K → CallsX P N.f_matrix_Apply #[.agg #[.int .i64 q0_0, .int .i64 q0_1, .slice q0_2 q0_2l q0_2c], .slice q1 q1l q1c] w K

def Ok_girderref10_Apply (N : Nums) (P : Program) : Prop := ∀ (q0_0 : Int) (q0_1 : Int) (q0_2 : Option Addr) (q0_2l q0_2c : Nat) (q1 : Option Addr) (q1l q1c : Nat) (w : World) (K : Value → World → Prop), S_girderref10_Apply N P q0_0 q0_1 q0_2 q0_2l q0_2c q1 q1l q1c w K → CallsX P N.f_girderref10_Apply #[.agg #[.int .i64 q0_0, .int .i64 q0_1, .slice q0_2 q0_2l q0_2c], .slice q1 q1l q1c] w K

def Ok_girderlaw10_is (N : Nums) (P : Program) : Prop := ∀ (q0_0 : Int) (q0_1 : Int) (q0_2 : Option Addr) (q0_2l q0_2c : Nat) (q1 : Int) (q2_0 : Int) (q2_1 : Int) (q2_2 : Option Addr) (q2_2l q2_2c : Nat) (q3 : Int) (w : World) (K : Value → World → Prop), S_girderlaw10_is N P q0_0 q0_1 q0_2 q0_2l q0_2c q1 q2_0 q2_1 q2_2 q2_2l q2_2c q3 w K → CallsX P N.f_girderlaw10_is #[.agg #[.int .i64 q0_0, .int .i64 q0_1, .slice q0_2 q0_2l q0_2c], .int .i64 q1, .agg #[.int .i64 q2_0, .int .i64 q2_1, .slice q2_2 q2_2l q2_2c], .int .i64 q3] w K

def Ok_girderkit_SameReals (N : Nums) (P : Program) : Prop := ∀ (q0 : Option Addr) (q0l q0c : Nat) (q1 : Option Addr) (q1l q1c : Nat) (w : World) (K : Value → World → Prop), S_girderkit_SameReals N P q0 q0l q0c q1 q1l q1c w K → CallsX P N.f_girderkit_SameReals #[.slice q0 q0l q0c, .slice q1 q1l q1c] w K

def Ok_girderkit_KeptMatrix (N : Nums) (P : Program) : Prop := ∀ (q0_0 : Int) (q0_1 : Int) (q0_2 : Option Addr) (q0_2l q0_2c : Nat) (q1_0 : Int) (q1_1 : Int) (q1_2 : Option Addr) (q1_2l q1_2c : Nat) (w : World) (K : Value → World → Prop), S_girderkit_KeptMatrix N P q0_0 q0_1 q0_2 q0_2l q0_2c q1_0 q1_1 q1_2 q1_2l q1_2c w K → CallsX P N.f_girderkit_KeptMatrix #[.agg #[.int .i64 q0_0, .int .i64 q0_1, .slice q0_2 q0_2l q0_2c], .agg #[.int .i64 q1_0, .int .i64 q1_1, .slice q1_2 q1_2l q1_2c]] w K

def Ok_girderkit_KeptReals (N : Nums) (P : Program) : Prop := ∀ (q0 : Option Addr) (q0l q0c : Nat) (q1 : Option Addr) (q1l q1c : Nat) (w : World) (K : Value → World → Prop), S_girderkit_KeptReals N P q0 q0l q0c q1 q1l q1c w K → CallsX P N.f_girderkit_KeptReals #[.slice q0 q0l q0c, .slice q1 q1l q1c] w K

def Ok_girderlaw10_awake (N : Nums) (P : Program) : Prop := ∀  (w : World) (K : Value → World → Prop), S_girderlaw10_awake N P  w K → CallsX P N.f_girderlaw10_awake #[] w K

def Ok_girderlaw10_laid (N : Nums) (P : Program) : Prop := ∀ (q0 : Int) (q1 : Int) (q2 : Option Addr) (q2l q2c : Nat) (q3 : Bool) (w : World) (K : Value → World → Prop), S_girderlaw10_laid N P q0 q1 q2 q2l q2c q3 w K → CallsX P N.f_girderlaw10_laid #[.int .i64 q0, .int .i64 q1, .slice q2 q2l q2c, .bool q3] w K

def Ok_matrix_Identity (N : Nums) (P : Program) : Prop := ∀ (q0 : Int) (w : World) (K : Value → World → Prop), S_matrix_Identity N P q0 w K → CallsX P N.f_matrix_Identity #[.int .i64 q0] w K

def Ok_matrix_Sub (N : Nums) (P : Program) : Prop := ∀ (q0_0 : Int) (q0_1 : Int) (q0_2 : Option Addr) (q0_2l q0_2c : Nat) (q1_0 : Int) (q1_1 : Int) (q1_2 : Option Addr) (q1_2l q1_2c : Nat) (w : World) (K : Value → World → Prop), S_matrix_Sub N P q0_0 q0_1 q0_2 q0_2l q0_2c q1_0 q1_1 q1_2 q1_2l q1_2c w K → CallsX P N.f_matrix_Sub #[.agg #[.int .i64 q0_0, .int .i64 q0_1, .slice q0_2 q0_2l q0_2c], .agg #[.int .i64 q1_0, .int .i64 q1_1, .slice q1_2 q1_2l q1_2c]] w K

def Ok_girderlaw10_finite (N : Nums) (P : Program) : Prop := ∀ (q0 : Option Addr) (q0l q0c : Nat) (w : World) (K : Value → World → Prop), S_girderlaw10_finite N P q0 q0l q0c w K → CallsX P N.f_girderlaw10_finite #[.slice q0 q0l q0c] w K

def Ok_girderkit_SameFloat (N : Nums) (P : Program) : Prop := ∀ (q0 : Nat) (q1 : Nat) (w : World) (K : Value → World → Prop), S_girderkit_SameFloat N P q0 q1 w K → CallsX P N.f_girderkit_SameFloat #[.float .f64 q0, .float .f64 q1] w K

def Ok_matrix_Transpose (N : Nums) (P : Program) : Prop := ∀ (q0_0 : Int) (q0_1 : Int) (q0_2 : Option Addr) (q0_2l q0_2c : Nat) (w : World) (K : Value → World → Prop), S_matrix_Transpose N P q0_0 q0_1 q0_2 q0_2l q0_2c w K → CallsX P N.f_matrix_Transpose #[.agg #[.int .i64 q0_0, .int .i64 q0_1, .slice q0_2 q0_2l q0_2c]] w K

def Ok_girderkit_SameMatrix (N : Nums) (P : Program) : Prop := ∀ (q0_0 : Int) (q0_1 : Int) (q0_2 : Option Addr) (q0_2l q0_2c : Nat) (q1_0 : Int) (q1_1 : Int) (q1_2 : Option Addr) (q1_2l q1_2c : Nat) (w : World) (K : Value → World → Prop), S_girderkit_SameMatrix N P q0_0 q0_1 q0_2 q0_2l q0_2c q1_0 q1_1 q1_2 q1_2l q1_2c w K → CallsX P N.f_girderkit_SameMatrix #[.agg #[.int .i64 q0_0, .int .i64 q0_1, .slice q0_2 q0_2l q0_2c], .agg #[.int .i64 q1_0, .int .i64 q1_1, .slice q1_2 q1_2l q1_2c]] w K

def Ok_matrix_Same (N : Nums) (P : Program) : Prop := ∀ (q0_0 : Int) (q0_1 : Int) (q0_2 : Option Addr) (q0_2l q0_2c : Nat) (q1_0 : Int) (q1_1 : Int) (q1_2 : Option Addr) (q1_2l q1_2c : Nat) (w : World) (K : Value → World → Prop), S_matrix_Same N P q0_0 q0_1 q0_2 q0_2l q0_2c q1_0 q1_1 q1_2 q1_2l q1_2c w K → CallsX P N.f_matrix_Same #[.agg #[.int .i64 q0_0, .int .i64 q0_1, .slice q0_2 q0_2l q0_2c], .agg #[.int .i64 q1_0, .int .i64 q1_1, .slice q1_2 q1_2l q1_2c]] w K

def Ok_matrix_Symmetric (N : Nums) (P : Program) : Prop := ∀ (q0_0 : Int) (q0_1 : Int) (q0_2 : Option Addr) (q0_2l q0_2c : Nat) (w : World) (K : Value → World → Prop), S_matrix_Symmetric N P q0_0 q0_1 q0_2 q0_2l q0_2c w K → CallsX P N.f_matrix_Symmetric #[.agg #[.int .i64 q0_0, .int .i64 q0_1, .slice q0_2 q0_2l q0_2c]] w K

def Ok_matrix_Norm (N : Nums) (P : Program) : Prop := ∀ (q0_0 : Int) (q0_1 : Int) (q0_2 : Option Addr) (q0_2l q0_2c : Nat) (w : World) (K : Value → World → Prop), S_matrix_Norm N P q0_0 q0_1 q0_2 q0_2l q0_2c w K → CallsX P N.f_matrix_Norm #[.agg #[.int .i64 q0_0, .int .i64 q0_1, .slice q0_2 q0_2l q0_2c]] w K

def Ok_girderlaw10_of (N : Nums) (P : Program) : Prop := ∀ (q0 : Int) (q1 : Int) (q2 : Option Addr) (q2l q2c : Nat) (w : World) (K : Value → World → Prop), S_girderlaw10_of N P q0 q1 q2 q2l q2c w K → CallsX P N.f_girderlaw10_of #[.int .i64 q0, .int .i64 q1, .slice q2 q2l q2c] w K

def Ok_girderkit_CopyReals (N : Nums) (P : Program) : Prop := ∀ (q0 : Option Addr) (q0l q0c : Nat) (w : World) (K : Value → World → Prop), S_girderkit_CopyReals N P q0 q0l q0c w K → CallsX P N.f_girderkit_CopyReals #[.slice q0 q0l q0c] w K

def Ok_matrix_Make (N : Nums) (P : Program) : Prop := ∀ (q0 : Int) (q1 : Int) (w : World) (K : Value → World → Prop), S_matrix_Make N P q0 q1 w K → CallsX P N.f_matrix_Make #[.int .i64 q0, .int .i64 q1] w K

def Ok_girderref10_Make (N : Nums) (P : Program) : Prop := ∀ (q0 : Int) (q1 : Int) (w : World) (K : Value → World → Prop), S_girderref10_Make N P q0 q1 w K → CallsX P N.f_girderref10_Make #[.int .i64 q0, .int .i64 q1] w K

def Ok_girderref10_Identity (N : Nums) (P : Program) : Prop := ∀ (q0 : Int) (w : World) (K : Value → World → Prop), S_girderref10_Identity N P q0 w K → CallsX P N.f_girderref10_Identity #[.int .i64 q0] w K

def Ok_matrix_Right (N : Nums) (P : Program) : Prop := ∀ (q0_0 : Int) (q0_1 : Int) (q0_2 : Option Addr) (q0_2l q0_2c : Nat) (w : World) (K : Value → World → Prop), S_matrix_Right N P q0_0 q0_1 q0_2 q0_2l q0_2c w K → CallsX P N.f_matrix_Right #[.agg #[.int .i64 q0_0, .int .i64 q0_1, .slice q0_2 q0_2l q0_2c]] w K

def Ok_girderref10_Right (N : Nums) (P : Program) : Prop := ∀ (q0_0 : Int) (q0_1 : Int) (q0_2 : Option Addr) (q0_2l q0_2c : Nat) (w : World) (K : Value → World → Prop), S_girderref10_Right N P q0_0 q0_1 q0_2 q0_2l q0_2c w K → CallsX P N.f_girderref10_Right #[.agg #[.int .i64 q0_0, .int .i64 q0_1, .slice q0_2 q0_2l q0_2c]] w K

def Ok_girderref10_Same (N : Nums) (P : Program) : Prop := ∀ (q0_0 : Int) (q0_1 : Int) (q0_2 : Option Addr) (q0_2l q0_2c : Nat) (q1_0 : Int) (q1_1 : Int) (q1_2 : Option Addr) (q1_2l q1_2c : Nat) (w : World) (K : Value → World → Prop), S_girderref10_Same N P q0_0 q0_1 q0_2 q0_2l q0_2c q1_0 q1_1 q1_2 q1_2l q1_2c w K → CallsX P N.f_girderref10_Same #[.agg #[.int .i64 q0_0, .int .i64 q0_1, .slice q0_2 q0_2l q0_2c], .agg #[.int .i64 q1_0, .int .i64 q1_1, .slice q1_2 q1_2l q1_2c]] w K

def Ok_girderref10_Symmetric (N : Nums) (P : Program) : Prop := ∀ (q0_0 : Int) (q0_1 : Int) (q0_2 : Option Addr) (q0_2l q0_2c : Nat) (w : World) (K : Value → World → Prop), S_girderref10_Symmetric N P q0_0 q0_1 q0_2 q0_2l q0_2c w K → CallsX P N.f_girderref10_Symmetric #[.agg #[.int .i64 q0_0, .int .i64 q0_1, .slice q0_2 q0_2l q0_2c]] w K

def Ok_girderref10_Transpose (N : Nums) (P : Program) : Prop := ∀ (q0_0 : Int) (q0_1 : Int) (q0_2 : Option Addr) (q0_2l q0_2c : Nat) (w : World) (K : Value → World → Prop), S_girderref10_Transpose N P q0_0 q0_1 q0_2 q0_2l q0_2c w K → CallsX P N.f_girderref10_Transpose #[.agg #[.int .i64 q0_0, .int .i64 q0_1, .slice q0_2 q0_2l q0_2c]] w K

def Ok_girderref10_Sub (N : Nums) (P : Program) : Prop := ∀ (q0_0 : Int) (q0_1 : Int) (q0_2 : Option Addr) (q0_2l q0_2c : Nat) (q1_0 : Int) (q1_1 : Int) (q1_2 : Option Addr) (q1_2l q1_2c : Nat) (w : World) (K : Value → World → Prop), S_girderref10_Sub N P q0_0 q0_1 q0_2 q0_2l q0_2c q1_0 q1_1 q1_2 q1_2l q1_2c w K → CallsX P N.f_girderref10_Sub #[.agg #[.int .i64 q0_0, .int .i64 q0_1, .slice q0_2 q0_2l q0_2c], .agg #[.int .i64 q1_0, .int .i64 q1_1, .slice q1_2 q1_2l q1_2c]] w K

def Ok_girderref10_Norm (N : Nums) (P : Program) : Prop := ∀ (q0_0 : Int) (q0_1 : Int) (q0_2 : Option Addr) (q0_2l q0_2c : Nat) (w : World) (K : Value → World → Prop), S_girderref10_Norm N P q0_0 q0_1 q0_2 q0_2l q0_2c w K → CallsX P N.f_girderref10_Norm #[.agg #[.int .i64 q0_0, .int .i64 q0_1, .slice q0_2 q0_2l q0_2c]] w K

def Ok_math_Copysign (N : Nums) (P : Program) : Prop := ∀ (q0 : Nat) (q1 : Nat) (w : World) (K : Value → World → Prop), S_math_Copysign N P q0 q1 w K → CallsX P N.f_math_Copysign #[.float .f64 q0, .float .f64 q1] w K

def Ok_math_Inf (N : Nums) (P : Program) : Prop := ∀ (q0 : Int) (w : World) (K : Value → World → Prop), S_math_Inf N P q0 w K → CallsX P N.f_math_Inf #[.int .i64 q0] w K

def Ok_math_NaN (N : Nums) (P : Program) : Prop := ∀  (w : World) (K : Value → World → Prop), S_math_NaN N P  w K → CallsX P N.f_math_NaN #[] w K

def Ok_girderkit_mark (N : Nums) (P : Program) : Prop := ∀ (q0 : Int) (q1 : Int) (w : World) (K : Value → World → Prop), S_girderkit_mark N P q0 q1 w K → CallsX P N.f_girderkit_mark #[.int .i64 q0, .int .i64 q1] w K

def Ok_matrix_laid (N : Nums) (P : Program) : Prop := ∀ (q0 : Int) (q1 : Int) (q2 : Value) (w : World) (K : Value → World → Prop), S_matrix_laid N P q0 q1 q2 w K → CallsX P N.f_matrix_laid #[.int .i64 q0, .int .i64 q1, q2] w K

def Ok_matrix_Mul_1 (N : Nums) (P : Program) : Prop := ∀ (q0 : Int) (q1 : Int) (q2 : Option Addr) (q3 : Option Addr) (w : World) (K : Value → World → Prop), S_matrix_Mul_1 N P q0 q1 q2 q3 w K → CallsX P N.f_matrix_Mul_1 #[.int .i64 q0, .int .i64 q1, .pointer q2, .pointer q3] w K

def Ok_girderref10_At (N : Nums) (P : Program) : Prop := ∀ (q0_0 : Int) (q0_1 : Int) (q0_2 : Option Addr) (q0_2l q0_2c : Nat) (q1 : Int) (q2 : Int) (w : World) (K : Value → World → Prop), S_girderref10_At N P q0_0 q0_1 q0_2 q0_2l q0_2c q1 q2 w K → CallsX P N.f_girderref10_At #[.agg #[.int .i64 q0_0, .int .i64 q0_1, .slice q0_2 q0_2l q0_2c], .int .i64 q1, .int .i64 q2] w K

def Ok_girderkit_Pick (N : Nums) (P : Program) : Prop := ∀ (q0 : Int) (q1 : Int) (w : World) (K : Value → World → Prop), S_girderkit_Pick N P q0 q1 w K → CallsX P N.f_girderkit_Pick #[.int .i64 q0, .int .i64 q1] w K

def Ok_matrix_Sub_1 (N : Nums) (P : Program) : Prop := ∀ (q0 : Int) (q1 : Int) (q2 : Option Addr) (q3 : Option Addr) (w : World) (K : Value → World → Prop), S_matrix_Sub_1 N P q0 q1 q2 q3 w K → CallsX P N.f_matrix_Sub_1 #[.int .i64 q0, .int .i64 q1, .pointer q2, .pointer q3] w K

def Ok_matrix_Transpose_1 (N : Nums) (P : Program) : Prop := ∀ (q0 : Int) (q1 : Int) (q2 : Option Addr) (w : World) (K : Value → World → Prop), S_matrix_Transpose_1 N P q0 q1 q2 w K → CallsX P N.f_matrix_Transpose_1 #[.int .i64 q0, .int .i64 q1, .pointer q2] w K

def Ok_vector_Same (N : Nums) (P : Program) : Prop := ∀ (q0 : Option Addr) (q0l q0c : Nat) (q1 : Option Addr) (q1l q1c : Nat) (w : World) (K : Value → World → Prop), S_vector_Same N P q0 q0l q0c q1 q1l q1c w K → CallsX P N.f_vector_Same #[.slice q0 q0l q0c, .slice q1 q1l q1c] w K

def Ok_slices_ContainsFunc___float64_float64 (N : Nums) (P : Program) : Prop := ∀ (q0 : Option Addr) (q0l q0c : Nat) (q1 : Value) (w : World) (K : Value → World → Prop), S_slices_ContainsFunc___float64_float64 N P q0 q0l q0c q1 w K → CallsX P N.f_slices_ContainsFunc___float64_float64 #[.slice q0 q0l q0c, q1] w K

def Ok_matrix_Norm_1 (N : Nums) (P : Program) : Prop := ∀ (q0 : Nat) (w : World) (K : Value → World → Prop), S_matrix_Norm_1 N P q0 w K → CallsX P N.f_matrix_Norm_1 #[.float .f64 q0] w K

def Ok_vector_Norm (N : Nums) (P : Program) : Prop := ∀ (q0 : Option Addr) (q0l q0c : Nat) (w : World) (K : Value → World → Prop), S_vector_Norm N P q0 q0l q0c w K → CallsX P N.f_vector_Norm #[.slice q0 q0l q0c] w K

def Ok_matrix_fits (N : Nums) (P : Program) : Prop := ∀ (q0 : Int) (w : World) (K : Value → World → Prop), S_matrix_fits N P q0 w K → CallsX P N.f_matrix_fits #[.int .i64 q0] w K

def Ok_matrix_Make_1 (N : Nums) (P : Program) : Prop := ∀ (q0 : Int) (q1 : Int) (w : World) (K : Value → World → Prop), S_matrix_Make_1 N P q0 q1 w K → CallsX P N.f_matrix_Make_1 #[.int .i64 q0, .int .i64 q1] w K

def Ok_girderref10_may (N : Nums) (P : Program) : Prop := ∀ (q0 : Int) (w : World) (K : Value → World → Prop), S_girderref10_may N P q0 w K → CallsX P N.f_girderref10_may #[.int .i64 q0] w K

def Ok_girderref01_Same (N : Nums) (P : Program) : Prop := ∀ (q0 : Nat) (q1 : Nat) (w : World) (K : Value → World → Prop), S_girderref01_Same N P q0 q1 w K → CallsX P N.f_girderref01_Same #[.float .f64 q0, .float .f64 q1] w K

def Ok_girderref01_Finite (N : Nums) (P : Program) : Prop := ∀ (q0 : Nat) (w : World) (K : Value → World → Prop), S_girderref01_Finite N P q0 w K → CallsX P N.f_girderref01_Finite #[.float .f64 q0] w K

def Ok_girderref03_Add (N : Nums) (P : Program) : Prop := ∀ (q0 : Nat) (q1 : Nat) (q2 : Int) (w : World) (K : Value → World → Prop), S_girderref03_Add N P q0 q1 q2 w K → CallsX P N.f_girderref03_Add #[.float .f64 q0, .float .f64 q1, .int .i8 q2] w K

def Ok_math_IsNaN (N : Nums) (P : Program) : Prop := ∀ (q0 : Nat) (w : World) (K : Value → World → Prop), S_math_IsNaN N P q0 w K → CallsX P N.f_math_IsNaN #[.float .f64 q0] w K

def Ok_slices_IndexFunc___float64_float64 (N : Nums) (P : Program) : Prop := ∀ (q0 : Option Addr) (q0l q0c : Nat) (q1 : Value) (w : World) (K : Value → World → Prop), S_slices_IndexFunc___float64_float64 N P q0 q0l q0c q1 w K → CallsX P N.f_slices_IndexFunc___float64_float64 #[.slice q0 q0l q0c, q1] w K

def Ok_round_Add (N : Nums) (P : Program) : Prop := ∀ (q0 : Nat) (q1 : Nat) (q2 : Int) (w : World) (K : Value → World → Prop), S_round_Add N P q0 q1 q2 w K → CallsX P N.f_round_Add #[.float .f64 q0, .float .f64 q1, .int .i8 q2] w K

def Ok_math_Abs (N : Nums) (P : Program) : Prop := ∀ (q0 : Nat) (w : World) (K : Value → World → Prop), S_math_Abs N P q0 w K → CallsX P N.f_math_Abs #[.float .f64 q0] w K

def Ok_girderref01_Nan (N : Nums) (P : Program) : Prop := ∀ (q0 : Nat) (w : World) (K : Value → World → Prop), S_girderref01_Nan N P q0 w K → CallsX P N.f_girderref01_Nan #[.float .f64 q0] w K

def Ok_girderref01_Kind (N : Nums) (P : Program) : Prop := ∀ (q0 : Nat) (w : World) (K : Value → World → Prop), S_girderref01_Kind N P q0 w K → CallsX P N.f_girderref01_Kind #[.float .f64 q0] w K

def Ok_girderref03_Finite (N : Nums) (P : Program) : Prop := ∀ (q0 : Nat) (w : World) (K : Value → World → Prop), S_girderref03_Finite N P q0 w K → CallsX P N.f_girderref03_Finite #[.float .f64 q0] w K

def Ok_girderref03_great (N : Nums) (P : Program) : Prop := ∀ (q0 : Nat) (q1 : Int) (w : World) (K : Value → World → Prop), S_girderref03_great N P q0 q1 w K → CallsX P N.f_girderref03_great #[.float .f64 q0, .int .i8 q1] w K

def Ok_girderref03_nought (N : Nums) (P : Program) : Prop := ∀ (q0 : Bool) (q1 : Bool) (q2 : Nat) (q3 : Int) (w : World) (K : Value → World → Prop), S_girderref03_nought N P q0 q1 q2 q3 w K → CallsX P N.f_girderref03_nought #[.bool q0, .bool q1, .float .f64 q2, .int .i8 q3] w K

def Ok_math_Signbit (N : Nums) (P : Program) : Prop := ∀ (q0 : Nat) (w : World) (K : Value → World → Prop), S_math_Signbit N P q0 w K → CallsX P N.f_math_Signbit #[.float .f64 q0] w K

def Ok_girderref03_side (N : Nums) (P : Program) : Prop := ∀ (q0 : Nat) (q1 : Int) (q2 : Int) (w : World) (K : Value → World → Prop), S_girderref03_side N P q0 q1 q2 w K → CallsX P N.f_girderref03_side #[.float .f64 q0, .int .i64 q1, .int .i8 q2] w K

def Ok_girderref03_sign (N : Nums) (P : Program) : Prop := ∀ (q0 : Nat) (w : World) (K : Value → World → Prop), S_girderref03_sign N P q0 w K → CallsX P N.f_girderref03_sign #[.float .f64 q0] w K

def Ok_round_way (N : Nums) (P : Program) : Prop := ∀ (q0 : Int) (w : World) (K : Value → World → Prop), S_round_way N P q0 w K → CallsX P N.f_round_way #[.int .i8 q0] w K

def Ok_round_finite (N : Nums) (P : Program) : Prop := ∀ (q0 : Option Addr) (q0l q0c : Nat) (w : World) (K : Value → World → Prop), S_round_finite N P q0 q0l q0c w K → CallsX P N.f_round_finite #[.slice q0 q0l q0c] w K

def Ok_round_none (N : Nums) (P : Program) : Prop := ∀ (q0 : Int) (w : World) (K : Value → World → Prop), S_round_none N P q0 w K → CallsX P N.f_round_none #[.int .i8 q0] w K

def Ok_math_IsInf (N : Nums) (P : Program) : Prop := ∀ (q0 : Nat) (q1 : Int) (w : World) (K : Value → World → Prop), S_math_IsInf N P q0 q1 w K → CallsX P N.f_math_IsInf #[.float .f64 q0, .int .i64 q1] w K

def Ok_round_settle (N : Nums) (P : Program) : Prop := ∀ (q0 : Nat) (q1 : Int) (q2 : Int) (w : World) (K : Value → World → Prop), S_round_settle N P q0 q1 q2 w K → CallsX P N.f_round_settle #[.float .f64 q0, .int .i64 q1, .int .i8 q2] w K

def Ok_round_sign (N : Nums) (P : Program) : Prop := ∀ (q0 : Nat) (w : World) (K : Value → World → Prop), S_round_sign N P q0 w K → CallsX P N.f_round_sign #[.float .f64 q0] w K

def Ok_girderref01_fields (N : Nums) (P : Program) : Prop := ∀ (q0 : Nat) (w : World) (K : Value → World → Prop), S_girderref01_fields N P q0 w K → CallsX P N.f_girderref01_fields #[.float .f64 q0] w K

def Ok_girderref03_down (N : Nums) (P : Program) : Prop := ∀ (q0 : Nat) (w : World) (K : Value → World → Prop), S_girderref03_down N P q0 w K → CallsX P N.f_girderref03_down #[.float .f64 q0] w K

def Ok_girderref03_up (N : Nums) (P : Program) : Prop := ∀ (q0 : Nat) (w : World) (K : Value → World → Prop), S_girderref03_up N P q0 w K → CallsX P N.f_girderref03_up #[.float .f64 q0] w K

def Ok_round_step (N : Nums) (P : Program) : Prop := ∀ (q0 : Nat) (q1 : Bool) (w : World) (K : Value → World → Prop), S_round_step N P q0 q1 w K → CallsX P N.f_round_step #[.float .f64 q0, .bool q1] w K

def Ok_girderref03_further (N : Nums) (P : Program) : Prop := ∀ (q0 : Nat) (w : World) (K : Value → World → Prop), S_girderref03_further N P q0 w K → CallsX P N.f_girderref03_further #[.float .f64 q0] w K

def Ok_girderref03_nearer (N : Nums) (P : Program) : Prop := ∀ (q0 : Nat) (w : World) (K : Value → World → Prop), S_girderref03_nearer N P q0 w K → CallsX P N.f_girderref03_nearer #[.float .f64 q0] w K

def Ok_math_Float64bits (N : Nums) (P : Program) : Prop := ∀ (x : Nat) (w : World) (K : Value → World → Prop), K (.int .u64 x) w → CallsX P N.f_math_Float64bits #[.float .f64 x] w K

def Ok_math_Float64frombits (N : Nums) (P : Program) : Prop := ∀ (n : Int) (w : World) (K : Value → World → Prop), K (.float .f64 n.toNat) w → CallsX P N.f_math_Float64frombits #[.int .u64 n] w K

/-- All functions of the program come to what their propositions say. -/
structure AllOk (N : Nums) (P : Program) : Prop where
  girderlaw10_MatrixTimes : Ok_girderlaw10_MatrixTimes N P
  girderlaw10_MatrixWhole : Ok_girderlaw10_MatrixWhole N P
  girderlaw10_MatrixTurns : Ok_girderlaw10_MatrixTurns N P
  girderlaw10_MatrixSizes : Ok_girderlaw10_MatrixSizes N P
  girderlaw10_MatrixTells : Ok_girderlaw10_MatrixTells N P
  girderlaw10_MatrixNumbers : Ok_girderlaw10_MatrixNumbers N P
  girderkit_LentMatrix : Ok_girderkit_LentMatrix N P
  girderkit_LentReals : Ok_girderkit_LentReals N P
  matrix_Mul : Ok_matrix_Mul N P
  girderref10_Mul : Ok_girderref10_Mul N P
  matrix_Apply : Ok_matrix_Apply N P
  girderref10_Apply : Ok_girderref10_Apply N P
  girderlaw10_is : Ok_girderlaw10_is N P
  girderkit_SameReals : Ok_girderkit_SameReals N P
  girderkit_KeptMatrix : Ok_girderkit_KeptMatrix N P
  girderkit_KeptReals : Ok_girderkit_KeptReals N P
  girderlaw10_awake : Ok_girderlaw10_awake N P
  girderlaw10_laid : Ok_girderlaw10_laid N P
  matrix_Identity : Ok_matrix_Identity N P
  matrix_Sub : Ok_matrix_Sub N P
  girderlaw10_finite : Ok_girderlaw10_finite N P
  girderkit_SameFloat : Ok_girderkit_SameFloat N P
  matrix_Transpose : Ok_matrix_Transpose N P
  girderkit_SameMatrix : Ok_girderkit_SameMatrix N P
  matrix_Same : Ok_matrix_Same N P
  matrix_Symmetric : Ok_matrix_Symmetric N P
  matrix_Norm : Ok_matrix_Norm N P
  girderlaw10_of : Ok_girderlaw10_of N P
  girderkit_CopyReals : Ok_girderkit_CopyReals N P
  matrix_Make : Ok_matrix_Make N P
  girderref10_Make : Ok_girderref10_Make N P
  girderref10_Identity : Ok_girderref10_Identity N P
  matrix_Right : Ok_matrix_Right N P
  girderref10_Right : Ok_girderref10_Right N P
  girderref10_Same : Ok_girderref10_Same N P
  girderref10_Symmetric : Ok_girderref10_Symmetric N P
  girderref10_Transpose : Ok_girderref10_Transpose N P
  girderref10_Sub : Ok_girderref10_Sub N P
  girderref10_Norm : Ok_girderref10_Norm N P
  math_Copysign : Ok_math_Copysign N P
  math_Inf : Ok_math_Inf N P
  math_NaN : Ok_math_NaN N P
  girderkit_mark : Ok_girderkit_mark N P
  matrix_laid : Ok_matrix_laid N P
  matrix_Mul_1 : Ok_matrix_Mul_1 N P
  girderref10_At : Ok_girderref10_At N P
  girderkit_Pick : Ok_girderkit_Pick N P
  matrix_Sub_1 : Ok_matrix_Sub_1 N P
  matrix_Transpose_1 : Ok_matrix_Transpose_1 N P
  vector_Same : Ok_vector_Same N P
  slices_ContainsFunc___float64_float64 : Ok_slices_ContainsFunc___float64_float64 N P
  matrix_Norm_1 : Ok_matrix_Norm_1 N P
  vector_Norm : Ok_vector_Norm N P
  matrix_fits : Ok_matrix_fits N P
  matrix_Make_1 : Ok_matrix_Make_1 N P
  girderref10_may : Ok_girderref10_may N P
  girderref01_Same : Ok_girderref01_Same N P
  girderref01_Finite : Ok_girderref01_Finite N P
  girderref03_Add : Ok_girderref03_Add N P
  math_IsNaN : Ok_math_IsNaN N P
  slices_IndexFunc___float64_float64 : Ok_slices_IndexFunc___float64_float64 N P
  round_Add : Ok_round_Add N P
  math_Abs : Ok_math_Abs N P
  girderref01_Nan : Ok_girderref01_Nan N P
  girderref01_Kind : Ok_girderref01_Kind N P
  girderref03_Finite : Ok_girderref03_Finite N P
  girderref03_great : Ok_girderref03_great N P
  girderref03_nought : Ok_girderref03_nought N P
  math_Signbit : Ok_math_Signbit N P
  girderref03_side : Ok_girderref03_side N P
  girderref03_sign : Ok_girderref03_sign N P
  round_way : Ok_round_way N P
  round_finite : Ok_round_finite N P
  round_none : Ok_round_none N P
  math_IsInf : Ok_math_IsInf N P
  round_settle : Ok_round_settle N P
  round_sign : Ok_round_sign N P
  girderref01_fields : Ok_girderref01_fields N P
  girderref03_down : Ok_girderref03_down N P
  girderref03_up : Ok_girderref03_up N P
  round_step : Ok_round_step N P
  girderref03_further : Ok_girderref03_further N P
  girderref03_nearer : Ok_girderref03_nearer N P
  math_Float64bits : Ok_math_Float64bits N P
  math_Float64frombits : Ok_math_Float64frombits N P

end Go.Eng
