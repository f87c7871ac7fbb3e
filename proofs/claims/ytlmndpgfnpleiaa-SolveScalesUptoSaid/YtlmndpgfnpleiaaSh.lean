/-
  All that is asked of the propositions of the functions. No condition.
-/
import Derived.Test.YtlmndpgfnpleiaaSh1
set_option linter.unusedSimpArgs false
set_option linter.unnecessarySimpa false
set_option linter.unusedSectionVars false
set_option linter.unusedVariables false
set_option maxRecDepth 100000
namespace Go.Eng
open Go

def Ok_girderlaw13_SolveTells (N : Nums) (P : Program) : Prop := ∀ (q0_0 : Int) (q0_1 : Option Addr) (q0_1l q0_1c : Nat) (q0_2 : Option Addr) (q0_2l q0_2c : Nat) (q1 : Option Addr) (q1l q1c : Nat) (w : World) (K : Value → World → Prop), S_girderlaw13_SolveTells N P q0_0 q0_1 q0_1l q0_1c q0_2 q0_2l q0_2c q1 q1l q1c w K → CallsX P N.f_girderlaw13_SolveTells #[.agg #[.int .i64 q0_0, .slice q0_1 q0_1l q0_1c, .slice q0_2 q0_2l q0_2c], .slice q1 q1l q1c] w K

def Ok_girderlaw13_SolveWhole (N : Nums) (P : Program) : Prop := ∀ (q0 : Int) (q1 : Option Addr) (q1l q1c : Nat) (q2 : Option Addr) (q2l q2c : Nat) (w : World) (K : Value → World → Prop), S_girderlaw13_SolveWhole N P q0 q1 q1l q1c q2 q2l q2c w K → CallsX P N.f_girderlaw13_SolveWhole #[.int .i64 q0, .slice q1 q1l q1c, .slice q2 q2l q2c] w K

def Ok_girderlaw13_SolveTurns (N : Nums) (P : Program) : Prop := ∀ (q0_0 : Int) (q0_1 : Option Addr) (q0_1l q0_1c : Nat) (q0_2 : Option Addr) (q0_2l q0_2c : Nat) (q1 : Option Addr) (q1l q1c : Nat) (w : World) (K : Value → World → Prop), S_girderlaw13_SolveTurns N P q0_0 q0_1 q0_1l q0_1c q0_2 q0_2l q0_2c q1 q1l q1c w K → CallsX P N.f_girderlaw13_SolveTurns #[.agg #[.int .i64 q0_0, .slice q0_1 q0_1l q0_1c, .slice q0_2 q0_2l q0_2c], .slice q1 q1l q1c] w K

def Ok_girderlaw13_SolveScales (N : Nums) (P : Program) : Prop := ∀ (q0 : Int) (q1 : Option Addr) (q1l q1c : Nat) (q2 : Option Addr) (q2l q2c : Nat) (q3 : Option Addr) (q3l q3c : Nat) (q4 : Int) (w : World) (K : Value → World → Prop), S_girderlaw13_SolveScales N P q0 q1 q1l q1c q2 q2l q2c q3 q3l q3c q4 w K → CallsX P N.f_girderlaw13_SolveScales #[.int .i64 q0, .slice q1 q1l q1c, .slice q2 q2l q2c, .slice q3 q3l q3c, .int .i64 q4] w K

def Ok_girderlaw13_SolveNumbers (N : Nums) (P : Program) : Prop := ∀  (w : World) (K : Value → World → Prop), S_girderlaw13_SolveNumbers N P  w K → CallsX P N.f_girderlaw13_SolveNumbers #[] w K

def Ok_girderkit_LentFactor (N : Nums) (P : Program) : Prop := ∀ (q0_0 : Int) (q0_1 : Option Addr) (q0_1l q0_1c : Nat) (q0_2 : Option Addr) (q0_2l q0_2c : Nat) (w : World) (K : Value → World → Prop), S_girderkit_LentFactor N P q0_0 q0_1 q0_1l q0_1c q0_2 q0_2l q0_2c w K → CallsX P N.f_girderkit_LentFactor #[.agg #[.int .i64 q0_0, .slice q0_1 q0_1l q0_1c, .slice q0_2 q0_2l q0_2c]] w K

def Ok_girderkit_LentReals (N : Nums) (P : Program) : Prop := ∀ (q0 : Option Addr) (q0l q0c : Nat) (w : World) (K : Value → World → Prop), S_girderkit_LentReals N P q0 q0l q0c w K → CallsX P N.f_girderkit_LentReals #[.slice q0 q0l q0c] w K

def Ok_solve_Forward (N : Nums) (P : Program) : Prop := ∀ (q0_0 : Int) (q0_1 : Option Addr) (q0_1l q0_1c : Nat) (q0_2 : Option Addr) (q0_2l q0_2c : Nat) (q1 : Option Addr) (q1l q1c : Nat) (w : World) (K : Value → World → Prop), S_solve_Forward N P q0_0 q0_1 q0_1l q0_1c q0_2 q0_2l q0_2c q1 q1l q1c w K → CallsX P N.f_solve_Forward #[.agg #[.int .i64 q0_0, .slice q0_1 q0_1l q0_1c, .slice q0_2 q0_2l q0_2c], .slice q1 q1l q1c] w K

def Ok_girderref13_Forward (N : Nums) (P : Program) : Prop := ∀ (q0_0 : Int) (q0_1 : Option Addr) (q0_1l q0_1c : Nat) (q0_2 : Option Addr) (q0_2l q0_2c : Nat) (q1 : Option Addr) (q1l q1c : Nat) (w : World) (K : Value → World → Prop), S_girderref13_Forward N P q0_0 q0_1 q0_1l q0_1c q0_2 q0_2l q0_2c q1 q1l q1c w K → CallsX P N.f_girderref13_Forward #[.agg #[.int .i64 q0_0, .slice q0_1 q0_1l q0_1c, .slice q0_2 q0_2l q0_2c], .slice q1 q1l q1c] w K

def Ok_girderlaw13_is (N : Nums) (P : Program) : Prop := ∀ (q0 : Option Addr) (q0l q0c : Nat) (q1 : Int) (q2 : Option Addr) (q2l q2c : Nat) (q3 : Int) (w : World) (K : Value → World → Prop), S_girderlaw13_is N P q0 q0l q0c q1 q2 q2l q2c q3 w K → CallsX P N.f_girderlaw13_is #[.slice q0 q0l q0c, .int .i64 q1, .slice q2 q2l q2c, .int .i64 q3] w K

def Ok_solve_Back (N : Nums) (P : Program) : Prop := ∀ (q0_0 : Int) (q0_1 : Option Addr) (q0_1l q0_1c : Nat) (q0_2 : Option Addr) (q0_2l q0_2c : Nat) (q1 : Option Addr) (q1l q1c : Nat) (w : World) (K : Value → World → Prop), S_solve_Back N P q0_0 q0_1 q0_1l q0_1c q0_2 q0_2l q0_2c q1 q1l q1c w K → CallsX P N.f_solve_Back #[.agg #[.int .i64 q0_0, .slice q0_1 q0_1l q0_1c, .slice q0_2 q0_2l q0_2c], .slice q1 q1l q1c] w K

def Ok_girderref13_Back (N : Nums) (P : Program) : Prop := ∀ (q0_0 : Int) (q0_1 : Option Addr) (q0_1l q0_1c : Nat) (q0_2 : Option Addr) (q0_2l q0_2c : Nat) (q1 : Option Addr) (q1l q1c : Nat) (w : World) (K : Value → World → Prop), S_girderref13_Back N P q0_0 q0_1 q0_1l q0_1c q0_2 q0_2l q0_2c q1 q1l q1c w K → CallsX P N.f_girderref13_Back #[.agg #[.int .i64 q0_0, .slice q0_1 q0_1l q0_1c, .slice q0_2 q0_2l q0_2c], .slice q1 q1l q1c] w K

def Ok_solve_Solve (N : Nums) (P : Program) : Prop := ∀ (q0_0 : Int) (q0_1 : Option Addr) (q0_1l q0_1c : Nat) (q0_2 : Option Addr) (q0_2l q0_2c : Nat) (q1 : Option Addr) (q1l q1c : Nat) (w : World) (K : Value → World → Prop), S_solve_Solve N P q0_0 q0_1 q0_1l q0_1c q0_2 q0_2l q0_2c q1 q1l q1c w K → CallsX P N.f_solve_Solve #[.agg #[.int .i64 q0_0, .slice q0_1 q0_1l q0_1c, .slice q0_2 q0_2l q0_2c], .slice q1 q1l q1c] w K

def Ok_girderref13_Solve (N : Nums) (P : Program) : Prop := ∀ (q0_0 : Int) (q0_1 : Option Addr) (q0_1l q0_1c : Nat) (q0_2 : Option Addr) (q0_2l q0_2c : Nat) (q1 : Option Addr) (q1l q1c : Nat) (w : World) (K : Value → World → Prop), S_girderref13_Solve N P q0_0 q0_1 q0_1l q0_1c q0_2 q0_2l q0_2c q1 q1l q1c w K → CallsX P N.f_girderref13_Solve #[.agg #[.int .i64 q0_0, .slice q0_1 q0_1l q0_1c, .slice q0_2 q0_2l q0_2c], .slice q1 q1l q1c] w K

def Ok_solve_Inverse (N : Nums) (P : Program) : Prop := ∀ (q0_0 : Int) (q0_1 : Option Addr) (q0_1l q0_1c : Nat) (q0_2 : Option Addr) (q0_2l q0_2c : Nat) (w : World) (K : Value → World → Prop), S_solve_Inverse N P q0_0 q0_1 q0_1l q0_1c q0_2 q0_2l q0_2c w K → CallsX P N.f_solve_Inverse #[.agg #[.int .i64 q0_0, .slice q0_1 q0_1l q0_1c, .slice q0_2 q0_2l q0_2c]] w K

def Ok_girderref13_Inverse (N : Nums) (P : Program) : Prop := ∀ (q0_0 : Int) (q0_1 : Option Addr) (q0_1l q0_1c : Nat) (q0_2 : Option Addr) (q0_2l q0_2c : Nat) (w : World) (K : Value → World → Prop), S_girderref13_Inverse N P q0_0 q0_1 q0_1l q0_1c q0_2 q0_2l q0_2c w K → CallsX P N.f_girderref13_Inverse #[.agg #[.int .i64 q0_0, .slice q0_1 q0_1l q0_1c, .slice q0_2 q0_2l q0_2c]] w K

def Ok_girderkit_SameMatrix (N : Nums) (P : Program) : Prop := ∀ (q0_0 : Int) (q0_1 : Int) (q0_2 : Option Addr) (q0_2l q0_2c : Nat) (q1_0 : Int) (q1_1 : Int) (q1_2 : Option Addr) (q1_2l q1_2c : Nat) (w : World) (K : Value → World → Prop), S_girderkit_SameMatrix N P q0_0 q0_1 q0_2 q0_2l q0_2c q1_0 q1_1 q1_2 q1_2l q1_2c w K → CallsX P N.f_girderkit_SameMatrix #[.agg #[.int .i64 q0_0, .int .i64 q0_1, .slice q0_2 q0_2l q0_2c], .agg #[.int .i64 q1_0, .int .i64 q1_1, .slice q1_2 q1_2l q1_2c]] w K

def Ok_girderkit_KeptFactor (N : Nums) (P : Program) : Prop := ∀ (q0_0 : Int) (q0_1 : Option Addr) (q0_1l q0_1c : Nat) (q0_2 : Option Addr) (q0_2l q0_2c : Nat) (q1_0 : Int) (q1_1 : Option Addr) (q1_1l q1_1c : Nat) (q1_2 : Option Addr) (q1_2l q1_2c : Nat) (w : World) (K : Value → World → Prop), S_girderkit_KeptFactor N P q0_0 q0_1 q0_1l q0_1c q0_2 q0_2l q0_2c q1_0 q1_1 q1_1l q1_1c q1_2 q1_2l q1_2c w K → CallsX P N.f_girderkit_KeptFactor #[.agg #[.int .i64 q0_0, .slice q0_1 q0_1l q0_1c, .slice q0_2 q0_2l q0_2c], .agg #[.int .i64 q1_0, .slice q1_1 q1_1l q1_1c, .slice q1_2 q1_2l q1_2c]] w K

def Ok_girderkit_KeptReals (N : Nums) (P : Program) : Prop := ∀ (q0 : Option Addr) (q0l q0c : Nat) (q1 : Option Addr) (q1l q1c : Nat) (w : World) (K : Value → World → Prop), S_girderkit_KeptReals N P q0 q0l q0c q1 q1l q1c w K → CallsX P N.f_girderkit_KeptReals #[.slice q0 q0l q0c, .slice q1 q1l q1c] w K

def Ok_girderlaw13_awake (N : Nums) (P : Program) : Prop := ∀  (w : World) (K : Value → World → Prop), S_girderlaw13_awake N P  w K → CallsX P N.f_girderlaw13_awake #[] w K

def Ok_girderlaw13_whole (N : Nums) (P : Program) : Prop := ∀ (q0 : Int) (q1 : Option Addr) (q1l q1c : Nat) (w : World) (K : Value → World → Prop), S_girderlaw13_whole N P q0 q1 q1l q1c w K → CallsX P N.f_girderlaw13_whole #[.int .i64 q0, .slice q1 q1l q1c] w K

def Ok_girderlaw13_at (N : Nums) (P : Program) : Prop := ∀ (q0 : Option Addr) (q0l q0c : Nat) (q1 : Int) (q2 : Int) (w : World) (K : Value → World → Prop), S_girderlaw13_at N P q0 q0l q0c q1 q2 w K → CallsX P N.f_girderlaw13_at #[.slice q0 q0l q0c, .int .i64 q1, .int .i64 q2] w K

def Ok_girderlaw13_entry (N : Nums) (P : Program) : Prop := ∀ (q0_0 : Int) (q0_1 : Option Addr) (q0_1l q0_1c : Nat) (q0_2 : Option Addr) (q0_2l q0_2c : Nat) (q1 : Int) (q2 : Int) (w : World) (K : Value → World → Prop), S_girderlaw13_entry N P q0_0 q0_1 q0_1l q0_1c q0_2 q0_2l q0_2c q1 q2 w K → CallsX P N.f_girderlaw13_entry #[.agg #[.int .i64 q0_0, .slice q0_1 q0_1l q0_1c, .slice q0_2 q0_2l q0_2c], .int .i64 q1, .int .i64 q2] w K

def Ok_girderlaw13_equal (N : Nums) (P : Program) : Prop := ∀ (q0 : Option Addr) (q0l q0c : Nat) (q1 : Option Addr) (q1l q1c : Nat) (w : World) (K : Value → World → Prop), S_girderlaw13_equal N P q0 q0l q0c q1 q1l q1c w K → CallsX P N.f_girderlaw13_equal #[.slice q0 q0l q0c, .slice q1 q1l q1c] w K

def Ok_girderkit_SameReals (N : Nums) (P : Program) : Prop := ∀ (q0 : Option Addr) (q0l q0c : Nat) (q1 : Option Addr) (q1l q1c : Nat) (w : World) (K : Value → World → Prop), S_girderkit_SameReals N P q0 q0l q0c q1 q1l q1c w K → CallsX P N.f_girderkit_SameReals #[.slice q0 q0l q0c, .slice q1 q1l q1c] w K

def Ok_girderlaw13_minus (N : Nums) (P : Program) : Prop := ∀ (q0 : Option Addr) (q0l q0c : Nat) (w : World) (K : Value → World → Prop), S_girderlaw13_minus N P q0 q0l q0c w K → CallsX P N.f_girderlaw13_minus #[.slice q0 q0l q0c] w K

def Ok_girderkit_SameFloat (N : Nums) (P : Program) : Prop := ∀ (q0 : Nat) (q1 : Nat) (w : World) (K : Value → World → Prop), S_girderkit_SameFloat N P q0 q1 w K → CallsX P N.f_girderkit_SameFloat #[.float .f64 q0, .float .f64 q1] w K

def Ok_girderkit_Pick (N : Nums) (P : Program) : Prop := ∀ (q0 : Int) (q1 : Int) (w : World) (K : Value → World → Prop), S_girderkit_Pick N P q0 q1 w K → CallsX P N.f_girderkit_Pick #[.int .i64 q0, .int .i64 q1] w K

def Ok_girderlaw13_tame (N : Nums) (P : Program) : Prop := ∀ (q0 : Nat) (w : World) (K : Value → World → Prop), S_girderlaw13_tame N P q0 w K → CallsX P N.f_girderlaw13_tame #[.float .f64 q0] w K

def Ok_girderlaw13_one (N : Nums) (P : Program) : Prop := ∀ (q0 : Nat) (w : World) (K : Value → World → Prop), S_girderlaw13_one N P q0 w K → CallsX P N.f_girderlaw13_one #[.float .f64 q0] w K

def Ok_math_Copysign (N : Nums) (P : Program) : Prop := ∀ (q0 : Nat) (q1 : Nat) (w : World) (K : Value → World → Prop), S_math_Copysign N P q0 q1 w K → CallsX P N.f_math_Copysign #[.float .f64 q0, .float .f64 q1] w K

def Ok_math_Inf (N : Nums) (P : Program) : Prop := ∀ (q0 : Int) (w : World) (K : Value → World → Prop), S_math_Inf N P q0 w K → CallsX P N.f_math_Inf #[.int .i64 q0] w K

def Ok_math_NaN (N : Nums) (P : Program) : Prop := ∀  (w : World) (K : Value → World → Prop), S_math_NaN N P  w K → CallsX P N.f_math_NaN #[] w K

def Ok_girderkit_mark (N : Nums) (P : Program) : Prop := ∀ (q0 : Int) (q1 : Int) (w : World) (K : Value → World → Prop), S_girderkit_mark N P q0 q1 w K → CallsX P N.f_girderkit_mark #[.int .i64 q0, .int .i64 q1] w K

def Ok_solve_fits (N : Nums) (P : Program) : Prop := ∀ (q0_0 : Int) (q0_1 : Option Addr) (q0_1l q0_1c : Nat) (q0_2 : Option Addr) (q0_2l q0_2c : Nat) (q1 : Int) (w : World) (K : Value → World → Prop), S_solve_fits N P q0_0 q0_1 q0_1l q0_1c q0_2 q0_2l q0_2c q1 w K → CallsX P N.f_solve_fits #[.agg #[.int .i64 q0_0, .slice q0_1 q0_1l q0_1c, .slice q0_2 q0_2l q0_2c], .int .i64 q1] w K

def Ok_slices_Clone___float64_float64 (N : Nums) (P : Program) : Prop := ∀ (q0 : Option Addr) (q0l q0c : Nat) (w : World) (K : Value → World → Prop), S_slices_Clone___float64_float64 N P q0 q0l q0c w K → CallsX P N.f_slices_Clone___float64_float64 #[.slice q0 q0l q0c] w K

def Ok_solve_below (N : Nums) (P : Program) : Prop := ∀ (q0_0 : Int) (q0_1 : Option Addr) (q0_1l q0_1c : Nat) (q0_2 : Option Addr) (q0_2l q0_2c : Nat) (q1 : Int) (q2 : Int) (w : World) (K : Value → World → Prop), S_solve_below N P q0_0 q0_1 q0_1l q0_1c q0_2 q0_2l q0_2c q1 q2 w K → CallsX P N.f_solve_below #[.agg #[.int .i64 q0_0, .slice q0_1 q0_1l q0_1c, .slice q0_2 q0_2l q0_2c], .int .i64 q1, .int .i64 q2] w K

def Ok_girderref13_Right (N : Nums) (P : Program) : Prop := ∀ (q0_0 : Int) (q0_1 : Option Addr) (q0_1l q0_1c : Nat) (q0_2 : Option Addr) (q0_2l q0_2c : Nat) (w : World) (K : Value → World → Prop), S_girderref13_Right N P q0_0 q0_1 q0_1l q0_1c q0_2 q0_2l q0_2c w K → CallsX P N.f_girderref13_Right #[.agg #[.int .i64 q0_0, .slice q0_1 q0_1l q0_1c, .slice q0_2 q0_2l q0_2c]] w K

def Ok_girderref13_at (N : Nums) (P : Program) : Prop := ∀ (q0_0 : Int) (q0_1 : Option Addr) (q0_1l q0_1c : Nat) (q0_2 : Option Addr) (q0_2l q0_2c : Nat) (q1 : Int) (q2 : Int) (w : World) (K : Value → World → Prop), S_girderref13_at N P q0_0 q0_1 q0_1l q0_1c q0_2 q0_2l q0_2c q1 q2 w K → CallsX P N.f_girderref13_at #[.agg #[.int .i64 q0_0, .slice q0_1 q0_1l q0_1c, .slice q0_2 q0_2l q0_2c], .int .i64 q1, .int .i64 q2] w K

def Ok_slices_Contains___float64_float64 (N : Nums) (P : Program) : Prop := ∀ (q0 : Option Addr) (q0l q0c : Nat) (q1 : Nat) (w : World) (K : Value → World → Prop), S_slices_Contains___float64_float64 N P q0 q0l q0c q1 w K → CallsX P N.f_slices_Contains___float64_float64 #[.slice q0 q0l q0c, .float .f64 q1] w K

def Ok_girderref13_zero (N : Nums) (P : Program) : Prop := ∀ (q0_0 : Int) (q0_1 : Option Addr) (q0_1l q0_1c : Nat) (q0_2 : Option Addr) (q0_2l q0_2c : Nat) (w : World) (K : Value → World → Prop), S_girderref13_zero N P q0_0 q0_1 q0_1l q0_1c q0_2 q0_2l q0_2c w K → CallsX P N.f_girderref13_zero #[.agg #[.int .i64 q0_0, .slice q0_1 q0_1l q0_1c, .slice q0_2 q0_2l q0_2c]] w K

def Ok_matrix_Identity (N : Nums) (P : Program) : Prop := ∀ (q0 : Int) (w : World) (K : Value → World → Prop), S_matrix_Identity N P q0 w K → CallsX P N.f_matrix_Identity #[.int .i64 q0] w K

def Ok_matrix_Transpose (N : Nums) (P : Program) : Prop := ∀ (q0_0 : Int) (q0_1 : Int) (q0_2 : Option Addr) (q0_2l q0_2c : Nat) (w : World) (K : Value → World → Prop), S_matrix_Transpose N P q0_0 q0_1 q0_2 q0_2l q0_2c w K → CallsX P N.f_matrix_Transpose #[.agg #[.int .i64 q0_0, .int .i64 q0_1, .slice q0_2 q0_2l q0_2c]] w K

def Ok_girderkit_SameFactor (N : Nums) (P : Program) : Prop := ∀ (q0_0 : Int) (q0_1 : Option Addr) (q0_1l q0_1c : Nat) (q0_2 : Option Addr) (q0_2l q0_2c : Nat) (q1_0 : Int) (q1_1 : Option Addr) (q1_1l q1_1c : Nat) (q1_2 : Option Addr) (q1_2l q1_2c : Nat) (w : World) (K : Value → World → Prop), S_girderkit_SameFactor N P q0_0 q0_1 q0_1l q0_1c q0_2 q0_2l q0_2c q1_0 q1_1 q1_1l q1_1c q1_2 q1_2l q1_2c w K → CallsX P N.f_girderkit_SameFactor #[.agg #[.int .i64 q0_0, .slice q0_1 q0_1l q0_1c, .slice q0_2 q0_2l q0_2c], .agg #[.int .i64 q1_0, .slice q1_1 q1_1l q1_1c, .slice q1_2 q1_2l q1_2c]] w K

def Ok_girderlaw13_two (N : Nums) (P : Program) : Prop := ∀  (w : World) (K : Value → World → Prop), S_girderlaw13_two N P  w K → CallsX P N.f_girderlaw13_two #[] w K

def Ok_lower_Right (N : Nums) (P : Program) : Prop := ∀ (q0_0 : Int) (q0_1 : Option Addr) (q0_1l q0_1c : Nat) (q0_2 : Option Addr) (q0_2l q0_2c : Nat) (w : World) (K : Value → World → Prop), S_lower_Right N P q0_0 q0_1 q0_1l q0_1c q0_2 q0_2l q0_2c w K → CallsX P N.f_lower_Right #[.agg #[.int .i64 q0_0, .slice q0_1 q0_1l q0_1c, .slice q0_2 q0_2l q0_2c]] w K

def Ok_slices_Index___float64_float64 (N : Nums) (P : Program) : Prop := ∀ (q0 : Option Addr) (q0l q0c : Nat) (q1 : Nat) (w : World) (K : Value → World → Prop), S_slices_Index___float64_float64 N P q0 q0l q0c q1 w K → CallsX P N.f_slices_Index___float64_float64 #[.slice q0 q0l q0c, .float .f64 q1] w K

def Ok_matrix_Make (N : Nums) (P : Program) : Prop := ∀ (q0 : Int) (q1 : Int) (w : World) (K : Value → World → Prop), S_matrix_Make N P q0 q1 w K → CallsX P N.f_matrix_Make #[.int .i64 q0, .int .i64 q1] w K

def Ok_matrix_Right (N : Nums) (P : Program) : Prop := ∀ (q0_0 : Int) (q0_1 : Int) (q0_2 : Option Addr) (q0_2l q0_2c : Nat) (w : World) (K : Value → World → Prop), S_matrix_Right N P q0_0 q0_1 q0_2 q0_2l q0_2c w K → CallsX P N.f_matrix_Right #[.agg #[.int .i64 q0_0, .int .i64 q0_1, .slice q0_2 q0_2l q0_2c]] w K

def Ok_matrix_laid (N : Nums) (P : Program) : Prop := ∀ (q0 : Int) (q1 : Int) (q2 : Value) (w : World) (K : Value → World → Prop), S_matrix_laid N P q0 q1 q2 w K → CallsX P N.f_matrix_laid #[.int .i64 q0, .int .i64 q1, q2] w K

def Ok_matrix_Transpose_1 (N : Nums) (P : Program) : Prop := ∀ (q0 : Int) (q1 : Int) (q2 : Option Addr) (w : World) (K : Value → World → Prop), S_matrix_Transpose_1 N P q0 q1 q2 w K → CallsX P N.f_matrix_Transpose_1 #[.int .i64 q0, .int .i64 q1, .pointer q2] w K

def Ok_matrix_fits (N : Nums) (P : Program) : Prop := ∀ (q0 : Int) (w : World) (K : Value → World → Prop), S_matrix_fits N P q0 w K → CallsX P N.f_matrix_fits #[.int .i64 q0] w K

def Ok_matrix_Make_1 (N : Nums) (P : Program) : Prop := ∀ (q0 : Int) (q1 : Int) (w : World) (K : Value → World → Prop), S_matrix_Make_1 N P q0 q1 w K → CallsX P N.f_matrix_Make_1 #[.int .i64 q0, .int .i64 q1] w K

def Ok_math_Float64bits (N : Nums) (P : Program) : Prop := ∀ (x : Nat) (w : World) (K : Value → World → Prop), K (.int .u64 x) w → CallsX P N.f_math_Float64bits #[.float .f64 x] w K

def Ok_math_Float64frombits (N : Nums) (P : Program) : Prop := ∀ (n : Int) (w : World) (K : Value → World → Prop), K (.float .f64 n.toNat) w → CallsX P N.f_math_Float64frombits #[.int .u64 n] w K

/-- All functions of the program come to what their propositions say. -/
structure AllOk (N : Nums) (P : Program) : Prop where
  girderlaw13_SolveTells : Ok_girderlaw13_SolveTells N P
  girderlaw13_SolveWhole : Ok_girderlaw13_SolveWhole N P
  girderlaw13_SolveTurns : Ok_girderlaw13_SolveTurns N P
  girderlaw13_SolveScales : Ok_girderlaw13_SolveScales N P
  girderlaw13_SolveNumbers : Ok_girderlaw13_SolveNumbers N P
  girderkit_LentFactor : Ok_girderkit_LentFactor N P
  girderkit_LentReals : Ok_girderkit_LentReals N P
  solve_Forward : Ok_solve_Forward N P
  girderref13_Forward : Ok_girderref13_Forward N P
  girderlaw13_is : Ok_girderlaw13_is N P
  solve_Back : Ok_solve_Back N P
  girderref13_Back : Ok_girderref13_Back N P
  solve_Solve : Ok_solve_Solve N P
  girderref13_Solve : Ok_girderref13_Solve N P
  solve_Inverse : Ok_solve_Inverse N P
  girderref13_Inverse : Ok_girderref13_Inverse N P
  girderkit_SameMatrix : Ok_girderkit_SameMatrix N P
  girderkit_KeptFactor : Ok_girderkit_KeptFactor N P
  girderkit_KeptReals : Ok_girderkit_KeptReals N P
  girderlaw13_awake : Ok_girderlaw13_awake N P
  girderlaw13_whole : Ok_girderlaw13_whole N P
  girderlaw13_at : Ok_girderlaw13_at N P
  girderlaw13_entry : Ok_girderlaw13_entry N P
  girderlaw13_equal : Ok_girderlaw13_equal N P
  girderkit_SameReals : Ok_girderkit_SameReals N P
  girderlaw13_minus : Ok_girderlaw13_minus N P
  girderkit_SameFloat : Ok_girderkit_SameFloat N P
  girderkit_Pick : Ok_girderkit_Pick N P
  girderlaw13_tame : Ok_girderlaw13_tame N P
  girderlaw13_one : Ok_girderlaw13_one N P
  math_Copysign : Ok_math_Copysign N P
  math_Inf : Ok_math_Inf N P
  math_NaN : Ok_math_NaN N P
  girderkit_mark : Ok_girderkit_mark N P
  solve_fits : Ok_solve_fits N P
  slices_Clone___float64_float64 : Ok_slices_Clone___float64_float64 N P
  solve_below : Ok_solve_below N P
  girderref13_Right : Ok_girderref13_Right N P
  girderref13_at : Ok_girderref13_at N P
  slices_Contains___float64_float64 : Ok_slices_Contains___float64_float64 N P
  girderref13_zero : Ok_girderref13_zero N P
  matrix_Identity : Ok_matrix_Identity N P
  matrix_Transpose : Ok_matrix_Transpose N P
  girderkit_SameFactor : Ok_girderkit_SameFactor N P
  girderlaw13_two : Ok_girderlaw13_two N P
  lower_Right : Ok_lower_Right N P
  slices_Index___float64_float64 : Ok_slices_Index___float64_float64 N P
  matrix_Make : Ok_matrix_Make N P
  matrix_Right : Ok_matrix_Right N P
  matrix_laid : Ok_matrix_laid N P
  matrix_Transpose_1 : Ok_matrix_Transpose_1 N P
  matrix_fits : Ok_matrix_fits N P
  matrix_Make_1 : Ok_matrix_Make_1 N P
  math_Float64bits : Ok_math_Float64bits N P
  math_Float64frombits : Ok_math_Float64frombits N P

end Go.Eng
