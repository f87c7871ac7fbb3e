/-
  All that is asked of the propositions of the functions. No condition.
-/
import Derived.Test.YtngioelenknhkaaSh1
set_option linter.unusedSimpArgs false
set_option linter.unnecessarySimpa false
set_option linter.unusedSectionVars false
set_option linter.unusedVariables false
set_option maxRecDepth 100000
namespace Go.Eng
open Go

def Ok_girderlaw09_VectorTells (N : Nums) (P : Program) : Prop := ∀ (q0 : Option Addr) (q0l q0c : Nat) (q1 : Option Addr) (q1l q1c : Nat) (w : World) (K : Value → World → Prop), S_girderlaw09_VectorTells N P q0 q0l q0c q1 q1l q1c w K → CallsX P N.f_girderlaw09_VectorTells #[.slice q0 q0l q0c, .slice q1 q1l q1c] w K

def Ok_girderlaw09_VectorSums (N : Nums) (P : Program) : Prop := ∀ (q0 : Nat) (q1 : Option Addr) (q1l q1c : Nat) (q2 : Option Addr) (q2l q2c : Nat) (w : World) (K : Value → World → Prop), S_girderlaw09_VectorSums N P q0 q1 q1l q1c q2 q2l q2c w K → CallsX P N.f_girderlaw09_VectorSums #[.float .f64 q0, .slice q1 q1l q1c, .slice q2 q2l q2c] w K

def Ok_girderlaw09_VectorLimits (N : Nums) (P : Program) : Prop := ∀  (w : World) (K : Value → World → Prop), S_girderlaw09_VectorLimits N P  w K → CallsX P N.f_girderlaw09_VectorLimits #[] w K

def Ok_girderlaw09_VectorEven (N : Nums) (P : Program) : Prop := ∀ (q0 : Option Addr) (q0l q0c : Nat) (q1 : Option Addr) (q1l q1c : Nat) (q2 : Int) (w : World) (K : Value → World → Prop), S_girderlaw09_VectorEven N P q0 q0l q0c q1 q1l q1c q2 w K → CallsX P N.f_girderlaw09_VectorEven #[.slice q0 q0l q0c, .slice q1 q1l q1c, .int .i64 q2] w K

def Ok_vector_Most (N : Nums) (P : Program) : Prop := ∀ (q0 : Option Addr) (q0l q0c : Nat) (w : World) (K : Value → World → Prop), S_vector_Most N P q0 q0l q0c w K → CallsX P N.f_vector_Most #[.slice q0 q0l q0c] w K

def Ok_girderref09_Most (N : Nums) (P : Program) : Prop := ∀ (q0 : Option Addr) (q0l q0c : Nat) (w : World) (K : Value → World → Prop), S_girderref09_Most N P q0 q0l q0c w K → CallsX P N.f_girderref09_Most #[.slice q0 q0l q0c] w K

def Ok_vector_Same (N : Nums) (P : Program) : Prop := ∀ (q0 : Option Addr) (q0l q0c : Nat) (q1 : Option Addr) (q1l q1c : Nat) (w : World) (K : Value → World → Prop), S_vector_Same N P q0 q0l q0c q1 q1l q1c w K → CallsX P N.f_vector_Same #[.slice q0 q0l q0c, .slice q1 q1l q1c] w K

def Ok_girderref09_Same (N : Nums) (P : Program) : Prop := ∀ (q0 : Option Addr) (q0l q0c : Nat) (q1 : Option Addr) (q1l q1c : Nat) (w : World) (K : Value → World → Prop), S_girderref09_Same N P q0 q0l q0c q1 q1l q1c w K → CallsX P N.f_girderref09_Same #[.slice q0 q0l q0c, .slice q1 q1l q1c] w K

def Ok_girderkit_SameFloat (N : Nums) (P : Program) : Prop := ∀ (q0 : Nat) (q1 : Nat) (w : World) (K : Value → World → Prop), S_girderkit_SameFloat N P q0 q1 w K → CallsX P N.f_girderkit_SameFloat #[.float .f64 q0, .float .f64 q1] w K

def Ok_vector_Norm (N : Nums) (P : Program) : Prop := ∀ (q0 : Option Addr) (q0l q0c : Nat) (w : World) (K : Value → World → Prop), S_vector_Norm N P q0 q0l q0c w K → CallsX P N.f_vector_Norm #[.slice q0 q0l q0c] w K

def Ok_girderref09_Norm (N : Nums) (P : Program) : Prop := ∀ (q0 : Option Addr) (q0l q0c : Nat) (w : World) (K : Value → World → Prop), S_girderref09_Norm N P q0 q0l q0c w K → CallsX P N.f_girderref09_Norm #[.slice q0 q0l q0c] w K

def Ok_girderlaw09_awake (N : Nums) (P : Program) : Prop := ∀  (w : World) (K : Value → World → Prop), S_girderlaw09_awake N P  w K → CallsX P N.f_girderlaw09_awake #[] w K

def Ok_vector_Add (N : Nums) (P : Program) : Prop := ∀ (q0 : Option Addr) (q0l q0c : Nat) (q1 : Option Addr) (q1l q1c : Nat) (w : World) (K : Value → World → Prop), S_vector_Add N P q0 q0l q0c q1 q1l q1c w K → CallsX P N.f_vector_Add #[.slice q0 q0l q0c, .slice q1 q1l q1c] w K

def Ok_girderref09_Add (N : Nums) (P : Program) : Prop := ∀ (q0 : Option Addr) (q0l q0c : Nat) (q1 : Option Addr) (q1l q1c : Nat) (w : World) (K : Value → World → Prop), S_girderref09_Add N P q0 q0l q0c q1 q1l q1c w K → CallsX P N.f_girderref09_Add #[.slice q0 q0l q0c, .slice q1 q1l q1c] w K

def Ok_vector_Sub (N : Nums) (P : Program) : Prop := ∀ (q0 : Option Addr) (q0l q0c : Nat) (q1 : Option Addr) (q1l q1c : Nat) (w : World) (K : Value → World → Prop), S_vector_Sub N P q0 q0l q0c q1 q1l q1c w K → CallsX P N.f_vector_Sub #[.slice q0 q0l q0c, .slice q1 q1l q1c] w K

def Ok_girderref09_Sub (N : Nums) (P : Program) : Prop := ∀ (q0 : Option Addr) (q0l q0c : Nat) (q1 : Option Addr) (q1l q1c : Nat) (w : World) (K : Value → World → Prop), S_girderref09_Sub N P q0 q0l q0c q1 q1l q1c w K → CallsX P N.f_girderref09_Sub #[.slice q0 q0l q0c, .slice q1 q1l q1c] w K

def Ok_girderkit_SameReals (N : Nums) (P : Program) : Prop := ∀ (q0 : Option Addr) (q0l q0c : Nat) (q1 : Option Addr) (q1l q1c : Nat) (w : World) (K : Value → World → Prop), S_girderkit_SameReals N P q0 q0l q0c q1 q1l q1c w K → CallsX P N.f_girderkit_SameReals #[.slice q0 q0l q0c, .slice q1 q1l q1c] w K

def Ok_vector_Axpy (N : Nums) (P : Program) : Prop := ∀ (q0 : Nat) (q1 : Option Addr) (q1l q1c : Nat) (q2 : Option Addr) (q2l q2c : Nat) (w : World) (K : Value → World → Prop), S_vector_Axpy N P q0 q1 q1l q1c q2 q2l q2c w K → CallsX P N.f_vector_Axpy #[.float .f64 q0, .slice q1 q1l q1c, .slice q2 q2l q2c] w K

def Ok_girderref09_Axpy (N : Nums) (P : Program) : Prop := ∀ (q0 : Nat) (q1 : Option Addr) (q1l q1c : Nat) (q2 : Option Addr) (q2l q2c : Nat) (w : World) (K : Value → World → Prop), S_girderref09_Axpy N P q0 q1 q1l q1c q2 q2l q2c w K → CallsX P N.f_girderref09_Axpy #[.float .f64 q0, .slice q1 q1l q1c, .slice q2 q2l q2c] w K

def Ok_vector_Dot (N : Nums) (P : Program) : Prop := ∀ (q0 : Option Addr) (q0l q0c : Nat) (q1 : Option Addr) (q1l q1c : Nat) (w : World) (K : Value → World → Prop), S_vector_Dot N P q0 q0l q0c q1 q1l q1c w K → CallsX P N.f_vector_Dot #[.slice q0 q0l q0c, .slice q1 q1l q1c] w K

def Ok_girderref09_Dot (N : Nums) (P : Program) : Prop := ∀ (q0 : Option Addr) (q0l q0c : Nat) (q1 : Option Addr) (q1l q1c : Nat) (w : World) (K : Value → World → Prop), S_girderref09_Dot N P q0 q0l q0c q1 q1l q1c w K → CallsX P N.f_girderref09_Dot #[.slice q0 q0l q0c, .slice q1 q1l q1c] w K

def Ok_vector_Scale (N : Nums) (P : Program) : Prop := ∀ (q0 : Nat) (q1 : Option Addr) (q1l q1c : Nat) (w : World) (K : Value → World → Prop), S_vector_Scale N P q0 q1 q1l q1c w K → CallsX P N.f_vector_Scale #[.float .f64 q0, .slice q1 q1l q1c] w K

def Ok_girderref09_Scale (N : Nums) (P : Program) : Prop := ∀ (q0 : Nat) (q1 : Option Addr) (q1l q1c : Nat) (w : World) (K : Value → World → Prop), S_girderref09_Scale N P q0 q1 q1l q1c w K → CallsX P N.f_girderref09_Scale #[.float .f64 q0, .slice q1 q1l q1c] w K

def Ok_girderkit_Edge (N : Nums) (P : Program) : Prop := ∀ (q0 : Int) (w : World) (K : Value → World → Prop), S_girderkit_Edge N P q0 w K → CallsX P N.f_girderkit_Edge #[.int .i64 q0] w K

def Ok_math_NaN (N : Nums) (P : Program) : Prop := ∀  (w : World) (K : Value → World → Prop), S_math_NaN N P  w K → CallsX P N.f_math_NaN #[] w K

def Ok_math_Abs (N : Nums) (P : Program) : Prop := ∀ (q0 : Nat) (w : World) (K : Value → World → Prop), S_math_Abs N P q0 w K → CallsX P N.f_math_Abs #[.float .f64 q0] w K

def Ok_math_Ldexp (N : Nums) (P : Program) : Prop := ∀ (q0 : Nat) (q1 : Int) (w : World) (K : Value → World → Prop), S_math_Ldexp N P q0 q1 w K → CallsX P N.f_math_Ldexp #[.float .f64 q0, .int .i64 q1] w K

def Ok_girderkit_Pick (N : Nums) (P : Program) : Prop := ∀ (q0 : Int) (q1 : Int) (w : World) (K : Value → World → Prop), S_girderkit_Pick N P q0 q1 w K → CallsX P N.f_girderkit_Pick #[.int .i64 q0, .int .i64 q1] w K

def Ok_girderkit_Like (N : Nums) (P : Program) : Prop := ∀ (q0 : Nat) (q1 : Nat) (w : World) (K : Value → World → Prop), S_girderkit_Like N P q0 q1 w K → CallsX P N.f_girderkit_Like #[.float .f64 q0, .float .f64 q1] w K

def Ok_math_IsNaN (N : Nums) (P : Program) : Prop := ∀ (q0 : Nat) (w : World) (K : Value → World → Prop), S_math_IsNaN N P q0 w K → CallsX P N.f_math_IsNaN #[.float .f64 q0] w K

def Ok_round_Add (N : Nums) (P : Program) : Prop := ∀ (q0 : Nat) (q1 : Nat) (q2 : Int) (w : World) (K : Value → World → Prop), S_round_Add N P q0 q1 q2 w K → CallsX P N.f_round_Add #[.float .f64 q0, .float .f64 q1, .int .i8 q2] w K

def Ok_girderref03_Add (N : Nums) (P : Program) : Prop := ∀ (q0 : Nat) (q1 : Nat) (q2 : Int) (w : World) (K : Value → World → Prop), S_girderref03_Add N P q0 q1 q2 w K → CallsX P N.f_girderref03_Add #[.float .f64 q0, .float .f64 q1, .int .i8 q2] w K

def Ok_math_Copysign (N : Nums) (P : Program) : Prop := ∀ (q0 : Nat) (q1 : Nat) (w : World) (K : Value → World → Prop), S_math_Copysign N P q0 q1 w K → CallsX P N.f_math_Copysign #[.float .f64 q0, .float .f64 q1] w K

def Ok_vector_each (N : Nums) (P : Program) : Prop := ∀ (q0 : Option Addr) (q0l q0c : Nat) (q1 : Option Addr) (q1l q1c : Nat) (q2 : Value) (w : World) (K : Value → World → Prop), S_vector_each N P q0 q0l q0c q1 q1l q1c q2 w K → CallsX P N.f_vector_each #[.slice q0 q0l q0c, .slice q1 q1l q1c, q2] w K

def Ok_vector_Add_1 (N : Nums) (P : Program) : Prop := ∀ (q0 : Nat) (q1 : Nat) (w : World) (K : Value → World → Prop), S_vector_Add_1 N P q0 q1 w K → CallsX P N.f_vector_Add_1 #[.float .f64 q0, .float .f64 q1] w K

def Ok_vector_Sub_1 (N : Nums) (P : Program) : Prop := ∀ (q0 : Nat) (q1 : Nat) (w : World) (K : Value → World → Prop), S_vector_Sub_1 N P q0 q1 w K → CallsX P N.f_vector_Sub_1 #[.float .f64 q0, .float .f64 q1] w K

def Ok_girderref09_Fit (N : Nums) (P : Program) : Prop := ∀ (q0 : Option Addr) (q0l q0c : Nat) (q1 : Option Addr) (q1l q1c : Nat) (w : World) (K : Value → World → Prop), S_girderref09_Fit N P q0 q0l q0c q1 q1l q1c w K → CallsX P N.f_girderref09_Fit #[.slice q0 q0l q0c, .slice q1 q1l q1c] w K

def Ok_vector_Axpy_1 (N : Nums) (P : Program) : Prop := ∀ (q0 : Nat) (q1 : Nat) (q2 : Option Addr) (w : World) (K : Value → World → Prop), S_vector_Axpy_1 N P q0 q1 q2 w K → CallsX P N.f_vector_Axpy_1 #[.float .f64 q0, .float .f64 q1, .pointer q2] w K

def Ok_vector_fit (N : Nums) (P : Program) : Prop := ∀ (q0 : Option Addr) (q0l q0c : Nat) (q1 : Option Addr) (q1l q1c : Nat) (w : World) (K : Value → World → Prop), S_vector_fit N P q0 q0l q0c q1 q1l q1c w K → CallsX P N.f_vector_fit #[.slice q0 q0l q0c, .slice q1 q1l q1c] w K

def Ok_math_Inf (N : Nums) (P : Program) : Prop := ∀ (q0 : Int) (w : World) (K : Value → World → Prop), S_math_Inf N P q0 w K → CallsX P N.f_math_Inf #[.int .i64 q0] w K

def Ok_math_ldexp (N : Nums) (P : Program) : Prop := ∀ (q0 : Nat) (q1 : Int) (w : World) (K : Value → World → Prop), S_math_ldexp N P q0 q1 w K → CallsX P N.f_math_ldexp #[.float .f64 q0, .int .i64 q1] w K

def Ok_round_way (N : Nums) (P : Program) : Prop := ∀ (q0 : Int) (w : World) (K : Value → World → Prop), S_round_way N P q0 w K → CallsX P N.f_round_way #[.int .i8 q0] w K

def Ok_round_finite (N : Nums) (P : Program) : Prop := ∀ (q0 : Option Addr) (q0l q0c : Nat) (w : World) (K : Value → World → Prop), S_round_finite N P q0 q0l q0c w K → CallsX P N.f_round_finite #[.slice q0 q0l q0c] w K

def Ok_math_Signbit (N : Nums) (P : Program) : Prop := ∀ (q0 : Nat) (w : World) (K : Value → World → Prop), S_math_Signbit N P q0 w K → CallsX P N.f_math_Signbit #[.float .f64 q0] w K

def Ok_round_none (N : Nums) (P : Program) : Prop := ∀ (q0 : Int) (w : World) (K : Value → World → Prop), S_round_none N P q0 w K → CallsX P N.f_round_none #[.int .i8 q0] w K

def Ok_math_IsInf (N : Nums) (P : Program) : Prop := ∀ (q0 : Nat) (q1 : Int) (w : World) (K : Value → World → Prop), S_math_IsInf N P q0 q1 w K → CallsX P N.f_math_IsInf #[.float .f64 q0, .int .i64 q1] w K

def Ok_round_settle (N : Nums) (P : Program) : Prop := ∀ (q0 : Nat) (q1 : Int) (q2 : Int) (w : World) (K : Value → World → Prop), S_round_settle N P q0 q1 q2 w K → CallsX P N.f_round_settle #[.float .f64 q0, .int .i64 q1, .int .i8 q2] w K

def Ok_round_sign (N : Nums) (P : Program) : Prop := ∀ (q0 : Nat) (w : World) (K : Value → World → Prop), S_round_sign N P q0 w K → CallsX P N.f_round_sign #[.float .f64 q0] w K

def Ok_girderref03_Finite (N : Nums) (P : Program) : Prop := ∀ (q0 : Nat) (w : World) (K : Value → World → Prop), S_girderref03_Finite N P q0 w K → CallsX P N.f_girderref03_Finite #[.float .f64 q0] w K

def Ok_girderref03_great (N : Nums) (P : Program) : Prop := ∀ (q0 : Nat) (q1 : Int) (w : World) (K : Value → World → Prop), S_girderref03_great N P q0 q1 w K → CallsX P N.f_girderref03_great #[.float .f64 q0, .int .i8 q1] w K

def Ok_girderref03_nought (N : Nums) (P : Program) : Prop := ∀ (q0 : Bool) (q1 : Bool) (q2 : Nat) (q3 : Int) (w : World) (K : Value → World → Prop), S_girderref03_nought N P q0 q1 q2 q3 w K → CallsX P N.f_girderref03_nought #[.bool q0, .bool q1, .float .f64 q2, .int .i8 q3] w K

def Ok_girderref03_side (N : Nums) (P : Program) : Prop := ∀ (q0 : Nat) (q1 : Int) (q2 : Int) (w : World) (K : Value → World → Prop), S_girderref03_side N P q0 q1 q2 w K → CallsX P N.f_girderref03_side #[.float .f64 q0, .int .i64 q1, .int .i8 q2] w K

def Ok_girderref03_sign (N : Nums) (P : Program) : Prop := ∀ (q0 : Nat) (w : World) (K : Value → World → Prop), S_girderref03_sign N P q0 w K → CallsX P N.f_girderref03_sign #[.float .f64 q0] w K

def Ok_math_normalize (N : Nums) (P : Program) : Prop := ∀ (q0 : Nat) (w : World) (K : Value → World → Prop), S_math_normalize N P q0 w K → CallsX P N.f_math_normalize #[.float .f64 q0] w K

def Ok_round_step (N : Nums) (P : Program) : Prop := ∀ (q0 : Nat) (q1 : Bool) (w : World) (K : Value → World → Prop), S_round_step N P q0 q1 w K → CallsX P N.f_round_step #[.float .f64 q0, .bool q1] w K

def Ok_girderref03_down (N : Nums) (P : Program) : Prop := ∀ (q0 : Nat) (w : World) (K : Value → World → Prop), S_girderref03_down N P q0 w K → CallsX P N.f_girderref03_down #[.float .f64 q0] w K

def Ok_girderref03_up (N : Nums) (P : Program) : Prop := ∀ (q0 : Nat) (w : World) (K : Value → World → Prop), S_girderref03_up N P q0 w K → CallsX P N.f_girderref03_up #[.float .f64 q0] w K

def Ok_girderref03_further (N : Nums) (P : Program) : Prop := ∀ (q0 : Nat) (w : World) (K : Value → World → Prop), S_girderref03_further N P q0 w K → CallsX P N.f_girderref03_further #[.float .f64 q0] w K

def Ok_girderref03_nearer (N : Nums) (P : Program) : Prop := ∀ (q0 : Nat) (w : World) (K : Value → World → Prop), S_girderref03_nearer N P q0 w K → CallsX P N.f_girderref03_nearer #[.float .f64 q0] w K

def Ok_math_Float64frombits (N : Nums) (P : Program) : Prop := ∀ (n : Int) (w : World) (K : Value → World → Prop), K (.float .f64 n.toNat) w → CallsX P N.f_math_Float64frombits #[.int .u64 n] w K

def Ok_math_Float64bits (N : Nums) (P : Program) : Prop := ∀ (x : Nat) (w : World) (K : Value → World → Prop), K (.int .u64 x) w → CallsX P N.f_math_Float64bits #[.float .f64 x] w K

/-- All functions of the program come to what their propositions say. -/
structure AllOk (N : Nums) (P : Program) : Prop where
  girderlaw09_VectorTells : Ok_girderlaw09_VectorTells N P
  girderlaw09_VectorSums : Ok_girderlaw09_VectorSums N P
  girderlaw09_VectorLimits : Ok_girderlaw09_VectorLimits N P
  girderlaw09_VectorEven : Ok_girderlaw09_VectorEven N P
  vector_Most : Ok_vector_Most N P
  girderref09_Most : Ok_girderref09_Most N P
  vector_Same : Ok_vector_Same N P
  girderref09_Same : Ok_girderref09_Same N P
  girderkit_SameFloat : Ok_girderkit_SameFloat N P
  vector_Norm : Ok_vector_Norm N P
  girderref09_Norm : Ok_girderref09_Norm N P
  girderlaw09_awake : Ok_girderlaw09_awake N P
  vector_Add : Ok_vector_Add N P
  girderref09_Add : Ok_girderref09_Add N P
  vector_Sub : Ok_vector_Sub N P
  girderref09_Sub : Ok_girderref09_Sub N P
  girderkit_SameReals : Ok_girderkit_SameReals N P
  vector_Axpy : Ok_vector_Axpy N P
  girderref09_Axpy : Ok_girderref09_Axpy N P
  vector_Dot : Ok_vector_Dot N P
  girderref09_Dot : Ok_girderref09_Dot N P
  vector_Scale : Ok_vector_Scale N P
  girderref09_Scale : Ok_girderref09_Scale N P
  girderkit_Edge : Ok_girderkit_Edge N P
  math_NaN : Ok_math_NaN N P
  math_Abs : Ok_math_Abs N P
  math_Ldexp : Ok_math_Ldexp N P
  girderkit_Pick : Ok_girderkit_Pick N P
  girderkit_Like : Ok_girderkit_Like N P
  math_IsNaN : Ok_math_IsNaN N P
  round_Add : Ok_round_Add N P
  girderref03_Add : Ok_girderref03_Add N P
  math_Copysign : Ok_math_Copysign N P
  vector_each : Ok_vector_each N P
  vector_Add_1 : Ok_vector_Add_1 N P
  vector_Sub_1 : Ok_vector_Sub_1 N P
  girderref09_Fit : Ok_girderref09_Fit N P
  vector_Axpy_1 : Ok_vector_Axpy_1 N P
  vector_fit : Ok_vector_fit N P
  math_Inf : Ok_math_Inf N P
  math_ldexp : Ok_math_ldexp N P
  round_way : Ok_round_way N P
  round_finite : Ok_round_finite N P
  math_Signbit : Ok_math_Signbit N P
  round_none : Ok_round_none N P
  math_IsInf : Ok_math_IsInf N P
  round_settle : Ok_round_settle N P
  round_sign : Ok_round_sign N P
  girderref03_Finite : Ok_girderref03_Finite N P
  girderref03_great : Ok_girderref03_great N P
  girderref03_nought : Ok_girderref03_nought N P
  girderref03_side : Ok_girderref03_side N P
  girderref03_sign : Ok_girderref03_sign N P
  math_normalize : Ok_math_normalize N P
  round_step : Ok_round_step N P
  girderref03_down : Ok_girderref03_down N P
  girderref03_up : Ok_girderref03_up N P
  girderref03_further : Ok_girderref03_further N P
  girderref03_nearer : Ok_girderref03_nearer N P
  math_Float64frombits : Ok_math_Float64frombits N P
  math_Float64bits : Ok_math_Float64bits N P

end Go.Eng
