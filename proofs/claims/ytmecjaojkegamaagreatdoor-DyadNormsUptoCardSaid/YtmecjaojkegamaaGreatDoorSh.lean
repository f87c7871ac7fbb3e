/-
  All that is asked of the propositions of the functions. No condition.
-/
import Derived.Test.YtmecjaojkegamaaGreatDoorSh1
import Derived.Lib.BitFns
set_option linter.unusedSimpArgs false
set_option linter.unnecessarySimpa false
set_option linter.unusedSectionVars false
set_option linter.unusedVariables false
set_option maxRecDepth 100000
namespace Go.Eng
open Go

def Ok_girderlaw02_DyadNorms (N : Nums) (P : Program) : Prop := ∀ (q0_0 : Bool) (q0_1 : Option Addr) (q0_1l q0_1c : Nat) (q0_2 : Int) (w : World) (K : Value → World → Prop), S_girderlaw02_DyadNorms N P q0_0 q0_1 q0_1l q0_1c q0_2 w K → CallsX P N.f_girderlaw02_DyadNorms #[.agg #[.bool q0_0, .slice q0_1 q0_1l q0_1c, .int .i64 q0_2]] w K

def Ok_girderlaw02_awake (N : Nums) (P : Program) : Prop := ∀  (w : World) (K : Value → World → Prop), S_girderlaw02_awake N P  w K → CallsX P N.f_girderlaw02_awake #[] w K

def Ok_girderkit_LentDyad (N : Nums) (P : Program) : Prop := ∀ (q0_0 : Bool) (q0_1 : Option Addr) (q0_1l q0_1c : Nat) (q0_2 : Int) (w : World) (K : Value → World → Prop), S_girderkit_LentDyad N P q0_0 q0_1 q0_1l q0_1c q0_2 w K → CallsX P N.f_girderkit_LentDyad #[.agg #[.bool q0_0, .slice q0_1 q0_1l q0_1c, .int .i64 q0_2]] w K

def Ok_dyad_Round (N : Nums) (P : Program) : Prop := ∀ (q0_0 : Bool) (q0_1 : Option Addr) (q0_1l q0_1c : Nat) (q0_2 : Int) (q1 : Int) (w : World) (K : Value → World → Prop), S_dyad_Round N P q0_0 q0_1 q0_1l q0_1c q0_2 q1 w K → CallsX P N.f_dyad_Round #[.agg #[.bool q0_0, .slice q0_1 q0_1l q0_1c, .int .i64 q0_2], .int .i8 q1] w K

def Ok_girderkit_KeptDyad (N : Nums) (P : Program) : Prop := ∀ (q0_0 : Bool) (q0_1 : Option Addr) (q0_1l q0_1c : Nat) (q0_2 : Int) (q1_0 : Bool) (q1_1 : Option Addr) (q1_1l q1_1c : Nat) (q1_2 : Int) (w : World) (K : Value → World → Prop), S_girderkit_KeptDyad N P q0_0 q0_1 q0_1l q0_1c q0_2 q1_0 q1_1 q1_1l q1_1c q1_2 w K → CallsX P N.f_girderkit_KeptDyad #[.agg #[.bool q0_0, .slice q0_1 q0_1l q0_1c, .int .i64 q0_2], .agg #[.bool q1_0, .slice q1_1 q1_1l q1_1c, .int .i64 q1_2]] w K

def Ok_dyad_Right (N : Nums) (P : Program) : Prop := ∀ (q0_0 : Bool) (q0_1 : Option Addr) (q0_1l q0_1c : Nat) (q0_2 : Int) (w : World) (K : Value → World → Prop), S_dyad_Right N P q0_0 q0_1 q0_1l q0_1c q0_2 w K → CallsX P N.f_dyad_Right #[.agg #[.bool q0_0, .slice q0_1 q0_1l q0_1c, .int .i64 q0_2]] w K

def Ok_dyad_Fits (N : Nums) (P : Program) : Prop := ∀ (q0_0 : Bool) (q0_1 : Option Addr) (q0_1l q0_1c : Nat) (q0_2 : Int) (w : World) (K : Value → World → Prop), S_dyad_Fits N P q0_0 q0_1 q0_1l q0_1c q0_2 w K → CallsX P N.f_dyad_Fits #[.agg #[.bool q0_0, .slice q0_1 q0_1l q0_1c, .int .i64 q0_2]] w K

def Ok_dyad_Norm (N : Nums) (P : Program) : Prop := ∀ (q0_0 : Bool) (q0_1 : Option Addr) (q0_1l q0_1c : Nat) (q0_2 : Int) (w : World) (K : Value → World → Prop), S_dyad_Norm N P q0_0 q0_1 q0_1l q0_1c q0_2 w K → CallsX P N.f_dyad_Norm #[.agg #[.bool q0_0, .slice q0_1 q0_1l q0_1c, .int .i64 q0_2]] w K

def Ok_girderkit_OverDyad (N : Nums) (P : Program) : Prop := ∀ (q0_0 : Bool) (q0_1 : Option Addr) (q0_1l q0_1c : Nat) (q0_2 : Int) (w : World) (K : Value → World → Prop), S_girderkit_OverDyad N P q0_0 q0_1 q0_1l q0_1c q0_2 w K → CallsX P N.f_girderkit_OverDyad #[.agg #[.bool q0_0, .slice q0_1 q0_1l q0_1c, .int .i64 q0_2]] w K

def Ok_girderref02_Norm (N : Nums) (P : Program) : Prop := ∀ (q0_0 : Bool) (q0_1 : Option Addr) (q0_1l q0_1c : Nat) (q0_2 : Int) (w : World) (K : Value → World → Prop), S_girderref02_Norm N P q0_0 q0_1 q0_1l q0_1c q0_2 w K → CallsX P N.f_girderref02_Norm #[.agg #[.bool q0_0, .slice q0_1 q0_1l q0_1c, .int .i64 q0_2]] w K

def Ok_girderref02_Right (N : Nums) (P : Program) : Prop := ∀ (q0_0 : Bool) (q0_1 : Option Addr) (q0_1l q0_1c : Nat) (q0_2 : Int) (w : World) (K : Value → World → Prop), S_girderref02_Right N P q0_0 q0_1 q0_1l q0_1c q0_2 w K → CallsX P N.f_girderref02_Right #[.agg #[.bool q0_0, .slice q0_1 q0_1l q0_1c, .int .i64 q0_2]] w K

def Ok_girderref02_Fits (N : Nums) (P : Program) : Prop := ∀ (q0_0 : Bool) (q0_1 : Option Addr) (q0_1l q0_1c : Nat) (q0_2 : Int) (w : World) (K : Value → World → Prop), S_girderref02_Fits N P q0_0 q0_1 q0_1l q0_1c q0_2 w K → CallsX P N.f_girderref02_Fits #[.agg #[.bool q0_0, .slice q0_1 q0_1l q0_1c, .int .i64 q0_2]] w K

def Ok_girderkit_SameDyad (N : Nums) (P : Program) : Prop := ∀ (q0_0 : Bool) (q0_1 : Option Addr) (q0_1l q0_1c : Nat) (q0_2 : Int) (q1_0 : Bool) (q1_1 : Option Addr) (q1_1l q1_1c : Nat) (q1_2 : Int) (w : World) (K : Value → World → Prop), S_girderkit_SameDyad N P q0_0 q0_1 q0_1l q0_1c q0_2 q1_0 q1_1 q1_1l q1_1c q1_2 w K → CallsX P N.f_girderkit_SameDyad #[.agg #[.bool q0_0, .slice q0_1 q0_1l q0_1c, .int .i64 q0_2], .agg #[.bool q1_0, .slice q1_1 q1_1l q1_1c, .int .i64 q1_2]] w K

def Ok_dyad_Add (N : Nums) (P : Program) : Prop := ∀ (q0_0 : Bool) (q0_1 : Option Addr) (q0_1l q0_1c : Nat) (q0_2 : Int) (q1_0 : Bool) (q1_1 : Option Addr) (q1_1l q1_1c : Nat) (q1_2 : Int) (w : World) (K : Value → World → Prop), S_dyad_Add N P q0_0 q0_1 q0_1l q0_1c q0_2 q1_0 q1_1 q1_1l q1_1c q1_2 w K → CallsX P N.f_dyad_Add #[.agg #[.bool q0_0, .slice q0_1 q0_1l q0_1c, .int .i64 q0_2], .agg #[.bool q1_0, .slice q1_1 q1_1l q1_1c, .int .i64 q1_2]] w K

def Ok_dyad_Mul (N : Nums) (P : Program) : Prop := ∀ (q0_0 : Bool) (q0_1 : Option Addr) (q0_1l q0_1c : Nat) (q0_2 : Int) (q1_0 : Bool) (q1_1 : Option Addr) (q1_1l q1_1c : Nat) (q1_2 : Int) (w : World) (K : Value → World → Prop), S_dyad_Mul N P q0_0 q0_1 q0_1l q0_1c q0_2 q1_0 q1_1 q1_1l q1_1c q1_2 w K → CallsX P N.f_dyad_Mul #[.agg #[.bool q0_0, .slice q0_1 q0_1l q0_1c, .int .i64 q0_2], .agg #[.bool q1_0, .slice q1_1 q1_1l q1_1c, .int .i64 q1_2]] w K

def Ok_dyad_Of (N : Nums) (P : Program) : Prop := ∀ (q0 : Nat) (w : World) (K : Value → World → Prop), S_dyad_Of N P q0 w K → CallsX P N.f_dyad_Of #[.float .f64 q0] w K

def Ok_dyad_Int (N : Nums) (P : Program) : Prop := ∀ (q0 : Int) (w : World) (K : Value → World → Prop), S_dyad_Int N P q0 w K → CallsX P N.f_dyad_Int #[.int .i64 q0] w K

def Ok_girderkit_LentLimbs (N : Nums) (P : Program) : Prop := ∀ (q0 : Option Addr) (q0l q0c : Nat) (w : World) (K : Value → World → Prop), S_girderkit_LentLimbs N P q0 q0l q0c w K → CallsX P N.f_girderkit_LentLimbs #[.slice q0 q0l q0c] w K

def Ok_dyad_whole (N : Nums) (P : Program) : Prop := ∀ (q0_0 : Bool) (q0_1 : Option Addr) (q0_1l q0_1c : Nat) (q0_2 : Int) (w : World) (K : Value → World → Prop), S_dyad_whole N P q0_0 q0_1 q0_1l q0_1c q0_2 w K → CallsX P N.f_dyad_whole #[.agg #[.bool q0_0, .slice q0_1 q0_1l q0_1c, .int .i64 q0_2]] w K

def Ok_p_bignum_Int_Abs (N : Nums) (P : Program) : Prop := ∀ (q0 : Option Addr) (q1 : Option Addr) (w : World) (K : Value → World → Prop), S_p_bignum_Int_Abs N P q0 q1 w K → CallsX P N.f_p_bignum_Int_Abs #[.pointer q0, .pointer q1] w K

def Ok_dyad_top (N : Nums) (P : Program) : Prop := ∀ (q0_0 : Bool) (q0_1 : Option Addr) (q0_1l q0_1c : Nat) (q0_2 : Int) (w : World) (K : Value → World → Prop), S_dyad_top N P q0_0 q0_1 q0_1l q0_1c q0_2 w K → CallsX P N.f_dyad_top #[.agg #[.bool q0_0, .slice q0_1 q0_1l q0_1c, .int .i64 q0_2]] w K

def Ok_p_bignum_Int_Lsh (N : Nums) (P : Program) : Prop := ∀ (q0 : Option Addr) (q1 : Option Addr) (q2 : Int) (w : World) (K : Value → World → Prop), S_p_bignum_Int_Lsh N P q0 q1 q2 w K → CallsX P N.f_p_bignum_Int_Lsh #[.pointer q0, .pointer q1, .int .u64 q2] w K

def Ok_p_bignum_Int_Uint64 (N : Nums) (P : Program) : Prop := ∀ (q0 : Option Addr) (w : World) (K : Value → World → Prop), S_p_bignum_Int_Uint64 N P q0 w K → CallsX P N.f_p_bignum_Int_Uint64 #[.pointer q0] w K

def Ok_p_bignum_Int_Rsh (N : Nums) (P : Program) : Prop := ∀ (q0 : Option Addr) (q1 : Option Addr) (q2 : Int) (w : World) (K : Value → World → Prop), S_p_bignum_Int_Rsh N P q0 q1 q2 w K → CallsX P N.f_p_bignum_Int_Rsh #[.pointer q0, .pointer q1, .int .u64 q2] w K

def Ok_p_bignum_Int_Sub (N : Nums) (P : Program) : Prop := ∀ (q0 : Option Addr) (q1 : Option Addr) (q2 : Option Addr) (w : World) (K : Value → World → Prop), S_p_bignum_Int_Sub N P q0 q1 q2 w K → CallsX P N.f_p_bignum_Int_Sub #[.pointer q0, .pointer q1, .pointer q2] w K

def Ok_p_bignum_Int_Cmp (N : Nums) (P : Program) : Prop := ∀ (q0 : Option Addr) (q1 : Option Addr) (w : World) (K : Value → World → Prop), S_p_bignum_Int_Cmp N P q0 q1 w K → CallsX P N.f_p_bignum_Int_Cmp #[.pointer q0, .pointer q1] w K

def Ok_bignum_NewInt (N : Nums) (P : Program) : Prop := ∀ (q0 : Int) (w : World) (K : Value → World → Prop), S_bignum_NewInt N P q0 w K → CallsX P N.f_bignum_NewInt #[.int .i64 q0] w K

def Ok_p_bignum_Int_Sign (N : Nums) (P : Program) : Prop := ∀ (q0 : Option Addr) (w : World) (K : Value → World → Prop), S_p_bignum_Int_Sign N P q0 w K → CallsX P N.f_p_bignum_Int_Sign #[.pointer q0] w K

def Ok_dyad_away (N : Nums) (P : Program) : Prop := ∀ (q0 : Int) (q1 : Bool) (q2 : Int) (q3 : Bool) (w : World) (K : Value → World → Prop), S_dyad_away N P q0 q1 q2 q3 w K → CallsX P N.f_dyad_away #[.int .i8 q0, .bool q1, .int .i64 q2, .bool q3] w K

def Ok_dyad_float (N : Nums) (P : Program) : Prop := ∀ (q0 : Bool) (q1 : Int) (q2 : Int) (q3 : Int) (w : World) (K : Value → World → Prop), S_dyad_float N P q0 q1 q2 q3 w K → CallsX P N.f_dyad_float #[.bool q0, .int .u64 q1, .int .i64 q2, .int .i8 q3] w K

def Ok_girderref02_Rounded (N : Nums) (P : Program) : Prop := ∀ (q0_0 : Bool) (q0_1 : Option Addr) (q0_1l q0_1c : Nat) (q0_2 : Int) (q1 : Int) (w : World) (K : Value → World → Prop), S_girderref02_Rounded N P q0_0 q0_1 q0_1l q0_1c q0_2 q1 w K → CallsX P N.f_girderref02_Rounded #[.agg #[.bool q0_0, .slice q0_1 q0_1l q0_1c, .int .i64 q0_2], .int .i8 q1] w K

def Ok_girderref02_Dyad (N : Nums) (P : Program) : Prop := ∀ (q0_0 : Bool) (q0_1 : Option Addr) (q0_1l q0_1c : Nat) (q0_2 : Int) (w : World) (K : Value → World → Prop), S_girderref02_Dyad N P q0_0 q0_1 q0_1l q0_1c q0_2 w K → CallsX P N.f_girderref02_Dyad #[.agg #[.bool q0_0, .slice q0_1 q0_1l q0_1c, .int .i64 q0_2]] w K

def Ok_girderkit_KeptLimbs (N : Nums) (P : Program) : Prop := ∀ (q0 : Option Addr) (q0l q0c : Nat) (q1 : Option Addr) (q1l q1c : Nat) (w : World) (K : Value → World → Prop), S_girderkit_KeptLimbs N P q0 q0l q0c q1 q1l q1c w K → CallsX P N.f_girderkit_KeptLimbs #[.slice q0 q0l q0c, .slice q1 q1l q1c] w K

def Ok_dyad_made (N : Nums) (P : Program) : Prop := ∀ (q0 : Option Addr) (q1 : Int) (w : World) (K : Value → World → Prop), S_dyad_made N P q0 q1 w K → CallsX P N.f_dyad_made #[.pointer q0, .int .i64 q1] w K

def Ok_girderkit_OverLimbs (N : Nums) (P : Program) : Prop := ∀ (q0 : Option Addr) (q0l q0c : Nat) (w : World) (K : Value → World → Prop), S_girderkit_OverLimbs N P q0 q0l q0c w K → CallsX P N.f_girderkit_OverLimbs #[.slice q0 q0l q0c] w K

def Ok_girderref02_NatTrim (N : Nums) (P : Program) : Prop := ∀ (q0 : Option Addr) (q0l q0c : Nat) (w : World) (K : Value → World → Prop), S_girderref02_NatTrim N P q0 q0l q0c w K → CallsX P N.f_girderref02_NatTrim #[.slice q0 q0l q0c] w K

def Ok_girderref02_NatDown (N : Nums) (P : Program) : Prop := ∀ (q0 : Option Addr) (q0l q0c : Nat) (q1 : Int) (w : World) (K : Value → World → Prop), S_girderref02_NatDown N P q0 q0l q0c q1 w K → CallsX P N.f_girderref02_NatDown #[.slice q0 q0l q0c, .int .i64 q1] w K

def Ok_girderref02_Of (N : Nums) (P : Program) : Prop := ∀ (q0 : Nat) (w : World) (K : Value → World → Prop), S_girderref02_Of N P q0 w K → CallsX P N.f_girderref02_Of #[.float .f64 q0] w K

def Ok_girderref02_Compare (N : Nums) (P : Program) : Prop := ∀ (q0_0 : Bool) (q0_1 : Option Addr) (q0_1l q0_1c : Nat) (q0_2 : Int) (q1_0 : Bool) (q1_1 : Option Addr) (q1_1l q1_1c : Nat) (q1_2 : Int) (w : World) (K : Value → World → Prop), S_girderref02_Compare N P q0_0 q0_1 q0_1l q0_1c q0_2 q1_0 q1_1 q1_1l q1_1c q1_2 w K → CallsX P N.f_girderref02_Compare #[.agg #[.bool q0_0, .slice q0_1 q0_1l q0_1c, .int .i64 q0_2], .agg #[.bool q1_0, .slice q1_1 q1_1l q1_1c, .int .i64 q1_2]] w K

def Ok_girderkit_SameLimbs (N : Nums) (P : Program) : Prop := ∀ (q0 : Option Addr) (q0l q0c : Nat) (q1 : Option Addr) (q1l q1c : Nat) (w : World) (K : Value → World → Prop), S_girderkit_SameLimbs N P q0 q0l q0c q1 q1l q1c w K → CallsX P N.f_girderkit_SameLimbs #[.slice q0 q0l q0c, .slice q1 q1l q1c] w K

def Ok_dyad_both (N : Nums) (P : Program) : Prop := ∀ (q0_0 : Bool) (q0_1 : Option Addr) (q0_1l q0_1c : Nat) (q0_2 : Int) (q1_0 : Bool) (q1_1 : Option Addr) (q1_1l q1_1c : Nat) (q1_2 : Int) (w : World) (K : Value → World → Prop), S_dyad_both N P q0_0 q0_1 q0_1l q0_1c q0_2 q1_0 q1_1 q1_1l q1_1c q1_2 w K → CallsX P N.f_dyad_both #[.agg #[.bool q0_0, .slice q0_1 q0_1l q0_1c, .int .i64 q0_2], .agg #[.bool q1_0, .slice q1_1 q1_1l q1_1c, .int .i64 q1_2]] w K

def Ok_p_bignum_Int_Add (N : Nums) (P : Program) : Prop := ∀ (q0 : Option Addr) (q1 : Option Addr) (q2 : Option Addr) (w : World) (K : Value → World → Prop), S_p_bignum_Int_Add N P q0 q1 q2 w K → CallsX P N.f_p_bignum_Int_Add #[.pointer q0, .pointer q1, .pointer q2] w K

def Ok_p_bignum_Int_Mul (N : Nums) (P : Program) : Prop := ∀ (q0 : Option Addr) (q1 : Option Addr) (q2 : Option Addr) (w : World) (K : Value → World → Prop), S_p_bignum_Int_Mul N P q0 q1 q2 w K → CallsX P N.f_p_bignum_Int_Mul #[.pointer q0, .pointer q1, .pointer q2] w K

def Ok_girderref02_Plus (N : Nums) (P : Program) : Prop := ∀ (q0_0 : Bool) (q0_1 : Option Addr) (q0_1l q0_1c : Nat) (q0_2 : Int) (q1_0 : Bool) (q1_1 : Option Addr) (q1_1l q1_1c : Nat) (q1_2 : Int) (w : World) (K : Value → World → Prop), S_girderref02_Plus N P q0_0 q0_1 q0_1l q0_1c q0_2 q1_0 q1_1 q1_1l q1_1c q1_2 w K → CallsX P N.f_girderref02_Plus #[.agg #[.bool q0_0, .slice q0_1 q0_1l q0_1c, .int .i64 q0_2], .agg #[.bool q1_0, .slice q1_1 q1_1l q1_1c, .int .i64 q1_2]] w K

def Ok_girderref02_Minus (N : Nums) (P : Program) : Prop := ∀ (q0_0 : Bool) (q0_1 : Option Addr) (q0_1l q0_1c : Nat) (q0_2 : Int) (w : World) (K : Value → World → Prop), S_girderref02_Minus N P q0_0 q0_1 q0_1l q0_1c q0_2 w K → CallsX P N.f_girderref02_Minus #[.agg #[.bool q0_0, .slice q0_1 q0_1l q0_1c, .int .i64 q0_2]] w K

def Ok_girderref02_Num_Sign (N : Nums) (P : Program) : Prop := ∀ (q0_0 : Bool) (q0_1 : Option Addr) (q0_1l q0_1c : Nat) (q0_2 : Int) (w : World) (K : Value → World → Prop), S_girderref02_Num_Sign N P q0_0 q0_1 q0_1l q0_1c q0_2 w K → CallsX P N.f_girderref02_Num_Sign #[.agg #[.bool q0_0, .slice q0_1 q0_1l q0_1c, .int .i64 q0_2]] w K

def Ok_bits_Split (N : Nums) (P : Program) : Prop := ∀ (q0 : Nat) (w : World) (K : Value → World → Prop), S_bits_Split N P q0 w K → CallsX P N.f_bits_Split #[.float .f64 q0] w K

def Ok_girderkit_mark (N : Nums) (P : Program) : Prop := ∀ (q0 : Int) (q1 : Int) (w : World) (K : Value → World → Prop), S_girderkit_mark N P q0 q1 w K → CallsX P N.f_girderkit_mark #[.int .i64 q0, .int .i64 q1] w K

def Ok_p_bignum_Int_Or (N : Nums) (P : Program) : Prop := ∀ (q0 : Option Addr) (q1 : Option Addr) (q2 : Option Addr) (w : World) (K : Value → World → Prop), S_p_bignum_Int_Or N P q0 q1 q2 w K → CallsX P N.f_p_bignum_Int_Or #[.pointer q0, .pointer q1, .pointer q2] w K

def Ok_p_bignum_Int_SetUint64 (N : Nums) (P : Program) : Prop := ∀ (q0 : Option Addr) (q1 : Int) (w : World) (K : Value → World → Prop), S_p_bignum_Int_SetUint64 N P q0 q1 w K → CallsX P N.f_p_bignum_Int_SetUint64 #[.pointer q0, .int .u64 q1] w K

def Ok_p_bignum_Int_Neg (N : Nums) (P : Program) : Prop := ∀ (q0 : Option Addr) (q1 : Option Addr) (w : World) (K : Value → World → Prop), S_p_bignum_Int_Neg N P q0 q1 w K → CallsX P N.f_p_bignum_Int_Neg #[.pointer q0, .pointer q1] w K

def Ok_p_bignum_Int_give (N : Nums) (P : Program) : Prop := ∀ (q0 : Option Addr) (q1 : Bool) (q2 : Option Addr) (q2l q2c : Nat) (w : World) (K : Value → World → Prop), S_p_bignum_Int_give N P q0 q1 q2 q2l q2c w K → CallsX P N.f_p_bignum_Int_give #[.pointer q0, .bool q1, .slice q2 q2l q2c] w K

def Ok_bignum_twin (N : Nums) (P : Program) : Prop := ∀ (q0 : Option Addr) (q0l q0c : Nat) (w : World) (K : Value → World → Prop), S_bignum_twin N P q0 q0l q0c w K → CallsX P N.f_bignum_twin #[.slice q0 q0l q0c] w K

def Ok_bignum_left (N : Nums) (P : Program) : Prop := ∀ (q0 : Option Addr) (q0l q0c : Nat) (q1 : Int) (w : World) (K : Value → World → Prop), S_bignum_left N P q0 q0l q0c q1 w K → CallsX P N.f_bignum_left #[.slice q0 q0l q0c, .int .u64 q1] w K

def Ok_bignum_add (N : Nums) (P : Program) : Prop := ∀ (q0 : Option Addr) (q0l q0c : Nat) (q1 : Option Addr) (q1l q1c : Nat) (w : World) (K : Value → World → Prop), S_bignum_add N P q0 q0l q0c q1 q1l q1c w K → CallsX P N.f_bignum_add #[.slice q0 q0l q0c, .slice q1 q1l q1c] w K

def Ok_bignum_right (N : Nums) (P : Program) : Prop := ∀ (q0 : Option Addr) (q0l q0c : Nat) (q1 : Int) (w : World) (K : Value → World → Prop), S_bignum_right N P q0 q0l q0c q1 w K → CallsX P N.f_bignum_right #[.slice q0 q0l q0c, .int .u64 q1] w K

def Ok_bignum_sub (N : Nums) (P : Program) : Prop := ∀ (q0 : Option Addr) (q0l q0c : Nat) (q1 : Option Addr) (q1l q1c : Nat) (w : World) (K : Value → World → Prop), S_bignum_sub N P q0 q0l q0c q1 q1l q1c w K → CallsX P N.f_bignum_sub #[.slice q0 q0l q0c, .slice q1 q1l q1c] w K

def Ok_bignum_sum (N : Nums) (P : Program) : Prop := ∀ (q0 : Bool) (q1 : Option Addr) (q1l q1c : Nat) (q2 : Bool) (q3 : Option Addr) (q3l q3c : Nat) (w : World) (K : Value → World → Prop), S_bignum_sum N P q0 q1 q1l q1c q2 q3 q3l q3c w K → CallsX P N.f_bignum_sum #[.bool q0, .slice q1 q1l q1c, .bool q2, .slice q3 q3l q3c] w K

def Ok_bignum_cmp (N : Nums) (P : Program) : Prop := ∀ (q0 : Option Addr) (q0l q0c : Nat) (q1 : Option Addr) (q1l q1c : Nat) (w : World) (K : Value → World → Prop), S_bignum_cmp N P q0 q0l q0c q1 q1l q1c w K → CallsX P N.f_bignum_cmp #[.slice q0 q0l q0c, .slice q1 q1l q1c] w K

def Ok_p_bignum_Int_SetInt64 (N : Nums) (P : Program) : Prop := ∀ (q0 : Option Addr) (q1 : Int) (w : World) (K : Value → World → Prop), S_p_bignum_Int_SetInt64 N P q0 q1 w K → CallsX P N.f_p_bignum_Int_SetInt64 #[.pointer q0, .int .i64 q1] w K

def Ok_math_bits_TrailingZeros64 (N : Nums) (P : Program) : Prop := ∀ (q0 : Int) (w : World) (K : Value → World → Prop), S_math_bits_TrailingZeros64 N P q0 w K → CallsX P N.f_math_bits_TrailingZeros64 #[.int .u64 q0] w K

def Ok_bits_Join (N : Nums) (P : Program) : Prop := ∀ (q0_0 : Bool) (q0_1 : Int) (q0_2 : Int) (w : World) (K : Value → World → Prop), S_bits_Join N P q0_0 q0_1 q0_2 w K → CallsX P N.f_bits_Join #[.agg #[.bool q0_0, .int .u64 q0_1, .int .i64 q0_2]] w K

def Ok_bits_Next (N : Nums) (P : Program) : Prop := ∀ (q0 : Nat) (q1 : Bool) (w : World) (K : Value → World → Prop), S_bits_Next N P q0 q1 w K → CallsX P N.f_bits_Next #[.float .f64 q0, .bool q1] w K

def Ok_girderref02_Num_Zero (N : Nums) (P : Program) : Prop := ∀ (q0_0 : Bool) (q0_1 : Option Addr) (q0_1l q0_1c : Nat) (q0_2 : Int) (w : World) (K : Value → World → Prop), S_girderref02_Num_Zero N P q0_0 q0_1 q0_1l q0_1c q0_2 w K → CallsX P N.f_girderref02_Num_Zero #[.agg #[.bool q0_0, .slice q0_1 q0_1l q0_1c, .int .i64 q0_2]] w K

def Ok_girderref02_Num_top (N : Nums) (P : Program) : Prop := ∀ (q0_0 : Bool) (q0_1 : Option Addr) (q0_1l q0_1c : Nat) (q0_2 : Int) (w : World) (K : Value → World → Prop), S_girderref02_Num_top N P q0_0 q0_1 q0_1l q0_1c q0_2 w K → CallsX P N.f_girderref02_Num_top #[.agg #[.bool q0_0, .slice q0_1 q0_1l q0_1c, .int .i64 q0_2]] w K

def Ok_girderref02_NatUp (N : Nums) (P : Program) : Prop := ∀ (q0 : Option Addr) (q0l q0c : Nat) (q1 : Int) (w : World) (K : Value → World → Prop), S_girderref02_NatUp N P q0 q0l q0c q1 w K → CallsX P N.f_girderref02_NatUp #[.slice q0 q0l q0c, .int .i64 q1] w K

def Ok_girderref02_up (N : Nums) (P : Program) : Prop := ∀ (q0 : Int) (q1 : Bool) (q2 : Int) (q3 : Bool) (w : World) (K : Value → World → Prop), S_girderref02_up N P q0 q1 q2 q3 w K → CallsX P N.f_girderref02_up #[.int .i8 q0, .bool q1, .int .i64 q2, .bool q3] w K

def Ok_girderref02_NatAdd (N : Nums) (P : Program) : Prop := ∀ (q0 : Option Addr) (q0l q0c : Nat) (q1 : Option Addr) (q1l q1c : Nat) (w : World) (K : Value → World → Prop), S_girderref02_NatAdd N P q0 q0l q0c q1 q1l q1c w K → CallsX P N.f_girderref02_NatAdd #[.slice q0 q0l q0c, .slice q1 q1l q1c] w K

def Ok_girderref02_NatOf (N : Nums) (P : Program) : Prop := ∀ (q0 : Int) (w : World) (K : Value → World → Prop), S_girderref02_NatOf N P q0 w K → CallsX P N.f_girderref02_NatOf #[.int .u64 q0] w K

def Ok_girderref02_NatBits (N : Nums) (P : Program) : Prop := ∀ (q0 : Option Addr) (q0l q0c : Nat) (w : World) (K : Value → World → Prop), S_girderref02_NatBits N P q0 q0l q0c w K → CallsX P N.f_girderref02_NatBits #[.slice q0 q0l q0c] w K

def Ok_girderref02_huge (N : Nums) (P : Program) : Prop := ∀ (q0 : Int) (q1 : Bool) (w : World) (K : Value → World → Prop), S_girderref02_huge N P q0 q1 w K → CallsX P N.f_girderref02_huge #[.int .i8 q0, .bool q1] w K

def Ok_girderref02_float (N : Nums) (P : Program) : Prop := ∀ (q0 : Bool) (q1 : Int) (q2 : Int) (w : World) (K : Value → World → Prop), S_girderref02_float N P q0 q1 q2 w K → CallsX P N.f_girderref02_float #[.bool q0, .int .u64 q1, .int .i64 q2] w K

def Ok_p_bignum_Int_TrailingZeroBits (N : Nums) (P : Program) : Prop := ∀ (q0 : Option Addr) (w : World) (K : Value → World → Prop), S_p_bignum_Int_TrailingZeroBits N P q0 w K → CallsX P N.f_p_bignum_Int_TrailingZeroBits #[.pointer q0] w K

def Ok_p_bignum_Int_BitLen (N : Nums) (P : Program) : Prop := ∀ (q0 : Option Addr) (w : World) (K : Value → World → Prop), S_p_bignum_Int_BitLen N P q0 w K → CallsX P N.f_p_bignum_Int_BitLen #[.pointer q0] w K

def Ok_dyad_limbs (N : Nums) (P : Program) : Prop := ∀ (q0 : Option Addr) (w : World) (K : Value → World → Prop), S_dyad_limbs N P q0 w K → CallsX P N.f_dyad_limbs #[.pointer q0] w K

def Ok_girderref02_halves (N : Nums) (P : Program) : Prop := ∀ (q0 : Option Addr) (q0l q0c : Nat) (w : World) (K : Value → World → Prop), S_girderref02_halves N P q0 q0l q0c w K → CallsX P N.f_girderref02_halves #[.slice q0 q0l q0c] w K

def Ok_girderref02_short (N : Nums) (P : Program) : Prop := ∀ (q0 : Option Addr) (q0l q0c : Nat) (q1 : Int) (w : World) (K : Value → World → Prop), S_girderref02_short N P q0 q0l q0c q1 w K → CallsX P N.f_girderref02_short #[.slice q0 q0l q0c, .int .u64 q1] w K

def Ok_girderref02_limbs (N : Nums) (P : Program) : Prop := ∀ (q0 : Option Addr) (q0l q0c : Nat) (w : World) (K : Value → World → Prop), S_girderref02_limbs N P q0 q0l q0c w K → CallsX P N.f_girderref02_limbs #[.slice q0 q0l q0c] w K

def Ok_girderref01_Split (N : Nums) (P : Program) : Prop := ∀ (q0 : Nat) (w : World) (K : Value → World → Prop), S_girderref01_Split N P q0 w K → CallsX P N.f_girderref01_Split #[.float .f64 q0] w K

def Ok_bignum_mul (N : Nums) (P : Program) : Prop := ∀ (q0 : Option Addr) (q0l q0c : Nat) (q1 : Option Addr) (q1l q1c : Nat) (w : World) (K : Value → World → Prop), S_bignum_mul N P q0 q0l q0c q1 q1l q1c w K → CallsX P N.f_bignum_mul #[.slice q0 q0l q0c, .slice q1 q1l q1c] w K

def Ok_girderref02_NatCmp (N : Nums) (P : Program) : Prop := ∀ (q0 : Option Addr) (q0l q0c : Nat) (q1 : Option Addr) (q1l q1c : Nat) (w : World) (K : Value → World → Prop), S_girderref02_NatCmp N P q0 q0l q0c q1 q1l q1c w K → CallsX P N.f_girderref02_NatCmp #[.slice q0 q0l q0c, .slice q1 q1l q1c] w K

def Ok_girderref02_NatSub (N : Nums) (P : Program) : Prop := ∀ (q0 : Option Addr) (q0l q0c : Nat) (q1 : Option Addr) (q1l q1c : Nat) (w : World) (K : Value → World → Prop), S_girderref02_NatSub N P q0 q0l q0c q1 q1l q1c w K → CallsX P N.f_girderref02_NatSub #[.slice q0 q0l q0c, .slice q1 q1l q1c] w K

def Ok_bits_Kind (N : Nums) (P : Program) : Prop := ∀ (q0 : Nat) (w : World) (K : Value → World → Prop), S_bits_Kind N P q0 w K → CallsX P N.f_bits_Kind #[.float .f64 q0] w K

def Ok_math_Signbit (N : Nums) (P : Program) : Prop := ∀ (q0 : Nat) (w : World) (K : Value → World → Prop), S_math_Signbit N P q0 w K → CallsX P N.f_math_Signbit #[.float .f64 q0] w K

def Ok_math_Frexp (N : Nums) (P : Program) : Prop := ∀ (q0 : Nat) (w : World) (K : Value → World → Prop), S_math_Frexp N P q0 w K → CallsX P N.f_math_Frexp #[.float .f64 q0] w K

def Ok_math_Abs (N : Nums) (P : Program) : Prop := ∀ (q0 : Nat) (w : World) (K : Value → World → Prop), S_math_Abs N P q0 w K → CallsX P N.f_math_Abs #[.float .f64 q0] w K

def Ok_math_Ldexp (N : Nums) (P : Program) : Prop := ∀ (q0 : Nat) (q1 : Int) (w : World) (K : Value → World → Prop), S_math_Ldexp N P q0 q1 w K → CallsX P N.f_math_Ldexp #[.float .f64 q0, .int .i64 q1] w K

def Ok_p_bignum_Int_low (N : Nums) (P : Program) : Prop := ∀ (q0 : Option Addr) (q1 : Int) (w : World) (K : Value → World → Prop), S_p_bignum_Int_low N P q0 q1 w K → CallsX P N.f_p_bignum_Int_low #[.pointer q0, .int .i64 q1] w K

def Ok_p_bignum_Int_of (N : Nums) (P : Program) : Prop := ∀ (q0 : Option Addr) (q1 : Option Addr) (q1l q1c : Nat) (w : World) (K : Value → World → Prop), S_p_bignum_Int_of N P q0 q1 q1l q1c w K → CallsX P N.f_p_bignum_Int_of #[.pointer q0, .slice q1 q1l q1c] w K

def Ok_bignum_words (N : Nums) (P : Program) : Prop := ∀ (q0 : Int) (w : World) (K : Value → World → Prop), S_bignum_words N P q0 w K → CallsX P N.f_bignum_words #[.int .u64 q0] w K

def Ok_bignum_trim (N : Nums) (P : Program) : Prop := ∀ (q0 : Option Addr) (q0l q0c : Nat) (w : World) (K : Value → World → Prop), S_bignum_trim N P q0 q0l q0c w K → CallsX P N.f_bignum_trim #[.slice q0 q0l q0c] w K

def Ok_math_Copysign (N : Nums) (P : Program) : Prop := ∀ (q0 : Nat) (q1 : Nat) (w : World) (K : Value → World → Prop), S_math_Copysign N P q0 q1 w K → CallsX P N.f_math_Copysign #[.float .f64 q0, .float .f64 q1] w K

def Ok_bits_Place (N : Nums) (P : Program) : Prop := ∀ (q0 : Nat) (w : World) (K : Value → World → Prop), S_bits_Place N P q0 w K → CallsX P N.f_bits_Place #[.float .f64 q0] w K

def Ok_bits_At (N : Nums) (P : Program) : Prop := ∀ (q0 : Int) (w : World) (K : Value → World → Prop), S_bits_At N P q0 w K → CallsX P N.f_bits_At #[.int .i64 q0] w K

def Ok_girderref02_digit (N : Nums) (P : Program) : Prop := ∀ (q0 : Option Addr) (q0l q0c : Nat) (q1 : Int) (w : World) (K : Value → World → Prop), S_girderref02_digit N P q0 q0l q0c q1 w K → CallsX P N.f_girderref02_digit #[.slice q0 q0l q0c, .int .i64 q1] w K

def Ok_girderref01_Join (N : Nums) (P : Program) : Prop := ∀ (q0_0 : Bool) (q0_1 : Int) (q0_2 : Int) (w : World) (K : Value → World → Prop), S_girderref01_Join N P q0_0 q0_1 q0_2 w K → CallsX P N.f_girderref01_Join #[.agg #[.bool q0_0, .int .u64 q0_1, .int .i64 q0_2]] w K

def Ok_bignum_bit (N : Nums) (P : Program) : Prop := ∀ (q0 : Option Addr) (q0l q0c : Nat) (q1 : Int) (w : World) (K : Value → World → Prop), S_bignum_bit N P q0 q0l q0c q1 w K → CallsX P N.f_bignum_bit #[.slice q0 q0l q0c, .int .i64 q1] w K

def Ok_bignum_length (N : Nums) (P : Program) : Prop := ∀ (q0 : Option Addr) (q0l q0c : Nat) (w : World) (K : Value → World → Prop), S_bignum_length N P q0 q0l q0c w K → CallsX P N.f_bignum_length #[.slice q0 q0l q0c] w K

def Ok_p_bignum_Int_And (N : Nums) (P : Program) : Prop := ∀ (q0 : Option Addr) (q1 : Option Addr) (q2 : Option Addr) (w : World) (K : Value → World → Prop), S_p_bignum_Int_And N P q0 q1 q2 w K → CallsX P N.f_p_bignum_Int_And #[.pointer q0, .pointer q1, .pointer q2] w K

def Ok_girderref02_low (N : Nums) (P : Program) : Prop := ∀ (q0 : Option Addr) (q0l q0c : Nat) (w : World) (K : Value → World → Prop), S_girderref02_low N P q0 q0l q0c w K → CallsX P N.f_girderref02_low #[.slice q0 q0l q0c] w K

def Ok_girderref01_Finite (N : Nums) (P : Program) : Prop := ∀ (q0 : Nat) (w : World) (K : Value → World → Prop), S_girderref01_Finite N P q0 w K → CallsX P N.f_girderref01_Finite #[.float .f64 q0] w K

def Ok_girderref01_fields (N : Nums) (P : Program) : Prop := ∀ (q0 : Nat) (w : World) (K : Value → World → Prop), S_girderref01_fields N P q0 w K → CallsX P N.f_girderref01_fields #[.float .f64 q0] w K

def Ok_math_IsInf (N : Nums) (P : Program) : Prop := ∀ (q0 : Nat) (q1 : Int) (w : World) (K : Value → World → Prop), S_math_IsInf N P q0 q1 w K → CallsX P N.f_math_IsInf #[.float .f64 q0, .int .i64 q1] w K

def Ok_math_frexp (N : Nums) (P : Program) : Prop := ∀ (q0 : Nat) (w : World) (K : Value → World → Prop), S_math_frexp N P q0 w K → CallsX P N.f_math_frexp #[.float .f64 q0] w K

def Ok_math_ldexp (N : Nums) (P : Program) : Prop := ∀ (q0 : Nat) (q1 : Int) (w : World) (K : Value → World → Prop), S_math_ldexp N P q0 q1 w K → CallsX P N.f_math_ldexp #[.float .f64 q0, .int .i64 q1] w K

def Ok_girderref01_Kind (N : Nums) (P : Program) : Prop := ∀ (q0 : Nat) (w : World) (K : Value → World → Prop), S_girderref01_Kind N P q0 w K → CallsX P N.f_girderref01_Kind #[.float .f64 q0] w K

def Ok_math_IsNaN (N : Nums) (P : Program) : Prop := ∀ (q0 : Nat) (w : World) (K : Value → World → Prop), S_math_IsNaN N P q0 w K → CallsX P N.f_math_IsNaN #[.float .f64 q0] w K

def Ok_math_normalize (N : Nums) (P : Program) : Prop := ∀ (q0 : Nat) (w : World) (K : Value → World → Prop), S_math_normalize N P q0 w K → CallsX P N.f_math_normalize #[.float .f64 q0] w K

def Ok_math_Inf (N : Nums) (P : Program) : Prop := ∀ (q0 : Int) (w : World) (K : Value → World → Prop), S_math_Inf N P q0 w K → CallsX P N.f_math_Inf #[.int .i64 q0] w K

def Ok_math_Float64bits (N : Nums) (P : Program) : Prop := ∀ (x : Nat) (w : World) (K : Value → World → Prop), K (.int .u64 x) w → CallsX P N.f_math_Float64bits #[.float .f64 x] w K

def Ok_math_Float64frombits (N : Nums) (P : Program) : Prop := ∀ (n : Int) (w : World) (K : Value → World → Prop), K (.float .f64 n.toNat) w → CallsX P N.f_math_Float64frombits #[.int .u64 n] w K

def Ok_math_bits_Len64 (N : Nums) (P : Program) : Prop := ∀ (x : Int) (_ : 0 ≤ x) (_ : x ≤ 18446744073709551615) (w : World) (K : Value → World → Prop), K (.int .i64 (Lib.bitLen x.toNat)) w → CallsX P N.f_math_bits_Len64 #[.int .u64 x] w K

/-- All functions of the program come to what their propositions say. -/
structure AllOk (N : Nums) (P : Program) : Prop where
  girderlaw02_DyadNorms : Ok_girderlaw02_DyadNorms N P
  girderlaw02_awake : Ok_girderlaw02_awake N P
  girderkit_LentDyad : Ok_girderkit_LentDyad N P
  dyad_Round : Ok_dyad_Round N P
  girderkit_KeptDyad : Ok_girderkit_KeptDyad N P
  dyad_Right : Ok_dyad_Right N P
  dyad_Fits : Ok_dyad_Fits N P
  dyad_Norm : Ok_dyad_Norm N P
  girderkit_OverDyad : Ok_girderkit_OverDyad N P
  girderref02_Norm : Ok_girderref02_Norm N P
  girderref02_Right : Ok_girderref02_Right N P
  girderref02_Fits : Ok_girderref02_Fits N P
  girderkit_SameDyad : Ok_girderkit_SameDyad N P
  dyad_Add : Ok_dyad_Add N P
  dyad_Mul : Ok_dyad_Mul N P
  dyad_Of : Ok_dyad_Of N P
  dyad_Int : Ok_dyad_Int N P
  girderkit_LentLimbs : Ok_girderkit_LentLimbs N P
  dyad_whole : Ok_dyad_whole N P
  p_bignum_Int_Abs : Ok_p_bignum_Int_Abs N P
  dyad_top : Ok_dyad_top N P
  p_bignum_Int_Lsh : Ok_p_bignum_Int_Lsh N P
  p_bignum_Int_Uint64 : Ok_p_bignum_Int_Uint64 N P
  p_bignum_Int_Rsh : Ok_p_bignum_Int_Rsh N P
  p_bignum_Int_Sub : Ok_p_bignum_Int_Sub N P
  p_bignum_Int_Cmp : Ok_p_bignum_Int_Cmp N P
  bignum_NewInt : Ok_bignum_NewInt N P
  p_bignum_Int_Sign : Ok_p_bignum_Int_Sign N P
  dyad_away : Ok_dyad_away N P
  dyad_float : Ok_dyad_float N P
  girderref02_Rounded : Ok_girderref02_Rounded N P
  girderref02_Dyad : Ok_girderref02_Dyad N P
  girderkit_KeptLimbs : Ok_girderkit_KeptLimbs N P
  dyad_made : Ok_dyad_made N P
  girderkit_OverLimbs : Ok_girderkit_OverLimbs N P
  girderref02_NatTrim : Ok_girderref02_NatTrim N P
  girderref02_NatDown : Ok_girderref02_NatDown N P
  girderref02_Of : Ok_girderref02_Of N P
  girderref02_Compare : Ok_girderref02_Compare N P
  girderkit_SameLimbs : Ok_girderkit_SameLimbs N P
  dyad_both : Ok_dyad_both N P
  p_bignum_Int_Add : Ok_p_bignum_Int_Add N P
  p_bignum_Int_Mul : Ok_p_bignum_Int_Mul N P
  girderref02_Plus : Ok_girderref02_Plus N P
  girderref02_Minus : Ok_girderref02_Minus N P
  girderref02_Num_Sign : Ok_girderref02_Num_Sign N P
  bits_Split : Ok_bits_Split N P
  girderkit_mark : Ok_girderkit_mark N P
  p_bignum_Int_Or : Ok_p_bignum_Int_Or N P
  p_bignum_Int_SetUint64 : Ok_p_bignum_Int_SetUint64 N P
  p_bignum_Int_Neg : Ok_p_bignum_Int_Neg N P
  p_bignum_Int_give : Ok_p_bignum_Int_give N P
  bignum_twin : Ok_bignum_twin N P
  bignum_left : Ok_bignum_left N P
  bignum_add : Ok_bignum_add N P
  bignum_right : Ok_bignum_right N P
  bignum_sub : Ok_bignum_sub N P
  bignum_sum : Ok_bignum_sum N P
  bignum_cmp : Ok_bignum_cmp N P
  p_bignum_Int_SetInt64 : Ok_p_bignum_Int_SetInt64 N P
  math_bits_TrailingZeros64 : Ok_math_bits_TrailingZeros64 N P
  bits_Join : Ok_bits_Join N P
  bits_Next : Ok_bits_Next N P
  girderref02_Num_Zero : Ok_girderref02_Num_Zero N P
  girderref02_Num_top : Ok_girderref02_Num_top N P
  girderref02_NatUp : Ok_girderref02_NatUp N P
  girderref02_up : Ok_girderref02_up N P
  girderref02_NatAdd : Ok_girderref02_NatAdd N P
  girderref02_NatOf : Ok_girderref02_NatOf N P
  girderref02_NatBits : Ok_girderref02_NatBits N P
  girderref02_huge : Ok_girderref02_huge N P
  girderref02_float : Ok_girderref02_float N P
  p_bignum_Int_TrailingZeroBits : Ok_p_bignum_Int_TrailingZeroBits N P
  p_bignum_Int_BitLen : Ok_p_bignum_Int_BitLen N P
  dyad_limbs : Ok_dyad_limbs N P
  girderref02_halves : Ok_girderref02_halves N P
  girderref02_short : Ok_girderref02_short N P
  girderref02_limbs : Ok_girderref02_limbs N P
  girderref01_Split : Ok_girderref01_Split N P
  bignum_mul : Ok_bignum_mul N P
  girderref02_NatCmp : Ok_girderref02_NatCmp N P
  girderref02_NatSub : Ok_girderref02_NatSub N P
  bits_Kind : Ok_bits_Kind N P
  math_Signbit : Ok_math_Signbit N P
  math_Frexp : Ok_math_Frexp N P
  math_Abs : Ok_math_Abs N P
  math_Ldexp : Ok_math_Ldexp N P
  p_bignum_Int_low : Ok_p_bignum_Int_low N P
  p_bignum_Int_of : Ok_p_bignum_Int_of N P
  bignum_words : Ok_bignum_words N P
  bignum_trim : Ok_bignum_trim N P
  math_Copysign : Ok_math_Copysign N P
  bits_Place : Ok_bits_Place N P
  bits_At : Ok_bits_At N P
  girderref02_digit : Ok_girderref02_digit N P
  girderref01_Join : Ok_girderref01_Join N P
  bignum_bit : Ok_bignum_bit N P
  bignum_length : Ok_bignum_length N P
  p_bignum_Int_And : Ok_p_bignum_Int_And N P
  girderref02_low : Ok_girderref02_low N P
  girderref01_Finite : Ok_girderref01_Finite N P
  girderref01_fields : Ok_girderref01_fields N P
  math_IsInf : Ok_math_IsInf N P
  math_frexp : Ok_math_frexp N P
  math_ldexp : Ok_math_ldexp N P
  girderref01_Kind : Ok_girderref01_Kind N P
  math_IsNaN : Ok_math_IsNaN N P
  math_normalize : Ok_math_normalize N P
  math_Inf : Ok_math_Inf N P
  math_Float64bits : Ok_math_Float64bits N P
  math_Float64frombits : Ok_math_Float64frombits N P
  math_bits_Len64 : Ok_math_bits_Len64 N P

end Go.Eng
