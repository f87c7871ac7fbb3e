/-
  Some of the functions as propositions in the manner of a weakest precondition, printed off the structured code by a program of the session. No condition.
-/
import Derived.Test.YtbegoalncgpbnaaTbl
import Derived.Test.YtbegoalncgpbnaaNm
set_option linter.unusedSimpArgs false
set_option linter.unnecessarySimpa false
set_option linter.unusedSectionVars false
set_option linter.unusedVariables false
set_option maxRecDepth 100000
namespace Go.Eng
open Go

/-- girder/girderlaw10.finite -/
def S_girderlaw10_finite (N : Nums) (P : Program) (q0 : Option Addr) (q0l q0c : Nat) (w : World) (K : Value → World → Prop) : Prop :=
  cutM (σ := Unit) (fun J1 =>
    loopM (σ := Int × Unit) (fun s4 X5 w6 =>
      cond (decide (s4.1 < ((q0l : Nat) : Int)))
      ((0 : Int) ≤ s4.1 ∧ s4.1 < (q0l : Nat) ∧
        optM q0 fun a7 =>
        ∃ x8 : Nat, w6.cell? (a7.add (s4.1.toNat * 1)) = some (.float .f64 x8) ∧
        (0 : Int) ≤ s4.1 ∧ s4.1 < (q0l : Nat) ∧
        optM q0 fun a9 =>
        ∃ x10 : Nat, w6.cell? (a9.add (s4.1.toNat * 1)) = some (.float .f64 x10) ∧
        fresM (fsub x8 x10) w6 fun x11 w12 =>
        drM w6 fun w13 =>
        cond (!feq x11 0)
        (K (.bool false) w13)
        (X5 ((IntKind.i64.wrap (s4.1 + 1)), ()) w13))
      (J1 (()) w6))
    (0, ()) w)
  (fun s2 w3 =>
    K (.bool true) w3)

/-- girder/girderkit.SameFloat -/
def S_girderkit_SameFloat (N : Nums) (P : Program) (q0 : Nat) (q1 : Nat) (w : World) (K : Value → World → Prop) : Prop :=
  CallsX P N.f_math_Float64bits #[.float .f64 q0] w fun v2 w1 =>
  ∃ n3 : Int, v2 = (.int .u64 n3) ∧
  CallsX P N.f_math_Float64bits #[.float .f64 q1] w1 fun v5 w4 =>
  ∃ n6 : Int, v5 = (.int .u64 n6) ∧
  cond (!(n3 == n6))
  (cond (!feq q0 q0)
    (K (.bool (!feq q1 q1)) w4)
    (K (.bool false) w4))
  (K (.bool true) w4)

/-- girder/matrix.Transpose -/
def S_matrix_Transpose (N : Nums) (P : Program) (q0_0 : Int) (q0_1 : Int) (q0_2 : Option Addr) (q0_2l q0_2c : Nat) (w : World) (K : Value → World → Prop) : Prop :=
  newM #[.int .i64 q0_0, .int .i64 q0_1, .slice q0_2 q0_2l q0_2c] N.t_Matrix w fun p1 w2 =>
  newM #[.int .i64 0, .int .i64 0, .slice none 0 0] N.t_Matrix w2 fun p3 w4 =>
  ∃ n5 : Int, w4.cell? p1 = some (.int .i64 n5) ∧
  ∃ n6 : Int, w4.cell? (p1.add 1) = some (.int .i64 n6) ∧
  ∃ (s7a : Option Addr) (s7l s7c : Nat), w4.cell? (p1.add 2) = some (.slice s7a s7l s7c) ∧
  CallsX P N.f_matrix_Right #[.agg #[.int .i64 n5, .int .i64 n6, .slice s7a s7l s7c]] w4 fun v9 w8 =>
  ∃ b10 : Bool, v9 = (.bool b10) ∧
  cond (!b10)
  (stM p3 (.int .i64 0) w8 fun w11 =>
    stM (p3.add 1) (.int .i64 0) w11 fun w12 =>
    stM (p3.add 2) (.slice none 0 0) w12 fun w13 =>
    ∃ n14 : Int, w13.cell? p3 = some (.int .i64 n14) ∧
    ∃ n15 : Int, w13.cell? (p3.add 1) = some (.int .i64 n15) ∧
    ∃ (s16a : Option Addr) (s16l s16c : Nat), w13.cell? (p3.add 2) = some (.slice s16a s16l s16c) ∧
    K (.tuple #[.agg #[.int .i64 n14, .int .i64 n15, .slice s16a s16l s16c], .int .i64 4]) w13)
  (∃ n17 : Int, w8.cell? (p1.add 1) = some (.int .i64 n17) ∧
    ∃ n18 : Int, w8.cell? p1 = some (.int .i64 n18) ∧
    CallsX P N.f_matrix_laid #[.int .i64 n17, .int .i64 n18, .func (.func N.f_matrix_Transpose_1) #[] #[.pointer (some p1)]] w8 fun v20 w19 =>
    ∃ n21 : Int, ∃ n22 : Int, ∃ (s23a : Option Addr) (s23l s23c : Nat), v20 = (.agg #[.int .i64 n21, .int .i64 n22, .slice s23a s23l s23c]) ∧
    stM p3 (.int .i64 n21) w19 fun w24 =>
    stM (p3.add 1) (.int .i64 n22) w24 fun w25 =>
    stM (p3.add 2) (.slice s23a s23l s23c) w25 fun w26 =>
    ∃ n27 : Int, w26.cell? p3 = some (.int .i64 n27) ∧
    ∃ n28 : Int, w26.cell? (p3.add 1) = some (.int .i64 n28) ∧
    ∃ (s29a : Option Addr) (s29l s29c : Nat), w26.cell? (p3.add 2) = some (.slice s29a s29l s29c) ∧
    K (.tuple #[.agg #[.int .i64 n27, .int .i64 n28, .slice s29a s29l s29c], .int .i64 0]) w26)

/-- girder/girderkit.SameMatrix -/
def S_girderkit_SameMatrix (N : Nums) (P : Program) (q0_0 : Int) (q0_1 : Int) (q0_2 : Option Addr) (q0_2l q0_2c : Nat) (q1_0 : Int) (q1_1 : Int) (q1_2 : Option Addr) (q1_2l q1_2c : Nat) (w : World) (K : Value → World → Prop) : Prop :=
  newM #[.int .i64 q0_0, .int .i64 q0_1, .slice q0_2 q0_2l q0_2c] N.t_Matrix w fun p1 w2 =>
  newM #[.int .i64 q1_0, .int .i64 q1_1, .slice q1_2 q1_2l q1_2c] N.t_Matrix w2 fun p3 w4 =>
  ∃ n5 : Int, w4.cell? p1 = some (.int .i64 n5) ∧
  ∃ n6 : Int, w4.cell? p3 = some (.int .i64 n6) ∧
  cond (n5 == n6)
  (∃ n7 : Int, w4.cell? (p1.add 1) = some (.int .i64 n7) ∧
    ∃ n8 : Int, w4.cell? (p3.add 1) = some (.int .i64 n8) ∧
    cond (n7 == n8)
    (∃ (s9a : Option Addr) (s9l s9c : Nat), w4.cell? (p1.add 2) = some (.slice s9a s9l s9c) ∧
      ∃ (s10a : Option Addr) (s10l s10c : Nat), w4.cell? (p3.add 2) = some (.slice s10a s10l s10c) ∧
      CallsX P N.f_girderkit_SameReals #[.slice s9a s9l s9c, .slice s10a s10l s10c] w4 fun v12 w11 =>
      ∃ b13 : Bool, v12 = (.bool b13) ∧
      K (.bool b13) w11)
    (K (.bool false) w4))
  (K (.bool false) w4)

/-- girder/matrix.Same -/
def S_matrix_Same (N : Nums) (P : Program) (q0_0 : Int) (q0_1 : Int) (q0_2 : Option Addr) (q0_2l q0_2c : Nat) (q1_0 : Int) (q1_1 : Int) (q1_2 : Option Addr) (q1_2l q1_2c : Nat) (w : World) (K : Value → World → Prop) : Prop :=
  newM #[.int .i64 q0_0, .int .i64 q0_1, .slice q0_2 q0_2l q0_2c] N.t_Matrix w fun p1 w2 =>
  newM #[.int .i64 q1_0, .int .i64 q1_1, .slice q1_2 q1_2l q1_2c] N.t_Matrix w2 fun p3 w4 =>
  ∃ n5 : Int, w4.cell? p1 = some (.int .i64 n5) ∧
  ∃ n6 : Int, w4.cell? p3 = some (.int .i64 n6) ∧
  cond (n5 == n6)
  (∃ n7 : Int, w4.cell? (p1.add 1) = some (.int .i64 n7) ∧
    ∃ n8 : Int, w4.cell? (p3.add 1) = some (.int .i64 n8) ∧
    cond (n7 == n8)
    (∃ (s9a : Option Addr) (s9l s9c : Nat), w4.cell? (p1.add 2) = some (.slice s9a s9l s9c) ∧
      ∃ (s10a : Option Addr) (s10l s10c : Nat), w4.cell? (p3.add 2) = some (.slice s10a s10l s10c) ∧
      CallsX P N.f_vector_Same #[.slice s9a s9l s9c, .slice s10a s10l s10c] w4 fun v12 w11 =>
      ∃ b13 : Bool, v12 = (.bool b13) ∧
      K (.bool b13) w11)
    (K (.bool false) w4))
  (K (.bool false) w4)

/-- girder/matrix.Symmetric -/
def S_matrix_Symmetric (N : Nums) (P : Program) (q0_0 : Int) (q0_1 : Int) (q0_2 : Option Addr) (q0_2l q0_2c : Nat) (w : World) (K : Value → World → Prop) : Prop :=
  newM #[.int .i64 q0_0, .int .i64 q0_1, .slice q0_2 q0_2l q0_2c] N.t_Matrix w fun p1 w2 =>
  ∃ n3 : Int, w2.cell? p1 = some (.int .i64 n3) ∧
  ∃ n4 : Int, w2.cell? (p1.add 1) = some (.int .i64 n4) ∧
  ∃ (s5a : Option Addr) (s5l s5c : Nat), w2.cell? (p1.add 2) = some (.slice s5a s5l s5c) ∧
  CallsX P N.f_matrix_Transpose #[.agg #[.int .i64 n3, .int .i64 n4, .slice s5a s5l s5c]] w2 fun v7 w6 =>
  ∃ n8 : Int, ∃ n9 : Int, ∃ (s10a : Option Addr) (s10l s10c : Nat), ∃ n11 : Int, v7 = (.tuple #[.agg #[.int .i64 n8, .int .i64 n9, .slice s10a s10l s10c], .int .i64 n11]) ∧
  newM #[.int .i64 0, .int .i64 0, .slice none 0 0] N.t_Matrix w6 fun p12 w13 =>
  stM p12 (.int .i64 n8) w13 fun w14 =>
  stM (p12.add 1) (.int .i64 n9) w14 fun w15 =>
  stM (p12.add 2) (.slice s10a s10l s10c) w15 fun w16 =>
  cond (n11 == 0)
  (∃ n17 : Int, w16.cell? p12 = some (.int .i64 n17) ∧
    ∃ n18 : Int, w16.cell? (p12.add 1) = some (.int .i64 n18) ∧
    ∃ (s19a : Option Addr) (s19l s19c : Nat), w16.cell? (p12.add 2) = some (.slice s19a s19l s19c) ∧
    ∃ n20 : Int, w16.cell? p1 = some (.int .i64 n20) ∧
    ∃ n21 : Int, w16.cell? (p1.add 1) = some (.int .i64 n21) ∧
    ∃ (s22a : Option Addr) (s22l s22c : Nat), w16.cell? (p1.add 2) = some (.slice s22a s22l s22c) ∧
    CallsX P N.f_matrix_Same #[.agg #[.int .i64 n17, .int .i64 n18, .slice s19a s19l s19c], .agg #[.int .i64 n20, .int .i64 n21, .slice s22a s22l s22c]] w16 fun v24 w23 =>
    ∃ b25 : Bool, v24 = (.bool b25) ∧
    K (.bool b25) w23)
  (K (.bool false) w16)

/-- girder/matrix.Norm -/
def S_matrix_Norm (N : Nums) (P : Program) (q0_0 : Int) (q0_1 : Int) (q0_2 : Option Addr) (q0_2l q0_2c : Nat) (w : World) (K : Value → World → Prop) : Prop :=
  newM #[.int .i64 q0_0, .int .i64 q0_1, .slice q0_2 q0_2l q0_2c] N.t_Matrix w fun p1 w2 =>
  ∃ n3 : Int, w2.cell? p1 = some (.int .i64 n3) ∧
  ∃ n4 : Int, w2.cell? (p1.add 1) = some (.int .i64 n4) ∧
  ∃ (s5a : Option Addr) (s5l s5c : Nat), w2.cell? (p1.add 2) = some (.slice s5a s5l s5c) ∧
  CallsX P N.f_matrix_Right #[.agg #[.int .i64 n3, .int .i64 n4, .slice s5a s5l s5c]] w2 fun v7 w6 =>
  ∃ b8 : Bool, v7 = (.bool b8) ∧
  cond (!b8)
  (K (.tuple #[.float .f64 0, .int .i64 4]) w6)
  (∃ (s9a : Option Addr) (s9l s9c : Nat), w6.cell? (p1.add 2) = some (.slice s9a s9l s9c) ∧
    CallsX P N.f_slices_ContainsFunc___float64_float64 #[.slice s9a s9l s9c, .func (.func N.f_matrix_Norm_1) #[] #[]] w6 fun v11 w10 =>
    ∃ b12 : Bool, v11 = (.bool b12) ∧
    cond b12
    (K (.tuple #[.float .f64 0, .int .i64 5]) w10)
    (∃ n13 : Int, w10.cell? p1 = some (.int .i64 n13) ∧
      cutM (σ := Nat × Unit) (fun J14 =>
        loopM (σ := Nat × Int × Unit) (fun s17 X18 w19 =>
          cond (decide (s17.2.1 < n13))
          (∃ (s20a : Option Addr) (s20l s20c : Nat), w19.cell? (p1.add 2) = some (.slice s20a s20l s20c) ∧
            ∃ n21 : Int, w19.cell? (p1.add 1) = some (.int .i64 n21) ∧
            ∃ n22 : Int, w19.cell? (p1.add 1) = some (.int .i64 n22) ∧
            (0 : Int) ≤ (IntKind.i64.wrap ((IntKind.i64.wrap (s17.2.1 + 1)) * n22)) ∧ (IntKind.i64.wrap ((IntKind.i64.wrap (s17.2.1 + 1)) * n22)) ≤ (s20c : Nat) ∧ (0 : Int) ≤ (IntKind.i64.wrap (s17.2.1 * n21)) ∧ (IntKind.i64.wrap (s17.2.1 * n21)) ≤ (IntKind.i64.wrap ((IntKind.i64.wrap (s17.2.1 + 1)) * n22)) ∧
            CallsX P N.f_vector_Norm #[.slice (slBase s20a ((IntKind.i64.wrap (s17.2.1 * n21)).toNat) s20c 1) ((IntKind.i64.wrap ((IntKind.i64.wrap (s17.2.1 + 1)) * n22)).toNat - (IntKind.i64.wrap (s17.2.1 * n21)).toNat) (s20c - (IntKind.i64.wrap (s17.2.1 * n21)).toNat)] w19 fun v24 w23 =>
            ∃ x25 : Nat, v24 = (.float .f64 x25) ∧
            fmaxD true s17.1 x25 w23 fun x26 w27 =>
            X18 (x26, (IntKind.i64.wrap (s17.2.1 + 1)), ()) w27)
          (J14 (s17.1, ()) w19))
        (0, 0, ()) w10)
      (fun s15 w16 =>
        K (.tuple #[.float .f64 s15.1, .int .i64 0]) w16)))

/-- girder/girderlaw10.of -/
def S_girderlaw10_of (N : Nums) (P : Program) (q0 : Int) (q1 : Int) (q2 : Option Addr) (q2l q2c : Nat) (w : World) (K : Value → World → Prop) : Prop :=
  newM #[.int .i64 0, .int .i64 0, .slice none 0 0] N.t_Matrix w fun p1 w2 =>
  stM p1 (.int .i64 q0) w2 fun w3 =>
  stM (p1.add 1) (.int .i64 q1) w3 fun w4 =>
  stM (p1.add 2) (.slice q2 q2l q2c) w4 fun w5 =>
  ∃ n6 : Int, w5.cell? p1 = some (.int .i64 n6) ∧
  ∃ n7 : Int, w5.cell? (p1.add 1) = some (.int .i64 n7) ∧
  ∃ (s8a : Option Addr) (s8l s8c : Nat), w5.cell? (p1.add 2) = some (.slice s8a s8l s8c) ∧
  K (.agg #[.int .i64 n6, .int .i64 n7, .slice s8a s8l s8c]) w5

/-- girder/girderkit.CopyReals -/
def S_girderkit_CopyReals (N : Nums) (P : Program) (q0 : Option Addr) (q0l q0c : Nat) (w : World) (K : Value → World → Prop) : Prop :=
  appM N.t_float64 1 8 #[.float .f64 0] none 0 0 q0 q0l w fun s1a s1l s1c w2 =>
  K (.slice s1a s1l s1c) w2

/-- girder/matrix.Make -/
def S_matrix_Make (N : Nums) (P : Program) (q0 : Int) (q1 : Int) (w : World) (K : Value → World → Prop) : Prop :=
  newM #[.int .i64 0, .int .i64 0, .slice none 0 0] N.t_Matrix w fun p1 w2 =>
  CallsX P N.f_matrix_fits #[.int .i64 q0] w2 fun v4 w3 =>
  ∃ b5 : Bool, v4 = (.bool b5) ∧
  cond (!(!b5))
  (CallsX P N.f_matrix_fits #[.int .i64 q1] w3 fun v7 w6 =>
    ∃ b8 : Bool, v7 = (.bool b8) ∧
    cond (!b8)
    (stM p1 (.int .i64 0) w6 fun w9 =>
      stM (p1.add 1) (.int .i64 0) w9 fun w10 =>
      stM (p1.add 2) (.slice none 0 0) w10 fun w11 =>
      ∃ n12 : Int, w11.cell? p1 = some (.int .i64 n12) ∧
      ∃ n13 : Int, w11.cell? (p1.add 1) = some (.int .i64 n13) ∧
      ∃ (s14a : Option Addr) (s14l s14c : Nat), w11.cell? (p1.add 2) = some (.slice s14a s14l s14c) ∧
      K (.tuple #[.agg #[.int .i64 n12, .int .i64 n13, .slice s14a s14l s14c], .int .i64 2]) w11)
    (CallsX P N.f_matrix_laid #[.int .i64 q0, .int .i64 q1, .func (.func N.f_matrix_Make_1) #[] #[]] w6 fun v16 w15 =>
      ∃ n17 : Int, ∃ n18 : Int, ∃ (s19a : Option Addr) (s19l s19c : Nat), v16 = (.agg #[.int .i64 n17, .int .i64 n18, .slice s19a s19l s19c]) ∧
      stM p1 (.int .i64 n17) w15 fun w20 =>
      stM (p1.add 1) (.int .i64 n18) w20 fun w21 =>
      stM (p1.add 2) (.slice s19a s19l s19c) w21 fun w22 =>
      ∃ n23 : Int, w22.cell? p1 = some (.int .i64 n23) ∧
      ∃ n24 : Int, w22.cell? (p1.add 1) = some (.int .i64 n24) ∧
      ∃ (s25a : Option Addr) (s25l s25c : Nat), w22.cell? (p1.add 2) = some (.slice s25a s25l s25c) ∧
      K (.tuple #[.agg #[.int .i64 n23, .int .i64 n24, .slice s25a s25l s25c], .int .i64 0]) w22))
  (stM p1 (.int .i64 0) w3 fun w26 =>
    stM (p1.add 1) (.int .i64 0) w26 fun w27 =>
    stM (p1.add 2) (.slice none 0 0) w27 fun w28 =>
    ∃ n29 : Int, w28.cell? p1 = some (.int .i64 n29) ∧
    ∃ n30 : Int, w28.cell? (p1.add 1) = some (.int .i64 n30) ∧
    ∃ (s31a : Option Addr) (s31l s31c : Nat), w28.cell? (p1.add 2) = some (.slice s31a s31l s31c) ∧
    K (.tuple #[.agg #[.int .i64 n29, .int .i64 n30, .slice s31a s31l s31c], .int .i64 2]) w28)

/-- girder/girderref10.Make -/
def S_girderref10_Make (N : Nums) (P : Program) (q0 : Int) (q1 : Int) (w : World) (K : Value → World → Prop) : Prop :=
  newM #[.int .i64 0, .int .i64 0, .slice none 0 0] N.t_Matrix w fun p1 w2 =>
  CallsX P N.f_girderref10_may #[.int .i64 q0] w2 fun v4 w3 =>
  ∃ b5 : Bool, v4 = (.bool b5) ∧
  cond (!(!b5))
  (CallsX P N.f_girderref10_may #[.int .i64 q1] w3 fun v7 w6 =>
    ∃ b8 : Bool, v7 = (.bool b8) ∧
    cond (!b8)
    (stM p1 (.int .i64 0) w6 fun w9 =>
      stM (p1.add 1) (.int .i64 0) w9 fun w10 =>
      stM (p1.add 2) (.slice none 0 0) w10 fun w11 =>
      ∃ n12 : Int, w11.cell? p1 = some (.int .i64 n12) ∧
      ∃ n13 : Int, w11.cell? (p1.add 1) = some (.int .i64 n13) ∧
      ∃ (s14a : Option Addr) (s14l s14c : Nat), w11.cell? (p1.add 2) = some (.slice s14a s14l s14c) ∧
      K (.tuple #[.agg #[.int .i64 n12, .int .i64 n13, .slice s14a s14l s14c], .int .i64 2]) w11)
    (mkM N.t_float64 1 8 #[.float .f64 0] (IntKind.i64.wrap (q0 * q1)) (IntKind.i64.wrap (q0 * q1)) w6 fun p15 w16 =>
      stM p1 (.int .i64 q0) w16 fun w17 =>
      stM (p1.add 1) (.int .i64 q1) w17 fun w18 =>
      stM (p1.add 2) (.slice (some p15) ((IntKind.i64.wrap (q0 * q1)).toNat) ((IntKind.i64.wrap (q0 * q1)).toNat)) w18 fun w19 =>
      ∃ n20 : Int, w19.cell? p1 = some (.int .i64 n20) ∧
      ∃ n21 : Int, w19.cell? (p1.add 1) = some (.int .i64 n21) ∧
      ∃ (s22a : Option Addr) (s22l s22c : Nat), w19.cell? (p1.add 2) = some (.slice s22a s22l s22c) ∧
      K (.tuple #[.agg #[.int .i64 n20, .int .i64 n21, .slice s22a s22l s22c], .int .i64 0]) w19))
  (stM p1 (.int .i64 0) w3 fun w23 =>
    stM (p1.add 1) (.int .i64 0) w23 fun w24 =>
    stM (p1.add 2) (.slice none 0 0) w24 fun w25 =>
    ∃ n26 : Int, w25.cell? p1 = some (.int .i64 n26) ∧
    ∃ n27 : Int, w25.cell? (p1.add 1) = some (.int .i64 n27) ∧
    ∃ (s28a : Option Addr) (s28l s28c : Nat), w25.cell? (p1.add 2) = some (.slice s28a s28l s28c) ∧
    K (.tuple #[.agg #[.int .i64 n26, .int .i64 n27, .slice s28a s28l s28c], .int .i64 2]) w25)

/-- girder/girderref10.Identity -/
def S_girderref10_Identity (N : Nums) (P : Program) (q0 : Int) (w : World) (K : Value → World → Prop) : Prop :=
  newM #[.int .i64 0, .int .i64 0, .slice none 0 0] N.t_Matrix w fun p1 w2 =>
  CallsX P N.f_girderref10_Make #[.int .i64 q0, .int .i64 q0] w2 fun v4 w3 =>
  ∃ n5 : Int, ∃ n6 : Int, ∃ (s7a : Option Addr) (s7l s7c : Nat), ∃ n8 : Int, v4 = (.tuple #[.agg #[.int .i64 n5, .int .i64 n6, .slice s7a s7l s7c], .int .i64 n8]) ∧
  newM #[.int .i64 0, .int .i64 0, .slice none 0 0] N.t_Matrix w3 fun p9 w10 =>
  stM p9 (.int .i64 n5) w10 fun w11 =>
  stM (p9.add 1) (.int .i64 n6) w11 fun w12 =>
  stM (p9.add 2) (.slice s7a s7l s7c) w12 fun w13 =>
  cutM (σ := Unit) (fun J14 =>
    loopM (σ := Int × Unit) (fun s17 X18 w19 =>
      cond (n8 == 0)
      (cond (decide (s17.1 < q0))
        (∃ (s20a : Option Addr) (s20l s20c : Nat), w19.cell? (p9.add 2) = some (.slice s20a s20l s20c) ∧
          (0 : Int) ≤ (IntKind.i64.wrap ((IntKind.i64.wrap (s17.1 * q0)) + s17.1)) ∧ (IntKind.i64.wrap ((IntKind.i64.wrap (s17.1 * q0)) + s17.1)) < (s20l : Nat) ∧
          optM s20a fun a21 =>
          stM (a21.add ((IntKind.i64.wrap ((IntKind.i64.wrap (s17.1 * q0)) + s17.1)).toNat * 1)) (.float .f64 4607182418800017408) w19 fun w22 =>
          X18 ((IntKind.i64.wrap (s17.1 + 1)), ()) w22)
        (J14 (()) w19))
      (J14 (()) w19))
    (0, ()) w13)
  (fun s15 w16 =>
    ∃ n23 : Int, w16.cell? p9 = some (.int .i64 n23) ∧
    ∃ n24 : Int, w16.cell? (p9.add 1) = some (.int .i64 n24) ∧
    ∃ (s25a : Option Addr) (s25l s25c : Nat), w16.cell? (p9.add 2) = some (.slice s25a s25l s25c) ∧
    stM p1 (.int .i64 n23) w16 fun w26 =>
    stM (p1.add 1) (.int .i64 n24) w26 fun w27 =>
    stM (p1.add 2) (.slice s25a s25l s25c) w27 fun w28 =>
    ∃ n29 : Int, w28.cell? p1 = some (.int .i64 n29) ∧
    ∃ n30 : Int, w28.cell? (p1.add 1) = some (.int .i64 n30) ∧
    ∃ (s31a : Option Addr) (s31l s31c : Nat), w28.cell? (p1.add 2) = some (.slice s31a s31l s31c) ∧
    K (.tuple #[.agg #[.int .i64 n29, .int .i64 n30, .slice s31a s31l s31c], .int .i64 n8]) w28)

/-- girder/matrix.Right -/
def S_matrix_Right (N : Nums) (P : Program) (q0_0 : Int) (q0_1 : Int) (q0_2 : Option Addr) (q0_2l q0_2c : Nat) (w : World) (K : Value → World → Prop) : Prop :=
  newM #[.int .i64 q0_0, .int .i64 q0_1, .slice q0_2 q0_2l q0_2c] N.t_Matrix w fun p1 w2 =>
  ∃ n3 : Int, w2.cell? p1 = some (.int .i64 n3) ∧
  CallsX P N.f_matrix_fits #[.int .i64 n3] w2 fun v5 w4 =>
  ∃ b6 : Bool, v5 = (.bool b6) ∧
  cond b6
  (∃ n7 : Int, w4.cell? (p1.add 1) = some (.int .i64 n7) ∧
    CallsX P N.f_matrix_fits #[.int .i64 n7] w4 fun v9 w8 =>
    ∃ b10 : Bool, v9 = (.bool b10) ∧
    cond b10
    (∃ (s11a : Option Addr) (s11l s11c : Nat), w8.cell? (p1.add 2) = some (.slice s11a s11l s11c) ∧
      ∃ n12 : Int, w8.cell? p1 = some (.int .i64 n12) ∧
      ∃ n13 : Int, w8.cell? (p1.add 1) = some (.int .i64 n13) ∧
      K (.bool (((s11l : Nat) : Int) == (IntKind.i64.wrap (n12 * n13)))) w8)
    (K (.bool false) w8))
  (K (.bool false) w4)

/-- girder/girderref10.Right -/
def S_girderref10_Right (N : Nums) (P : Program) (q0_0 : Int) (q0_1 : Int) (q0_2 : Option Addr) (q0_2l q0_2c : Nat) (w : World) (K : Value → World → Prop) : Prop :=
  newM #[.int .i64 q0_0, .int .i64 q0_1, .slice q0_2 q0_2l q0_2c] N.t_Matrix w fun p1 w2 =>
  ∃ n3 : Int, w2.cell? p1 = some (.int .i64 n3) ∧
  CallsX P N.f_girderref10_may #[.int .i64 n3] w2 fun v5 w4 =>
  ∃ b6 : Bool, v5 = (.bool b6) ∧
  cond b6
  (∃ n7 : Int, w4.cell? (p1.add 1) = some (.int .i64 n7) ∧
    CallsX P N.f_girderref10_may #[.int .i64 n7] w4 fun v9 w8 =>
    ∃ b10 : Bool, v9 = (.bool b10) ∧
    cond b10
    (∃ (s11a : Option Addr) (s11l s11c : Nat), w8.cell? (p1.add 2) = some (.slice s11a s11l s11c) ∧
      ∃ n12 : Int, w8.cell? p1 = some (.int .i64 n12) ∧
      ∃ n13 : Int, w8.cell? (p1.add 1) = some (.int .i64 n13) ∧
      K (.bool (((s11l : Nat) : Int) == (IntKind.i64.wrap (n12 * n13)))) w8)
    (K (.bool false) w8))
  (K (.bool false) w4)

/-- girder/girderref10.Same -/
def S_girderref10_Same (N : Nums) (P : Program) (q0_0 : Int) (q0_1 : Int) (q0_2 : Option Addr) (q0_2l q0_2c : Nat) (q1_0 : Int) (q1_1 : Int) (q1_2 : Option Addr) (q1_2l q1_2c : Nat) (w : World) (K : Value → World → Prop) : Prop :=
  newM #[.int .i64 q0_0, .int .i64 q0_1, .slice q0_2 q0_2l q0_2c] N.t_Matrix w fun p1 w2 =>
  newM #[.int .i64 q1_0, .int .i64 q1_1, .slice q1_2 q1_2l q1_2c] N.t_Matrix w2 fun p3 w4 =>
  cutM (σ := Bool × Unit) (fun J5 =>
    ∃ n8 : Int, w4.cell? p1 = some (.int .i64 n8) ∧
    ∃ n9 : Int, w4.cell? p3 = some (.int .i64 n9) ∧
    cond (!(n8 != n9))
    (∃ n10 : Int, w4.cell? (p1.add 1) = some (.int .i64 n10) ∧
      ∃ n11 : Int, w4.cell? (p3.add 1) = some (.int .i64 n11) ∧
      cond (!(n10 != n11))
      (∃ (s12a : Option Addr) (s12l s12c : Nat), w4.cell? (p1.add 2) = some (.slice s12a s12l s12c) ∧
        ∃ (s13a : Option Addr) (s13l s13c : Nat), w4.cell? (p3.add 2) = some (.slice s13a s13l s13c) ∧
        J5 ((((s12l : Nat) : Int) != ((s13l : Nat) : Int)), ()) w4)
      (J5 (true, ()) w4))
    (J5 (true, ()) w4))
  (fun s6 w7 =>
    cond s6.1
    (K (.bool false) w7)
    (cutM (σ := Unit) (fun J14 =>
        loopM (σ := Int × Unit) (fun s17 X18 w19 =>
          ∃ (s20a : Option Addr) (s20l s20c : Nat), w19.cell? (p1.add 2) = some (.slice s20a s20l s20c) ∧
          cond (decide (s17.1 < ((s20l : Nat) : Int)))
          (∃ (s21a : Option Addr) (s21l s21c : Nat), w19.cell? (p1.add 2) = some (.slice s21a s21l s21c) ∧
            (0 : Int) ≤ s17.1 ∧ s17.1 < (s21l : Nat) ∧
            optM s21a fun a22 =>
            ∃ x23 : Nat, w19.cell? (a22.add (s17.1.toNat * 1)) = some (.float .f64 x23) ∧
            ∃ (s24a : Option Addr) (s24l s24c : Nat), w19.cell? (p3.add 2) = some (.slice s24a s24l s24c) ∧
            (0 : Int) ≤ s17.1 ∧ s17.1 < (s24l : Nat) ∧
            optM s24a fun a25 =>
            ∃ x26 : Nat, w19.cell? (a25.add (s17.1.toNat * 1)) = some (.float .f64 x26) ∧
            drM w19 fun w27 =>
            CallsX P N.f_girderref01_Same #[.float .f64 x23, .float .f64 x26] w27 fun v29 w28 =>
            ∃ b30 : Bool, v29 = (.bool b30) ∧
            drM w28 fun w31 =>
            cond (!b30)
            (K (.bool false) w31)
            (X18 ((IntKind.i64.wrap (s17.1 + 1)), ()) w31))
          (J14 (()) w19))
        (0, ()) w7)
      (fun s15 w16 =>
        K (.bool true) w16)))

/-- girder/girderref10.Symmetric -/
def S_girderref10_Symmetric (N : Nums) (P : Program) (q0_0 : Int) (q0_1 : Int) (q0_2 : Option Addr) (q0_2l q0_2c : Nat) (w : World) (K : Value → World → Prop) : Prop :=
  newM #[.int .i64 q0_0, .int .i64 q0_1, .slice q0_2 q0_2l q0_2c] N.t_Matrix w fun p1 w2 =>
  cutM (σ := Bool × Unit) (fun J3 =>
    ∃ n6 : Int, w2.cell? p1 = some (.int .i64 n6) ∧
    ∃ n7 : Int, w2.cell? (p1.add 1) = some (.int .i64 n7) ∧
    ∃ (s8a : Option Addr) (s8l s8c : Nat), w2.cell? (p1.add 2) = some (.slice s8a s8l s8c) ∧
    CallsX P N.f_girderref10_Right #[.agg #[.int .i64 n6, .int .i64 n7, .slice s8a s8l s8c]] w2 fun v10 w9 =>
    ∃ b11 : Bool, v10 = (.bool b11) ∧
    cond (!(!b11))
    (∃ n12 : Int, w9.cell? p1 = some (.int .i64 n12) ∧
      ∃ n13 : Int, w9.cell? (p1.add 1) = some (.int .i64 n13) ∧
      J3 ((n12 != n13), ()) w9)
    (J3 (true, ()) w9))
  (fun s4 w5 =>
    cond s4.1
    (K (.bool false) w5)
    (cutM (σ := Unit) (fun J14 =>
        loopM (σ := Int × Unit) (fun s17 X18 w19 =>
          ∃ n20 : Int, w19.cell? p1 = some (.int .i64 n20) ∧
          cond (decide (s17.1 < n20))
          (cutM (σ := Unit) (fun J21 =>
              loopM (σ := Int × Unit) (fun s24 X25 w26 =>
                cond (decide (s24.1 < s17.1))
                (∃ n27 : Int, w26.cell? p1 = some (.int .i64 n27) ∧
                  ∃ n28 : Int, w26.cell? (p1.add 1) = some (.int .i64 n28) ∧
                  ∃ (s29a : Option Addr) (s29l s29c : Nat), w26.cell? (p1.add 2) = some (.slice s29a s29l s29c) ∧
                  ∃ n30 : Int, w26.cell? p1 = some (.int .i64 n30) ∧
                  ∃ n31 : Int, w26.cell? (p1.add 1) = some (.int .i64 n31) ∧
                  ∃ (s32a : Option Addr) (s32l s32c : Nat), w26.cell? (p1.add 2) = some (.slice s32a s32l s32c) ∧
                  drM w26 fun w33 =>
                  CallsX P N.f_girderref10_At #[.agg #[.int .i64 n27, .int .i64 n28, .slice s29a s29l s29c], .int .i64 s17.1, .int .i64 s24.1] w33 fun v35 w34 =>
                  ∃ x36 : Nat, v35 = (.float .f64 x36) ∧
                  w34.cell? p1 = some (.int .i64 n30) ∧
                  w34.cell? (p1.add 1) = some (.int .i64 n31) ∧
                  w34.cell? (p1.add 2) = some (.slice s32a s32l s32c) ∧
                  drM w34 fun w37 =>
                  CallsX P N.f_girderref10_At #[.agg #[.int .i64 n30, .int .i64 n31, .slice s32a s32l s32c], .int .i64 s24.1, .int .i64 s17.1] w37 fun v39 w38 =>
                  ∃ x40 : Nat, v39 = (.float .f64 x40) ∧
                  drM w38 fun w41 =>
                  CallsX P N.f_girderref01_Same #[.float .f64 x36, .float .f64 x40] w41 fun v43 w42 =>
                  ∃ b44 : Bool, v43 = (.bool b44) ∧
                  drM w42 fun w45 =>
                  cond (!b44)
                  (K (.bool false) w45)
                  (X25 ((IntKind.i64.wrap (s24.1 + 1)), ()) w45))
                (J21 (()) w26))
              (0, ()) w19)
            (fun s22 w23 =>
              X18 ((IntKind.i64.wrap (s17.1 + 1)), ()) w23))
          (J14 (()) w19))
        (0, ()) w5)
      (fun s15 w16 =>
        K (.bool true) w16)))

/-- girder/girderref10.Transpose -/
def S_girderref10_Transpose (N : Nums) (P : Program) (q0_0 : Int) (q0_1 : Int) (q0_2 : Option Addr) (q0_2l q0_2c : Nat) (w : World) (K : Value → World → Prop) : Prop :=
  newM #[.int .i64 q0_0, .int .i64 q0_1, .slice q0_2 q0_2l q0_2c] N.t_Matrix w fun p1 w2 =>
  newM #[.int .i64 0, .int .i64 0, .slice none 0 0] N.t_Matrix w2 fun p3 w4 =>
  ∃ n5 : Int, w4.cell? p1 = some (.int .i64 n5) ∧
  ∃ n6 : Int, w4.cell? (p1.add 1) = some (.int .i64 n6) ∧
  ∃ (s7a : Option Addr) (s7l s7c : Nat), w4.cell? (p1.add 2) = some (.slice s7a s7l s7c) ∧
  CallsX P N.f_girderref10_Right #[.agg #[.int .i64 n5, .int .i64 n6, .slice s7a s7l s7c]] w4 fun v9 w8 =>
  ∃ b10 : Bool, v9 = (.bool b10) ∧
  cond (!b10)
  (stM p3 (.int .i64 0) w8 fun w11 =>
    stM (p3.add 1) (.int .i64 0) w11 fun w12 =>
    stM (p3.add 2) (.slice none 0 0) w12 fun w13 =>
    ∃ n14 : Int, w13.cell? p3 = some (.int .i64 n14) ∧
    ∃ n15 : Int, w13.cell? (p3.add 1) = some (.int .i64 n15) ∧
    ∃ (s16a : Option Addr) (s16l s16c : Nat), w13.cell? (p3.add 2) = some (.slice s16a s16l s16c) ∧
    K (.tuple #[.agg #[.int .i64 n14, .int .i64 n15, .slice s16a s16l s16c], .int .i64 4]) w13)
  (∃ n17 : Int, w8.cell? (p1.add 1) = some (.int .i64 n17) ∧
    ∃ n18 : Int, w8.cell? p1 = some (.int .i64 n18) ∧
    CallsX P N.f_girderref10_Make #[.int .i64 n17, .int .i64 n18] w8 fun v20 w19 =>
    ∃ n21 : Int, ∃ n22 : Int, ∃ (s23a : Option Addr) (s23l s23c : Nat), ∃ n24 : Int, v20 = (.tuple #[.agg #[.int .i64 n21, .int .i64 n22, .slice s23a s23l s23c], .int .i64 n24]) ∧
    newM #[.int .i64 0, .int .i64 0, .slice none 0 0] N.t_Matrix w19 fun p25 w26 =>
    stM p25 (.int .i64 n21) w26 fun w27 =>
    stM (p25.add 1) (.int .i64 n22) w27 fun w28 =>
    stM (p25.add 2) (.slice s23a s23l s23c) w28 fun w29 =>
    cutM (σ := Unit) (fun J30 =>
      loopM (σ := Int × Unit) (fun s33 X34 w35 =>
        ∃ n36 : Int, w35.cell? p1 = some (.int .i64 n36) ∧
        cond (decide (s33.1 < n36))
        (cutM (σ := Unit) (fun J37 =>
            loopM (σ := Int × Unit) (fun s40 X41 w42 =>
              ∃ n43 : Int, w42.cell? (p1.add 1) = some (.int .i64 n43) ∧
              cond (decide (s40.1 < n43))
              (∃ (s44a : Option Addr) (s44l s44c : Nat), w42.cell? (p25.add 2) = some (.slice s44a s44l s44c) ∧
                ∃ n45 : Int, w42.cell? p1 = some (.int .i64 n45) ∧
                ∃ n46 : Int, w42.cell? p1 = some (.int .i64 n46) ∧
                ∃ n47 : Int, w42.cell? (p1.add 1) = some (.int .i64 n47) ∧
                ∃ (s48a : Option Addr) (s48l s48c : Nat), w42.cell? (p1.add 2) = some (.slice s48a s48l s48c) ∧
                drM w42 fun w49 =>
                CallsX P N.f_girderref10_At #[.agg #[.int .i64 n46, .int .i64 n47, .slice s48a s48l s48c], .int .i64 s33.1, .int .i64 s40.1] w49 fun v51 w50 =>
                ∃ x52 : Nat, v51 = (.float .f64 x52) ∧
                w50.cell? p1 = some (.int .i64 n45) ∧
                w50.cell? (p25.add 2) = some (.slice s44a s44l s44c) ∧
                (0 : Int) ≤ (IntKind.i64.wrap ((IntKind.i64.wrap (s40.1 * n45)) + s33.1)) ∧ (IntKind.i64.wrap ((IntKind.i64.wrap (s40.1 * n45)) + s33.1)) < (s44l : Nat) ∧
                optM s44a fun a53 =>
                drM w50 fun w54 =>
                stM (a53.add ((IntKind.i64.wrap ((IntKind.i64.wrap (s40.1 * n45)) + s33.1)).toNat * 1)) (.float .f64 x52) w54 fun w55 =>
                drM w55 fun w56 =>
                X41 ((IntKind.i64.wrap (s40.1 + 1)), ()) w56)
              (J37 (()) w42))
            (0, ()) w35)
          (fun s38 w39 =>
            X34 ((IntKind.i64.wrap (s33.1 + 1)), ()) w39))
        (J30 (()) w35))
      (0, ()) w29)
    (fun s31 w32 =>
      ∃ n57 : Int, w32.cell? p25 = some (.int .i64 n57) ∧
      ∃ n58 : Int, w32.cell? (p25.add 1) = some (.int .i64 n58) ∧
      ∃ (s59a : Option Addr) (s59l s59c : Nat), w32.cell? (p25.add 2) = some (.slice s59a s59l s59c) ∧
      stM p3 (.int .i64 n57) w32 fun w60 =>
      stM (p3.add 1) (.int .i64 n58) w60 fun w61 =>
      stM (p3.add 2) (.slice s59a s59l s59c) w61 fun w62 =>
      ∃ n63 : Int, w62.cell? p3 = some (.int .i64 n63) ∧
      ∃ n64 : Int, w62.cell? (p3.add 1) = some (.int .i64 n64) ∧
      ∃ (s65a : Option Addr) (s65l s65c : Nat), w62.cell? (p3.add 2) = some (.slice s65a s65l s65c) ∧
      K (.tuple #[.agg #[.int .i64 n63, .int .i64 n64, .slice s65a s65l s65c], .int .i64 0]) w62))

/-- girder/girderref10.Sub -/
def S_girderref10_Sub (N : Nums) (P : Program) (q0_0 : Int) (q0_1 : Int) (q0_2 : Option Addr) (q0_2l q0_2c : Nat) (q1_0 : Int) (q1_1 : Int) (q1_2 : Option Addr) (q1_2l q1_2c : Nat) (w : World) (K : Value → World → Prop) : Prop :=
  newM #[.int .i64 q0_0, .int .i64 q0_1, .slice q0_2 q0_2l q0_2c] N.t_Matrix w fun p1 w2 =>
  newM #[.int .i64 q1_0, .int .i64 q1_1, .slice q1_2 q1_2l q1_2c] N.t_Matrix w2 fun p3 w4 =>
  newM #[.int .i64 0, .int .i64 0, .slice none 0 0] N.t_Matrix w4 fun p5 w6 =>
  cutM (σ := Bool × Unit) (fun J7 =>
    ∃ n10 : Int, w6.cell? p1 = some (.int .i64 n10) ∧
    ∃ n11 : Int, w6.cell? (p1.add 1) = some (.int .i64 n11) ∧
    ∃ (s12a : Option Addr) (s12l s12c : Nat), w6.cell? (p1.add 2) = some (.slice s12a s12l s12c) ∧
    CallsX P N.f_girderref10_Right #[.agg #[.int .i64 n10, .int .i64 n11, .slice s12a s12l s12c]] w6 fun v14 w13 =>
    ∃ b15 : Bool, v14 = (.bool b15) ∧
    cond (!(!b15))
    (∃ n16 : Int, w13.cell? p3 = some (.int .i64 n16) ∧
      ∃ n17 : Int, w13.cell? (p3.add 1) = some (.int .i64 n17) ∧
      ∃ (s18a : Option Addr) (s18l s18c : Nat), w13.cell? (p3.add 2) = some (.slice s18a s18l s18c) ∧
      CallsX P N.f_girderref10_Right #[.agg #[.int .i64 n16, .int .i64 n17, .slice s18a s18l s18c]] w13 fun v20 w19 =>
      ∃ b21 : Bool, v20 = (.bool b21) ∧
      cond (!(!b21))
      (∃ n22 : Int, w19.cell? p1 = some (.int .i64 n22) ∧
        ∃ n23 : Int, w19.cell? p3 = some (.int .i64 n23) ∧
        cond (!(n22 != n23))
        (∃ n24 : Int, w19.cell? (p1.add 1) = some (.int .i64 n24) ∧
          ∃ n25 : Int, w19.cell? (p3.add 1) = some (.int .i64 n25) ∧
          J7 ((n24 != n25), ()) w19)
        (J7 (true, ()) w19))
      (J7 (true, ()) w19))
    (J7 (true, ()) w13))
  (fun s8 w9 =>
    cond s8.1
    (stM p5 (.int .i64 0) w9 fun w26 =>
      stM (p5.add 1) (.int .i64 0) w26 fun w27 =>
      stM (p5.add 2) (.slice none 0 0) w27 fun w28 =>
      ∃ n29 : Int, w28.cell? p5 = some (.int .i64 n29) ∧
      ∃ n30 : Int, w28.cell? (p5.add 1) = some (.int .i64 n30) ∧
      ∃ (s31a : Option Addr) (s31l s31c : Nat), w28.cell? (p5.add 2) = some (.slice s31a s31l s31c) ∧
      K (.tuple #[.agg #[.int .i64 n29, .int .i64 n30, .slice s31a s31l s31c], .int .i64 4]) w28)
    (∃ n32 : Int, w9.cell? p1 = some (.int .i64 n32) ∧
      ∃ n33 : Int, w9.cell? (p1.add 1) = some (.int .i64 n33) ∧
      CallsX P N.f_girderref10_Make #[.int .i64 n32, .int .i64 n33] w9 fun v35 w34 =>
      ∃ n36 : Int, ∃ n37 : Int, ∃ (s38a : Option Addr) (s38l s38c : Nat), ∃ n39 : Int, v35 = (.tuple #[.agg #[.int .i64 n36, .int .i64 n37, .slice s38a s38l s38c], .int .i64 n39]) ∧
      newM #[.int .i64 0, .int .i64 0, .slice none 0 0] N.t_Matrix w34 fun p40 w41 =>
      stM p40 (.int .i64 n36) w41 fun w42 =>
      stM (p40.add 1) (.int .i64 n37) w42 fun w43 =>
      stM (p40.add 2) (.slice s38a s38l s38c) w43 fun w44 =>
      cutM (σ := Unit) (fun J45 =>
        loopM (σ := Int × Unit) (fun s48 X49 w50 =>
          ∃ (s51a : Option Addr) (s51l s51c : Nat), w50.cell? (p1.add 2) = some (.slice s51a s51l s51c) ∧
          cond (decide (s48.1 < ((s51l : Nat) : Int)))
          (∃ (s52a : Option Addr) (s52l s52c : Nat), w50.cell? (p40.add 2) = some (.slice s52a s52l s52c) ∧
            ∃ (s53a : Option Addr) (s53l s53c : Nat), w50.cell? (p1.add 2) = some (.slice s53a s53l s53c) ∧
            (0 : Int) ≤ s48.1 ∧ s48.1 < (s53l : Nat) ∧
            optM s53a fun a54 =>
            ∃ x55 : Nat, w50.cell? (a54.add (s48.1.toNat * 1)) = some (.float .f64 x55) ∧
            ∃ (s56a : Option Addr) (s56l s56c : Nat), w50.cell? (p3.add 2) = some (.slice s56a s56l s56c) ∧
            (0 : Int) ≤ s48.1 ∧ s48.1 < (s56l : Nat) ∧
            optM s56a fun a57 =>
            ∃ x58 : Nat, w50.cell? (a57.add (s48.1.toNat * 1)) = some (.float .f64 x58) ∧
            fresM (fsub x55 x58) w50 fun x59 w60 =>
            (0 : Int) ≤ s48.1 ∧ s48.1 < (s52l : Nat) ∧
            optM s52a fun a61 =>
            drM w50 fun w62 =>
            stM (a61.add (s48.1.toNat * 1)) (.float .f64 x59) w62 fun w63 =>
            drM w63 fun w64 =>
            X49 ((IntKind.i64.wrap (s48.1 + 1)), ()) w64)
          (J45 (()) w50))
        (0, ()) w44)
      (fun s46 w47 =>
        ∃ n65 : Int, w47.cell? p40 = some (.int .i64 n65) ∧
        ∃ n66 : Int, w47.cell? (p40.add 1) = some (.int .i64 n66) ∧
        ∃ (s67a : Option Addr) (s67l s67c : Nat), w47.cell? (p40.add 2) = some (.slice s67a s67l s67c) ∧
        stM p5 (.int .i64 n65) w47 fun w68 =>
        stM (p5.add 1) (.int .i64 n66) w68 fun w69 =>
        stM (p5.add 2) (.slice s67a s67l s67c) w69 fun w70 =>
        ∃ n71 : Int, w70.cell? p5 = some (.int .i64 n71) ∧
        ∃ n72 : Int, w70.cell? (p5.add 1) = some (.int .i64 n72) ∧
        ∃ (s73a : Option Addr) (s73l s73c : Nat), w70.cell? (p5.add 2) = some (.slice s73a s73l s73c) ∧
        K (.tuple #[.agg #[.int .i64 n71, .int .i64 n72, .slice s73a s73l s73c], .int .i64 0]) w70)))

/-- girder/girderref10.Norm -/
def S_girderref10_Norm (N : Nums) (P : Program) (q0_0 : Int) (q0_1 : Int) (q0_2 : Option Addr) (q0_2l q0_2c : Nat) (w : World) (K : Value → World → Prop) : Prop :=
  newM #[.int .i64 q0_0, .int .i64 q0_1, .slice q0_2 q0_2l q0_2c] N.t_Matrix w fun p1 w2 =>
  ∃ n3 : Int, w2.cell? p1 = some (.int .i64 n3) ∧
  ∃ n4 : Int, w2.cell? (p1.add 1) = some (.int .i64 n4) ∧
  ∃ (s5a : Option Addr) (s5l s5c : Nat), w2.cell? (p1.add 2) = some (.slice s5a s5l s5c) ∧
  CallsX P N.f_girderref10_Right #[.agg #[.int .i64 n3, .int .i64 n4, .slice s5a s5l s5c]] w2 fun v7 w6 =>
  ∃ b8 : Bool, v7 = (.bool b8) ∧
  cond (!b8)
  (K (.tuple #[.float .f64 0, .int .i64 4]) w6)
  (cutM (σ := Unit) (fun J9 =>
      loopM (σ := Int × Unit) (fun s12 X13 w14 =>
        ∃ (s15a : Option Addr) (s15l s15c : Nat), w14.cell? (p1.add 2) = some (.slice s15a s15l s15c) ∧
        cond (decide (s12.1 < ((s15l : Nat) : Int)))
        (∃ (s16a : Option Addr) (s16l s16c : Nat), w14.cell? (p1.add 2) = some (.slice s16a s16l s16c) ∧
          (0 : Int) ≤ s12.1 ∧ s12.1 < (s16l : Nat) ∧
          optM s16a fun a17 =>
          ∃ x18 : Nat, w14.cell? (a17.add (s12.1.toNat * 1)) = some (.float .f64 x18) ∧
          CallsX P N.f_girderref01_Finite #[.float .f64 x18] w14 fun v20 w19 =>
          ∃ b21 : Bool, v20 = (.bool b21) ∧
          cond (!b21)
          (K (.tuple #[.float .f64 0, .int .i64 5]) w19)
          (X13 ((IntKind.i64.wrap (s12.1 + 1)), ()) w19))
        (J9 (()) w14))
      (0, ()) w6)
    (fun s10 w11 =>
      cutM (σ := Nat × Unit) (fun J22 =>
        loopM (σ := Nat × Int × Unit) (fun s25 X26 w27 =>
          ∃ n28 : Int, w27.cell? p1 = some (.int .i64 n28) ∧
          cond (decide (s25.2.1 < n28))
          (cutM (σ := Nat × Unit) (fun J29 =>
              cutM (σ := Nat × Unit) (fun J32 =>
                loopM (σ := Nat × Int × Unit) (fun s35 X36 w37 =>
                  ∃ n38 : Int, w37.cell? (p1.add 1) = some (.int .i64 n38) ∧
                  cond (decide (s35.2.1 < n38))
                  (∃ n39 : Int, w37.cell? p1 = some (.int .i64 n39) ∧
                    ∃ n40 : Int, w37.cell? (p1.add 1) = some (.int .i64 n40) ∧
                    ∃ (s41a : Option Addr) (s41l s41c : Nat), w37.cell? (p1.add 2) = some (.slice s41a s41l s41c) ∧
                    CallsX P N.f_girderref10_At #[.agg #[.int .i64 n39, .int .i64 n40, .slice s41a s41l s41c], .int .i64 s25.2.1, .int .i64 s35.2.1] w37 fun v43 w42 =>
                    ∃ x44 : Nat, v43 = (.float .f64 x44) ∧
                    cutM (σ := Nat × Unit) (fun J45 =>
                      cond (flt x44 0)
                      (J45 ((fneg x44), ()) w42)
                      (J45 (x44, ()) w42))
                    (fun s46 w47 =>
                      CallsX P N.f_girderref03_Add #[.float .f64 s35.1, .float .f64 s46.1, .int .i8 2] w47 fun v49 w48 =>
                      ∃ x50 : Nat, v49 = (.float .f64 x50) ∧
                      X36 (x50, (IntKind.i64.wrap (s35.2.1 + 1)), ()) w48))
                  (J32 (s35.1, ()) w37))
                (0, 0, ()) w27)
              (fun s33 w34 =>
                cutM (σ := Nat × Unit) (fun J51 =>
                  cond (fgt s33.1 s25.1)
                  (J51 (s33.1, ()) w34)
                  (J51 (s25.1, ()) w34))
                (fun s52 w53 =>
                  J29 (s52.1, ()) w53)))
            (fun s30 w31 =>
              X26 (s30.1, (IntKind.i64.wrap (s25.2.1 + 1)), ()) w31))
          (J22 (s25.1, ()) w27))
        (0, 0, ()) w11)
      (fun s23 w24 =>
        K (.tuple #[.float .f64 s23.1, .int .i64 0]) w24)))

/-- math.Copysign -/
def S_math_Copysign (N : Nums) (P : Program) (q0 : Nat) (q1 : Nat) (w : World) (K : Value → World → Prop) : Prop :=
  CallsX P N.f_math_Float64bits #[.float .f64 q0] w fun v2 w1 =>
  ∃ n3 : Int, v2 = (.int .u64 n3) ∧
  CallsX P N.f_math_Float64bits #[.float .f64 q1] w1 fun v5 w4 =>
  ∃ n6 : Int, v5 = (.int .u64 n6) ∧
  CallsX P N.f_math_Float64frombits #[.int .u64 (IntKind.u64.wrap (BitVec.ofInt IntKind.u64.bits (IntKind.u64.wrap (BitVec.ofInt IntKind.u64.bits n3 &&& ~~~BitVec.ofInt IntKind.u64.bits 9223372036854775808).toNat) ||| BitVec.ofInt IntKind.u64.bits (IntKind.u64.wrap (BitVec.ofInt IntKind.u64.bits n6 &&& BitVec.ofInt IntKind.u64.bits 9223372036854775808).toNat)).toNat)] w4 fun v8 w7 =>
  ∃ x9 : Nat, v8 = (.float .f64 x9) ∧
  K (.float .f64 x9) w7

/-- math.Inf -/
def S_math_Inf (N : Nums) (P : Program) (q0 : Int) (w : World) (K : Value → World → Prop) : Prop :=
  cutM (σ := Int × Unit) (fun J1 =>
    cond (decide (q0 ≥ 0))
    (J1 (9218868437227405312, ()) w)
    (J1 (18442240474082181120, ()) w))
  (fun s2 w3 =>
    CallsX P N.f_math_Float64frombits #[.int .u64 s2.1] w3 fun v5 w4 =>
    ∃ x6 : Nat, v5 = (.float .f64 x6) ∧
    K (.float .f64 x6) w4)

/-- math.NaN -/
def S_math_NaN (N : Nums) (P : Program)  (w : World) (K : Value → World → Prop) : Prop :=
  CallsX P N.f_math_Float64frombits #[.int .u64 9221120237041090561] w fun v2 w1 =>
  ∃ x3 : Nat, v2 = (.float .f64 x3) ∧
  K (.float .f64 x3) w1

/-- girder/girderkit.mark -/
def S_girderkit_mark (N : Nums) (P : Program) (q0 : Int) (q1 : Int) (w : World) (K : Value → World → Prop) : Prop :=
  K (.int .i64 (IntKind.i64.wrap ((IntKind.i64.wrap (1000003 * (IntKind.i64.wrap (q0 + 7)))) + q1))) w

/-- girder/matrix.laid -/
def S_matrix_laid (N : Nums) (P : Program) (q0 : Int) (q1 : Int) (q2 : Value) (w : World) (K : Value → World → Prop) : Prop :=
  newM #[.int .i64 0, .int .i64 0, .slice none 0 0] N.t_Matrix w fun p1 w2 =>
  mkM N.t_float64 1 8 #[.float .f64 0] (IntKind.i64.wrap (q0 * q1)) (IntKind.i64.wrap (q0 * q1)) w2 fun p3 w4 =>
  newM #[.int .i64 0, .int .i64 0, .slice none 0 0] N.t_Matrix w4 fun p5 w6 =>
  stM p5 (.int .i64 q0) w6 fun w7 =>
  stM (p5.add 1) (.int .i64 q1) w7 fun w8 =>
  stM (p5.add 2) (.slice (some p3) ((IntKind.i64.wrap (q0 * q1)).toNat) ((IntKind.i64.wrap (q0 * q1)).toNat)) w8 fun w9 =>
  cutM (σ := Unit) (fun J10 =>
    loopM (σ := Int × Unit) (fun s13 X14 w15 =>
      cond (decide (s13.1 < q0))
      (cutM (σ := Unit) (fun J16 =>
          loopM (σ := Int × Unit) (fun s19 X20 w21 =>
            cond (decide (s19.1 < q1))
            (∃ (s22a : Option Addr) (s22l s22c : Nat), w21.cell? (p5.add 2) = some (.slice s22a s22l s22c) ∧
              drM w21 fun w23 =>
              fnM q2 fun f26 f26p f26q => CallsX P f26 (f26p.toList ++ (([.int .i64 s13.1, .int .i64 s19.1] : List Value) ++ f26q.toList)).toArray w23 fun v25 w24 =>
              ∃ x27 : Nat, v25 = (.float .f64 x27) ∧
              w24.cell? (p5.add 2) = some (.slice s22a s22l s22c) ∧
              (0 : Int) ≤ (IntKind.i64.wrap ((IntKind.i64.wrap (s13.1 * q1)) + s19.1)) ∧ (IntKind.i64.wrap ((IntKind.i64.wrap (s13.1 * q1)) + s19.1)) < (s22l : Nat) ∧
              optM s22a fun a28 =>
              drM w24 fun w29 =>
              stM (a28.add ((IntKind.i64.wrap ((IntKind.i64.wrap (s13.1 * q1)) + s19.1)).toNat * 1)) (.float .f64 x27) w29 fun w30 =>
              drM w30 fun w31 =>
              X20 ((IntKind.i64.wrap (s19.1 + 1)), ()) w31)
            (J16 (()) w21))
          (0, ()) w15)
        (fun s17 w18 =>
          X14 ((IntKind.i64.wrap (s13.1 + 1)), ()) w18))
      (J10 (()) w15))
    (0, ()) w9)
  (fun s11 w12 =>
    ∃ n32 : Int, w12.cell? p5 = some (.int .i64 n32) ∧
    ∃ n33 : Int, w12.cell? (p5.add 1) = some (.int .i64 n33) ∧
    ∃ (s34a : Option Addr) (s34l s34c : Nat), w12.cell? (p5.add 2) = some (.slice s34a s34l s34c) ∧
    stM p1 (.int .i64 n32) w12 fun w35 =>
    stM (p1.add 1) (.int .i64 n33) w35 fun w36 =>
    stM (p1.add 2) (.slice s34a s34l s34c) w36 fun w37 =>
    ∃ n38 : Int, w37.cell? p1 = some (.int .i64 n38) ∧
    ∃ n39 : Int, w37.cell? (p1.add 1) = some (.int .i64 n39) ∧
    ∃ (s40a : Option Addr) (s40l s40c : Nat), w37.cell? (p1.add 2) = some (.slice s40a s40l s40c) ∧
    K (.agg #[.int .i64 n38, .int .i64 n39, .slice s40a s40l s40c]) w37)

/-- girder/matrix.Mul$1 -/
def S_matrix_Mul_1 (N : Nums) (P : Program) (q0 : Int) (q1 : Int) (q2 : Option Addr) (q3 : Option Addr) (w : World) (K : Value → World → Prop) : Prop :=
  optM q2 fun a1 =>
  ∃ n2 : Int, w.cell? (a1.add 1) = some (.int .i64 n2) ∧
  cutM (σ := Nat × Unit) (fun J3 =>
    loopM (σ := Nat × Int × Unit) (fun s6 X7 w8 =>
      cond (decide (s6.2.1 < n2))
      (optM q2 fun a9 =>
        ∃ (s10a : Option Addr) (s10l s10c : Nat), w8.cell? (a9.add 2) = some (.slice s10a s10l s10c) ∧
        optM q2 fun a11 =>
        ∃ n12 : Int, w8.cell? (a11.add 1) = some (.int .i64 n12) ∧
        (0 : Int) ≤ (IntKind.i64.wrap ((IntKind.i64.wrap (q0 * n12)) + s6.2.1)) ∧ (IntKind.i64.wrap ((IntKind.i64.wrap (q0 * n12)) + s6.2.1)) < (s10l : Nat) ∧
        optM s10a fun a13 =>
        ∃ x14 : Nat, w8.cell? (a13.add ((IntKind.i64.wrap ((IntKind.i64.wrap (q0 * n12)) + s6.2.1)).toNat * 1)) = some (.float .f64 x14) ∧
        optM q3 fun a15 =>
        ∃ (s16a : Option Addr) (s16l s16c : Nat), w8.cell? (a15.add 2) = some (.slice s16a s16l s16c) ∧
        optM q3 fun a17 =>
        ∃ n18 : Int, w8.cell? (a17.add 1) = some (.int .i64 n18) ∧
        (0 : Int) ≤ (IntKind.i64.wrap ((IntKind.i64.wrap (s6.2.1 * n18)) + q1)) ∧ (IntKind.i64.wrap ((IntKind.i64.wrap (s6.2.1 * n18)) + q1)) < (s16l : Nat) ∧
        optM s16a fun a19 =>
        ∃ x20 : Nat, w8.cell? (a19.add ((IntKind.i64.wrap ((IntKind.i64.wrap (s6.2.1 * n18)) + q1)).toNat * 1)) = some (.float .f64 x20) ∧
        fresM (fmul x14 x20) w8 fun x21 w22 =>
        fresM (fadd s6.1 x21) w8 fun x23 w24 =>
        drM w8 fun w25 =>
        X7 (x23, (IntKind.i64.wrap (s6.2.1 + 1)), ()) w25)
      (J3 (s6.1, ()) w8))
    (0, 0, ()) w)
  (fun s4 w5 =>
    K (.float .f64 s4.1) w5)

/-- girder/girderref10.At -/
def S_girderref10_At (N : Nums) (P : Program) (q0_0 : Int) (q0_1 : Int) (q0_2 : Option Addr) (q0_2l q0_2c : Nat) (q1 : Int) (q2 : Int) (w : World) (K : Value → World → Prop) : Prop :=
  newM #[.int .i64 q0_0, .int .i64 q0_1, .slice q0_2 q0_2l q0_2c] N.t_Matrix w fun p1 w2 =>
  ∃ (s3a : Option Addr) (s3l s3c : Nat), w2.cell? (p1.add 2) = some (.slice s3a s3l s3c) ∧
  ∃ n4 : Int, w2.cell? (p1.add 1) = some (.int .i64 n4) ∧
  (0 : Int) ≤ (IntKind.i64.wrap ((IntKind.i64.wrap (q1 * n4)) + q2)) ∧ (IntKind.i64.wrap ((IntKind.i64.wrap (q1 * n4)) + q2)) < (s3l : Nat) ∧
  optM s3a fun a5 =>
  ∃ x6 : Nat, w2.cell? (a5.add ((IntKind.i64.wrap ((IntKind.i64.wrap (q1 * n4)) + q2)).toNat * 1)) = some (.float .f64 x6) ∧
  K (.float .f64 x6) w2

/-- girder/girderkit.Pick -/
def S_girderkit_Pick (N : Nums) (P : Program) (q0 : Int) (q1 : Int) (w : World) (K : Value → World → Prop) : Prop :=
  cond (decide (q1 < 1))
  (K (.int .i64 0) w)
  ((q1 : Int) ≠ 0 ∧
    cutM (σ := Int × Unit) (fun J1 =>
      cond (decide ((q0.tmod q1) < 0))
      (J1 ((IntKind.i64.wrap ((q0.tmod q1) + q1)), ()) w)
      (J1 ((q0.tmod q1), ()) w))
    (fun s2 w3 =>
      K (.int .i64 s2.1) w3))

/-- girder/matrix.Sub$1 -/
def S_matrix_Sub_1 (N : Nums) (P : Program) (q0 : Int) (q1 : Int) (q2 : Option Addr) (q3 : Option Addr) (w : World) (K : Value → World → Prop) : Prop :=
  optM q2 fun a1 =>
  ∃ (s2a : Option Addr) (s2l s2c : Nat), w.cell? (a1.add 2) = some (.slice s2a s2l s2c) ∧
  optM q2 fun a3 =>
  ∃ n4 : Int, w.cell? (a3.add 1) = some (.int .i64 n4) ∧
  (0 : Int) ≤ (IntKind.i64.wrap ((IntKind.i64.wrap (q0 * n4)) + q1)) ∧ (IntKind.i64.wrap ((IntKind.i64.wrap (q0 * n4)) + q1)) < (s2l : Nat) ∧
  optM s2a fun a5 =>
  ∃ x6 : Nat, w.cell? (a5.add ((IntKind.i64.wrap ((IntKind.i64.wrap (q0 * n4)) + q1)).toNat * 1)) = some (.float .f64 x6) ∧
  optM q3 fun a7 =>
  ∃ (s8a : Option Addr) (s8l s8c : Nat), w.cell? (a7.add 2) = some (.slice s8a s8l s8c) ∧
  optM q2 fun a9 =>
  ∃ n10 : Int, w.cell? (a9.add 1) = some (.int .i64 n10) ∧
  (0 : Int) ≤ (IntKind.i64.wrap ((IntKind.i64.wrap (q0 * n10)) + q1)) ∧ (IntKind.i64.wrap ((IntKind.i64.wrap (q0 * n10)) + q1)) < (s8l : Nat) ∧
  optM s8a fun a11 =>
  ∃ x12 : Nat, w.cell? (a11.add ((IntKind.i64.wrap ((IntKind.i64.wrap (q0 * n10)) + q1)).toNat * 1)) = some (.float .f64 x12) ∧
  fresM (fsub x6 x12) w fun x13 w14 =>
  drM w fun w15 =>
  K (.float .f64 x13) w15

/-- girder/matrix.Transpose$1 -/
def S_matrix_Transpose_1 (N : Nums) (P : Program) (q0 : Int) (q1 : Int) (q2 : Option Addr) (w : World) (K : Value → World → Prop) : Prop :=
  optM q2 fun a1 =>
  ∃ (s2a : Option Addr) (s2l s2c : Nat), w.cell? (a1.add 2) = some (.slice s2a s2l s2c) ∧
  optM q2 fun a3 =>
  ∃ n4 : Int, w.cell? (a3.add 1) = some (.int .i64 n4) ∧
  (0 : Int) ≤ (IntKind.i64.wrap ((IntKind.i64.wrap (q1 * n4)) + q0)) ∧ (IntKind.i64.wrap ((IntKind.i64.wrap (q1 * n4)) + q0)) < (s2l : Nat) ∧
  optM s2a fun a5 =>
  ∃ x6 : Nat, w.cell? (a5.add ((IntKind.i64.wrap ((IntKind.i64.wrap (q1 * n4)) + q0)).toNat * 1)) = some (.float .f64 x6) ∧
  K (.float .f64 x6) w

/-- girder/vector.Same -/
def S_vector_Same (N : Nums) (P : Program) (q0 : Option Addr) (q0l q0c : Nat) (q1 : Option Addr) (q1l q1c : Nat) (w : World) (K : Value → World → Prop) : Prop :=
  cond (((q0l : Nat) : Int) != ((q1l : Nat) : Int))
  (K (.bool false) w)
  (cutM (σ := Unit) (fun J1 =>
      loopM (σ := Int × Unit) (fun s4 X5 w6 =>
        cond (decide (s4.1 < ((q0l : Nat) : Int)))
        ((0 : Int) ≤ s4.1 ∧ s4.1 < (q0l : Nat) ∧
          optM q0 fun a7 =>
          ∃ x8 : Nat, w6.cell? (a7.add (s4.1.toNat * 1)) = some (.float .f64 x8) ∧
          (0 : Int) ≤ s4.1 ∧ s4.1 < (q1l : Nat) ∧
          optM q1 fun a9 =>
          ∃ x10 : Nat, w6.cell? (a9.add (s4.1.toNat * 1)) = some (.float .f64 x10) ∧
          drM w6 fun w11 =>
          CallsX P N.f_math_Float64bits #[.float .f64 x8] w11 fun v13 w12 =>
          ∃ n14 : Int, v13 = (.int .u64 n14) ∧
          w12.cell? (a9.add (s4.1.toNat * 1)) = some (.float .f64 x10) ∧
          drM w12 fun w15 =>
          CallsX P N.f_math_Float64bits #[.float .f64 x10] w15 fun v17 w16 =>
          ∃ n18 : Int, v17 = (.int .u64 n18) ∧
          cond (n14 != n18)
          (drM w16 fun w19 =>
            CallsX P N.f_math_IsNaN #[.float .f64 x8] w19 fun v21 w20 =>
            ∃ b22 : Bool, v21 = (.bool b22) ∧
            cond b22
            ((0 : Int) ≤ s4.1 ∧ s4.1 < (q1l : Nat) ∧
              optM q1 fun a23 =>
              ∃ x24 : Nat, w20.cell? (a23.add (s4.1.toNat * 1)) = some (.float .f64 x24) ∧
              drM w20 fun w25 =>
              CallsX P N.f_math_IsNaN #[.float .f64 x24] w25 fun v27 w26 =>
              ∃ b28 : Bool, v27 = (.bool b28) ∧
              drM w26 fun w29 =>
              cond (!b28)
              (K (.bool false) w29)
              (X5 ((IntKind.i64.wrap (s4.1 + 1)), ()) w29))
            (drM w20 fun w30 =>
              drM w30 fun w31 =>
              K (.bool false) w31))
          (drM w16 fun w32 =>
            drM w32 fun w33 =>
            drM w33 fun w34 =>
            X5 ((IntKind.i64.wrap (s4.1 + 1)), ()) w34))
        (J1 (()) w6))
      (0, ()) w)
    (fun s2 w3 =>
      K (.bool true) w3))

/-- slices.ContainsFunc[[]float64,float64] -/
def S_slices_ContainsFunc___float64_float64 (N : Nums) (P : Program) (q0 : Option Addr) (q0l q0c : Nat) (q1 : Value) (w : World) (K : Value → World → Prop) : Prop :=
  CallsX P N.f_slices_IndexFunc___float64_float64 #[.slice q0 q0l q0c, q1] w fun v2 w1 =>
  ∃ n3 : Int, v2 = (.int .i64 n3) ∧
  K (.bool (decide (n3 ≥ 0))) w1

/-- girder/matrix.Norm$1 -/
def S_matrix_Norm_1 (N : Nums) (P : Program) (q0 : Nat) (w : World) (K : Value → World → Prop) : Prop :=
  fresM (fsub q0 q0) w fun x1 w2 =>
  K (.bool (!feq x1 0)) w2

/-- girder/vector.Norm -/
def S_vector_Norm (N : Nums) (P : Program) (q0 : Option Addr) (q0l q0c : Nat) (w : World) (K : Value → World → Prop) : Prop :=
  cutM (σ := Nat × Unit) (fun J1 =>
    loopM (σ := Nat × Int × Unit) (fun s4 X5 w6 =>
      cond (decide (s4.2.1 < ((q0l : Nat) : Int)))
      ((0 : Int) ≤ s4.2.1 ∧ s4.2.1 < (q0l : Nat) ∧
        optM q0 fun a7 =>
        ∃ x8 : Nat, w6.cell? (a7.add (s4.2.1.toNat * 1)) = some (.float .f64 x8) ∧
        CallsX P N.f_math_Abs #[.float .f64 x8] w6 fun v10 w9 =>
        ∃ x11 : Nat, v10 = (.float .f64 x11) ∧
        CallsX P N.f_round_Add #[.float .f64 s4.1, .float .f64 x11, .int .i8 2] w9 fun v13 w12 =>
        ∃ x14 : Nat, v13 = (.float .f64 x14) ∧
        X5 (x14, (IntKind.i64.wrap (s4.2.1 + 1)), ()) w12)
      (J1 (s4.1, ()) w6))
    (0, 0, ()) w)
  (fun s2 w3 =>
    K (.float .f64 s2.1) w3)

/-- girder/matrix.fits -/
def S_matrix_fits (N : Nums) (P : Program) (q0 : Int) (w : World) (K : Value → World → Prop) : Prop :=
  cond (decide (q0 ≥ 0))
  (K (.bool (decide (q0 ≤ 48))) w)
  (K (.bool false) w)

/-- girder/matrix.Make$1 -/
def S_matrix_Make_1 (N : Nums) (P : Program) (q0 : Int) (q1 : Int) (w : World) (K : Value → World → Prop) : Prop :=
  K (.float .f64 0) w

/-- girder/girderref10.may -/
def S_girderref10_may (N : Nums) (P : Program) (q0 : Int) (w : World) (K : Value → World → Prop) : Prop :=
  cond (decide (q0 ≥ 0))
  (K (.bool (decide (q0 ≤ 48))) w)
  (K (.bool false) w)

/-- girder/girderref01.Same -/
def S_girderref01_Same (N : Nums) (P : Program) (q0 : Nat) (q1 : Nat) (w : World) (K : Value → World → Prop) : Prop :=
  CallsX P N.f_math_Float64bits #[.float .f64 q0] w fun v2 w1 =>
  ∃ n3 : Int, v2 = (.int .u64 n3) ∧
  CallsX P N.f_math_Float64bits #[.float .f64 q1] w1 fun v5 w4 =>
  ∃ n6 : Int, v5 = (.int .u64 n6) ∧
  cond (!(n3 == n6))
  (CallsX P N.f_girderref01_Nan #[.float .f64 q0] w4 fun v8 w7 =>
    ∃ b9 : Bool, v8 = (.bool b9) ∧
    cond b9
    (CallsX P N.f_girderref01_Nan #[.float .f64 q1] w7 fun v11 w10 =>
      ∃ b12 : Bool, v11 = (.bool b12) ∧
      K (.bool b12) w10)
    (K (.bool false) w7))
  (K (.bool true) w4)

/-- girder/girderref01.Finite -/
def S_girderref01_Finite (N : Nums) (P : Program) (q0 : Nat) (w : World) (K : Value → World → Prop) : Prop :=
  CallsX P N.f_girderref01_Kind #[.float .f64 q0] w fun v2 w1 =>
  ∃ n3 : Int, v2 = (.int .i64 n3) ∧
  K (.bool (decide (n3 < 3))) w1

/-- girder/girderref03.Add -/
def S_girderref03_Add (N : Nums) (P : Program) (q0 : Nat) (q1 : Nat) (q2 : Int) (w : World) (K : Value → World → Prop) : Prop :=
  fresM (fadd q0 q1) w fun x1 w2 =>
  CallsX P N.f_girderref03_Finite #[.float .f64 q0] w2 fun v4 w3 =>
  ∃ b5 : Bool, v4 = (.bool b5) ∧
  cond (!(!b5))
  (CallsX P N.f_girderref03_Finite #[.float .f64 q1] w3 fun v7 w6 =>
    ∃ b8 : Bool, v7 = (.bool b8) ∧
    cond (!b8)
    (K (.float .f64 x1) w6)
    (CallsX P N.f_girderref03_Finite #[.float .f64 x1] w6 fun v10 w9 =>
      ∃ b11 : Bool, v10 = (.bool b11) ∧
      cond (!b11)
      (CallsX P N.f_girderref03_great #[.float .f64 x1, .int .i8 q2] w9 fun v13 w12 =>
        ∃ x14 : Nat, v13 = (.float .f64 x14) ∧
        K (.float .f64 x14) w12)
      (cond (feq x1 0)
        (CallsX P N.f_math_Signbit #[.float .f64 q0] w9 fun v16 w15 =>
          ∃ b17 : Bool, v16 = (.bool b17) ∧
          CallsX P N.f_girderref03_nought #[.bool (feq q0 0), .bool b17, .float .f64 q1, .int .i8 q2] w15 fun v19 w18 =>
          ∃ x20 : Nat, v19 = (.float .f64 x20) ∧
          K (.float .f64 x20) w18)
        (CallsX P N.f_math_Abs #[.float .f64 q0] w9 fun v22 w21 =>
          ∃ x23 : Nat, v22 = (.float .f64 x23) ∧
          CallsX P N.f_math_Abs #[.float .f64 q1] w21 fun v25 w24 =>
          ∃ x26 : Nat, v25 = (.float .f64 x26) ∧
          cutM (σ := Nat × Nat × Unit) (fun J27 =>
            cond (flt x23 x26)
            (J27 (q1, q0, ()) w24)
            (J27 (q0, q1, ()) w24))
          (fun s28 w29 =>
            fresM (fsub x1 s28.1) w29 fun x30 w31 =>
            fresM (fsub s28.2.1 x30) w31 fun x32 w33 =>
            CallsX P N.f_girderref03_sign #[.float .f64 x32] w33 fun v35 w34 =>
            ∃ n36 : Int, v35 = (.int .i64 n36) ∧
            CallsX P N.f_girderref03_side #[.float .f64 x1, .int .i64 n36, .int .i8 q2] w34 fun v38 w37 =>
            ∃ x39 : Nat, v38 = (.float .f64 x39) ∧
            K (.float .f64 x39) w37)))))
  (K (.float .f64 x1) w3)

/-- math.IsNaN -/
def S_math_IsNaN (N : Nums) (P : Program) (q0 : Nat) (w : World) (K : Value → World → Prop) : Prop :=
  K (.bool (!feq q0 q0)) w

/-- slices.IndexFunc[[]float64,float64] -/
def S_slices_IndexFunc___float64_float64 (N : Nums) (P : Program) (q0 : Option Addr) (q0l q0c : Nat) (q1 : Value) (w : World) (K : Value → World → Prop) : Prop :=
  cutM (σ := Unit) (fun J1 =>
    loopM (σ := Int × Unit) (fun s4 X5 w6 =>
      cond (decide (s4.1 < ((q0l : Nat) : Int)))
      ((0 : Int) ≤ s4.1 ∧ s4.1 < (q0l : Nat) ∧
        optM q0 fun a7 =>
        ∃ x8 : Nat, w6.cell? (a7.add (s4.1.toNat * 1)) = some (.float .f64 x8) ∧
        fnM q1 fun f11 f11p f11q => CallsX P f11 (f11p.toList ++ (([.float .f64 x8] : List Value) ++ f11q.toList)).toArray w6 fun v10 w9 =>
        ∃ b12 : Bool, v10 = (.bool b12) ∧
        cond b12
        (K (.int .i64 s4.1) w9)
        (X5 ((IntKind.i64.wrap (s4.1 + 1)), ()) w9))
      (J1 (()) w6))
    (0, ()) w)
  (fun s2 w3 =>
    K (.int .i64 (-1)) w3)

/-- girder/round.Add -/
def S_round_Add (N : Nums) (P : Program) (q0 : Nat) (q1 : Nat) (q2 : Int) (w : World) (K : Value → World → Prop) : Prop :=
  CallsX P N.f_round_way #[.int .i8 q2] w fun v2 w1 =>
  ∃ n3 : Int, v2 = (.int .i8 n3) ∧
  fresM (fadd q0 q1) w1 fun x4 w5 =>
  newM #[.float .f64 q0, .float .f64 q1] N.t_float64 w5 fun p6 w7 =>
  CallsX P N.f_round_finite #[.slice (some p6) 2 2] w7 fun v9 w8 =>
  ∃ b10 : Bool, v9 = (.bool b10) ∧
  cond (!b10)
  (K (.float .f64 x4) w8)
  (cutM (σ := Bool × Unit) (fun J11 =>
      cond (feq x4 0)
      (cond (!(!feq q0 0))
        (cond (feq x4 0)
          (CallsX P N.f_math_Signbit #[.float .f64 q0] w8 fun v15 w14 =>
            ∃ b16 : Bool, v15 = (.bool b16) ∧
            CallsX P N.f_math_Signbit #[.float .f64 q1] w14 fun v18 w17 =>
            ∃ b19 : Bool, v18 = (.bool b19) ∧
            J11 ((!(b16 == b19)), ()) w17)
          (J11 (false, ()) w8))
        (J11 (true, ()) w8))
      (cond (feq x4 0)
        (CallsX P N.f_math_Signbit #[.float .f64 q0] w8 fun v21 w20 =>
          ∃ b22 : Bool, v21 = (.bool b22) ∧
          CallsX P N.f_math_Signbit #[.float .f64 q1] w20 fun v24 w23 =>
          ∃ b25 : Bool, v24 = (.bool b25) ∧
          J11 ((!(b22 == b25)), ()) w23)
        (J11 (false, ()) w8)))
    (fun s12 w13 =>
      cond s12.1
      (CallsX P N.f_round_none #[.int .i8 n3] w13 fun v27 w26 =>
        ∃ x28 : Nat, v27 = (.float .f64 x28) ∧
        K (.float .f64 x28) w26)
      (cond (feq x4 0)
        (K (.float .f64 x4) w13)
        (CallsX P N.f_math_IsInf #[.float .f64 x4, .int .i64 0] w13 fun v30 w29 =>
          ∃ b31 : Bool, v30 = (.bool b31) ∧
          cond b31
          (CallsX P N.f_round_settle #[.float .f64 x4, .int .i64 0, .int .i8 n3] w29 fun v33 w32 =>
            ∃ x34 : Nat, v33 = (.float .f64 x34) ∧
            K (.float .f64 x34) w32)
          (CallsX P N.f_math_Abs #[.float .f64 q0] w29 fun v36 w35 =>
            ∃ x37 : Nat, v36 = (.float .f64 x37) ∧
            CallsX P N.f_math_Abs #[.float .f64 q1] w35 fun v39 w38 =>
            ∃ x40 : Nat, v39 = (.float .f64 x40) ∧
            cutM (σ := Nat × Nat × Unit) (fun J41 =>
              cond (flt x37 x40)
              (J41 (q1, q0, ()) w38)
              (J41 (q0, q1, ()) w38))
            (fun s42 w43 =>
              fresM (fsub x4 s42.1) w43 fun x44 w45 =>
              fresM (fsub s42.2.1 x44) w45 fun x46 w47 =>
              CallsX P N.f_round_sign #[.float .f64 x46] w47 fun v49 w48 =>
              ∃ n50 : Int, v49 = (.int .i64 n50) ∧
              CallsX P N.f_round_settle #[.float .f64 x4, .int .i64 n50, .int .i8 n3] w48 fun v52 w51 =>
              ∃ x53 : Nat, v52 = (.float .f64 x53) ∧
              K (.float .f64 x53) w51))))))

/-- math.Abs -/
def S_math_Abs (N : Nums) (P : Program) (q0 : Nat) (w : World) (K : Value → World → Prop) : Prop :=
  CallsX P N.f_math_Float64bits #[.float .f64 q0] w fun v2 w1 =>
  ∃ n3 : Int, v2 = (.int .u64 n3) ∧
  CallsX P N.f_math_Float64frombits #[.int .u64 (IntKind.u64.wrap (BitVec.ofInt IntKind.u64.bits n3 &&& ~~~BitVec.ofInt IntKind.u64.bits 9223372036854775808).toNat)] w1 fun v5 w4 =>
  ∃ x6 : Nat, v5 = (.float .f64 x6) ∧
  K (.float .f64 x6) w4

/-- girder/girderref01.Nan -/
def S_girderref01_Nan (N : Nums) (P : Program) (q0 : Nat) (w : World) (K : Value → World → Prop) : Prop :=
  CallsX P N.f_girderref01_Kind #[.float .f64 q0] w fun v2 w1 =>
  ∃ n3 : Int, v2 = (.int .i64 n3) ∧
  K (.bool (n3 == 4)) w1

/-- girder/girderref01.Kind -/
def S_girderref01_Kind (N : Nums) (P : Program) (q0 : Nat) (w : World) (K : Value → World → Prop) : Prop :=
  CallsX P N.f_girderref01_fields #[.float .f64 q0] w fun v2 w1 =>
  ∃ b3 : Bool, ∃ n4 : Int, ∃ n5 : Int, v2 = (.tuple #[.bool b3, .int .i64 n4, .int .u64 n5]) ∧
  cond (n4 == 2047)
  (cond (n5 != 0)
    (K (.int .i64 4) w1)
    (cond (n4 == 2047)
      (K (.int .i64 3) w1)
      (cond (decide (n4 > 0))
        (K (.int .i64 2) w1)
        (cond (n5 != 0)
          (K (.int .i64 1) w1)
          (K (.int .i64 0) w1)))))
  (cond (n4 == 2047)
    (K (.int .i64 3) w1)
    (cond (decide (n4 > 0))
      (K (.int .i64 2) w1)
      (cond (n5 != 0)
        (K (.int .i64 1) w1)
        (K (.int .i64 0) w1))))

/-- girder/girderref03.Finite -/
def S_girderref03_Finite (N : Nums) (P : Program) (q0 : Nat) (w : World) (K : Value → World → Prop) : Prop :=
  fresM (fsub q0 q0) w fun x1 w2 =>
  K (.bool (feq x1 0)) w2

/-- girder/girderref03.great -/
def S_girderref03_great (N : Nums) (P : Program) (q0 : Nat) (q1 : Int) (w : World) (K : Value → World → Prop) : Prop :=
  cond (!(q1 == 3))
  (cond (fgt q0 0)
    (cond (!(q1 == 1))
      (cond (flt q0 0)
        (cond (q1 == 2)
          (CallsX P N.f_math_Copysign #[.float .f64 9218868437227405311, .float .f64 q0] w fun v2 w1 =>
            ∃ x3 : Nat, v2 = (.float .f64 x3) ∧
            K (.float .f64 x3) w1)
          (K (.float .f64 q0) w))
        (K (.float .f64 q0) w))
      (CallsX P N.f_math_Copysign #[.float .f64 9218868437227405311, .float .f64 q0] w fun v5 w4 =>
        ∃ x6 : Nat, v5 = (.float .f64 x6) ∧
        K (.float .f64 x6) w4))
    (cond (flt q0 0)
      (cond (q1 == 2)
        (CallsX P N.f_math_Copysign #[.float .f64 9218868437227405311, .float .f64 q0] w fun v8 w7 =>
          ∃ x9 : Nat, v8 = (.float .f64 x9) ∧
          K (.float .f64 x9) w7)
        (K (.float .f64 q0) w))
      (K (.float .f64 q0) w)))
  (CallsX P N.f_math_Copysign #[.float .f64 9218868437227405311, .float .f64 q0] w fun v11 w10 =>
    ∃ x12 : Nat, v11 = (.float .f64 x12) ∧
    K (.float .f64 x12) w10)

/-- girder/girderref03.nought -/
def S_girderref03_nought (N : Nums) (P : Program) (q0 : Bool) (q1 : Bool) (q2 : Nat) (q3 : Int) (w : World) (K : Value → World → Prop) : Prop :=
  cond q0
  (cond (feq q2 0)
    (CallsX P N.f_math_Signbit #[.float .f64 q2] w fun v2 w1 =>
      ∃ b3 : Bool, v2 = (.bool b3) ∧
      cond (q1 == b3)
      (K (.float .f64 q2) w1)
      (cond (q3 == 1)
        (CallsX P N.f_math_Copysign #[.float .f64 0, .float .f64 13830554455654793216] w1 fun v5 w4 =>
          ∃ x6 : Nat, v5 = (.float .f64 x6) ∧
          K (.float .f64 x6) w4)
        (K (.float .f64 0) w1)))
    (cond (q3 == 1)
      (CallsX P N.f_math_Copysign #[.float .f64 0, .float .f64 13830554455654793216] w fun v8 w7 =>
        ∃ x9 : Nat, v8 = (.float .f64 x9) ∧
        K (.float .f64 x9) w7)
      (K (.float .f64 0) w)))
  (cond (q3 == 1)
    (CallsX P N.f_math_Copysign #[.float .f64 0, .float .f64 13830554455654793216] w fun v11 w10 =>
      ∃ x12 : Nat, v11 = (.float .f64 x12) ∧
      K (.float .f64 x12) w10)
    (K (.float .f64 0) w))

/-- math.Signbit -/
def S_math_Signbit (N : Nums) (P : Program) (q0 : Nat) (w : World) (K : Value → World → Prop) : Prop :=
  CallsX P N.f_math_Float64bits #[.float .f64 q0] w fun v2 w1 =>
  ∃ n3 : Int, v2 = (.int .u64 n3) ∧
  K (.bool (decide ((IntKind.i64.wrap n3) < 0))) w1

/-- girder/girderref03.side -/
def S_girderref03_side (N : Nums) (P : Program) (q0 : Nat) (q1 : Int) (q2 : Int) (w : World) (K : Value → World → Prop) : Prop :=
  CallsX P N.f_math_Signbit #[.float .f64 q0] w fun v2 w1 =>
  ∃ b3 : Bool, v2 = (.bool b3) ∧
  cutM (σ := Bool × Unit) (fun J4 =>
    cond (decide (q1 < 0))
    (cond (!(q2 == 1))
      (cond (q2 == 3)
        (cond (!b3)
          (J4 ((!feq q0 0), ()) w1)
          (J4 (false, ()) w1))
        (J4 (false, ()) w1))
      (J4 (true, ()) w1))
    (J4 (false, ()) w1))
  (fun s5 w6 =>
    cond s5.1
    (CallsX P N.f_girderref03_down #[.float .f64 q0] w6 fun v8 w7 =>
      ∃ x9 : Nat, v8 = (.float .f64 x9) ∧
      K (.float .f64 x9) w7)
    (cond (decide (q1 > 0))
      (cond (!(q2 == 2))
        (cond (q2 == 3)
          (cond b3
            (cond (!feq q0 0)
              (CallsX P N.f_girderref03_up #[.float .f64 q0] w6 fun v11 w10 =>
                ∃ x12 : Nat, v11 = (.float .f64 x12) ∧
                K (.float .f64 x12) w10)
              (K (.float .f64 q0) w6))
            (K (.float .f64 q0) w6))
          (K (.float .f64 q0) w6))
        (CallsX P N.f_girderref03_up #[.float .f64 q0] w6 fun v14 w13 =>
          ∃ x15 : Nat, v14 = (.float .f64 x15) ∧
          K (.float .f64 x15) w13))
      (K (.float .f64 q0) w6)))

/-- girder/girderref03.sign -/
def S_girderref03_sign (N : Nums) (P : Program) (q0 : Nat) (w : World) (K : Value → World → Prop) : Prop :=
  cond (flt q0 0)
  (K (.int .i64 (-1)) w)
  (cond (fgt q0 0)
    (K (.int .i64 1) w)
    (K (.int .i64 0) w))

/-- girder/round.way -/
def S_round_way (N : Nums) (P : Program) (q0 : Int) (w : World) (K : Value → World → Prop) : Prop :=
  cond (!(decide (q0 < 0)))
  (cond (decide (q0 > 3))
    (K (.int .i8 0) w)
    (K (.int .i8 q0) w))
  (K (.int .i8 0) w)

/-- girder/round.finite -/
def S_round_finite (N : Nums) (P : Program) (q0 : Option Addr) (q0l q0c : Nat) (w : World) (K : Value → World → Prop) : Prop :=
  cutM (σ := Unit) (fun J1 =>
    loopM (σ := Int × Unit) (fun s4 X5 w6 =>
      cond (decide (s4.1 < ((q0l : Nat) : Int)))
      ((0 : Int) ≤ s4.1 ∧ s4.1 < (q0l : Nat) ∧
        optM q0 fun a7 =>
        ∃ x8 : Nat, w6.cell? (a7.add (s4.1.toNat * 1)) = some (.float .f64 x8) ∧
        CallsX P N.f_math_IsNaN #[.float .f64 x8] w6 fun v10 w9 =>
        ∃ b11 : Bool, v10 = (.bool b11) ∧
        cond (!b11)
        (CallsX P N.f_math_IsInf #[.float .f64 x8, .int .i64 0] w9 fun v13 w12 =>
          ∃ b14 : Bool, v13 = (.bool b14) ∧
          cond b14
          (K (.bool false) w12)
          (X5 ((IntKind.i64.wrap (s4.1 + 1)), ()) w12))
        (K (.bool false) w9))
      (J1 (()) w6))
    (0, ()) w)
  (fun s2 w3 =>
    K (.bool true) w3)

/-- girder/round.none -/
def S_round_none (N : Nums) (P : Program) (q0 : Int) (w : World) (K : Value → World → Prop) : Prop :=
  cond (q0 == 1)
  (CallsX P N.f_math_Copysign #[.float .f64 0, .float .f64 13830554455654793216] w fun v2 w1 =>
    ∃ x3 : Nat, v2 = (.float .f64 x3) ∧
    K (.float .f64 x3) w1)
  (K (.float .f64 0) w)

/-- math.IsInf -/
def S_math_IsInf (N : Nums) (P : Program) (q0 : Nat) (q1 : Int) (w : World) (K : Value → World → Prop) : Prop :=
  cutM (σ := Nat × Unit) (fun J1 =>
    cond (q1 == 0)
    (CallsX P N.f_math_Abs #[.float .f64 q0] w fun v5 w4 =>
      ∃ x6 : Nat, v5 = (.float .f64 x6) ∧
      J1 (x6, ()) w4)
    (cutM (σ := Nat × Unit) (fun J7 =>
        cond (decide (q1 < 0))
        (J7 ((fneg q0), ()) w)
        (J7 (q0, ()) w))
      (fun s8 w9 =>
        J1 (s8.1, ()) w9)))
  (fun s2 w3 =>
    K (.bool (fgt s2.1 9218868437227405311)) w3)

/-- girder/round.settle -/
def S_round_settle (N : Nums) (P : Program) (q0 : Nat) (q1 : Int) (q2 : Int) (w : World) (K : Value → World → Prop) : Prop :=
  cutM (σ := Int × Unit) (fun J1 =>
    cond (q2 == 3)
    (CallsX P N.f_math_Signbit #[.float .f64 q0] w fun v5 w4 =>
      ∃ b6 : Bool, v5 = (.bool b6) ∧
      cutM (σ := Int × Unit) (fun J7 =>
        cond b6
        (J7 (2, ()) w4)
        (J7 (1, ()) w4))
      (fun s8 w9 =>
        J1 (s8.1, ()) w9))
    (J1 (q2, ()) w))
  (fun s2 w3 =>
    CallsX P N.f_math_IsInf #[.float .f64 q0, .int .i64 0] w3 fun v11 w10 =>
    ∃ b12 : Bool, v11 = (.bool b12) ∧
    cond b12
    (cond (fgt q0 0)
      (cond (!(s2.1 == 1))
        (cond (flt q0 0)
          (cond (s2.1 == 2)
            (CallsX P N.f_math_Copysign #[.float .f64 9218868437227405311, .float .f64 q0] w10 fun v14 w13 =>
              ∃ x15 : Nat, v14 = (.float .f64 x15) ∧
              K (.float .f64 x15) w13)
            (K (.float .f64 q0) w10))
          (K (.float .f64 q0) w10))
        (CallsX P N.f_math_Copysign #[.float .f64 9218868437227405311, .float .f64 q0] w10 fun v17 w16 =>
          ∃ x18 : Nat, v17 = (.float .f64 x18) ∧
          K (.float .f64 x18) w16))
      (cond (flt q0 0)
        (cond (s2.1 == 2)
          (CallsX P N.f_math_Copysign #[.float .f64 9218868437227405311, .float .f64 q0] w10 fun v20 w19 =>
            ∃ x21 : Nat, v20 = (.float .f64 x21) ∧
            K (.float .f64 x21) w19)
          (K (.float .f64 q0) w10))
        (K (.float .f64 q0) w10)))
    (cond (decide (q1 < 0))
      (cond (!(s2.1 == 1))
        (cond (decide (q1 > 0))
          (cond (s2.1 == 2)
            (CallsX P N.f_round_step #[.float .f64 q0, .bool (decide (q1 > 0))] w10 fun v23 w22 =>
              ∃ x24 : Nat, v23 = (.float .f64 x24) ∧
              K (.float .f64 x24) w22)
            (K (.float .f64 q0) w10))
          (K (.float .f64 q0) w10))
        (CallsX P N.f_round_step #[.float .f64 q0, .bool (decide (q1 > 0))] w10 fun v26 w25 =>
          ∃ x27 : Nat, v26 = (.float .f64 x27) ∧
          K (.float .f64 x27) w25))
      (cond (decide (q1 > 0))
        (cond (s2.1 == 2)
          (CallsX P N.f_round_step #[.float .f64 q0, .bool (decide (q1 > 0))] w10 fun v29 w28 =>
            ∃ x30 : Nat, v29 = (.float .f64 x30) ∧
            K (.float .f64 x30) w28)
          (K (.float .f64 q0) w10))
        (K (.float .f64 q0) w10))))

/-- girder/round.sign -/
def S_round_sign (N : Nums) (P : Program) (q0 : Nat) (w : World) (K : Value → World → Prop) : Prop :=
  cond (fgt q0 0)
  (K (.int .i64 1) w)
  (cond (flt q0 0)
    (K (.int .i64 (-1)) w)
    (K (.int .i64 0) w))

/-- girder/girderref01.fields -/
def S_girderref01_fields (N : Nums) (P : Program) (q0 : Nat) (w : World) (K : Value → World → Prop) : Prop :=
  CallsX P N.f_math_Float64bits #[.float .f64 q0] w fun v2 w1 =>
  ∃ n3 : Int, v2 = (.int .u64 n3) ∧
  (0 : Int) ≤ 63 ∧
  (4503599627370496 : Int) ≠ 0 ∧
  (2048 : Int) ≠ 0 ∧
  (4503599627370496 : Int) ≠ 0 ∧
  K (.tuple #[.bool ((n3.fdiv (2 ^ (min (63 : Int).toNat IntKind.u64.bits))) == 1), .int .i64 (IntKind.i64.wrap ((IntKind.u64.wrap (n3.tdiv 4503599627370496)).tmod 2048)), .int .u64 (n3.tmod 4503599627370496)]) w1

/-- girder/girderref03.down -/
def S_girderref03_down (N : Nums) (P : Program) (q0 : Nat) (w : World) (K : Value → World → Prop) : Prop :=
  CallsX P N.f_girderref03_up #[.float .f64 (fneg q0)] w fun v2 w1 =>
  ∃ x3 : Nat, v2 = (.float .f64 x3) ∧
  K (.float .f64 (fneg x3)) w1

/-- girder/girderref03.up -/
def S_girderref03_up (N : Nums) (P : Program) (q0 : Nat) (w : World) (K : Value → World → Prop) : Prop :=
  cond (feq q0 0)
  (CallsX P N.f_math_Float64frombits #[.int .u64 1] w fun v2 w1 =>
    ∃ x3 : Nat, v2 = (.float .f64 x3) ∧
    K (.float .f64 x3) w1)
  (cond (fgt q0 0)
    (CallsX P N.f_girderref03_further #[.float .f64 q0] w fun v5 w4 =>
      ∃ x6 : Nat, v5 = (.float .f64 x6) ∧
      K (.float .f64 x6) w4)
    (CallsX P N.f_girderref03_nearer #[.float .f64 q0] w fun v8 w7 =>
      ∃ x9 : Nat, v8 = (.float .f64 x9) ∧
      K (.float .f64 x9) w7))

/-- girder/round.step -/
def S_round_step (N : Nums) (P : Program) (q0 : Nat) (q1 : Bool) (w : World) (K : Value → World → Prop) : Prop :=
  CallsX P N.f_math_Float64bits #[.float .f64 q0] w fun v2 w1 =>
  ∃ n3 : Int, v2 = (.int .u64 n3) ∧
  cutM (σ := Int × Unit) (fun J4 =>
    cutM (σ := Int × Unit) (fun J7 =>
      cond (feq q0 0)
      (cutM (σ := Int × Unit) (fun J10 =>
          cond (!q1)
          (J10 ((IntKind.u64.wrap (BitVec.ofInt IntKind.u64.bits 1 ||| BitVec.ofInt IntKind.u64.bits 9223372036854775808).toNat), ()) w1)
          (J10 (1, ()) w1))
        (fun s11 w12 =>
          J7 (s11.1, ()) w12))
      (cutM (σ := Int × Unit) (fun J13 =>
          cond (q1 == (fgt q0 0))
          (J13 ((IntKind.u64.wrap (n3 + 1)), ()) w1)
          (J13 ((IntKind.u64.wrap (n3 - 1)), ()) w1))
        (fun s14 w15 =>
          J7 (s14.1, ()) w15)))
    (fun s8 w9 =>
      J4 (s8.1, ()) w9))
  (fun s5 w6 =>
    CallsX P N.f_math_Float64frombits #[.int .u64 s5.1] w6 fun v17 w16 =>
    ∃ x18 : Nat, v17 = (.float .f64 x18) ∧
    K (.float .f64 x18) w16)

/-- girder/girderref03.further -/
def S_girderref03_further (N : Nums) (P : Program) (q0 : Nat) (w : World) (K : Value → World → Prop) : Prop :=
  CallsX P N.f_math_Float64bits #[.float .f64 q0] w fun v2 w1 =>
  ∃ n3 : Int, v2 = (.int .u64 n3) ∧
  CallsX P N.f_math_Float64frombits #[.int .u64 (IntKind.u64.wrap (n3 + 1))] w1 fun v5 w4 =>
  ∃ x6 : Nat, v5 = (.float .f64 x6) ∧
  K (.float .f64 x6) w4

/-- girder/girderref03.nearer -/
def S_girderref03_nearer (N : Nums) (P : Program) (q0 : Nat) (w : World) (K : Value → World → Prop) : Prop :=
  CallsX P N.f_math_Float64bits #[.float .f64 q0] w fun v2 w1 =>
  ∃ n3 : Int, v2 = (.int .u64 n3) ∧
  CallsX P N.f_math_Float64frombits #[.int .u64 (IntKind.u64.wrap (n3 - 1))] w1 fun v5 w4 =>
  ∃ x6 : Nat, v5 = (.float .f64 x6) ∧
  K (.float .f64 x6) w4

end Go.Eng
