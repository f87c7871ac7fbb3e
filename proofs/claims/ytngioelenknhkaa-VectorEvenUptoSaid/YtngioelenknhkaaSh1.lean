/-
  Some of the functions as propositions in the manner of a weakest precondition, printed off the structured code by a program of the session. No condition.
-/
import Derived.Test.YtngioelenknhkaaTbl
import Derived.Test.YtngioelenknhkaaNm
set_option linter.unusedSimpArgs false
set_option linter.unnecessarySimpa false
set_option linter.unusedSectionVars false
set_option linter.unusedVariables false
set_option maxRecDepth 100000
namespace Go.Eng
open Go

/-- girder/girderlaw09.VectorTells -/
def S_girderlaw09_VectorTells (N : Nums) (P : Program) (q0 : Option Addr) (q0l q0c : Nat) (q1 : Option Addr) (q1l q1c : Nat) (w : World) (K : Value → World → Prop) : Prop :=
  CallsX P N.f_vector_Most #[.slice q0 q0l q0c] w fun v2 w1 =>
  ∃ n3 : Int, ∃ x4 : Nat, v2 = (.tuple #[.int .i64 n3, .float .f64 x4]) ∧
  CallsX P N.f_girderref09_Most #[.slice q0 q0l q0c] w1 fun v6 w5 =>
  ∃ n7 : Int, ∃ x8 : Nat, v6 = (.tuple #[.int .i64 n7, .float .f64 x8]) ∧
  CallsX P N.f_vector_Same #[.slice q0 q0l q0c, .slice q1 q1l q1c] w5 fun v10 w9 =>
  ∃ b11 : Bool, v10 = (.bool b11) ∧
  CallsX P N.f_girderref09_Same #[.slice q0 q0l q0c, .slice q1 q1l q1c] w9 fun v13 w12 =>
  ∃ b14 : Bool, v13 = (.bool b14) ∧
  cond (b11 == b14)
  (CallsX P N.f_vector_Same #[.slice q1 q1l q1c, .slice q0 q0l q0c] w12 fun v16 w15 =>
    ∃ b17 : Bool, v16 = (.bool b17) ∧
    CallsX P N.f_girderref09_Same #[.slice q0 q0l q0c, .slice q1 q1l q1c] w15 fun v19 w18 =>
    ∃ b20 : Bool, v19 = (.bool b20) ∧
    cond (b17 == b20)
    (CallsX P N.f_vector_Same #[.slice q0 q0l q0c, .slice q0 q0l q0c] w18 fun v22 w21 =>
      ∃ b23 : Bool, v22 = (.bool b23) ∧
      cond b23
      (CallsX P N.f_vector_Norm #[.slice q0 q0l q0c] w21 fun v25 w24 =>
        ∃ x26 : Nat, v25 = (.float .f64 x26) ∧
        CallsX P N.f_girderref09_Norm #[.slice q0 q0l q0c] w24 fun v28 w27 =>
        ∃ x29 : Nat, v28 = (.float .f64 x29) ∧
        CallsX P N.f_girderkit_SameFloat #[.float .f64 x26, .float .f64 x29] w27 fun v31 w30 =>
        ∃ b32 : Bool, v31 = (.bool b32) ∧
        cond b32
        (cond (n3 == n7)
          (CallsX P N.f_girderkit_SameFloat #[.float .f64 x4, .float .f64 x8] w30 fun v34 w33 =>
            ∃ b35 : Bool, v34 = (.bool b35) ∧
            cond b35
            (CallsX P N.f_girderlaw09_awake #[] w33 fun v37 w36 =>
              ∃ b38 : Bool, v37 = (.bool b38) ∧
              K (.bool b38) w36)
            (K (.bool false) w33))
          (K (.bool false) w30))
        (K (.bool false) w30))
      (K (.bool false) w21))
    (K (.bool false) w18))
  (K (.bool false) w12)

/-- girder/girderlaw09.VectorSums -/
def S_girderlaw09_VectorSums (N : Nums) (P : Program) (q0 : Nat) (q1 : Option Addr) (q1l q1c : Nat) (q2 : Option Addr) (q2l q2c : Nat) (w : World) (K : Value → World → Prop) : Prop :=
  cutM (σ := Unit) (fun J1 =>
    loopM (σ := (Option Addr × Nat × Nat) × (Option Addr × Nat × Nat) × Int × Unit) (fun s4 X5 w6 =>
      cond (decide (s4.2.2.1 < 2))
      (CallsX P N.f_vector_Add #[.slice s4.1.1 s4.1.2.1 s4.1.2.2, .slice s4.2.1.1 s4.2.1.2.1 s4.2.1.2.2] w6 fun v8 w7 =>
        ∃ (s9a : Option Addr) (s9l s9c : Nat), ∃ n10 : Int, v8 = (.tuple #[.slice s9a s9l s9c, .int .i64 n10]) ∧
        CallsX P N.f_girderref09_Add #[.slice s4.1.1 s4.1.2.1 s4.1.2.2, .slice s4.2.1.1 s4.2.1.2.1 s4.2.1.2.2] w7 fun v12 w11 =>
        ∃ (s13a : Option Addr) (s13l s13c : Nat), ∃ n14 : Int, v12 = (.tuple #[.slice s13a s13l s13c, .int .i64 n14]) ∧
        CallsX P N.f_vector_Sub #[.slice s4.1.1 s4.1.2.1 s4.1.2.2, .slice s4.2.1.1 s4.2.1.2.1 s4.2.1.2.2] w11 fun v16 w15 =>
        ∃ (s17a : Option Addr) (s17l s17c : Nat), ∃ n18 : Int, v16 = (.tuple #[.slice s17a s17l s17c, .int .i64 n18]) ∧
        CallsX P N.f_girderref09_Sub #[.slice s4.1.1 s4.1.2.1 s4.1.2.2, .slice s4.2.1.1 s4.2.1.2.1 s4.2.1.2.2] w15 fun v20 w19 =>
        ∃ (s21a : Option Addr) (s21l s21c : Nat), ∃ n22 : Int, v20 = (.tuple #[.slice s21a s21l s21c, .int .i64 n22]) ∧
        cutM (σ := Bool × Unit) (fun J23 =>
          CallsX P N.f_girderkit_SameReals #[.slice s9a s9l s9c, .slice s13a s13l s13c] w19 fun v27 w26 =>
          ∃ b28 : Bool, v27 = (.bool b28) ∧
          cond (!(!b28))
          (cond (!(n10 != n14))
            (CallsX P N.f_girderkit_SameReals #[.slice s17a s17l s17c, .slice s21a s21l s21c] w26 fun v30 w29 =>
              ∃ b31 : Bool, v30 = (.bool b31) ∧
              cond (!(!b31))
              (J23 ((n18 != n22), ()) w29)
              (J23 (true, ()) w29))
            (J23 (true, ()) w26))
          (J23 (true, ()) w26))
        (fun s24 w25 =>
          cond s24.1
          (K (.bool false) w25)
          (CallsX P N.f_vector_Axpy #[.float .f64 q0, .slice s4.1.1 s4.1.2.1 s4.1.2.2, .slice s4.2.1.1 s4.2.1.2.1 s4.2.1.2.2] w25 fun v33 w32 =>
            ∃ (s34a : Option Addr) (s34l s34c : Nat), ∃ n35 : Int, v33 = (.tuple #[.slice s34a s34l s34c, .int .i64 n35]) ∧
            CallsX P N.f_girderref09_Axpy #[.float .f64 q0, .slice s4.1.1 s4.1.2.1 s4.1.2.2, .slice s4.2.1.1 s4.2.1.2.1 s4.2.1.2.2] w32 fun v37 w36 =>
            ∃ (s38a : Option Addr) (s38l s38c : Nat), ∃ n39 : Int, v37 = (.tuple #[.slice s38a s38l s38c, .int .i64 n39]) ∧
            CallsX P N.f_vector_Dot #[.slice s4.1.1 s4.1.2.1 s4.1.2.2, .slice s4.2.1.1 s4.2.1.2.1 s4.2.1.2.2] w36 fun v41 w40 =>
            ∃ x42 : Nat, ∃ n43 : Int, v41 = (.tuple #[.float .f64 x42, .int .i64 n43]) ∧
            CallsX P N.f_girderref09_Dot #[.slice s4.1.1 s4.1.2.1 s4.1.2.2, .slice s4.2.1.1 s4.2.1.2.1 s4.2.1.2.2] w40 fun v45 w44 =>
            ∃ x46 : Nat, ∃ n47 : Int, v45 = (.tuple #[.float .f64 x46, .int .i64 n47]) ∧
            cutM (σ := Bool × Unit) (fun J48 =>
              CallsX P N.f_girderkit_SameReals #[.slice s34a s34l s34c, .slice s38a s38l s38c] w44 fun v52 w51 =>
              ∃ b53 : Bool, v52 = (.bool b53) ∧
              cond (!(!b53))
              (cond (!(n35 != n39))
                (CallsX P N.f_girderkit_SameFloat #[.float .f64 x42, .float .f64 x46] w51 fun v55 w54 =>
                  ∃ b56 : Bool, v55 = (.bool b56) ∧
                  cond (!(!b56))
                  (cond (!(n43 != n47))
                    (CallsX P N.f_vector_Scale #[.float .f64 q0, .slice s4.1.1 s4.1.2.1 s4.1.2.2] w54 fun v58 w57 =>
                      ∃ (s59a : Option Addr) (s59l s59c : Nat), v58 = (.slice s59a s59l s59c) ∧
                      CallsX P N.f_girderref09_Scale #[.float .f64 q0, .slice s4.1.1 s4.1.2.1 s4.1.2.2] w57 fun v61 w60 =>
                      ∃ (s62a : Option Addr) (s62l s62c : Nat), v61 = (.slice s62a s62l s62c) ∧
                      CallsX P N.f_girderkit_SameReals #[.slice s59a s59l s59c, .slice s62a s62l s62c] w60 fun v64 w63 =>
                      ∃ b65 : Bool, v64 = (.bool b65) ∧
                      J48 ((!b65), ()) w63)
                    (J48 (true, ()) w54))
                  (J48 (true, ()) w54))
                (J48 (true, ()) w51))
              (J48 (true, ()) w51))
            (fun s49 w50 =>
              cond s49.1
              (K (.bool false) w50)
              ((0 : Int) ≤ (if ((s4.2.1.2.1 : Nat) : Int) < ((s4.1.2.1 : Nat) : Int) then ((s4.2.1.2.1 : Nat) : Int) else ((s4.1.2.1 : Nat) : Int)) ∧ (if ((s4.2.1.2.1 : Nat) : Int) < ((s4.1.2.1 : Nat) : Int) then ((s4.2.1.2.1 : Nat) : Int) else ((s4.1.2.1 : Nat) : Int)) ≤ (s4.1.2.2 : Nat) ∧
                (0 : Int) ≤ (if ((s4.2.1.2.1 : Nat) : Int) < ((s4.1.2.1 : Nat) : Int) then ((s4.2.1.2.1 : Nat) : Int) else ((s4.1.2.1 : Nat) : Int)) ∧ (if ((s4.2.1.2.1 : Nat) : Int) < ((s4.1.2.1 : Nat) : Int) then ((s4.2.1.2.1 : Nat) : Int) else ((s4.1.2.1 : Nat) : Int)) ≤ (s4.2.1.2.2 : Nat) ∧
                drM w50 fun w66 =>
                X5 (((slBase s4.1.1 0 s4.1.2.2 1), (if ((s4.2.1.2.1 : Nat) : Int) < ((s4.1.2.1 : Nat) : Int) then ((s4.2.1.2.1 : Nat) : Int) else ((s4.1.2.1 : Nat) : Int)).toNat, s4.1.2.2), ((slBase s4.2.1.1 0 s4.2.1.2.2 1), (if ((s4.2.1.2.1 : Nat) : Int) < ((s4.1.2.1 : Nat) : Int) then ((s4.2.1.2.1 : Nat) : Int) else ((s4.1.2.1 : Nat) : Int)).toNat, s4.2.1.2.2), (IntKind.i64.wrap (s4.2.2.1 + 1)), ()) w66)))))
      (J1 (()) w6))
    ((q1, q1l, q1c), (q2, q2l, q2c), 0, ()) w)
  (fun s2 w3 =>
    CallsX P N.f_girderlaw09_awake #[] w3 fun v68 w67 =>
    ∃ b69 : Bool, v68 = (.bool b69) ∧
    K (.bool b69) w67)

/-- girder/girderlaw09.VectorLimits -/
def S_girderlaw09_VectorLimits (N : Nums) (P : Program)  (w : World) (K : Value → World → Prop) : Prop :=
  cutM (σ := (Option Addr × Nat × Nat) × (Option Addr × Nat × Nat) × Unit) (fun J1 =>
    (drM w fun w4 =>
      mkM N.t_float64 1 8 #[.float .f64 0] 4097 4097 w4 fun p5 w6 =>
      drM w6 fun w7 =>
      mkM N.t_float64 1 8 #[.float .f64 0] 4096 4096 w7 fun p8 w9 =>
      drM w9 fun w10 =>
      J1 (((some p5), (4097 : Int).toNat, (4097 : Int).toNat), ((some p8), (4096 : Int).toNat, (4096 : Int).toNat), ()) w10) ∧
    (drM w fun w11 =>
      mkM N.t_float64 1 8 #[.float .f64 0] 4096 4096 w11 fun p12 w13 =>
      drM w13 fun w14 =>
      mkM N.t_float64 1 8 #[.float .f64 0] 4097 4097 w14 fun p15 w16 =>
      drM w16 fun w17 =>
      J1 (((some p15), (4097 : Int).toNat, (4097 : Int).toNat), ((some p12), (4096 : Int).toNat, (4096 : Int).toNat), ()) w17))
  (fun s2 w3 =>
    CallsX P N.f_vector_Add #[.slice s2.1.1 s2.1.2.1 s2.1.2.2, .slice s2.1.1 s2.1.2.1 s2.1.2.2] w3 fun v19 w18 =>
    ∃ (s20a : Option Addr) (s20l s20c : Nat), ∃ n21 : Int, v19 = (.tuple #[.slice s20a s20l s20c, .int .i64 n21]) ∧
    CallsX P N.f_vector_Sub #[.slice s2.1.1 s2.1.2.1 s2.1.2.2, .slice s2.1.1 s2.1.2.1 s2.1.2.2] w18 fun v23 w22 =>
    ∃ (s24a : Option Addr) (s24l s24c : Nat), ∃ n25 : Int, v23 = (.tuple #[.slice s24a s24l s24c, .int .i64 n25]) ∧
    CallsX P N.f_vector_Axpy #[.float .f64 4607182418800017408, .slice s2.1.1 s2.1.2.1 s2.1.2.2, .slice s2.1.1 s2.1.2.1 s2.1.2.2] w22 fun v27 w26 =>
    ∃ (s28a : Option Addr) (s28l s28c : Nat), ∃ n29 : Int, v27 = (.tuple #[.slice s28a s28l s28c, .int .i64 n29]) ∧
    CallsX P N.f_vector_Dot #[.slice s2.1.1 s2.1.2.1 s2.1.2.2, .slice s2.1.1 s2.1.2.1 s2.1.2.2] w26 fun v31 w30 =>
    ∃ x32 : Nat, ∃ n33 : Int, v31 = (.tuple #[.float .f64 x32, .int .i64 n33]) ∧
    CallsX P N.f_vector_Add #[.slice s2.1.1 s2.1.2.1 s2.1.2.2, .slice s2.2.1.1 s2.2.1.2.1 s2.2.1.2.2] w30 fun v35 w34 =>
    ∃ (s36a : Option Addr) (s36l s36c : Nat), ∃ n37 : Int, v35 = (.tuple #[.slice s36a s36l s36c, .int .i64 n37]) ∧
    CallsX P N.f_vector_Axpy #[.float .f64 4607182418800017408, .slice s2.2.1.1 s2.2.1.2.1 s2.2.1.2.2, .slice s2.2.1.1 s2.2.1.2.1 s2.2.1.2.2] w34 fun v39 w38 =>
    ∃ (s40a : Option Addr) (s40l s40c : Nat), ∃ n41 : Int, v39 = (.tuple #[.slice s40a s40l s40c, .int .i64 n41]) ∧
    CallsX P N.f_vector_Dot #[.slice s2.2.1.1 s2.2.1.2.1 s2.2.1.2.2, .slice s2.2.1.1 s2.2.1.2.1 s2.2.1.2.2] w38 fun v43 w42 =>
    ∃ x44 : Nat, ∃ n45 : Int, v43 = (.tuple #[.float .f64 x44, .int .i64 n45]) ∧
    cutM (σ := Bool × Unit) (fun J46 =>
      cond (!(n21 != 3))
      (cond (!(n25 != 3))
        (cond (!(n29 != 3))
          (cond (!(n33 != 3))
            (cond (!(n37 != 4))
              (cond (!(n41 != 0))
                (cond (!(n45 != 0))
                  (cond (!(((s40l : Nat) : Int) != 4096))
                    (J46 ((!feq x44 0), ()) w42)
                    (J46 (true, ()) w42))
                  (J46 (true, ()) w42))
                (J46 (true, ()) w42))
              (J46 (true, ()) w42))
            (J46 (true, ()) w42))
          (J46 (true, ()) w42))
        (J46 (true, ()) w42))
      (J46 (true, ()) w42))
    (fun s47 w48 =>
      cond s47.1
      (K (.bool false) w48)
      (cutM (σ := Unit) (fun J49 =>
          loopM (σ := Int × Unit) (fun s52 X53 w54 =>
            cond (decide (s52.1 < 40))
            (CallsX P N.f_girderkit_Edge #[.int .i64 s52.1] w54 fun v56 w55 =>
              ∃ x57 : Nat, v56 = (.float .f64 x57) ∧
              CallsX P N.f_girderkit_Edge #[.int .i64 (IntKind.i64.wrap (s52.1 + 7))] w55 fun v59 w58 =>
              ∃ x60 : Nat, v59 = (.float .f64 x60) ∧
              CallsX P N.f_girderkit_Edge #[.int .i64 (IntKind.i64.wrap (3 * s52.1))] w58 fun v62 w61 =>
              ∃ x63 : Nat, v62 = (.float .f64 x63) ∧
              newM #[.float .f64 x57, .float .f64 x60, .float .f64 x63] N.t_float64 w61 fun p64 w65 =>
              CallsX P N.f_girderkit_Edge #[.int .i64 (IntKind.i64.wrap (5 * s52.1))] w65 fun v67 w66 =>
              ∃ x68 : Nat, v67 = (.float .f64 x68) ∧
              CallsX P N.f_girderkit_Edge #[.int .i64 (IntKind.i64.wrap (s52.1 + 1))] w66 fun v70 w69 =>
              ∃ x71 : Nat, v70 = (.float .f64 x71) ∧
              CallsX P N.f_girderkit_Edge #[.int .i64 s52.1] w69 fun v73 w72 =>
              ∃ x74 : Nat, v73 = (.float .f64 x74) ∧
              newM #[.float .f64 x68, .float .f64 x71, .float .f64 x74] N.t_float64 w72 fun p75 w76 =>
              CallsX P N.f_girderkit_Edge #[.int .i64 (IntKind.i64.wrap (11 * s52.1))] w76 fun v78 w77 =>
              ∃ x79 : Nat, v78 = (.float .f64 x79) ∧
              CallsX P N.f_girderlaw09_VectorSums #[.float .f64 x79, .slice (some p64) 3 3, .slice (some p75) 3 3] w77 fun v81 w80 =>
              ∃ b82 : Bool, v81 = (.bool b82) ∧
              cond (!(!b82))
              (CallsX P N.f_girderlaw09_VectorTells #[.slice (some p64) 3 3, .slice (some p75) 3 3] w80 fun v84 w83 =>
                ∃ b85 : Bool, v84 = (.bool b85) ∧
                cond (!(!b85))
                (CallsX P N.f_girderlaw09_VectorTells #[.slice (some p64) 3 3, .slice (some p64) 3 3] w83 fun v87 w86 =>
                  ∃ b88 : Bool, v87 = (.bool b88) ∧
                  cond (!b88)
                  (K (.bool false) w86)
                  (X53 ((IntKind.i64.wrap (s52.1 + 1)), ()) w86))
                (K (.bool false) w83))
              (K (.bool false) w80))
            (J49 (()) w54))
          (0, ()) w48)
        (fun s50 w51 =>
          CallsX P N.f_math_NaN #[] w51 fun v90 w89 =>
          ∃ x91 : Nat, v90 = (.float .f64 x91) ∧
          CallsX P N.f_math_Float64frombits #[.int .u64 18444492273895866369] w89 fun v93 w92 =>
          ∃ x94 : Nat, v93 = (.float .f64 x94) ∧
          newM #[.float .f64 x91, .float .f64 x94] N.t_float64 w92 fun p95 w96 =>
          (0 : Int) ≤ (1 : Int) ∧ (1 : Int) ≤ (2 : Nat) ∧
          (0 : Int) ≤ (1 : Int) ∧ (1 : Int) ≤ (2 : Nat) ∧
          drM w96 fun w97 =>
          CallsX P N.f_vector_Same #[.slice (slBase (some p95) 0 2 1) ((1 : Int).toNat) 2, .slice (slBase (some p95) ((1 : Int).toNat) 2 1) (2 - (1 : Int).toNat) (2 - (1 : Int).toNat)] w97 fun v99 w98 =>
          ∃ b100 : Bool, v99 = (.bool b100) ∧
          cond (!(!b100))
          ((0 : Int) ≤ (1 : Int) ∧ (1 : Int) ≤ (2 : Nat) ∧
            drM w98 fun w101 =>
            newM #[.float .f64 0] N.t_float64 w101 fun p102 w103 =>
            drM w103 fun w104 =>
            CallsX P N.f_vector_Same #[.slice (slBase (some p95) 0 2 1) ((1 : Int).toNat) 2, .slice (some p102) 1 1] w104 fun v106 w105 =>
            ∃ b107 : Bool, v106 = (.bool b107) ∧
            cond (!b107)
            ((0 : Int) ≤ (1 : Int) ∧ (1 : Int) ≤ (2 : Nat) ∧
              drM w105 fun w108 =>
              newM #[.float .f64 0] N.t_float64 w108 fun p109 w110 =>
              drM w110 fun w111 =>
              CallsX P N.f_vector_Same #[.slice (some p109) 1 1, .slice (slBase (some p95) ((1 : Int).toNat) 2 1) (2 - (1 : Int).toNat) (2 - (1 : Int).toNat)] w111 fun v113 w112 =>
              ∃ b114 : Bool, v113 = (.bool b114) ∧
              drM w112 fun w115 =>
              cond b114
              (K (.bool false) w115)
              (CallsX P N.f_vector_Scale #[.float .f64 4611686018427387904, .slice s2.1.1 s2.1.2.1 s2.1.2.2] w115 fun v117 w116 =>
                ∃ (s118a : Option Addr) (s118l s118c : Nat), v117 = (.slice s118a s118l s118c) ∧
                cond (((s118l : Nat) : Int) == 4097)
                (CallsX P N.f_girderlaw09_awake #[] w116 fun v120 w119 =>
                  ∃ b121 : Bool, v120 = (.bool b121) ∧
                  K (.bool b121) w119)
                (K (.bool false) w116)))
            (drM w105 fun w122 =>
              drM w122 fun w123 =>
              drM w123 fun w124 =>
              K (.bool false) w124))
          (drM w98 fun w125 =>
            drM w125 fun w126 =>
            drM w126 fun w127 =>
            drM w127 fun w128 =>
            drM w128 fun w129 =>
            K (.bool false) w129)))))

/-- girder/girderlaw09.VectorEven -/
def S_girderlaw09_VectorEven (N : Nums) (P : Program) (q0 : Option Addr) (q0l q0c : Nat) (q1 : Option Addr) (q1l q1c : Nat) (q2 : Int) (w : World) (K : Value → World → Prop) : Prop :=
  CallsX P N.f_girderlaw09_awake #[] w fun v2 w1 =>
  ∃ b3 : Bool, v2 = (.bool b3) ∧
  cond (!b3)
  (K (.bool false) w1)
  ((0 : Int) ≤ (if 300 < (if ((q1l : Nat) : Int) < ((q0l : Nat) : Int) then ((q1l : Nat) : Int) else ((q0l : Nat) : Int)) then 300 else (if ((q1l : Nat) : Int) < ((q0l : Nat) : Int) then ((q1l : Nat) : Int) else ((q0l : Nat) : Int))) ∧ (if 300 < (if ((q1l : Nat) : Int) < ((q0l : Nat) : Int) then ((q1l : Nat) : Int) else ((q0l : Nat) : Int)) then 300 else (if ((q1l : Nat) : Int) < ((q0l : Nat) : Int) then ((q1l : Nat) : Int) else ((q0l : Nat) : Int))) ≤ (q0c : Nat) ∧
    (0 : Int) ≤ (if 300 < (if ((q1l : Nat) : Int) < ((q0l : Nat) : Int) then ((q1l : Nat) : Int) else ((q0l : Nat) : Int)) then 300 else (if ((q1l : Nat) : Int) < ((q0l : Nat) : Int) then ((q1l : Nat) : Int) else ((q0l : Nat) : Int))) ∧ (if 300 < (if ((q1l : Nat) : Int) < ((q0l : Nat) : Int) then ((q1l : Nat) : Int) else ((q0l : Nat) : Int)) then 300 else (if ((q1l : Nat) : Int) < ((q0l : Nat) : Int) then ((q1l : Nat) : Int) else ((q0l : Nat) : Int))) ≤ (q1c : Nat) ∧
    drM w1 fun w4 =>
    CallsX P N.f_vector_Dot #[.slice (slBase q0 0 q0c 1) ((if 300 < (if ((q1l : Nat) : Int) < ((q0l : Nat) : Int) then ((q1l : Nat) : Int) else ((q0l : Nat) : Int)) then 300 else (if ((q1l : Nat) : Int) < ((q0l : Nat) : Int) then ((q1l : Nat) : Int) else ((q0l : Nat) : Int))).toNat) q0c, .slice (slBase q1 0 q1c 1) ((if 300 < (if ((q1l : Nat) : Int) < ((q0l : Nat) : Int) then ((q1l : Nat) : Int) else ((q0l : Nat) : Int)) then 300 else (if ((q1l : Nat) : Int) < ((q0l : Nat) : Int) then ((q1l : Nat) : Int) else ((q0l : Nat) : Int))).toNat) q1c] w4 fun v6 w5 =>
    ∃ x7 : Nat, ∃ n8 : Int, v6 = (.tuple #[.float .f64 x7, .int .i64 n8]) ∧
    CallsX P N.f_vector_Dot #[.slice (slBase q1 0 q1c 1) ((if 300 < (if ((q1l : Nat) : Int) < ((q0l : Nat) : Int) then ((q1l : Nat) : Int) else ((q0l : Nat) : Int)) then 300 else (if ((q1l : Nat) : Int) < ((q0l : Nat) : Int) then ((q1l : Nat) : Int) else ((q0l : Nat) : Int))).toNat) q1c, .slice (slBase q0 0 q0c 1) ((if 300 < (if ((q1l : Nat) : Int) < ((q0l : Nat) : Int) then ((q1l : Nat) : Int) else ((q0l : Nat) : Int)) then 300 else (if ((q1l : Nat) : Int) < ((q0l : Nat) : Int) then ((q1l : Nat) : Int) else ((q0l : Nat) : Int))).toNat) q0c] w5 fun v10 w9 =>
    ∃ x11 : Nat, ∃ n12 : Int, v10 = (.tuple #[.float .f64 x11, .int .i64 n12]) ∧
    CallsX P N.f_vector_Axpy #[.float .f64 4607182418800017408, .slice (slBase q0 0 q0c 1) ((if 300 < (if ((q1l : Nat) : Int) < ((q0l : Nat) : Int) then ((q1l : Nat) : Int) else ((q0l : Nat) : Int)) then 300 else (if ((q1l : Nat) : Int) < ((q0l : Nat) : Int) then ((q1l : Nat) : Int) else ((q0l : Nat) : Int))).toNat) q0c, .slice (slBase q1 0 q1c 1) ((if 300 < (if ((q1l : Nat) : Int) < ((q0l : Nat) : Int) then ((q1l : Nat) : Int) else ((q0l : Nat) : Int)) then 300 else (if ((q1l : Nat) : Int) < ((q0l : Nat) : Int) then ((q1l : Nat) : Int) else ((q0l : Nat) : Int))).toNat) q1c] w9 fun v14 w13 =>
    ∃ (s15a : Option Addr) (s15l s15c : Nat), ∃ n16 : Int, v14 = (.tuple #[.slice s15a s15l s15c, .int .i64 n16]) ∧
    CallsX P N.f_vector_Add #[.slice (slBase q0 0 q0c 1) ((if 300 < (if ((q1l : Nat) : Int) < ((q0l : Nat) : Int) then ((q1l : Nat) : Int) else ((q0l : Nat) : Int)) then 300 else (if ((q1l : Nat) : Int) < ((q0l : Nat) : Int) then ((q1l : Nat) : Int) else ((q0l : Nat) : Int))).toNat) q0c, .slice (slBase q1 0 q1c 1) ((if 300 < (if ((q1l : Nat) : Int) < ((q0l : Nat) : Int) then ((q1l : Nat) : Int) else ((q0l : Nat) : Int)) then 300 else (if ((q1l : Nat) : Int) < ((q0l : Nat) : Int) then ((q1l : Nat) : Int) else ((q0l : Nat) : Int))).toNat) q1c] w13 fun v18 w17 =>
    ∃ (s19a : Option Addr) (s19l s19c : Nat), ∃ n20 : Int, v18 = (.tuple #[.slice s19a s19l s19c, .int .i64 n20]) ∧
    CallsX P N.f_vector_Axpy #[.float .f64 13830554455654793216, .slice (slBase q0 0 q0c 1) ((if 300 < (if ((q1l : Nat) : Int) < ((q0l : Nat) : Int) then ((q1l : Nat) : Int) else ((q0l : Nat) : Int)) then 300 else (if ((q1l : Nat) : Int) < ((q0l : Nat) : Int) then ((q1l : Nat) : Int) else ((q0l : Nat) : Int))).toNat) q0c, .slice (slBase q1 0 q1c 1) ((if 300 < (if ((q1l : Nat) : Int) < ((q0l : Nat) : Int) then ((q1l : Nat) : Int) else ((q0l : Nat) : Int)) then 300 else (if ((q1l : Nat) : Int) < ((q0l : Nat) : Int) then ((q1l : Nat) : Int) else ((q0l : Nat) : Int))).toNat) q1c] w17 fun v22 w21 =>
    ∃ (s23a : Option Addr) (s23l s23c : Nat), ∃ n24 : Int, v22 = (.tuple #[.slice s23a s23l s23c, .int .i64 n24]) ∧
    CallsX P N.f_vector_Sub #[.slice (slBase q1 0 q1c 1) ((if 300 < (if ((q1l : Nat) : Int) < ((q0l : Nat) : Int) then ((q1l : Nat) : Int) else ((q0l : Nat) : Int)) then 300 else (if ((q1l : Nat) : Int) < ((q0l : Nat) : Int) then ((q1l : Nat) : Int) else ((q0l : Nat) : Int))).toNat) q1c, .slice (slBase q0 0 q0c 1) ((if 300 < (if ((q1l : Nat) : Int) < ((q0l : Nat) : Int) then ((q1l : Nat) : Int) else ((q0l : Nat) : Int)) then 300 else (if ((q1l : Nat) : Int) < ((q0l : Nat) : Int) then ((q1l : Nat) : Int) else ((q0l : Nat) : Int))).toNat) q0c] w21 fun v26 w25 =>
    ∃ (s27a : Option Addr) (s27l s27c : Nat), ∃ n28 : Int, v26 = (.tuple #[.slice s27a s27l s27c, .int .i64 n28]) ∧
    cutM (σ := Bool × Unit) (fun J29 =>
      cond (!(n8 != 0))
      (cond (!(n12 != 0))
        (cond (!(n16 != 0))
          (cond (!(n20 != 0))
            (cond (!(n24 != 0))
              (cond (!(n28 != 0))
                (CallsX P N.f_girderkit_SameFloat #[.float .f64 x7, .float .f64 x11] w25 fun v33 w32 =>
                  ∃ b34 : Bool, v33 = (.bool b34) ∧
                  cond (!(!b34))
                  (CallsX P N.f_vector_Same #[.slice s15a s15l s15c, .slice s19a s19l s19c] w32 fun v36 w35 =>
                    ∃ b37 : Bool, v36 = (.bool b37) ∧
                    cond (!(!b37))
                    (CallsX P N.f_vector_Same #[.slice s23a s23l s23c, .slice s27a s27l s27c] w35 fun v39 w38 =>
                      ∃ b40 : Bool, v39 = (.bool b40) ∧
                      J29 ((!b40), ()) w38)
                    (J29 (true, ()) w35))
                  (J29 (true, ()) w32))
                (J29 (true, ()) w25))
              (J29 (true, ()) w25))
            (J29 (true, ()) w25))
          (J29 (true, ()) w25))
        (J29 (true, ()) w25))
      (J29 (true, ()) w25))
    (fun s30 w31 =>
      cond s30.1
      (K (.bool false) w31)
      (cutM (σ := Unit) (fun J41 =>
          loopM (σ := Int × Unit) (fun s44 X45 w46 =>
            cond (decide (s44.1 < (if 300 < (if ((q1l : Nat) : Int) < ((q0l : Nat) : Int) then ((q1l : Nat) : Int) else ((q0l : Nat) : Int)) then 300 else (if ((q1l : Nat) : Int) < ((q0l : Nat) : Int) then ((q1l : Nat) : Int) else ((q0l : Nat) : Int)))))
            ((0 : Int) ≤ s44.1 ∧ s44.1 < ((if 300 < (if ((q1l : Nat) : Int) < ((q0l : Nat) : Int) then ((q1l : Nat) : Int) else ((q0l : Nat) : Int)) then 300 else (if ((q1l : Nat) : Int) < ((q0l : Nat) : Int) then ((q1l : Nat) : Int) else ((q0l : Nat) : Int))).toNat : Nat) ∧
              optM (slBase q0 0 q0c 1) fun a47 =>
              ∃ x48 : Nat, w46.cell? (a47.add (s44.1.toNat * 1)) = some (.float .f64 x48) ∧
              (0 : Int) ≤ s44.1 ∧ s44.1 < ((if 300 < (if ((q1l : Nat) : Int) < ((q0l : Nat) : Int) then ((q1l : Nat) : Int) else ((q0l : Nat) : Int)) then 300 else (if ((q1l : Nat) : Int) < ((q0l : Nat) : Int) then ((q1l : Nat) : Int) else ((q0l : Nat) : Int))).toNat : Nat) ∧
              optM (slBase q1 0 q1c 1) fun a49 =>
              ∃ x50 : Nat, w46.cell? (a49.add (s44.1.toNat * 1)) = some (.float .f64 x50) ∧
              drM w46 fun w51 =>
              CallsX P N.f_math_Abs #[.float .f64 x48] w51 fun v53 w52 =>
              ∃ x54 : Nat, v53 = (.float .f64 x54) ∧
              w52.cell? (a49.add (s44.1.toNat * 1)) = some (.float .f64 x50) ∧
              drM w52 fun w55 =>
              CallsX P N.f_math_Abs #[.float .f64 x50] w55 fun v57 w56 =>
              ∃ x58 : Nat, v57 = (.float .f64 x58) ∧
              drM w56 fun w59 =>
              cond (!feq x54 0)
              (cond (fgt x54 3706462493325918208 || feq x54 3706462493325918208)
                (cond (!(!(flt x54 5507902344274116608 || feq x54 5507902344274116608)))
                  (cond (!feq x58 0)
                    (cond (fgt x58 3706462493325918208 || feq x58 3706462493325918208)
                      (cond (!(flt x58 5507902344274116608 || feq x58 5507902344274116608))
                        (K (.bool true) w59)
                        (X45 ((IntKind.i64.wrap (s44.1 + 1)), ()) w59))
                      (K (.bool true) w59))
                    (X45 ((IntKind.i64.wrap (s44.1 + 1)), ()) w59))
                  (K (.bool true) w59))
                (K (.bool true) w59))
              (cond (!feq x58 0)
                (cond (fgt x58 3706462493325918208 || feq x58 3706462493325918208)
                  (cond (!(flt x58 5507902344274116608 || feq x58 5507902344274116608))
                    (K (.bool true) w59)
                    (X45 ((IntKind.i64.wrap (s44.1 + 1)), ()) w59))
                  (K (.bool true) w59))
                (X45 ((IntKind.i64.wrap (s44.1 + 1)), ()) w59)))
            (J41 (()) w46))
          (0, ()) w31)
        (fun s42 w43 =>
          CallsX P N.f_girderkit_Pick #[.int .i64 q2, .int .i64 41] w43 fun v61 w60 =>
          ∃ n62 : Int, v61 = (.int .i64 n62) ∧
          CallsX P N.f_math_Ldexp #[.float .f64 4607182418800017408, .int .i64 (IntKind.i64.wrap (n62 - 20))] w60 fun v64 w63 =>
          ∃ x65 : Nat, v64 = (.float .f64 x65) ∧
          CallsX P N.f_vector_Scale #[.float .f64 x65, .slice (slBase q0 0 q0c 1) ((if 300 < (if ((q1l : Nat) : Int) < ((q0l : Nat) : Int) then ((q1l : Nat) : Int) else ((q0l : Nat) : Int)) then 300 else (if ((q1l : Nat) : Int) < ((q0l : Nat) : Int) then ((q1l : Nat) : Int) else ((q0l : Nat) : Int))).toNat) q0c] w63 fun v67 w66 =>
          ∃ (s68a : Option Addr) (s68l s68c : Nat), v67 = (.slice s68a s68l s68c) ∧
          CallsX P N.f_vector_Dot #[.slice s68a s68l s68c, .slice (slBase q1 0 q1c 1) ((if 300 < (if ((q1l : Nat) : Int) < ((q0l : Nat) : Int) then ((q1l : Nat) : Int) else ((q0l : Nat) : Int)) then 300 else (if ((q1l : Nat) : Int) < ((q0l : Nat) : Int) then ((q1l : Nat) : Int) else ((q0l : Nat) : Int))).toNat) q1c] w66 fun v70 w69 =>
          ∃ x71 : Nat, ∃ n72 : Int, v70 = (.tuple #[.float .f64 x71, .int .i64 n72]) ∧
          CallsX P N.f_vector_Scale #[.float .f64 13830554455654793216, .slice (slBase q0 0 q0c 1) ((if 300 < (if ((q1l : Nat) : Int) < ((q0l : Nat) : Int) then ((q1l : Nat) : Int) else ((q0l : Nat) : Int)) then 300 else (if ((q1l : Nat) : Int) < ((q0l : Nat) : Int) then ((q1l : Nat) : Int) else ((q0l : Nat) : Int))).toNat) q0c] w69 fun v74 w73 =>
          ∃ (s75a : Option Addr) (s75l s75c : Nat), v74 = (.slice s75a s75l s75c) ∧
          CallsX P N.f_vector_Dot #[.slice s75a s75l s75c, .slice (slBase q1 0 q1c 1) ((if 300 < (if ((q1l : Nat) : Int) < ((q0l : Nat) : Int) then ((q1l : Nat) : Int) else ((q0l : Nat) : Int)) then 300 else (if ((q1l : Nat) : Int) < ((q0l : Nat) : Int) then ((q1l : Nat) : Int) else ((q0l : Nat) : Int))).toNat) q1c] w73 fun v77 w76 =>
          ∃ x78 : Nat, ∃ n79 : Int, v77 = (.tuple #[.float .f64 x78, .int .i64 n79]) ∧
          CallsX P N.f_vector_Scale #[.float .f64 13830554455654793216, .slice (slBase q0 0 q0c 1) ((if 300 < (if ((q1l : Nat) : Int) < ((q0l : Nat) : Int) then ((q1l : Nat) : Int) else ((q0l : Nat) : Int)) then 300 else (if ((q1l : Nat) : Int) < ((q0l : Nat) : Int) then ((q1l : Nat) : Int) else ((q0l : Nat) : Int))).toNat) q0c] w76 fun v81 w80 =>
          ∃ (s82a : Option Addr) (s82l s82c : Nat), v81 = (.slice s82a s82l s82c) ∧
          CallsX P N.f_vector_Add #[.slice (slBase q0 0 q0c 1) ((if 300 < (if ((q1l : Nat) : Int) < ((q0l : Nat) : Int) then ((q1l : Nat) : Int) else ((q0l : Nat) : Int)) then 300 else (if ((q1l : Nat) : Int) < ((q0l : Nat) : Int) then ((q1l : Nat) : Int) else ((q0l : Nat) : Int))).toNat) q0c, .slice s82a s82l s82c] w80 fun v84 w83 =>
          ∃ (s85a : Option Addr) (s85l s85c : Nat), ∃ n86 : Int, v84 = (.tuple #[.slice s85a s85l s85c, .int .i64 n86]) ∧
          cond (n72 == 0)
          (cond (n79 == 0)
            (cond (n86 == 0)
              (fresM (fmul x65 x7) w83 fun x87 w88 =>
                CallsX P N.f_girderkit_SameFloat #[.float .f64 x71, .float .f64 x87] w88 fun v90 w89 =>
                ∃ b91 : Bool, v90 = (.bool b91) ∧
                cond b91
                (CallsX P N.f_girderkit_Like #[.float .f64 x78, .float .f64 (fneg x7)] w89 fun v93 w92 =>
                  ∃ b94 : Bool, v93 = (.bool b94) ∧
                  cond b94
                  (CallsX P N.f_vector_Norm #[.slice s85a s85l s85c] w92 fun v96 w95 =>
                    ∃ x97 : Nat, v96 = (.float .f64 x97) ∧
                    cond (feq x97 0)
                    (CallsX P N.f_vector_Scale #[.float .f64 x65, .slice (slBase q0 0 q0c 1) ((if 300 < (if ((q1l : Nat) : Int) < ((q0l : Nat) : Int) then ((q1l : Nat) : Int) else ((q0l : Nat) : Int)) then 300 else (if ((q1l : Nat) : Int) < ((q0l : Nat) : Int) then ((q1l : Nat) : Int) else ((q0l : Nat) : Int))).toNat) q0c] w95 fun v99 w98 =>
                      ∃ (s100a : Option Addr) (s100l s100c : Nat), v99 = (.slice s100a s100l s100c) ∧
                      CallsX P N.f_vector_Norm #[.slice s100a s100l s100c] w98 fun v102 w101 =>
                      ∃ x103 : Nat, v102 = (.float .f64 x103) ∧
                      CallsX P N.f_vector_Norm #[.slice (slBase q0 0 q0c 1) ((if 300 < (if ((q1l : Nat) : Int) < ((q0l : Nat) : Int) then ((q1l : Nat) : Int) else ((q0l : Nat) : Int)) then 300 else (if ((q1l : Nat) : Int) < ((q0l : Nat) : Int) then ((q1l : Nat) : Int) else ((q0l : Nat) : Int))).toNat) q0c] w101 fun v105 w104 =>
                      ∃ x106 : Nat, v105 = (.float .f64 x106) ∧
                      fresM (fmul x65 x106) w104 fun x107 w108 =>
                      CallsX P N.f_girderkit_SameFloat #[.float .f64 x103, .float .f64 x107] w108 fun v110 w109 =>
                      ∃ b111 : Bool, v110 = (.bool b111) ∧
                      K (.bool b111) w109)
                    (K (.bool false) w95))
                  (K (.bool false) w92))
                (K (.bool false) w89))
              (K (.bool false) w83))
            (K (.bool false) w83))
          (K (.bool false) w83)))))

/-- girder/vector.Most -/
def S_vector_Most (N : Nums) (P : Program) (q0 : Option Addr) (q0l q0c : Nat) (w : World) (K : Value → World → Prop) : Prop :=
  cutM (σ := Int × Nat × Unit) (fun J1 =>
    loopM (σ := Int × Nat × Int × Unit) (fun s4 X5 w6 =>
      cond (decide (s4.2.2.1 < ((q0l : Nat) : Int)))
      (cutM (σ := Int × Nat × Unit) (fun J7 =>
          (0 : Int) ≤ s4.2.2.1 ∧ s4.2.2.1 < (q0l : Nat) ∧
          optM q0 fun a10 =>
          ∃ x11 : Nat, w6.cell? (a10.add (s4.2.2.1.toNat * 1)) = some (.float .f64 x11) ∧
          CallsX P N.f_math_Abs #[.float .f64 x11] w6 fun v13 w12 =>
          ∃ x14 : Nat, v13 = (.float .f64 x14) ∧
          cond (!(fgt x14 s4.2.1))
          (cond (decide (s4.1 < 0))
            (cutM (σ := Int × Nat × Unit) (fun J15 =>
                cond (feq x14 0)
                (J15 (s4.2.2.1, x14, ()) w12)
                (J15 (s4.1, s4.2.1, ()) w12))
              (fun s16 w17 =>
                J7 (s16.1, s16.2.1, ()) w17))
            (cutM (σ := Int × Nat × Unit) (fun J18 =>
                J18 (s4.1, s4.2.1, ()) w12)
              (fun s19 w20 =>
                J7 (s19.1, s19.2.1, ()) w20)))
          (cutM (σ := Int × Nat × Unit) (fun J21 =>
              J21 (s4.2.2.1, x14, ()) w12)
            (fun s22 w23 =>
              J7 (s22.1, s22.2.1, ()) w23)))
        (fun s8 w9 =>
          X5 (s8.1, s8.2.1, (IntKind.i64.wrap (s4.2.2.1 + 1)), ()) w9))
      (J1 (s4.1, s4.2.1, ()) w6))
    ((-1), 0, 0, ()) w)
  (fun s2 w3 =>
    K (.tuple #[.int .i64 s2.1, .float .f64 s2.2.1]) w3)

/-- girder/girderref09.Most -/
def S_girderref09_Most (N : Nums) (P : Program) (q0 : Option Addr) (q0l q0c : Nat) (w : World) (K : Value → World → Prop) : Prop :=
  cutM (σ := Int × Nat × Unit) (fun J1 =>
    loopM (σ := Int × Nat × Int × Unit) (fun s4 X5 w6 =>
      cond (decide (s4.2.2.1 < ((q0l : Nat) : Int)))
      (cutM (σ := Int × Nat × Unit) (fun J7 =>
          (0 : Int) ≤ s4.2.2.1 ∧ s4.2.2.1 < (q0l : Nat) ∧
          optM q0 fun a10 =>
          ∃ x11 : Nat, w6.cell? (a10.add (s4.2.2.1.toNat * 1)) = some (.float .f64 x11) ∧
          (0 : Int) ≤ s4.2.2.1 ∧ s4.2.2.1 < (q0l : Nat) ∧
          optM q0 fun a12 =>
          ∃ x13 : Nat, w6.cell? (a12.add (s4.2.2.1.toNat * 1)) = some (.float .f64 x13) ∧
          cond (feq x11 x13)
          (cond (!(decide (s4.1 < 0)))
            ((0 : Int) ≤ s4.2.2.1 ∧ s4.2.2.1 < (q0l : Nat) ∧
              optM q0 fun a14 =>
              ∃ x15 : Nat, w6.cell? (a14.add (s4.2.2.1.toNat * 1)) = some (.float .f64 x15) ∧
              drM w6 fun w16 =>
              CallsX P N.f_math_Abs #[.float .f64 x15] w16 fun v18 w17 =>
              ∃ x19 : Nat, v18 = (.float .f64 x19) ∧
              drM w17 fun w20 =>
              cutM (σ := Int × Nat × Unit) (fun J21 =>
                cond (fgt x19 s4.2.1)
                ((0 : Int) ≤ s4.2.2.1 ∧ s4.2.2.1 < (q0l : Nat) ∧
                  optM q0 fun a24 =>
                  ∃ x25 : Nat, w20.cell? (a24.add (s4.2.2.1.toNat * 1)) = some (.float .f64 x25) ∧
                  CallsX P N.f_math_Abs #[.float .f64 x25] w20 fun v27 w26 =>
                  ∃ x28 : Nat, v27 = (.float .f64 x28) ∧
                  J21 (s4.2.2.1, x28, ()) w26)
                (J21 (s4.1, s4.2.1, ()) w20))
              (fun s22 w23 =>
                J7 (s22.1, s22.2.1, ()) w23))
            (drM w6 fun w29 =>
              drM w29 fun w30 =>
              cutM (σ := Int × Nat × Unit) (fun J31 =>
                (0 : Int) ≤ s4.2.2.1 ∧ s4.2.2.1 < (q0l : Nat) ∧
                optM q0 fun a34 =>
                ∃ x35 : Nat, w30.cell? (a34.add (s4.2.2.1.toNat * 1)) = some (.float .f64 x35) ∧
                CallsX P N.f_math_Abs #[.float .f64 x35] w30 fun v37 w36 =>
                ∃ x38 : Nat, v37 = (.float .f64 x38) ∧
                J31 (s4.2.2.1, x38, ()) w36)
              (fun s32 w33 =>
                J7 (s32.1, s32.2.1, ()) w33)))
          (drM w6 fun w39 =>
            drM w39 fun w40 =>
            cutM (σ := Int × Nat × Unit) (fun J41 =>
              J41 (s4.1, s4.2.1, ()) w40)
            (fun s42 w43 =>
              J7 (s42.1, s42.2.1, ()) w43)))
        (fun s8 w9 =>
          X5 (s8.1, s8.2.1, (IntKind.i64.wrap (s4.2.2.1 + 1)), ()) w9))
      (J1 (s4.1, s4.2.1, ()) w6))
    ((-1), 0, 0, ()) w)
  (fun s2 w3 =>
    K (.tuple #[.int .i64 s2.1, .float .f64 s2.2.1]) w3)

/-- girder/vector.Same -/
def S_vector_Same (N : Nums) (P : Program) (q0 : Option Addr) (q0l q0c : Nat) (q1 : Option Addr) (q1l q1c : Nat) (w : World) (K : Value → World → Prop) : Prop :=
  cond (((q0l : Nat) : Int) != ((q1l : Nat) : Int))
  (K (.bool false) w)
  (cutM (σ := Unit) (fun J1 =>
      loopM (σ := Int × Unit) (fun s4 X5 w6 =>
        cond (decide (s4.1 < ((q0l : Nat) : Int)))
        ((0 : Int) ≤ s4.1 ∧ s4.1 < (q0l : Nat) ∧
          optM q0 fun a7 =>
          ∃ x8 : Nat, w6.cell? (a7.add (s4.1.toNat * 1)) = some (.float .f64 x8) ∧
          (0 : Int) ≤ s4.1 ∧ s4.1 < (q1l : Nat) ∧
          optM q1 fun a9 =>
          ∃ x10 : Nat, w6.cell? (a9.add (s4.1.toNat * 1)) = some (.float .f64 x10) ∧
          drM w6 fun w11 =>
          CallsX P N.f_math_Float64bits #[.float .f64 x8] w11 fun v13 w12 =>
          ∃ n14 : Int, v13 = (.int .u64 n14) ∧
          w12.cell? (a9.add (s4.1.toNat * 1)) = some (.float .f64 x10) ∧
          drM w12 fun w15 =>
          CallsX P N.f_math_Float64bits #[.float .f64 x10] w15 fun v17 w16 =>
          ∃ n18 : Int, v17 = (.int .u64 n18) ∧
          cond (n14 != n18)
          (drM w16 fun w19 =>
            CallsX P N.f_math_IsNaN #[.float .f64 x8] w19 fun v21 w20 =>
            ∃ b22 : Bool, v21 = (.bool b22) ∧
            cond b22
            ((0 : Int) ≤ s4.1 ∧ s4.1 < (q1l : Nat) ∧
              optM q1 fun a23 =>
              ∃ x24 : Nat, w20.cell? (a23.add (s4.1.toNat * 1)) = some (.float .f64 x24) ∧
              drM w20 fun w25 =>
              CallsX P N.f_math_IsNaN #[.float .f64 x24] w25 fun v27 w26 =>
              ∃ b28 : Bool, v27 = (.bool b28) ∧
              drM w26 fun w29 =>
              cond (!b28)
              (K (.bool false) w29)
              (X5 ((IntKind.i64.wrap (s4.1 + 1)), ()) w29))
            (drM w20 fun w30 =>
              drM w30 fun w31 =>
              K (.bool false) w31))
          (drM w16 fun w32 =>
            drM w32 fun w33 =>
            drM w33 fun w34 =>
            X5 ((IntKind.i64.wrap (s4.1 + 1)), ()) w34))
        (J1 (()) w6))
      (0, ()) w)
    (fun s2 w3 =>
      K (.bool true) w3))

/-- girder/girderref09.Same -/
def S_girderref09_Same (N : Nums) (P : Program) (q0 : Option Addr) (q0l q0c : Nat) (q1 : Option Addr) (q1l q1c : Nat) (w : World) (K : Value → World → Prop) : Prop :=
  cond (((q0l : Nat) : Int) != ((q1l : Nat) : Int))
  (K (.bool false) w)
  (cutM (σ := Unit) (fun J1 =>
      loopM (σ := Int × Unit) (fun s4 X5 w6 =>
        cond (decide (s4.1 < ((q0l : Nat) : Int)))
        ((0 : Int) ≤ s4.1 ∧ s4.1 < (q0l : Nat) ∧
          optM q0 fun a7 =>
          ∃ x8 : Nat, w6.cell? (a7.add (s4.1.toNat * 1)) = some (.float .f64 x8) ∧
          (0 : Int) ≤ s4.1 ∧ s4.1 < (q1l : Nat) ∧
          optM q1 fun a9 =>
          ∃ x10 : Nat, w6.cell? (a9.add (s4.1.toNat * 1)) = some (.float .f64 x10) ∧
          drM w6 fun w11 =>
          CallsX P N.f_math_Float64bits #[.float .f64 x8] w11 fun v13 w12 =>
          ∃ n14 : Int, v13 = (.int .u64 n14) ∧
          w12.cell? (a9.add (s4.1.toNat * 1)) = some (.float .f64 x10) ∧
          drM w12 fun w15 =>
          CallsX P N.f_math_Float64bits #[.float .f64 x10] w15 fun v17 w16 =>
          ∃ n18 : Int, v17 = (.int .u64 n18) ∧
          cond (n14 != n18)
          ((0 : Int) ≤ s4.1 ∧ s4.1 < (q0l : Nat) ∧
            optM q0 fun a19 =>
            ∃ x20 : Nat, w16.cell? (a19.add (s4.1.toNat * 1)) = some (.float .f64 x20) ∧
            (0 : Int) ≤ s4.1 ∧ s4.1 < (q0l : Nat) ∧
            optM q0 fun a21 =>
            ∃ x22 : Nat, w16.cell? (a21.add (s4.1.toNat * 1)) = some (.float .f64 x22) ∧
            cond (!(feq x20 x22))
            ((0 : Int) ≤ s4.1 ∧ s4.1 < (q1l : Nat) ∧
              optM q1 fun a23 =>
              ∃ x24 : Nat, w16.cell? (a23.add (s4.1.toNat * 1)) = some (.float .f64 x24) ∧
              (0 : Int) ≤ s4.1 ∧ s4.1 < (q1l : Nat) ∧
              optM q1 fun a25 =>
              ∃ x26 : Nat, w16.cell? (a25.add (s4.1.toNat * 1)) = some (.float .f64 x26) ∧
              drM w16 fun w27 =>
              cond (feq x24 x26)
              (K (.bool false) w27)
              (X5 ((IntKind.i64.wrap (s4.1 + 1)), ()) w27))
            (drM w16 fun w28 =>
              K (.bool false) w28))
          (drM w16 fun w29 =>
            X5 ((IntKind.i64.wrap (s4.1 + 1)), ()) w29))
        (J1 (()) w6))
      (0, ()) w)
    (fun s2 w3 =>
      K (.bool true) w3))

/-- girder/girderkit.SameFloat -/
def S_girderkit_SameFloat (N : Nums) (P : Program) (q0 : Nat) (q1 : Nat) (w : World) (K : Value → World → Prop) : Prop :=
  CallsX P N.f_math_Float64bits #[.float .f64 q0] w fun v2 w1 =>
  ∃ n3 : Int, v2 = (.int .u64 n3) ∧
  CallsX P N.f_math_Float64bits #[.float .f64 q1] w1 fun v5 w4 =>
  ∃ n6 : Int, v5 = (.int .u64 n6) ∧
  cond (!(n3 == n6))
  (cond (!feq q0 q0)
    (K (.bool (!feq q1 q1)) w4)
    (K (.bool false) w4))
  (K (.bool true) w4)

/-- girder/vector.Norm -/
def S_vector_Norm (N : Nums) (P : Program) (q0 : Option Addr) (q0l q0c : Nat) (w : World) (K : Value → World → Prop) : Prop :=
  cutM (σ := Nat × Unit) (fun J1 =>
    loopM (σ := Nat × Int × Unit) (fun s4 X5 w6 =>
      cond (decide (s4.2.1 < ((q0l : Nat) : Int)))
      ((0 : Int) ≤ s4.2.1 ∧ s4.2.1 < (q0l : Nat) ∧
        optM q0 fun a7 =>
        ∃ x8 : Nat, w6.cell? (a7.add (s4.2.1.toNat * 1)) = some (.float .f64 x8) ∧
        CallsX P N.f_math_Abs #[.float .f64 x8] w6 fun v10 w9 =>
        ∃ x11 : Nat, v10 = (.float .f64 x11) ∧
        CallsX P N.f_round_Add #[.float .f64 s4.1, .float .f64 x11, .int .i8 2] w9 fun v13 w12 =>
        ∃ x14 : Nat, v13 = (.float .f64 x14) ∧
        X5 (x14, (IntKind.i64.wrap (s4.2.1 + 1)), ()) w12)
      (J1 (s4.1, ()) w6))
    (0, 0, ()) w)
  (fun s2 w3 =>
    K (.float .f64 s2.1) w3)

/-- girder/girderref09.Norm -/
def S_girderref09_Norm (N : Nums) (P : Program) (q0 : Option Addr) (q0l q0c : Nat) (w : World) (K : Value → World → Prop) : Prop :=
  cutM (σ := Nat × Unit) (fun J1 =>
    loopM (σ := Nat × Int × Unit) (fun s4 X5 w6 =>
      cond (decide (s4.2.1 < ((q0l : Nat) : Int)))
      ((0 : Int) ≤ s4.2.1 ∧ s4.2.1 < (q0l : Nat) ∧
        optM q0 fun a7 =>
        ∃ x8 : Nat, w6.cell? (a7.add (s4.2.1.toNat * 1)) = some (.float .f64 x8) ∧
        CallsX P N.f_math_Abs #[.float .f64 x8] w6 fun v10 w9 =>
        ∃ x11 : Nat, v10 = (.float .f64 x11) ∧
        CallsX P N.f_girderref03_Add #[.float .f64 s4.1, .float .f64 x11, .int .i8 2] w9 fun v13 w12 =>
        ∃ x14 : Nat, v13 = (.float .f64 x14) ∧
        X5 (x14, (IntKind.i64.wrap (s4.2.1 + 1)), ()) w12)
      (J1 (s4.1, ()) w6))
    (0, 0, ()) w)
  (fun s2 w3 =>
    K (.float .f64 s2.1) w3)

/-- girder/girderlaw09.awake -/
def S_girderlaw09_awake (N : Nums) (P : Program)  (w : World) (K : Value → World → Prop) : Prop :=
  newM #[.float .f64 4607182418800017408, .float .f64 4611686018427387904] N.t_float64 w fun p1 w2 =>
  newM #[.float .f64 4613937818241073152, .float .f64 4616189618054758400] N.t_float64 w2 fun p3 w4 =>
  CallsX P N.f_vector_Axpy #[.float .f64 4611686018427387904, .slice (some p1) 2 2, .slice (some p3) 2 2] w4 fun v6 w5 =>
  ∃ (s7a : Option Addr) (s7l s7c : Nat), ∃ n8 : Int, v6 = (.tuple #[.slice s7a s7l s7c, .int .i64 n8]) ∧
  CallsX P N.f_vector_Dot #[.slice (some p1) 2 2, .slice (some p3) 2 2] w5 fun v10 w9 =>
  ∃ x11 : Nat, ∃ n12 : Int, v10 = (.tuple #[.float .f64 x11, .int .i64 n12]) ∧
  newM #[.float .f64 4613937818241073152, .float .f64 13839561654909534208, .float .f64 4616189618054758400] N.t_float64 w9 fun p13 w14 =>
  CallsX P N.f_vector_Most #[.slice (some p13) 3 3] w14 fun v16 w15 =>
  ∃ n17 : Int, ∃ x18 : Nat, v16 = (.tuple #[.int .i64 n17, .float .f64 x18]) ∧
  cond (n8 == 0)
  (cond (n12 == 0)
    (newM #[.float .f64 4617315517961601024, .float .f64 4620693217682128896] N.t_float64 w15 fun p19 w20 =>
      CallsX P N.f_girderkit_SameReals #[.slice s7a s7l s7c, .slice (some p19) 2 2] w20 fun v22 w21 =>
      ∃ b23 : Bool, v22 = (.bool b23) ∧
      cond b23
      (cond (feq x11 4622382067542392832)
        (cond (n17 == 1)
          (cond (feq x18 4616189618054758400)
            (newM #[.float .f64 4613937818241073152, .float .f64 13839561654909534208] N.t_float64 w21 fun p24 w25 =>
              CallsX P N.f_vector_Norm #[.slice (some p24) 2 2] w25 fun v27 w26 =>
              ∃ x28 : Nat, v27 = (.float .f64 x28) ∧
              cond (feq x28 4619567317775286272)
              (newM #[.float .f64 0] N.t_float64 w26 fun p29 w30 =>
                CallsX P N.f_math_Copysign #[.float .f64 0, .float .f64 13830554455654793216] w30 fun v32 w31 =>
                ∃ x33 : Nat, v32 = (.float .f64 x33) ∧
                newM #[.float .f64 x33] N.t_float64 w31 fun p34 w35 =>
                CallsX P N.f_vector_Same #[.slice (some p29) 1 1, .slice (some p34) 1 1] w35 fun v37 w36 =>
                ∃ b38 : Bool, v37 = (.bool b38) ∧
                K (.bool (!b38)) w36)
              (K (.bool false) w26))
            (K (.bool false) w21))
          (K (.bool false) w21))
        (K (.bool false) w21))
      (K (.bool false) w21))
    (K (.bool false) w15))
  (K (.bool false) w15)

/-- girder/vector.Add -/
def S_vector_Add (N : Nums) (P : Program) (q0 : Option Addr) (q0l q0c : Nat) (q1 : Option Addr) (q1l q1c : Nat) (w : World) (K : Value → World → Prop) : Prop :=
  CallsX P N.f_vector_each #[.slice q0 q0l q0c, .slice q1 q1l q1c, .func (.func N.f_vector_Add_1) #[] #[]] w fun v2 w1 =>
  ∃ (s3a : Option Addr) (s3l s3c : Nat), ∃ n4 : Int, v2 = (.tuple #[.slice s3a s3l s3c, .int .i64 n4]) ∧
  K (.tuple #[.slice s3a s3l s3c, .int .i64 n4]) w1

/-- girder/girderref09.Add -/
def S_girderref09_Add (N : Nums) (P : Program) (q0 : Option Addr) (q0l q0c : Nat) (q1 : Option Addr) (q1l q1c : Nat) (w : World) (K : Value → World → Prop) : Prop :=
  CallsX P N.f_girderref09_Axpy #[.float .f64 4607182418800017408, .slice q0 q0l q0c, .slice q1 q1l q1c] w fun v2 w1 =>
  ∃ (s3a : Option Addr) (s3l s3c : Nat), ∃ n4 : Int, v2 = (.tuple #[.slice s3a s3l s3c, .int .i64 n4]) ∧
  K (.tuple #[.slice s3a s3l s3c, .int .i64 n4]) w1

/-- girder/vector.Sub -/
def S_vector_Sub (N : Nums) (P : Program) (q0 : Option Addr) (q0l q0c : Nat) (q1 : Option Addr) (q1l q1c : Nat) (w : World) (K : Value → World → Prop) : Prop :=
  CallsX P N.f_vector_each #[.slice q0 q0l q0c, .slice q1 q1l q1c, .func (.func N.f_vector_Sub_1) #[] #[]] w fun v2 w1 =>
  ∃ (s3a : Option Addr) (s3l s3c : Nat), ∃ n4 : Int, v2 = (.tuple #[.slice s3a s3l s3c, .int .i64 n4]) ∧
  K (.tuple #[.slice s3a s3l s3c, .int .i64 n4]) w1

/-- girder/girderref09.Sub -/
def S_girderref09_Sub (N : Nums) (P : Program) (q0 : Option Addr) (q0l q0c : Nat) (q1 : Option Addr) (q1l q1c : Nat) (w : World) (K : Value → World → Prop) : Prop :=
  CallsX P N.f_girderref09_Fit #[.slice q0 q0l q0c, .slice q1 q1l q1c] w fun v2 w1 =>
  ∃ n3 : Int, v2 = (.int .i64 n3) ∧
  cond (n3 != 0)
  (K (.tuple #[.slice none 0 0, .int .i64 n3]) w1)
  (cutM (σ := (Option Addr × Nat × Nat) × Unit) (fun J4 =>
      loopM (σ := (Option Addr × Nat × Nat) × Int × Unit) (fun s7 X8 w9 =>
        cond (decide (s7.2.1 < ((q0l : Nat) : Int)))
        ((0 : Int) ≤ s7.2.1 ∧ s7.2.1 < (q0l : Nat) ∧
          optM q0 fun a10 =>
          ∃ x11 : Nat, w9.cell? (a10.add (s7.2.1.toNat * 1)) = some (.float .f64 x11) ∧
          (0 : Int) ≤ s7.2.1 ∧ s7.2.1 < (q1l : Nat) ∧
          optM q1 fun a12 =>
          ∃ x13 : Nat, w9.cell? (a12.add (s7.2.1.toNat * 1)) = some (.float .f64 x13) ∧
          fresM (fsub x11 x13) w9 fun x14 w15 =>
          drM w9 fun w16 =>
          newM #[.float .f64 x14] N.t_float64 w16 fun p17 w18 =>
          drM w18 fun w19 =>
          appM N.t_float64 1 8 #[.float .f64 0] s7.1.1 s7.1.2.1 s7.1.2.2 (some p17) 1 w19 fun s20a s20l s20c w21 =>
          drM w21 fun w22 =>
          X8 ((s20a, s20l, s20c), (IntKind.i64.wrap (s7.2.1 + 1)), ()) w22)
        (J4 ((s7.1.1, s7.1.2.1, s7.1.2.2), ()) w9))
      ((none, 0, 0), 0, ()) w1)
    (fun s5 w6 =>
      K (.tuple #[.slice s5.1.1 s5.1.2.1 s5.1.2.2, .int .i64 0]) w6))

/-- girder/girderkit.SameReals -/
def S_girderkit_SameReals (N : Nums) (P : Program) (q0 : Option Addr) (q0l q0c : Nat) (q1 : Option Addr) (q1l q1c : Nat) (w : World) (K : Value → World → Prop) : Prop :=
  cond (((q0l : Nat) : Int) != ((q1l : Nat) : Int))
  (K (.bool false) w)
  (cutM (σ := Unit) (fun J1 =>
      loopM (σ := Int × Unit) (fun s4 X5 w6 =>
        cond (decide (s4.1 < ((q0l : Nat) : Int)))
        ((0 : Int) ≤ s4.1 ∧ s4.1 < (q0l : Nat) ∧
          optM q0 fun a7 =>
          ∃ x8 : Nat, w6.cell? (a7.add (s4.1.toNat * 1)) = some (.float .f64 x8) ∧
          (0 : Int) ≤ s4.1 ∧ s4.1 < (q1l : Nat) ∧
          optM q1 fun a9 =>
          ∃ x10 : Nat, w6.cell? (a9.add (s4.1.toNat * 1)) = some (.float .f64 x10) ∧
          drM w6 fun w11 =>
          CallsX P N.f_girderkit_SameFloat #[.float .f64 x8, .float .f64 x10] w11 fun v13 w12 =>
          ∃ b14 : Bool, v13 = (.bool b14) ∧
          drM w12 fun w15 =>
          cond (!b14)
          (K (.bool false) w15)
          (X5 ((IntKind.i64.wrap (s4.1 + 1)), ()) w15))
        (J1 (()) w6))
      (0, ()) w)
    (fun s2 w3 =>
      K (.bool true) w3))

/-- girder/vector.Axpy -/
def S_vector_Axpy (N : Nums) (P : Program) (q0 : Nat) (q1 : Option Addr) (q1l q1c : Nat) (q2 : Option Addr) (q2l q2c : Nat) (w : World) (K : Value → World → Prop) : Prop :=
  newM #[.float .f64 q0] N.t_float64 w fun p1 w2 =>
  CallsX P N.f_vector_each #[.slice q1 q1l q1c, .slice q2 q2l q2c, .func (.func N.f_vector_Axpy_1) #[] #[.pointer (some p1)]] w2 fun v4 w3 =>
  ∃ (s5a : Option Addr) (s5l s5c : Nat), ∃ n6 : Int, v4 = (.tuple #[.slice s5a s5l s5c, .int .i64 n6]) ∧
  K (.tuple #[.slice s5a s5l s5c, .int .i64 n6]) w3

/-- girder/girderref09.Axpy -/
def S_girderref09_Axpy (N : Nums) (P : Program) (q0 : Nat) (q1 : Option Addr) (q1l q1c : Nat) (q2 : Option Addr) (q2l q2c : Nat) (w : World) (K : Value → World → Prop) : Prop :=
  CallsX P N.f_girderref09_Fit #[.slice q1 q1l q1c, .slice q2 q2l q2c] w fun v2 w1 =>
  ∃ n3 : Int, v2 = (.int .i64 n3) ∧
  cond (n3 != 0)
  (K (.tuple #[.slice none 0 0, .int .i64 n3]) w1)
  (cutM (σ := (Option Addr × Nat × Nat) × Unit) (fun J4 =>
      loopM (σ := (Option Addr × Nat × Nat) × Int × Unit) (fun s7 X8 w9 =>
        cond (decide (s7.2.1 < ((q1l : Nat) : Int)))
        ((0 : Int) ≤ s7.2.1 ∧ s7.2.1 < (q1l : Nat) ∧
          optM q1 fun a10 =>
          ∃ x11 : Nat, w9.cell? (a10.add (s7.2.1.toNat * 1)) = some (.float .f64 x11) ∧
          fresM (fmul q0 x11) w9 fun x12 w13 =>
          (0 : Int) ≤ s7.2.1 ∧ s7.2.1 < (q2l : Nat) ∧
          optM q2 fun a14 =>
          ∃ x15 : Nat, w13.cell? (a14.add (s7.2.1.toNat * 1)) = some (.float .f64 x15) ∧
          fresM (fadd x12 x15) w13 fun x16 w17 =>
          newM #[.float .f64 x16] N.t_float64 w17 fun p18 w19 =>
          appM N.t_float64 1 8 #[.float .f64 0] s7.1.1 s7.1.2.1 s7.1.2.2 (some p18) 1 w19 fun s20a s20l s20c w21 =>
          X8 ((s20a, s20l, s20c), (IntKind.i64.wrap (s7.2.1 + 1)), ()) w21)
        (J4 ((s7.1.1, s7.1.2.1, s7.1.2.2), ()) w9))
      ((none, 0, 0), 0, ()) w1)
    (fun s5 w6 =>
      K (.tuple #[.slice s5.1.1 s5.1.2.1 s5.1.2.2, .int .i64 0]) w6))

/-- girder/vector.Dot -/
def S_vector_Dot (N : Nums) (P : Program) (q0 : Option Addr) (q0l q0c : Nat) (q1 : Option Addr) (q1l q1c : Nat) (w : World) (K : Value → World → Prop) : Prop :=
  CallsX P N.f_vector_fit #[.slice q0 q0l q0c, .slice q1 q1l q1c] w fun v2 w1 =>
  ∃ n3 : Int, v2 = (.int .i64 n3) ∧
  cond (n3 != 0)
  (K (.tuple #[.float .f64 0, .int .i64 n3]) w1)
  (cutM (σ := Nat × Unit) (fun J4 =>
      loopM (σ := Nat × Int × Unit) (fun s7 X8 w9 =>
        cond (decide (s7.2.1 < ((q0l : Nat) : Int)))
        ((0 : Int) ≤ s7.2.1 ∧ s7.2.1 < (q0l : Nat) ∧
          optM q0 fun a10 =>
          ∃ x11 : Nat, w9.cell? (a10.add (s7.2.1.toNat * 1)) = some (.float .f64 x11) ∧
          (0 : Int) ≤ s7.2.1 ∧ s7.2.1 < (q1l : Nat) ∧
          optM q1 fun a12 =>
          ∃ x13 : Nat, w9.cell? (a12.add (s7.2.1.toNat * 1)) = some (.float .f64 x13) ∧
          fresM (fmul x11 x13) w9 fun x14 w15 =>
          fresM (fadd s7.1 x14) w9 fun x16 w17 =>
          drM w9 fun w18 =>
          X8 (x16, (IntKind.i64.wrap (s7.2.1 + 1)), ()) w18)
        (J4 (s7.1, ()) w9))
      (0, 0, ()) w1)
    (fun s5 w6 =>
      K (.tuple #[.float .f64 s5.1, .int .i64 0]) w6))

/-- girder/girderref09.Dot -/
def S_girderref09_Dot (N : Nums) (P : Program) (q0 : Option Addr) (q0l q0c : Nat) (q1 : Option Addr) (q1l q1c : Nat) (w : World) (K : Value → World → Prop) : Prop :=
  CallsX P N.f_girderref09_Fit #[.slice q0 q0l q0c, .slice q1 q1l q1c] w fun v2 w1 =>
  ∃ n3 : Int, v2 = (.int .i64 n3) ∧
  cond (n3 != 0)
  (K (.tuple #[.float .f64 0, .int .i64 n3]) w1)
  (cutM (σ := Nat × Unit) (fun J4 =>
      loopM (σ := Nat × Int × Unit) (fun s7 X8 w9 =>
        cond (decide (s7.2.1 < ((q0l : Nat) : Int)))
        ((0 : Int) ≤ s7.2.1 ∧ s7.2.1 < (q0l : Nat) ∧
          optM q0 fun a10 =>
          ∃ x11 : Nat, w9.cell? (a10.add (s7.2.1.toNat * 1)) = some (.float .f64 x11) ∧
          (0 : Int) ≤ s7.2.1 ∧ s7.2.1 < (q1l : Nat) ∧
          optM q1 fun a12 =>
          ∃ x13 : Nat, w9.cell? (a12.add (s7.2.1.toNat * 1)) = some (.float .f64 x13) ∧
          fresM (fmul x11 x13) w9 fun x14 w15 =>
          drM w9 fun w16 =>
          fresM (fadd s7.1 x14) w16 fun x17 w18 =>
          X8 (x17, (IntKind.i64.wrap (s7.2.1 + 1)), ()) w18)
        (J4 (s7.1, ()) w9))
      (0, 0, ()) w1)
    (fun s5 w6 =>
      K (.tuple #[.float .f64 s5.1, .int .i64 0]) w6))

/-- girder/vector.Scale -/
def S_vector_Scale (N : Nums) (P : Program) (q0 : Nat) (q1 : Option Addr) (q1l q1c : Nat) (w : World) (K : Value → World → Prop) : Prop :=
  mkM N.t_float64 1 8 #[.float .f64 0] 0 ((q1l : Nat) : Int) w fun p1 w2 =>
  cutM (σ := (Option Addr × Nat × Nat) × Unit) (fun J3 =>
    loopM (σ := (Option Addr × Nat × Nat) × Int × Unit) (fun s6 X7 w8 =>
      cond (decide (s6.2.1 < ((q1l : Nat) : Int)))
      ((0 : Int) ≤ s6.2.1 ∧ s6.2.1 < (q1l : Nat) ∧
        optM q1 fun a9 =>
        ∃ x10 : Nat, w8.cell? (a9.add (s6.2.1.toNat * 1)) = some (.float .f64 x10) ∧
        fresM (fmul q0 x10) w8 fun x11 w12 =>
        newM #[.float .f64 x11] N.t_float64 w12 fun p13 w14 =>
        appM N.t_float64 1 8 #[.float .f64 0] s6.1.1 s6.1.2.1 s6.1.2.2 (some p13) 1 w14 fun s15a s15l s15c w16 =>
        X7 ((s15a, s15l, s15c), (IntKind.i64.wrap (s6.2.1 + 1)), ()) w16)
      (J3 ((s6.1.1, s6.1.2.1, s6.1.2.2), ()) w8))
    (((some p1), (0 : Int).toNat, ((q1l : Nat) : Int).toNat), 0, ()) w2)
  (fun s4 w5 =>
    K (.slice s4.1.1 s4.1.2.1 s4.1.2.2) w5)

/-- girder/girderref09.Scale -/
def S_girderref09_Scale (N : Nums) (P : Program) (q0 : Nat) (q1 : Option Addr) (q1l q1c : Nat) (w : World) (K : Value → World → Prop) : Prop :=
  cutM (σ := (Option Addr × Nat × Nat) × Unit) (fun J1 =>
    loopM (σ := (Option Addr × Nat × Nat) × Int × Unit) (fun s4 X5 w6 =>
      cond (decide (s4.2.1 < ((q1l : Nat) : Int)))
      ((0 : Int) ≤ s4.2.1 ∧ s4.2.1 < (q1l : Nat) ∧
        optM q1 fun a7 =>
        ∃ x8 : Nat, w6.cell? (a7.add (s4.2.1.toNat * 1)) = some (.float .f64 x8) ∧
        fresM (fmul q0 x8) w6 fun x9 w10 =>
        newM #[.float .f64 x9] N.t_float64 w10 fun p11 w12 =>
        appM N.t_float64 1 8 #[.float .f64 0] s4.1.1 s4.1.2.1 s4.1.2.2 (some p11) 1 w12 fun s13a s13l s13c w14 =>
        X5 ((s13a, s13l, s13c), (IntKind.i64.wrap (s4.2.1 + 1)), ()) w14)
      (J1 ((s4.1.1, s4.1.2.1, s4.1.2.2), ()) w6))
    ((none, 0, 0), 0, ()) w)
  (fun s2 w3 =>
    K (.slice s2.1.1 s2.1.2.1 s2.1.2.2) w3)

/-- girder/girderkit.Edge -/
def S_girderkit_Edge (N : Nums) (P : Program) (q0 : Int) (w : World) (K : Value → World → Prop) : Prop :=
  CallsX P N.f_girderkit_Pick #[.int .i64 q0, .int .i64 64] w fun v2 w1 =>
  ∃ n3 : Int, v2 = (.int .i64 n3) ∧
  (2 : Int) ≠ 0 ∧
  (2 : Int) ≠ 0 ∧
  cutM (σ := Nat × Unit) (fun J4 =>
    cutM (σ := Nat × Unit) (fun J7 =>
      cond ((IntKind.i64.wrap (n3.tdiv 2)) == 0)
      (J7 (0, ()) w1)
      (cutM (σ := Nat × Unit) (fun J10 =>
          cond ((IntKind.i64.wrap (n3.tdiv 2)) == 1)
          (CallsX P N.f_math_Float64frombits #[.int .u64 1] w1 fun v14 w13 =>
            ∃ x15 : Nat, v14 = (.float .f64 x15) ∧
            J10 (x15, ()) w13)
          (cutM (σ := Nat × Unit) (fun J16 =>
              cond ((IntKind.i64.wrap (n3.tdiv 2)) == 2)
              (CallsX P N.f_math_Float64frombits #[.int .u64 2] w1 fun v20 w19 =>
                ∃ x21 : Nat, v20 = (.float .f64 x21) ∧
                J16 (x21, ()) w19)
              (cutM (σ := Nat × Unit) (fun J22 =>
                  cond ((IntKind.i64.wrap (n3.tdiv 2)) == 3)
                  (CallsX P N.f_math_Float64frombits #[.int .u64 4503599627370495] w1 fun v26 w25 =>
                    ∃ x27 : Nat, v26 = (.float .f64 x27) ∧
                    J22 (x27, ()) w25)
                  (cutM (σ := Nat × Unit) (fun J28 =>
                      cond ((IntKind.i64.wrap (n3.tdiv 2)) == 4)
                      (CallsX P N.f_math_Float64frombits #[.int .u64 4503599627370496] w1 fun v32 w31 =>
                        ∃ x33 : Nat, v32 = (.float .f64 x33) ∧
                        J28 (x33, ()) w31)
                      (cutM (σ := Nat × Unit) (fun J34 =>
                          cond ((IntKind.i64.wrap (n3.tdiv 2)) == 5)
                          (CallsX P N.f_math_Float64frombits #[.int .u64 4503599627370497] w1 fun v38 w37 =>
                          ∃ x39 : Nat, v38 = (.float .f64 x39) ∧
                          J34 (x39, ()) w37)
                          (cutM (σ := Nat × Unit) (fun J40 =>
                          cond ((IntKind.i64.wrap (n3.tdiv 2)) == 6)
                          (J40 (9218868437227405311, ()) w1)
                          (cutM (σ := Nat × Unit) (fun J43 =>
                          cond ((IntKind.i64.wrap (n3.tdiv 2)) == 7)
                          (CallsX P N.f_math_Float64frombits #[.int .u64 9218868437227405310] w1 fun v47 w46 =>
                          ∃ x48 : Nat, v47 = (.float .f64 x48) ∧
                          J43 (x48, ()) w46)
                          (cutM (σ := Nat × Unit) (fun J49 =>
                          cond ((IntKind.i64.wrap (n3.tdiv 2)) == 8)
                          (CallsX P N.f_math_Inf #[.int .i64 1] w1 fun v53 w52 =>
                          ∃ x54 : Nat, v53 = (.float .f64 x54) ∧
                          J49 (x54, ()) w52)
                          (cutM (σ := Nat × Unit) (fun J55 =>
                          cond ((IntKind.i64.wrap (n3.tdiv 2)) == 9)
                          (CallsX P N.f_math_NaN #[] w1 fun v59 w58 =>
                          ∃ x60 : Nat, v59 = (.float .f64 x60) ∧
                          J55 (x60, ()) w58)
                          (cutM (σ := Nat × Unit) (fun J61 =>
                          cond ((IntKind.i64.wrap (n3.tdiv 2)) == 10)
                          (J61 (4607182418800017408, ()) w1)
                          (cutM (σ := Nat × Unit) (fun J64 =>
                          cond ((IntKind.i64.wrap (n3.tdiv 2)) == 11)
                          (CallsX P N.f_math_Float64frombits #[.int .u64 4607182418800017407] w1 fun v68 w67 =>
                          ∃ x69 : Nat, v68 = (.float .f64 x69) ∧
                          J64 (x69, ()) w67)
                          (cutM (σ := Nat × Unit) (fun J70 =>
                          cond ((IntKind.i64.wrap (n3.tdiv 2)) == 12)
                          (CallsX P N.f_math_Float64frombits #[.int .u64 4607182418800017409] w1 fun v74 w73 =>
                          ∃ x75 : Nat, v74 = (.float .f64 x75) ∧
                          J70 (x75, ()) w73)
                          (cutM (σ := Nat × Unit) (fun J76 =>
                          cond ((IntKind.i64.wrap (n3.tdiv 2)) == 13)
                          (J76 (4845873199050653696, ()) w1)
                          (cutM (σ := Nat × Unit) (fun J79 =>
                          cond ((IntKind.i64.wrap (n3.tdiv 2)) == 14)
                          (J79 (4845873199050653695, ()) w1)
                          (cutM (σ := Nat × Unit) (fun J82 =>
                          cond ((IntKind.i64.wrap (n3.tdiv 2)) == 15)
                          (J82 (4368491638549381120, ()) w1)
                          (cutM (σ := Nat × Unit) (fun J85 =>
                          cond ((IntKind.i64.wrap (n3.tdiv 2)) == 16)
                          (J85 (4591870180066957722, ()) w1)
                          (cutM (σ := Nat × Unit) (fun J88 =>
                          cond ((IntKind.i64.wrap (n3.tdiv 2)) == 17)
                          (J88 (4613937818241073152, ()) w1)
                          (cutM (σ := Nat × Unit) (fun J91 =>
                          cond ((IntKind.i64.wrap (n3.tdiv 2)) == 18)
                          (CallsX P N.f_math_Float64frombits #[.int .u64 2188749418902061057] w1 fun v95 w94 =>
                          ∃ x96 : Nat, v95 = (.float .f64 x96) ∧
                          J91 (x96, ()) w94)
                          (cutM (σ := Nat × Unit) (fun J97 =>
                          cond ((IntKind.i64.wrap (n3.tdiv 2)) == 19)
                          (CallsX P N.f_math_Float64frombits #[.int .u64 6908521828386340865] w1 fun v101 w100 =>
                          ∃ x102 : Nat, v101 = (.float .f64 x102) ∧
                          J97 (x102, ()) w100)
                          ((0 : Int) ≤ 1 ∧
                          CallsX P N.f_math_Float64frombits #[.int .u64 ((IntKind.u64.wrap ((IntKind.u64.wrap q0) * 11400714819323198485)).fdiv (2 ^ (min (1 : Int).toNat IntKind.u64.bits)))] w1 fun v104 w103 =>
                          ∃ x105 : Nat, v104 = (.float .f64 x105) ∧
                          J97 (x105, ()) w103))
                          (fun s98 w99 =>
                          J91 (s98.1, ()) w99)))
                          (fun s92 w93 =>
                          J88 (s92.1, ()) w93)))
                          (fun s89 w90 =>
                          J85 (s89.1, ()) w90)))
                          (fun s86 w87 =>
                          J82 (s86.1, ()) w87)))
                          (fun s83 w84 =>
                          J79 (s83.1, ()) w84)))
                          (fun s80 w81 =>
                          J76 (s80.1, ()) w81)))
                          (fun s77 w78 =>
                          J70 (s77.1, ()) w78)))
                          (fun s71 w72 =>
                          J64 (s71.1, ()) w72)))
                          (fun s65 w66 =>
                          J61 (s65.1, ()) w66)))
                          (fun s62 w63 =>
                          J55 (s62.1, ()) w63)))
                          (fun s56 w57 =>
                          J49 (s56.1, ()) w57)))
                          (fun s50 w51 =>
                          J43 (s50.1, ()) w51)))
                          (fun s44 w45 =>
                          J40 (s44.1, ()) w45)))
                          (fun s41 w42 =>
                          J34 (s41.1, ()) w42)))
                        (fun s35 w36 =>
                          J28 (s35.1, ()) w36)))
                    (fun s29 w30 =>
                      J22 (s29.1, ()) w30)))
                (fun s23 w24 =>
                  J16 (s23.1, ()) w24)))
            (fun s17 w18 =>
              J10 (s17.1, ()) w18)))
        (fun s11 w12 =>
          J7 (s11.1, ()) w12)))
    (fun s8 w9 =>
      J4 (s8.1, ()) w9))
  (fun s5 w6 =>
    cond ((n3.tmod 2) == 1)
    (K (.float .f64 (fneg s5.1)) w6)
    (K (.float .f64 s5.1) w6))

/-- math.NaN -/
def S_math_NaN (N : Nums) (P : Program)  (w : World) (K : Value → World → Prop) : Prop :=
  CallsX P N.f_math_Float64frombits #[.int .u64 9221120237041090561] w fun v2 w1 =>
  ∃ x3 : Nat, v2 = (.float .f64 x3) ∧
  K (.float .f64 x3) w1

/-- math.Abs -/
def S_math_Abs (N : Nums) (P : Program) (q0 : Nat) (w : World) (K : Value → World → Prop) : Prop :=
  CallsX P N.f_math_Float64bits #[.float .f64 q0] w fun v2 w1 =>
  ∃ n3 : Int, v2 = (.int .u64 n3) ∧
  CallsX P N.f_math_Float64frombits #[.int .u64 (IntKind.u64.wrap (BitVec.ofInt IntKind.u64.bits n3 &&& ~~~BitVec.ofInt IntKind.u64.bits 9223372036854775808).toNat)] w1 fun v5 w4 =>
  ∃ x6 : Nat, v5 = (.float .f64 x6) ∧
  K (.float .f64 x6) w4

/-- math.Ldexp -/
def S_math_Ldexp (N : Nums) (P : Program) (q0 : Nat) (q1 : Int) (w : World) (K : Value → World → Prop) : Prop :=
  CallsX P N.f_math_ldexp #[.float .f64 q0, .int .i64 q1] w fun v2 w1 =>
  ∃ x3 : Nat, v2 = (.float .f64 x3) ∧
  K (.float .f64 x3) w1

/-- girder/girderkit.Pick -/
def S_girderkit_Pick (N : Nums) (P : Program) (q0 : Int) (q1 : Int) (w : World) (K : Value → World → Prop) : Prop :=
  cond (decide (q1 < 1))
  (K (.int .i64 0) w)
  ((q1 : Int) ≠ 0 ∧
    cutM (σ := Int × Unit) (fun J1 =>
      cond (decide ((q0.tmod q1) < 0))
      (J1 ((IntKind.i64.wrap ((q0.tmod q1) + q1)), ()) w)
      (J1 ((q0.tmod q1), ()) w))
    (fun s2 w3 =>
      K (.int .i64 s2.1) w3))

/-- girder/girderkit.Like -/
def S_girderkit_Like (N : Nums) (P : Program) (q0 : Nat) (q1 : Nat) (w : World) (K : Value → World → Prop) : Prop :=
  cond (!(feq q0 q1))
  (cond (!feq q0 q0)
    (K (.bool (!feq q1 q1)) w)
    (K (.bool false) w))
  (K (.bool true) w)

/-- math.IsNaN -/
def S_math_IsNaN (N : Nums) (P : Program) (q0 : Nat) (w : World) (K : Value → World → Prop) : Prop :=
  K (.bool (!feq q0 q0)) w

/-- girder/round.Add -/
def S_round_Add (N : Nums) (P : Program) (q0 : Nat) (q1 : Nat) (q2 : Int) (w : World) (K : Value → World → Prop) : Prop :=
  CallsX P N.f_round_way #[.int .i8 q2] w fun v2 w1 =>
  ∃ n3 : Int, v2 = (.int .i8 n3) ∧
  fresM (fadd q0 q1) w1 fun x4 w5 =>
  newM #[.float .f64 q0, .float .f64 q1] N.t_float64 w5 fun p6 w7 =>
  CallsX P N.f_round_finite #[.slice (some p6) 2 2] w7 fun v9 w8 =>
  ∃ b10 : Bool, v9 = (.bool b10) ∧
  cond (!b10)
  (K (.float .f64 x4) w8)
  (cutM (σ := Bool × Unit) (fun J11 =>
      cond (feq x4 0)
      (cond (!(!feq q0 0))
        (cond (feq x4 0)
          (CallsX P N.f_math_Signbit #[.float .f64 q0] w8 fun v15 w14 =>
            ∃ b16 : Bool, v15 = (.bool b16) ∧
            CallsX P N.f_math_Signbit #[.float .f64 q1] w14 fun v18 w17 =>
            ∃ b19 : Bool, v18 = (.bool b19) ∧
            J11 ((!(b16 == b19)), ()) w17)
          (J11 (false, ()) w8))
        (J11 (true, ()) w8))
      (cond (feq x4 0)
        (CallsX P N.f_math_Signbit #[.float .f64 q0] w8 fun v21 w20 =>
          ∃ b22 : Bool, v21 = (.bool b22) ∧
          CallsX P N.f_math_Signbit #[.float .f64 q1] w20 fun v24 w23 =>
          ∃ b25 : Bool, v24 = (.bool b25) ∧
          J11 ((!(b22 == b25)), ()) w23)
        (J11 (false, ()) w8)))
    (fun s12 w13 =>
      cond s12.1
      (CallsX P N.f_round_none #[.int .i8 n3] w13 fun v27 w26 =>
        ∃ x28 : Nat, v27 = (.float .f64 x28) ∧
        K (.float .f64 x28) w26)
      (cond (feq x4 0)
        (K (.float .f64 x4) w13)
        (CallsX P N.f_math_IsInf #[.float .f64 x4, .int .i64 0] w13 fun v30 w29 =>
          ∃ b31 : Bool, v30 = (.bool b31) ∧
          cond b31
          (CallsX P N.f_round_settle #[.float .f64 x4, .int .i64 0, .int .i8 n3] w29 fun v33 w32 =>
            ∃ x34 : Nat, v33 = (.float .f64 x34) ∧
            K (.float .f64 x34) w32)
          (CallsX P N.f_math_Abs #[.float .f64 q0] w29 fun v36 w35 =>
            ∃ x37 : Nat, v36 = (.float .f64 x37) ∧
            CallsX P N.f_math_Abs #[.float .f64 q1] w35 fun v39 w38 =>
            ∃ x40 : Nat, v39 = (.float .f64 x40) ∧
            cutM (σ := Nat × Nat × Unit) (fun J41 =>
              cond (flt x37 x40)
              (J41 (q1, q0, ()) w38)
              (J41 (q0, q1, ()) w38))
            (fun s42 w43 =>
              fresM (fsub x4 s42.1) w43 fun x44 w45 =>
              fresM (fsub s42.2.1 x44) w45 fun x46 w47 =>
              CallsX P N.f_round_sign #[.float .f64 x46] w47 fun v49 w48 =>
              ∃ n50 : Int, v49 = (.int .i64 n50) ∧
              CallsX P N.f_round_settle #[.float .f64 x4, .int .i64 n50, .int .i8 n3] w48 fun v52 w51 =>
              ∃ x53 : Nat, v52 = (.float .f64 x53) ∧
              K (.float .f64 x53) w51))))))

/-- girder/girderref03.Add -/
def S_girderref03_Add (N : Nums) (P : Program) (q0 : Nat) (q1 : Nat) (q2 : Int) (w : World) (K : Value → World → Prop) : Prop :=
  fresM (fadd q0 q1) w fun x1 w2 =>
  CallsX P N.f_girderref03_Finite #[.float .f64 q0] w2 fun v4 w3 =>
  ∃ b5 : Bool, v4 = (.bool b5) ∧
  cond (!(!b5))
  (CallsX P N.f_girderref03_Finite #[.float .f64 q1] w3 fun v7 w6 =>
    ∃ b8 : Bool, v7 = (.bool b8) ∧
    cond (!b8)
    (K (.float .f64 x1) w6)
    (CallsX P N.f_girderref03_Finite #[.float .f64 x1] w6 fun v10 w9 =>
      ∃ b11 : Bool, v10 = (.bool b11) ∧
      cond (!b11)
      (CallsX P N.f_girderref03_great #[.float .f64 x1, .int .i8 q2] w9 fun v13 w12 =>
        ∃ x14 : Nat, v13 = (.float .f64 x14) ∧
        K (.float .f64 x14) w12)
      (cond (feq x1 0)
        (CallsX P N.f_math_Signbit #[.float .f64 q0] w9 fun v16 w15 =>
          ∃ b17 : Bool, v16 = (.bool b17) ∧
          CallsX P N.f_girderref03_nought #[.bool (feq q0 0), .bool b17, .float .f64 q1, .int .i8 q2] w15 fun v19 w18 =>
          ∃ x20 : Nat, v19 = (.float .f64 x20) ∧
          K (.float .f64 x20) w18)
        (CallsX P N.f_math_Abs #[.float .f64 q0] w9 fun v22 w21 =>
          ∃ x23 : Nat, v22 = (.float .f64 x23) ∧
          CallsX P N.f_math_Abs #[.float .f64 q1] w21 fun v25 w24 =>
          ∃ x26 : Nat, v25 = (.float .f64 x26) ∧
          cutM (σ := Nat × Nat × Unit) (fun J27 =>
            cond (flt x23 x26)
            (J27 (q1, q0, ()) w24)
            (J27 (q0, q1, ()) w24))
          (fun s28 w29 =>
            fresM (fsub x1 s28.1) w29 fun x30 w31 =>
            fresM (fsub s28.2.1 x30) w31 fun x32 w33 =>
            CallsX P N.f_girderref03_sign #[.float .f64 x32] w33 fun v35 w34 =>
            ∃ n36 : Int, v35 = (.int .i64 n36) ∧
            CallsX P N.f_girderref03_side #[.float .f64 x1, .int .i64 n36, .int .i8 q2] w34 fun v38 w37 =>
            ∃ x39 : Nat, v38 = (.float .f64 x39) ∧
            K (.float .f64 x39) w37)))))
  (K (.float .f64 x1) w3)

/-- math.Copysign -/
def S_math_Copysign (N : Nums) (P : Program) (q0 : Nat) (q1 : Nat) (w : World) (K : Value → World → Prop) : Prop :=
  CallsX P N.f_math_Float64bits #[.float .f64 q0] w fun v2 w1 =>
  ∃ n3 : Int, v2 = (.int .u64 n3) ∧
  CallsX P N.f_math_Float64bits #[.float .f64 q1] w1 fun v5 w4 =>
  ∃ n6 : Int, v5 = (.int .u64 n6) ∧
  CallsX P N.f_math_Float64frombits #[.int .u64 (IntKind.u64.wrap (BitVec.ofInt IntKind.u64.bits (IntKind.u64.wrap (BitVec.ofInt IntKind.u64.bits n3 &&& ~~~BitVec.ofInt IntKind.u64.bits 9223372036854775808).toNat) ||| BitVec.ofInt IntKind.u64.bits (IntKind.u64.wrap (BitVec.ofInt IntKind.u64.bits n6 &&& BitVec.ofInt IntKind.u64.bits 9223372036854775808).toNat)).toNat)] w4 fun v8 w7 =>
  ∃ x9 : Nat, v8 = (.float .f64 x9) ∧
  K (.float .f64 x9) w7

/-- girder/vector.each -/
def S_vector_each (N : Nums) (P : Program) (q0 : Option Addr) (q0l q0c : Nat) (q1 : Option Addr) (q1l q1c : Nat) (q2 : Value) (w : World) (K : Value → World → Prop) : Prop :=
  CallsX P N.f_vector_fit #[.slice q0 q0l q0c, .slice q1 q1l q1c] w fun v2 w1 =>
  ∃ n3 : Int, v2 = (.int .i64 n3) ∧
  cond (n3 != 0)
  (K (.tuple #[.slice none 0 0, .int .i64 n3]) w1)
  (mkM N.t_float64 1 8 #[.float .f64 0] ((q0l : Nat) : Int) ((q0l : Nat) : Int) w1 fun p4 w5 =>
    cutM (σ := Unit) (fun J6 =>
      loopM (σ := Int × Unit) (fun s9 X10 w11 =>
        cond (decide (s9.1 < ((q0l : Nat) : Int)))
        ((0 : Int) ≤ s9.1 ∧ s9.1 < (q0l : Nat) ∧
          optM q0 fun a12 =>
          ∃ x13 : Nat, w11.cell? (a12.add (s9.1.toNat * 1)) = some (.float .f64 x13) ∧
          (0 : Int) ≤ s9.1 ∧ s9.1 < (q1l : Nat) ∧
          optM q1 fun a14 =>
          ∃ x15 : Nat, w11.cell? (a14.add (s9.1.toNat * 1)) = some (.float .f64 x15) ∧
          drM w11 fun w16 =>
          fnM q2 fun f19 f19p f19q => CallsX P f19 (f19p.toList ++ (([.float .f64 x13, .float .f64 x15] : List Value) ++ f19q.toList)).toArray w16 fun v18 w17 =>
          ∃ x20 : Nat, v18 = (.float .f64 x20) ∧
          (0 : Int) ≤ s9.1 ∧ s9.1 < (((q0l : Nat) : Int).toNat : Nat) ∧
          drM w17 fun w21 =>
          stM (p4.add (s9.1.toNat * 1)) (.float .f64 x20) w21 fun w22 =>
          drM w22 fun w23 =>
          X10 ((IntKind.i64.wrap (s9.1 + 1)), ()) w23)
        (J6 (()) w11))
      (0, ()) w5)
    (fun s7 w8 =>
      K (.tuple #[.slice (some p4) (((q0l : Nat) : Int).toNat) (((q0l : Nat) : Int).toNat), .int .i64 0]) w8))

/-- girder/vector.Add$1 -/
def S_vector_Add_1 (N : Nums) (P : Program) (q0 : Nat) (q1 : Nat) (w : World) (K : Value → World → Prop) : Prop :=
  fresM (fadd q0 q1) w fun x1 w2 =>
  K (.float .f64 x1) w2

/-- girder/vector.Sub$1 -/
def S_vector_Sub_1 (N : Nums) (P : Program) (q0 : Nat) (q1 : Nat) (w : World) (K : Value → World → Prop) : Prop :=
  fresM (fsub q0 q1) w fun x1 w2 =>
  K (.float .f64 x1) w2

/-- girder/girderref09.Fit -/
def S_girderref09_Fit (N : Nums) (P : Program) (q0 : Option Addr) (q0l q0c : Nat) (q1 : Option Addr) (q1l q1c : Nat) (w : World) (K : Value → World → Prop) : Prop :=
  cond (((q0l : Nat) : Int) != ((q1l : Nat) : Int))
  (K (.int .i64 4) w)
  (cond (decide (((q0l : Nat) : Int) > 4096))
    (K (.int .i64 3) w)
    (K (.int .i64 0) w))

/-- girder/vector.Axpy$1 -/
def S_vector_Axpy_1 (N : Nums) (P : Program) (q0 : Nat) (q1 : Nat) (q2 : Option Addr) (w : World) (K : Value → World → Prop) : Prop :=
  optM q2 fun a1 =>
  ∃ x2 : Nat, w.cell? a1 = some (.float .f64 x2) ∧
  fresM (fmul x2 q0) w fun x3 w4 =>
  fresM (fadd x3 q1) w4 fun x5 w6 =>
  K (.float .f64 x5) w6

/-- girder/vector.fit -/
def S_vector_fit (N : Nums) (P : Program) (q0 : Option Addr) (q0l q0c : Nat) (q1 : Option Addr) (q1l q1c : Nat) (w : World) (K : Value → World → Prop) : Prop :=
  cond (((q0l : Nat) : Int) != ((q1l : Nat) : Int))
  (K (.int .i64 4) w)
  (cond (decide (((q0l : Nat) : Int) > 4096))
    (K (.int .i64 3) w)
    (K (.int .i64 0) w))

/-- math.Inf -/
def S_math_Inf (N : Nums) (P : Program) (q0 : Int) (w : World) (K : Value → World → Prop) : Prop :=
  cutM (σ := Int × Unit) (fun J1 =>
    cond (decide (q0 ≥ 0))
    (J1 (9218868437227405312, ()) w)
    (J1 (18442240474082181120, ()) w))
  (fun s2 w3 =>
    CallsX P N.f_math_Float64frombits #[.int .u64 s2.1] w3 fun v5 w4 =>
    ∃ x6 : Nat, v5 = (.float .f64 x6) ∧
    K (.float .f64 x6) w4)

/-- math.ldexp -/
def S_math_ldexp (N : Nums) (P : Program) (q0 : Nat) (q1 : Int) (w : World) (K : Value → World → Prop) : Prop :=
  cond (feq q0 0)
  (K (.float .f64 q0) w)
  (cutM (σ := Bool × Unit) (fun J1 =>
      CallsX P N.f_math_IsInf #[.float .f64 q0, .int .i64 0] w fun v5 w4 =>
      ∃ b6 : Bool, v5 = (.bool b6) ∧
      cond (!b6)
      (CallsX P N.f_math_IsNaN #[.float .f64 q0] w4 fun v8 w7 =>
        ∃ b9 : Bool, v8 = (.bool b9) ∧
        J1 (b9, ()) w7)
      (J1 (true, ()) w4))
    (fun s2 w3 =>
      cond s2.1
      (K (.float .f64 q0) w3)
      (CallsX P N.f_math_normalize #[.float .f64 q0] w3 fun v11 w10 =>
        ∃ x12 : Nat, ∃ n13 : Int, v11 = (.tuple #[.float .f64 x12, .int .i64 n13]) ∧
        CallsX P N.f_math_Float64bits #[.float .f64 x12] w10 fun v15 w14 =>
        ∃ n16 : Int, v15 = (.int .u64 n16) ∧
        (0 : Int) ≤ 52 ∧
        cond (decide ((IntKind.i64.wrap ((IntKind.i64.wrap (q1 + n13)) + (IntKind.i64.wrap ((IntKind.i64.wrap (BitVec.ofInt IntKind.i64.bits (IntKind.i64.wrap (n16.fdiv (2 ^ (min (52 : Int).toNat IntKind.u64.bits)))) &&& BitVec.ofInt IntKind.i64.bits 2047).toNat) - 1023)))) < (-1075)))
        (CallsX P N.f_math_Copysign #[.float .f64 0, .float .f64 x12] w14 fun v18 w17 =>
          ∃ x19 : Nat, v18 = (.float .f64 x19) ∧
          K (.float .f64 x19) w17)
        (cond (decide ((IntKind.i64.wrap ((IntKind.i64.wrap (q1 + n13)) + (IntKind.i64.wrap ((IntKind.i64.wrap (BitVec.ofInt IntKind.i64.bits (IntKind.i64.wrap (n16.fdiv (2 ^ (min (52 : Int).toNat IntKind.u64.bits)))) &&& BitVec.ofInt IntKind.i64.bits 2047).toNat) - 1023)))) > 1023))
          (cond (flt x12 0)
            (CallsX P N.f_math_Inf #[.int .i64 (-1)] w14 fun v21 w20 =>
              ∃ x22 : Nat, v21 = (.float .f64 x22) ∧
              K (.float .f64 x22) w20)
            (CallsX P N.f_math_Inf #[.int .i64 1] w14 fun v24 w23 =>
              ∃ x25 : Nat, v24 = (.float .f64 x25) ∧
              K (.float .f64 x25) w23))
          (cutM (σ := Int × Nat × Unit) (fun J26 =>
              cond (decide ((IntKind.i64.wrap ((IntKind.i64.wrap (q1 + n13)) + (IntKind.i64.wrap ((IntKind.i64.wrap (BitVec.ofInt IntKind.i64.bits (IntKind.i64.wrap (n16.fdiv (2 ^ (min (52 : Int).toNat IntKind.u64.bits)))) &&& BitVec.ofInt IntKind.i64.bits 2047).toNat) - 1023)))) < (-1022)))
              (J26 ((IntKind.i64.wrap ((IntKind.i64.wrap ((IntKind.i64.wrap (q1 + n13)) + (IntKind.i64.wrap ((IntKind.i64.wrap (BitVec.ofInt IntKind.i64.bits (IntKind.i64.wrap (n16.fdiv (2 ^ (min (52 : Int).toNat IntKind.u64.bits)))) &&& BitVec.ofInt IntKind.i64.bits 2047).toNat) - 1023)))) + 53)), 4368491638549381120, ()) w14)
              (J26 ((IntKind.i64.wrap ((IntKind.i64.wrap (q1 + n13)) + (IntKind.i64.wrap ((IntKind.i64.wrap (BitVec.ofInt IntKind.i64.bits (IntKind.i64.wrap (n16.fdiv (2 ^ (min (52 : Int).toNat IntKind.u64.bits)))) &&& BitVec.ofInt IntKind.i64.bits 2047).toNat) - 1023)))), 4607182418800017408, ()) w14))
            (fun s27 w28 =>
              (0 : Int) ≤ 52 ∧
              CallsX P N.f_math_Float64frombits #[.int .u64 (IntKind.u64.wrap (BitVec.ofInt IntKind.u64.bits (IntKind.u64.wrap (BitVec.ofInt IntKind.u64.bits n16 &&& ~~~BitVec.ofInt IntKind.u64.bits 9218868437227405312).toNat) ||| BitVec.ofInt IntKind.u64.bits (IntKind.u64.wrap ((IntKind.u64.wrap (IntKind.i64.wrap (s27.1 + 1023))) * 2 ^ (min (52 : Int).toNat IntKind.u64.bits)))).toNat)] w28 fun v30 w29 =>
              ∃ x31 : Nat, v30 = (.float .f64 x31) ∧
              fresM (fmul s27.2.1 x31) w29 fun x32 w33 =>
              K (.float .f64 x32) w33))))))

/-- girder/round.way -/
def S_round_way (N : Nums) (P : Program) (q0 : Int) (w : World) (K : Value → World → Prop) : Prop :=
  cond (!(decide (q0 < 0)))
  (cond (decide (q0 > 3))
    (K (.int .i8 0) w)
    (K (.int .i8 q0) w))
  (K (.int .i8 0) w)

/-- girder/round.finite -/
def S_round_finite (N : Nums) (P : Program) (q0 : Option Addr) (q0l q0c : Nat) (w : World) (K : Value → World → Prop) : Prop :=
  cutM (σ := Unit) (fun J1 =>
    loopM (σ := Int × Unit) (fun s4 X5 w6 =>
      cond (decide (s4.1 < ((q0l : Nat) : Int)))
      ((0 : Int) ≤ s4.1 ∧ s4.1 < (q0l : Nat) ∧
        optM q0 fun a7 =>
        ∃ x8 : Nat, w6.cell? (a7.add (s4.1.toNat * 1)) = some (.float .f64 x8) ∧
        CallsX P N.f_math_IsNaN #[.float .f64 x8] w6 fun v10 w9 =>
        ∃ b11 : Bool, v10 = (.bool b11) ∧
        cond (!b11)
        (CallsX P N.f_math_IsInf #[.float .f64 x8, .int .i64 0] w9 fun v13 w12 =>
          ∃ b14 : Bool, v13 = (.bool b14) ∧
          cond b14
          (K (.bool false) w12)
          (X5 ((IntKind.i64.wrap (s4.1 + 1)), ()) w12))
        (K (.bool false) w9))
      (J1 (()) w6))
    (0, ()) w)
  (fun s2 w3 =>
    K (.bool true) w3)

/-- math.Signbit -/
def S_math_Signbit (N : Nums) (P : Program) (q0 : Nat) (w : World) (K : Value → World → Prop) : Prop :=
  CallsX P N.f_math_Float64bits #[.float .f64 q0] w fun v2 w1 =>
  ∃ n3 : Int, v2 = (.int .u64 n3) ∧
  K (.bool (decide ((IntKind.i64.wrap n3) < 0))) w1

/-- girder/round.none -/
def S_round_none (N : Nums) (P : Program) (q0 : Int) (w : World) (K : Value → World → Prop) : Prop :=
  cond (q0 == 1)
  (CallsX P N.f_math_Copysign #[.float .f64 0, .float .f64 13830554455654793216] w fun v2 w1 =>
    ∃ x3 : Nat, v2 = (.float .f64 x3) ∧
    K (.float .f64 x3) w1)
  (K (.float .f64 0) w)

/-- math.IsInf -/
def S_math_IsInf (N : Nums) (P : Program) (q0 : Nat) (q1 : Int) (w : World) (K : Value → World → Prop) : Prop :=
  cutM (σ := Nat × Unit) (fun J1 =>
    cond (q1 == 0)
    (CallsX P N.f_math_Abs #[.float .f64 q0] w fun v5 w4 =>
      ∃ x6 : Nat, v5 = (.float .f64 x6) ∧
      J1 (x6, ()) w4)
    (cutM (σ := Nat × Unit) (fun J7 =>
        cond (decide (q1 < 0))
        (J7 ((fneg q0), ()) w)
        (J7 (q0, ()) w))
      (fun s8 w9 =>
        J1 (s8.1, ()) w9)))
  (fun s2 w3 =>
    K (.bool (fgt s2.1 9218868437227405311)) w3)

/-- girder/round.settle -/
def S_round_settle (N : Nums) (P : Program) (q0 : Nat) (q1 : Int) (q2 : Int) (w : World) (K : Value → World → Prop) : Prop :=
  cutM (σ := Int × Unit) (fun J1 =>
    cond (q2 == 3)
    (CallsX P N.f_math_Signbit #[.float .f64 q0] w fun v5 w4 =>
      ∃ b6 : Bool, v5 = (.bool b6) ∧
      cutM (σ := Int × Unit) (fun J7 =>
        cond b6
        (J7 (2, ()) w4)
        (J7 (1, ()) w4))
      (fun s8 w9 =>
        J1 (s8.1, ()) w9))
    (J1 (q2, ()) w))
  (fun s2 w3 =>
    CallsX P N.f_math_IsInf #[.float .f64 q0, .int .i64 0] w3 fun v11 w10 =>
    ∃ b12 : Bool, v11 = (.bool b12) ∧
    cond b12
    (cond (fgt q0 0)
      (cond (!(s2.1 == 1))
        (cond (flt q0 0)
          (cond (s2.1 == 2)
            (CallsX P N.f_math_Copysign #[.float .f64 9218868437227405311, .float .f64 q0] w10 fun v14 w13 =>
              ∃ x15 : Nat, v14 = (.float .f64 x15) ∧
              K (.float .f64 x15) w13)
            (K (.float .f64 q0) w10))
          (K (.float .f64 q0) w10))
        (CallsX P N.f_math_Copysign #[.float .f64 9218868437227405311, .float .f64 q0] w10 fun v17 w16 =>
          ∃ x18 : Nat, v17 = (.float .f64 x18) ∧
          K (.float .f64 x18) w16))
      (cond (flt q0 0)
        (cond (s2.1 == 2)
          (CallsX P N.f_math_Copysign #[.float .f64 9218868437227405311, .float .f64 q0] w10 fun v20 w19 =>
            ∃ x21 : Nat, v20 = (.float .f64 x21) ∧
            K (.float .f64 x21) w19)
          (K (.float .f64 q0) w10))
        (K (.float .f64 q0) w10)))
    (cond (decide (q1 < 0))
      (cond (!(s2.1 == 1))
        (cond (decide (q1 > 0))
          (cond (s2.1 == 2)
            (CallsX P N.f_round_step #[.float .f64 q0, .bool (decide (q1 > 0))] w10 fun v23 w22 =>
              ∃ x24 : Nat, v23 = (.float .f64 x24) ∧
              K (.float .f64 x24) w22)
            (K (.float .f64 q0) w10))
          (K (.float .f64 q0) w10))
        (CallsX P N.f_round_step #[.float .f64 q0, .bool (decide (q1 > 0))] w10 fun v26 w25 =>
          ∃ x27 : Nat, v26 = (.float .f64 x27) ∧
          K (.float .f64 x27) w25))
      (cond (decide (q1 > 0))
        (cond (s2.1 == 2)
          (CallsX P N.f_round_step #[.float .f64 q0, .bool (decide (q1 > 0))] w10 fun v29 w28 =>
            ∃ x30 : Nat, v29 = (.float .f64 x30) ∧
            K (.float .f64 x30) w28)
          (K (.float .f64 q0) w10))
        (K (.float .f64 q0) w10))))

/-- girder/round.sign -/
def S_round_sign (N : Nums) (P : Program) (q0 : Nat) (w : World) (K : Value → World → Prop) : Prop :=
  cond (fgt q0 0)
  (K (.int .i64 1) w)
  (cond (flt q0 0)
    (K (.int .i64 (-1)) w)
    (K (.int .i64 0) w))

/-- girder/girderref03.Finite -/
def S_girderref03_Finite (N : Nums) (P : Program) (q0 : Nat) (w : World) (K : Value → World → Prop) : Prop :=
  fresM (fsub q0 q0) w fun x1 w2 =>
  K (.bool (feq x1 0)) w2

/-- girder/girderref03.great -/
def S_girderref03_great (N : Nums) (P : Program) (q0 : Nat) (q1 : Int) (w : World) (K : Value → World → Prop) : Prop :=
  cond (!(q1 == 3))
  (cond (fgt q0 0)
    (cond (!(q1 == 1))
      (cond (flt q0 0)
        (cond (q1 == 2)
          (CallsX P N.f_math_Copysign #[.float .f64 9218868437227405311, .float .f64 q0] w fun v2 w1 =>
            ∃ x3 : Nat, v2 = (.float .f64 x3) ∧
            K (.float .f64 x3) w1)
          (K (.float .f64 q0) w))
        (K (.float .f64 q0) w))
      (CallsX P N.f_math_Copysign #[.float .f64 9218868437227405311, .float .f64 q0] w fun v5 w4 =>
        ∃ x6 : Nat, v5 = (.float .f64 x6) ∧
        K (.float .f64 x6) w4))
    (cond (flt q0 0)
      (cond (q1 == 2)
        (CallsX P N.f_math_Copysign #[.float .f64 9218868437227405311, .float .f64 q0] w fun v8 w7 =>
          ∃ x9 : Nat, v8 = (.float .f64 x9) ∧
          K (.float .f64 x9) w7)
        (K (.float .f64 q0) w))
      (K (.float .f64 q0) w)))
  (CallsX P N.f_math_Copysign #[.float .f64 9218868437227405311, .float .f64 q0] w fun v11 w10 =>
    ∃ x12 : Nat, v11 = (.float .f64 x12) ∧
    K (.float .f64 x12) w10)

/-- girder/girderref03.nought -/
def S_girderref03_nought (N : Nums) (P : Program) (q0 : Bool) (q1 : Bool) (q2 : Nat) (q3 : Int) (w : World) (K : Value → World → Prop) : Prop :=
  cond q0
  (cond (feq q2 0)
    (CallsX P N.f_math_Signbit #[.float .f64 q2] w fun v2 w1 =>
      ∃ b3 : Bool, v2 = (.bool b3) ∧
      cond (q1 == b3)
      (K (.float .f64 q2) w1)
      (cond (q3 == 1)
        (CallsX P N.f_math_Copysign #[.float .f64 0, .float .f64 13830554455654793216] w1 fun v5 w4 =>
          ∃ x6 : Nat, v5 = (.float .f64 x6) ∧
          K (.float .f64 x6) w4)
        (K (.float .f64 0) w1)))
    (cond (q3 == 1)
      (CallsX P N.f_math_Copysign #[.float .f64 0, .float .f64 13830554455654793216] w fun v8 w7 =>
        ∃ x9 : Nat, v8 = (.float .f64 x9) ∧
        K (.float .f64 x9) w7)
      (K (.float .f64 0) w)))
  (cond (q3 == 1)
    (CallsX P N.f_math_Copysign #[.float .f64 0, .float .f64 13830554455654793216] w fun v11 w10 =>
      ∃ x12 : Nat, v11 = (.float .f64 x12) ∧
      K (.float .f64 x12) w10)
    (K (.float .f64 0) w))

/-- girder/girderref03.side -/
def S_girderref03_side (N : Nums) (P : Program) (q0 : Nat) (q1 : Int) (q2 : Int) (w : World) (K : Value → World → Prop) : Prop :=
  CallsX P N.f_math_Signbit #[.float .f64 q0] w fun v2 w1 =>
  ∃ b3 : Bool, v2 = (.bool b3) ∧
  cutM (σ := Bool × Unit) (fun J4 =>
    cond (decide (q1 < 0))
    (cond (!(q2 == 1))
      (cond (q2 == 3)
        (cond (!b3)
          (J4 ((!feq q0 0), ()) w1)
          (J4 (false, ()) w1))
        (J4 (false, ()) w1))
      (J4 (true, ()) w1))
    (J4 (false, ()) w1))
  (fun s5 w6 =>
    cond s5.1
    (CallsX P N.f_girderref03_down #[.float .f64 q0] w6 fun v8 w7 =>
      ∃ x9 : Nat, v8 = (.float .f64 x9) ∧
      K (.float .f64 x9) w7)
    (cond (decide (q1 > 0))
      (cond (!(q2 == 2))
        (cond (q2 == 3)
          (cond b3
            (cond (!feq q0 0)
              (CallsX P N.f_girderref03_up #[.float .f64 q0] w6 fun v11 w10 =>
                ∃ x12 : Nat, v11 = (.float .f64 x12) ∧
                K (.float .f64 x12) w10)
              (K (.float .f64 q0) w6))
            (K (.float .f64 q0) w6))
          (K (.float .f64 q0) w6))
        (CallsX P N.f_girderref03_up #[.float .f64 q0] w6 fun v14 w13 =>
          ∃ x15 : Nat, v14 = (.float .f64 x15) ∧
          K (.float .f64 x15) w13))
      (K (.float .f64 q0) w6)))

/-- girder/girderref03.sign -/
def S_girderref03_sign (N : Nums) (P : Program) (q0 : Nat) (w : World) (K : Value → World → Prop) : Prop :=
  cond (flt q0 0)
  (K (.int .i64 (-1)) w)
  (cond (fgt q0 0)
    (K (.int .i64 1) w)
    (K (.int .i64 0) w))

/-- math.normalize -/
def S_math_normalize (N : Nums) (P : Program) (q0 : Nat) (w : World) (K : Value → World → Prop) : Prop :=
  CallsX P N.f_math_Abs #[.float .f64 q0] w fun v2 w1 =>
  ∃ x3 : Nat, v2 = (.float .f64 x3) ∧
  cond (flt x3 4503599627370496)
  (fresM (fmul q0 4841369599423283200) w1 fun x4 w5 =>
    K (.tuple #[.float .f64 x4, .int .i64 (-52)]) w5)
  (K (.tuple #[.float .f64 q0, .int .i64 0]) w1)

/-- girder/round.step -/
def S_round_step (N : Nums) (P : Program) (q0 : Nat) (q1 : Bool) (w : World) (K : Value → World → Prop) : Prop :=
  CallsX P N.f_math_Float64bits #[.float .f64 q0] w fun v2 w1 =>
  ∃ n3 : Int, v2 = (.int .u64 n3) ∧
  cutM (σ := Int × Unit) (fun J4 =>
    cutM (σ := Int × Unit) (fun J7 =>
      cond (feq q0 0)
      (cutM (σ := Int × Unit) (fun J10 =>
          cond (!q1)
          (J10 ((IntKind.u64.wrap (BitVec.ofInt IntKind.u64.bits 1 ||| BitVec.ofInt IntKind.u64.bits 9223372036854775808).toNat), ()) w1)
          (J10 (1, ()) w1))
        (fun s11 w12 =>
          J7 (s11.1, ()) w12))
      (cutM (σ := Int × Unit) (fun J13 =>
          cond (q1 == (fgt q0 0))
          (J13 ((IntKind.u64.wrap (n3 + 1)), ()) w1)
          (J13 ((IntKind.u64.wrap (n3 - 1)), ()) w1))
        (fun s14 w15 =>
          J7 (s14.1, ()) w15)))
    (fun s8 w9 =>
      J4 (s8.1, ()) w9))
  (fun s5 w6 =>
    CallsX P N.f_math_Float64frombits #[.int .u64 s5.1] w6 fun v17 w16 =>
    ∃ x18 : Nat, v17 = (.float .f64 x18) ∧
    K (.float .f64 x18) w16)

/-- girder/girderref03.down -/
def S_girderref03_down (N : Nums) (P : Program) (q0 : Nat) (w : World) (K : Value → World → Prop) : Prop :=
  CallsX P N.f_girderref03_up #[.float .f64 (fneg q0)] w fun v2 w1 =>
  ∃ x3 : Nat, v2 = (.float .f64 x3) ∧
  K (.float .f64 (fneg x3)) w1

/-- girder/girderref03.up -/
def S_girderref03_up (N : Nums) (P : Program) (q0 : Nat) (w : World) (K : Value → World → Prop) : Prop :=
  cond (feq q0 0)
  (CallsX P N.f_math_Float64frombits #[.int .u64 1] w fun v2 w1 =>
    ∃ x3 : Nat, v2 = (.float .f64 x3) ∧
    K (.float .f64 x3) w1)
  (cond (fgt q0 0)
    (CallsX P N.f_girderref03_further #[.float .f64 q0] w fun v5 w4 =>
      ∃ x6 : Nat, v5 = (.float .f64 x6) ∧
      K (.float .f64 x6) w4)
    (CallsX P N.f_girderref03_nearer #[.float .f64 q0] w fun v8 w7 =>
      ∃ x9 : Nat, v8 = (.float .f64 x9) ∧
      K (.float .f64 x9) w7))

/-- girder/girderref03.further -/
def S_girderref03_further (N : Nums) (P : Program) (q0 : Nat) (w : World) (K : Value → World → Prop) : Prop :=
  CallsX P N.f_math_Float64bits #[.float .f64 q0] w fun v2 w1 =>
  ∃ n3 : Int, v2 = (.int .u64 n3) ∧
  CallsX P N.f_math_Float64frombits #[.int .u64 (IntKind.u64.wrap (n3 + 1))] w1 fun v5 w4 =>
  ∃ x6 : Nat, v5 = (.float .f64 x6) ∧
  K (.float .f64 x6) w4

/-- girder/girderref03.nearer -/
def S_girderref03_nearer (N : Nums) (P : Program) (q0 : Nat) (w : World) (K : Value → World → Prop) : Prop :=
  CallsX P N.f_math_Float64bits #[.float .f64 q0] w fun v2 w1 =>
  ∃ n3 : Int, v2 = (.int .u64 n3) ∧
  CallsX P N.f_math_Float64frombits #[.int .u64 (IntKind.u64.wrap (n3 - 1))] w1 fun v5 w4 =>
  ∃ x6 : Nat, v5 = (.float .f64 x6) ∧
  K (.float .f64 x6) w4

end Go.Eng
