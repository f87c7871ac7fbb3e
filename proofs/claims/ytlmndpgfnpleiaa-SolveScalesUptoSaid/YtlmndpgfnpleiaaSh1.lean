/-
  Some of the functions as propositions in the manner of a weakest precondition, printed off the structured code by a program of the session. No condition.
-/
import Derived.Test.YtlmndpgfnpleiaaTbl
import Derived.Test.YtlmndpgfnpleiaaNm
set_option linter.unusedSimpArgs false
set_option linter.unnecessarySimpa false
set_option linter.unusedSectionVars false
set_option linter.unusedVariables false
set_option maxRecDepth 100000
namespace Go.Eng
open Go

/-- girder/girderlaw13.SolveTells -/
def S_girderlaw13_SolveTells (N : Nums) (P : Program) (q0_0 : Int) (q0_1 : Option Addr) (q0_1l q0_1c : Nat) (q0_2 : Option Addr) (q0_2l q0_2c : Nat) (q1 : Option Addr) (q1l q1c : Nat) (w : World) (K : Value → World → Prop) : Prop :=
  newM #[.int .i64 q0_0, .slice q0_1 q0_1l q0_1c, .slice q0_2 q0_2l q0_2c] N.t_Factor w fun p1 w2 =>
  ∃ n3 : Int, w2.cell? p1 = some (.int .i64 n3) ∧
  ∃ (s4a : Option Addr) (s4l s4c : Nat), w2.cell? (p1.add 1) = some (.slice s4a s4l s4c) ∧
  ∃ (s5a : Option Addr) (s5l s5c : Nat), w2.cell? (p1.add 2) = some (.slice s5a s5l s5c) ∧
  CallsX P N.f_girderkit_LentFactor #[.agg #[.int .i64 n3, .slice s4a s4l s4c, .slice s5a s5l s5c]] w2 fun v7 w6 =>
  ∃ n8 : Int, ∃ (s9a : Option Addr) (s9l s9c : Nat), ∃ (s10a : Option Addr) (s10l s10c : Nat), v7 = (.agg #[.int .i64 n8, .slice s9a s9l s9c, .slice s10a s10l s10c]) ∧
  CallsX P N.f_girderkit_LentReals #[.slice q1 q1l q1c] w6 fun v12 w11 =>
  ∃ (s13a : Option Addr) (s13l s13c : Nat), v12 = (.slice s13a s13l s13c) ∧
  newM #[.int .i64 0, .slice none 0 0, .slice none 0 0] N.t_Factor w11 fun p14 w15 =>
  stM p14 (.int .i64 n8) w15 fun w16 =>
  stM (p14.add 1) (.slice s9a s9l s9c) w16 fun w17 =>
  stM (p14.add 2) (.slice s10a s10l s10c) w17 fun w18 =>
  ∃ n19 : Int, w18.cell? p14 = some (.int .i64 n19) ∧
  ∃ (s20a : Option Addr) (s20l s20c : Nat), w18.cell? (p14.add 1) = some (.slice s20a s20l s20c) ∧
  ∃ (s21a : Option Addr) (s21l s21c : Nat), w18.cell? (p14.add 2) = some (.slice s21a s21l s21c) ∧
  CallsX P N.f_solve_Forward #[.agg #[.int .i64 n19, .slice s20a s20l s20c, .slice s21a s21l s21c], .slice s13a s13l s13c] w18 fun v23 w22 =>
  ∃ (s24a : Option Addr) (s24l s24c : Nat), ∃ n25 : Int, v23 = (.tuple #[.slice s24a s24l s24c, .int .i64 n25]) ∧
  ∃ n26 : Int, w22.cell? p1 = some (.int .i64 n26) ∧
  ∃ (s27a : Option Addr) (s27l s27c : Nat), w22.cell? (p1.add 1) = some (.slice s27a s27l s27c) ∧
  ∃ (s28a : Option Addr) (s28l s28c : Nat), w22.cell? (p1.add 2) = some (.slice s28a s28l s28c) ∧
  CallsX P N.f_girderref13_Forward #[.agg #[.int .i64 n26, .slice s27a s27l s27c, .slice s28a s28l s28c], .slice q1 q1l q1c] w22 fun v30 w29 =>
  ∃ (s31a : Option Addr) (s31l s31c : Nat), ∃ n32 : Int, v30 = (.tuple #[.slice s31a s31l s31c, .int .i64 n32]) ∧
  CallsX P N.f_girderlaw13_is #[.slice s24a s24l s24c, .int .i64 n25, .slice s31a s31l s31c, .int .i64 n32] w29 fun v34 w33 =>
  ∃ b35 : Bool, v34 = (.bool b35) ∧
  cond (!b35)
  (K (.bool false) w33)
  (∃ n36 : Int, w33.cell? p14 = some (.int .i64 n36) ∧
    ∃ (s37a : Option Addr) (s37l s37c : Nat), w33.cell? (p14.add 1) = some (.slice s37a s37l s37c) ∧
    ∃ (s38a : Option Addr) (s38l s38c : Nat), w33.cell? (p14.add 2) = some (.slice s38a s38l s38c) ∧
    CallsX P N.f_solve_Back #[.agg #[.int .i64 n36, .slice s37a s37l s37c, .slice s38a s38l s38c], .slice s13a s13l s13c] w33 fun v40 w39 =>
    ∃ (s41a : Option Addr) (s41l s41c : Nat), ∃ n42 : Int, v40 = (.tuple #[.slice s41a s41l s41c, .int .i64 n42]) ∧
    ∃ n43 : Int, w39.cell? p1 = some (.int .i64 n43) ∧
    ∃ (s44a : Option Addr) (s44l s44c : Nat), w39.cell? (p1.add 1) = some (.slice s44a s44l s44c) ∧
    ∃ (s45a : Option Addr) (s45l s45c : Nat), w39.cell? (p1.add 2) = some (.slice s45a s45l s45c) ∧
    CallsX P N.f_girderref13_Back #[.agg #[.int .i64 n43, .slice s44a s44l s44c, .slice s45a s45l s45c], .slice q1 q1l q1c] w39 fun v47 w46 =>
    ∃ (s48a : Option Addr) (s48l s48c : Nat), ∃ n49 : Int, v47 = (.tuple #[.slice s48a s48l s48c, .int .i64 n49]) ∧
    CallsX P N.f_girderlaw13_is #[.slice s41a s41l s41c, .int .i64 n42, .slice s48a s48l s48c, .int .i64 n49] w46 fun v51 w50 =>
    ∃ b52 : Bool, v51 = (.bool b52) ∧
    cond (!b52)
    (K (.bool false) w50)
    (∃ n53 : Int, w50.cell? p14 = some (.int .i64 n53) ∧
      ∃ (s54a : Option Addr) (s54l s54c : Nat), w50.cell? (p14.add 1) = some (.slice s54a s54l s54c) ∧
      ∃ (s55a : Option Addr) (s55l s55c : Nat), w50.cell? (p14.add 2) = some (.slice s55a s55l s55c) ∧
      CallsX P N.f_solve_Solve #[.agg #[.int .i64 n53, .slice s54a s54l s54c, .slice s55a s55l s55c], .slice s13a s13l s13c] w50 fun v57 w56 =>
      ∃ (s58a : Option Addr) (s58l s58c : Nat), ∃ n59 : Int, v57 = (.tuple #[.slice s58a s58l s58c, .int .i64 n59]) ∧
      ∃ n60 : Int, w56.cell? p1 = some (.int .i64 n60) ∧
      ∃ (s61a : Option Addr) (s61l s61c : Nat), w56.cell? (p1.add 1) = some (.slice s61a s61l s61c) ∧
      ∃ (s62a : Option Addr) (s62l s62c : Nat), w56.cell? (p1.add 2) = some (.slice s62a s62l s62c) ∧
      CallsX P N.f_girderref13_Solve #[.agg #[.int .i64 n60, .slice s61a s61l s61c, .slice s62a s62l s62c], .slice q1 q1l q1c] w56 fun v64 w63 =>
      ∃ (s65a : Option Addr) (s65l s65c : Nat), ∃ n66 : Int, v64 = (.tuple #[.slice s65a s65l s65c, .int .i64 n66]) ∧
      ∃ n67 : Int, w63.cell? p14 = some (.int .i64 n67) ∧
      ∃ (s68a : Option Addr) (s68l s68c : Nat), w63.cell? (p14.add 1) = some (.slice s68a s68l s68c) ∧
      ∃ (s69a : Option Addr) (s69l s69c : Nat), w63.cell? (p14.add 2) = some (.slice s69a s69l s69c) ∧
      CallsX P N.f_solve_Inverse #[.agg #[.int .i64 n67, .slice s68a s68l s68c, .slice s69a s69l s69c]] w63 fun v71 w70 =>
      ∃ n72 : Int, ∃ n73 : Int, ∃ (s74a : Option Addr) (s74l s74c : Nat), ∃ n75 : Int, v71 = (.tuple #[.agg #[.int .i64 n72, .int .i64 n73, .slice s74a s74l s74c], .int .i64 n75]) ∧
      newM #[.int .i64 0, .int .i64 0, .slice none 0 0] N.t_Matrix w70 fun p76 w77 =>
      stM p76 (.int .i64 n72) w77 fun w78 =>
      stM (p76.add 1) (.int .i64 n73) w78 fun w79 =>
      stM (p76.add 2) (.slice s74a s74l s74c) w79 fun w80 =>
      ∃ n81 : Int, w80.cell? p1 = some (.int .i64 n81) ∧
      ∃ (s82a : Option Addr) (s82l s82c : Nat), w80.cell? (p1.add 1) = some (.slice s82a s82l s82c) ∧
      ∃ (s83a : Option Addr) (s83l s83c : Nat), w80.cell? (p1.add 2) = some (.slice s83a s83l s83c) ∧
      CallsX P N.f_girderref13_Inverse #[.agg #[.int .i64 n81, .slice s82a s82l s82c, .slice s83a s83l s83c]] w80 fun v85 w84 =>
      ∃ n86 : Int, ∃ n87 : Int, ∃ (s88a : Option Addr) (s88l s88c : Nat), ∃ n89 : Int, v85 = (.tuple #[.agg #[.int .i64 n86, .int .i64 n87, .slice s88a s88l s88c], .int .i64 n89]) ∧
      newM #[.int .i64 0, .int .i64 0, .slice none 0 0] N.t_Matrix w84 fun p90 w91 =>
      stM p90 (.int .i64 n86) w91 fun w92 =>
      stM (p90.add 1) (.int .i64 n87) w92 fun w93 =>
      stM (p90.add 2) (.slice s88a s88l s88c) w93 fun w94 =>
      CallsX P N.f_girderlaw13_is #[.slice s58a s58l s58c, .int .i64 n59, .slice s65a s65l s65c, .int .i64 n66] w94 fun v96 w95 =>
      ∃ b97 : Bool, v96 = (.bool b97) ∧
      cond b97
      (cond (n75 == n89)
        (∃ n98 : Int, w95.cell? p76 = some (.int .i64 n98) ∧
          ∃ n99 : Int, w95.cell? (p76.add 1) = some (.int .i64 n99) ∧
          ∃ (s100a : Option Addr) (s100l s100c : Nat), w95.cell? (p76.add 2) = some (.slice s100a s100l s100c) ∧
          ∃ n101 : Int, w95.cell? p90 = some (.int .i64 n101) ∧
          ∃ n102 : Int, w95.cell? (p90.add 1) = some (.int .i64 n102) ∧
          ∃ (s103a : Option Addr) (s103l s103c : Nat), w95.cell? (p90.add 2) = some (.slice s103a s103l s103c) ∧
          CallsX P N.f_girderkit_SameMatrix #[.agg #[.int .i64 n98, .int .i64 n99, .slice s100a s100l s100c], .agg #[.int .i64 n101, .int .i64 n102, .slice s103a s103l s103c]] w95 fun v105 w104 =>
          ∃ b106 : Bool, v105 = (.bool b106) ∧
          cond b106
          (∃ n107 : Int, w104.cell? p14 = some (.int .i64 n107) ∧
            ∃ (s108a : Option Addr) (s108l s108c : Nat), w104.cell? (p14.add 1) = some (.slice s108a s108l s108c) ∧
            ∃ (s109a : Option Addr) (s109l s109c : Nat), w104.cell? (p14.add 2) = some (.slice s109a s109l s109c) ∧
            ∃ n110 : Int, w104.cell? p1 = some (.int .i64 n110) ∧
            ∃ (s111a : Option Addr) (s111l s111c : Nat), w104.cell? (p1.add 1) = some (.slice s111a s111l s111c) ∧
            ∃ (s112a : Option Addr) (s112l s112c : Nat), w104.cell? (p1.add 2) = some (.slice s112a s112l s112c) ∧
            CallsX P N.f_girderkit_KeptFactor #[.agg #[.int .i64 n107, .slice s108a s108l s108c, .slice s109a s109l s109c], .agg #[.int .i64 n110, .slice s111a s111l s111c, .slice s112a s112l s112c]] w104 fun v114 w113 =>
            ∃ b115 : Bool, v114 = (.bool b115) ∧
            cond b115
            (CallsX P N.f_girderkit_KeptReals #[.slice s13a s13l s13c, .slice q1 q1l q1c] w113 fun v117 w116 =>
              ∃ b118 : Bool, v117 = (.bool b118) ∧
              cond b118
              (CallsX P N.f_girderlaw13_awake #[] w116 fun v120 w119 =>
                ∃ b121 : Bool, v120 = (.bool b121) ∧
                K (.bool b121) w119)
              (K (.bool false) w116))
            (K (.bool false) w113))
          (K (.bool false) w104))
        (K (.bool false) w95))
      (K (.bool false) w95)))

/-- girder/girderlaw13.SolveWhole -/
def S_girderlaw13_SolveWhole (N : Nums) (P : Program) (q0 : Int) (q1 : Option Addr) (q1l q1c : Nat) (q2 : Option Addr) (q2l q2c : Nat) (w : World) (K : Value → World → Prop) : Prop :=
  CallsX P N.f_girderlaw13_whole #[.int .i64 q0, .slice q1 q1l q1c] w fun v2 w1 =>
  ∃ n3 : Int, ∃ (s4a : Option Addr) (s4l s4c : Nat), ∃ (s5a : Option Addr) (s5l s5c : Nat), v2 = (.agg #[.int .i64 n3, .slice s4a s4l s4c, .slice s5a s5l s5c]) ∧
  newM #[.int .i64 0, .slice none 0 0, .slice none 0 0] N.t_Factor w1 fun p6 w7 =>
  stM p6 (.int .i64 n3) w7 fun w8 =>
  stM (p6.add 1) (.slice s4a s4l s4c) w8 fun w9 =>
  stM (p6.add 2) (.slice s5a s5l s5c) w9 fun w10 =>
  cutM (σ := (Option Addr × Nat × Nat) × Unit) (fun J11 =>
    loopM (σ := (Option Addr × Nat × Nat) × Int × Unit) (fun s14 X15 w16 =>
      ∃ n17 : Int, w16.cell? p6 = some (.int .i64 n17) ∧
      cond (decide (s14.2.1 < n17))
      (CallsX P N.f_girderlaw13_at #[.slice q2 q2l q2c, .int .i64 s14.2.1, .int .i64 50] w16 fun v19 w18 =>
        ∃ n20 : Int, v19 = (.int .i64 n20) ∧
        newM #[.float .f64 (FloatKind.f64.nearest n20)] N.t_float64 w18 fun p21 w22 =>
        appM N.t_float64 1 8 #[.float .f64 0] s14.1.1 s14.1.2.1 s14.1.2.2 (some p21) 1 w22 fun s23a s23l s23c w24 =>
        X15 ((s23a, s23l, s23c), (IntKind.i64.wrap (s14.2.1 + 1)), ()) w24)
      (J11 ((s14.1.1, s14.1.2.1, s14.1.2.2), ()) w16))
    ((none, 0, 0), 0, ()) w10)
  (fun s12 w13 =>
    ∃ n25 : Int, w13.cell? p6 = some (.int .i64 n25) ∧
    mkM N.t_int 1 8 #[.int .i64 0] n25 n25 w13 fun p26 w27 =>
    cutM (σ := Unit) (fun J28 =>
      loopM (σ := Int × Unit) (fun s31 X32 w33 =>
        ∃ n34 : Int, w33.cell? p6 = some (.int .i64 n34) ∧
        cond (decide (s31.1 < n34))
        (cutM (σ := Unit) (fun J35 =>
            loopM (σ := Int × Unit) (fun s38 X39 w40 =>
              ∃ n41 : Int, w40.cell? p6 = some (.int .i64 n41) ∧
              cond (decide (s38.1 < n41))
              ((0 : Int) ≤ s31.1 ∧ s31.1 < (n25.toNat : Nat) ∧
                ∃ n42 : Int, w40.cell? (p26.add (s31.1.toNat * 1)) = some (.int .i64 n42) ∧
                ∃ n43 : Int, w40.cell? p6 = some (.int .i64 n43) ∧
                ∃ (s44a : Option Addr) (s44l s44c : Nat), w40.cell? (p6.add 1) = some (.slice s44a s44l s44c) ∧
                ∃ (s45a : Option Addr) (s45l s45c : Nat), w40.cell? (p6.add 2) = some (.slice s45a s45l s45c) ∧
                (0 : Int) ≤ s38.1 ∧ s38.1 < (s12.1.2.1 : Nat) ∧
                optM s12.1.1 fun a46 =>
                ∃ x47 : Nat, w40.cell? (a46.add (s38.1.toNat * 1)) = some (.float .f64 x47) ∧
                (drM w40 fun w48 =>
                  CallsX P N.f_girderlaw13_entry #[.agg #[.int .i64 n43, .slice s44a s44l s44c, .slice s45a s45l s45c], .int .i64 s38.1, .int .i64 s31.1] w48 fun v50 w49 =>
                  ∃ n51 : Int, v50 = (.int .i64 n51) ∧
                  w49.cell? (a46.add (s38.1.toNat * 1)) = some (.float .f64 x47) ∧
                  w49.cell? (p26.add (s31.1.toNat * 1)) = some (.int .i64 n42) ∧
                  f2iM x47 .i64 w49 fun n52 w53 =>
                  (0 : Int) ≤ s31.1 ∧ s31.1 < (n25.toNat : Nat) ∧
                  drM w49 fun w54 =>
                  stM (p26.add (s31.1.toNat * 1)) (.int .i64 (IntKind.i64.wrap (n42 + (IntKind.i64.wrap (n51 * n52))))) w54 fun w55 =>
                  drM w55 fun w56 =>
                  X39 ((IntKind.i64.wrap (s38.1 + 1)), ()) w56) ∧
                (drM w40 fun w57 =>
                  f2iM x47 .i64 w57 fun n58 w59 =>
                  w59.cell? (a46.add (s38.1.toNat * 1)) = some (.float .f64 x47) ∧
                  w59.cell? p6 = some (.int .i64 n43) ∧
                  w59.cell? (p6.add 1) = some (.slice s44a s44l s44c) ∧
                  w59.cell? (p6.add 2) = some (.slice s45a s45l s45c) ∧
                  w59.cell? (p26.add (s31.1.toNat * 1)) = some (.int .i64 n42) ∧
                  drM w59 fun w60 =>
                  CallsX P N.f_girderlaw13_entry #[.agg #[.int .i64 n43, .slice s44a s44l s44c, .slice s45a s45l s45c], .int .i64 s38.1, .int .i64 s31.1] w60 fun v62 w61 =>
                  ∃ n63 : Int, v62 = (.int .i64 n63) ∧
                  w61.cell? (a46.add (s38.1.toNat * 1)) = some (.float .f64 x47) ∧
                  w61.cell? (p26.add (s31.1.toNat * 1)) = some (.int .i64 n42) ∧
                  (0 : Int) ≤ s31.1 ∧ s31.1 < (n25.toNat : Nat) ∧
                  drM w61 fun w64 =>
                  stM (p26.add (s31.1.toNat * 1)) (.int .i64 (IntKind.i64.wrap (n42 + (IntKind.i64.wrap (n63 * n58))))) w64 fun w65 =>
                  drM w65 fun w66 =>
                  X39 ((IntKind.i64.wrap (s38.1 + 1)), ()) w66))
              (J35 (()) w40))
            (0, ()) w33)
          (fun s36 w37 =>
            X32 ((IntKind.i64.wrap (s31.1 + 1)), ()) w37))
        (J28 (()) w33))
      (0, ()) w27)
    (fun s29 w30 =>
      cutM (σ := (Option Addr × Nat × Nat) × (Option Addr × Nat × Nat) × Unit) (fun J67 =>
        loopM (σ := (Option Addr × Nat × Nat) × (Option Addr × Nat × Nat) × Int × Unit) (fun s70 X71 w72 =>
          ∃ n73 : Int, w72.cell? p6 = some (.int .i64 n73) ∧
          cond (decide (s70.2.2.1 < n73))
          (cutM (σ := Int × Unit) (fun J74 =>
              loopM (σ := Int × Int × Unit) (fun s77 X78 w79 =>
                ∃ n80 : Int, w79.cell? p6 = some (.int .i64 n80) ∧
                cond (decide (s77.2.1 < n80))
                (∃ n81 : Int, w79.cell? p6 = some (.int .i64 n81) ∧
                  ∃ (s82a : Option Addr) (s82l s82c : Nat), w79.cell? (p6.add 1) = some (.slice s82a s82l s82c) ∧
                  ∃ (s83a : Option Addr) (s83l s83c : Nat), w79.cell? (p6.add 2) = some (.slice s83a s83l s83c) ∧
                  ∃ (s84a : Option Addr) (s84l s84c : Nat), w79.cell? (p6.add 2) = some (.slice s84a s84l s84c) ∧
                  (0 : Int) ≤ s77.2.1 ∧ s77.2.1 < (s84l : Nat) ∧
                  optM s84a fun a85 =>
                  ∃ x86 : Nat, w79.cell? (a85.add (s77.2.1.toNat * 1)) = some (.float .f64 x86) ∧
                  (0 : Int) ≤ s77.2.1 ∧ s77.2.1 < (n25.toNat : Nat) ∧
                  ∃ n87 : Int, w79.cell? (p26.add (s77.2.1.toNat * 1)) = some (.int .i64 n87) ∧
                  (drM w79 fun w88 =>
                    CallsX P N.f_girderlaw13_entry #[.agg #[.int .i64 n81, .slice s82a s82l s82c, .slice s83a s83l s83c], .int .i64 s70.2.2.1, .int .i64 s77.2.1] w88 fun v90 w89 =>
                    ∃ n91 : Int, v90 = (.int .i64 n91) ∧
                    w89.cell? (p26.add (s77.2.1.toNat * 1)) = some (.int .i64 n87) ∧
                    w89.cell? (a85.add (s77.2.1.toNat * 1)) = some (.float .f64 x86) ∧
                    w89.cell? (p6.add 2) = some (.slice s84a s84l s84c) ∧
                    f2iM x86 .i64 w89 fun n92 w93 =>
                    drM w89 fun w94 =>
                    X78 ((IntKind.i64.wrap (s77.1 + (IntKind.i64.wrap ((IntKind.i64.wrap (n91 * n92)) * n87)))), (IntKind.i64.wrap (s77.2.1 + 1)), ()) w94) ∧
                  (drM w79 fun w95 =>
                    f2iM x86 .i64 w95 fun n96 w97 =>
                    w97.cell? (p26.add (s77.2.1.toNat * 1)) = some (.int .i64 n87) ∧
                    w97.cell? (a85.add (s77.2.1.toNat * 1)) = some (.float .f64 x86) ∧
                    w97.cell? (p6.add 2) = some (.slice s84a s84l s84c) ∧
                    w97.cell? p6 = some (.int .i64 n81) ∧
                    w97.cell? (p6.add 1) = some (.slice s82a s82l s82c) ∧
                    w97.cell? (p6.add 2) = some (.slice s83a s83l s83c) ∧
                    drM w97 fun w98 =>
                    CallsX P N.f_girderlaw13_entry #[.agg #[.int .i64 n81, .slice s82a s82l s82c, .slice s83a s83l s83c], .int .i64 s70.2.2.1, .int .i64 s77.2.1] w98 fun v100 w99 =>
                    ∃ n101 : Int, v100 = (.int .i64 n101) ∧
                    w99.cell? (p26.add (s77.2.1.toNat * 1)) = some (.int .i64 n87) ∧
                    w99.cell? (a85.add (s77.2.1.toNat * 1)) = some (.float .f64 x86) ∧
                    w99.cell? (p6.add 2) = some (.slice s84a s84l s84c) ∧
                    drM w99 fun w102 =>
                    X78 ((IntKind.i64.wrap (s77.1 + (IntKind.i64.wrap ((IntKind.i64.wrap (n101 * n96)) * n87)))), (IntKind.i64.wrap (s77.2.1 + 1)), ()) w102))
                (J74 (s77.1, ()) w79))
              (0, 0, ()) w72)
            (fun s75 w76 =>
              newM #[.float .f64 (FloatKind.f64.nearest s75.1)] N.t_float64 w76 fun p103 w104 =>
              appM N.t_float64 1 8 #[.float .f64 0] s70.1.1 s70.1.2.1 s70.1.2.2 (some p103) 1 w104 fun s105a s105l s105c w106 =>
              ∃ (s107a : Option Addr) (s107l s107c : Nat), w106.cell? (p6.add 2) = some (.slice s107a s107l s107c) ∧
              (0 : Int) ≤ s70.2.2.1 ∧ s70.2.2.1 < (s107l : Nat) ∧
              optM s107a fun a108 =>
              ∃ x109 : Nat, w106.cell? (a108.add (s70.2.2.1.toNat * 1)) = some (.float .f64 x109) ∧
              f2iM x109 .i64 w106 fun n110 w111 =>
              (0 : Int) ≤ s70.2.2.1 ∧ s70.2.2.1 < (n25.toNat : Nat) ∧
              ∃ n112 : Int, w106.cell? (p26.add (s70.2.2.1.toNat * 1)) = some (.int .i64 n112) ∧
              drM w106 fun w113 =>
              newM #[.float .f64 (FloatKind.f64.nearest (IntKind.i64.wrap (n110 * n112)))] N.t_float64 w113 fun p114 w115 =>
              w115.cell? (p26.add (s70.2.2.1.toNat * 1)) = some (.int .i64 n112) ∧
              w115.cell? (a108.add (s70.2.2.1.toNat * 1)) = some (.float .f64 x109) ∧
              w115.cell? (p6.add 2) = some (.slice s107a s107l s107c) ∧
              drM w115 fun w116 =>
              appM N.t_float64 1 8 #[.float .f64 0] s70.2.1.1 s70.2.1.2.1 s70.2.1.2.2 (some p114) 1 w116 fun s117a s117l s117c w118 =>
              w118.cell? (p26.add (s70.2.2.1.toNat * 1)) = some (.int .i64 n112) ∧
              w118.cell? (a108.add (s70.2.2.1.toNat * 1)) = some (.float .f64 x109) ∧
              w118.cell? (p6.add 2) = some (.slice s107a s107l s107c) ∧
              drM w118 fun w119 =>
              X71 ((s105a, s105l, s105c), (s117a, s117l, s117c), (IntKind.i64.wrap (s70.2.2.1 + 1)), ()) w119))
          (J67 ((s70.1.1, s70.1.2.1, s70.1.2.2), (s70.2.1.1, s70.2.1.2.1, s70.2.1.2.2), ()) w72))
        ((none, 0, 0), (none, 0, 0), 0, ()) w30)
      (fun s68 w69 =>
        ∃ n120 : Int, w69.cell? p6 = some (.int .i64 n120) ∧
        ∃ (s121a : Option Addr) (s121l s121c : Nat), w69.cell? (p6.add 1) = some (.slice s121a s121l s121c) ∧
        ∃ (s122a : Option Addr) (s122l s122c : Nat), w69.cell? (p6.add 2) = some (.slice s122a s122l s122c) ∧
        CallsX P N.f_solve_Forward #[.agg #[.int .i64 n120, .slice s121a s121l s121c, .slice s122a s122l s122c], .slice s68.1.1 s68.1.2.1 s68.1.2.2] w69 fun v124 w123 =>
        ∃ (s125a : Option Addr) (s125l s125c : Nat), ∃ n126 : Int, v124 = (.tuple #[.slice s125a s125l s125c, .int .i64 n126]) ∧
        ∃ n127 : Int, w123.cell? p6 = some (.int .i64 n127) ∧
        ∃ (s128a : Option Addr) (s128l s128c : Nat), w123.cell? (p6.add 1) = some (.slice s128a s128l s128c) ∧
        ∃ (s129a : Option Addr) (s129l s129c : Nat), w123.cell? (p6.add 2) = some (.slice s129a s129l s129c) ∧
        CallsX P N.f_solve_Solve #[.agg #[.int .i64 n127, .slice s128a s128l s128c, .slice s129a s129l s129c], .slice s68.1.1 s68.1.2.1 s68.1.2.2] w123 fun v131 w130 =>
        ∃ (s132a : Option Addr) (s132l s132c : Nat), ∃ n133 : Int, v131 = (.tuple #[.slice s132a s132l s132c, .int .i64 n133]) ∧
        cutM (σ := Bool × Unit) (fun J134 =>
          cond (!(n126 != 0))
          (cond (!(n133 != 0))
            (CallsX P N.f_girderlaw13_equal #[.slice s125a s125l s125c, .slice s68.2.1.1 s68.2.1.2.1 s68.2.1.2.2] w130 fun v138 w137 =>
              ∃ b139 : Bool, v138 = (.bool b139) ∧
              cond (!(!b139))
              (CallsX P N.f_girderlaw13_equal #[.slice s132a s132l s132c, .slice s12.1.1 s12.1.2.1 s12.1.2.2] w137 fun v141 w140 =>
                ∃ b142 : Bool, v141 = (.bool b142) ∧
                J134 ((!b142), ()) w140)
              (J134 (true, ()) w137))
            (J134 (true, ()) w130))
          (J134 (true, ()) w130))
        (fun s135 w136 =>
          cond s135.1
          (K (.bool false) w136)
          (cutM (σ := Unit) (fun J143 =>
              loopM (σ := Int × Unit) (fun s146 X147 w148 =>
                ∃ n149 : Int, w148.cell? p6 = some (.int .i64 n149) ∧
                cond (decide (s146.1 < n149))
                (cutM (σ := (Option Addr × Nat × Nat) × (Option Addr × Nat × Nat) × Unit) (fun J150 =>
                    loopM (σ := (Option Addr × Nat × Nat) × (Option Addr × Nat × Nat) × Int × Unit) (fun s153 X154 w155 =>
                      ∃ n156 : Int, w155.cell? p6 = some (.int .i64 n156) ∧
                      cond (decide (s153.2.2.1 < n156))
                      (cutM (σ := Int × Unit) (fun J157 =>
                          loopM (σ := Int × Int × Unit) (fun s160 X161 w162 =>
                          ∃ n163 : Int, w162.cell? p6 = some (.int .i64 n163) ∧
                          cond (decide (s160.2.1 < n163))
                          (∃ n164 : Int, w162.cell? p6 = some (.int .i64 n164) ∧
                          ∃ (s165a : Option Addr) (s165l s165c : Nat), w162.cell? (p6.add 1) = some (.slice s165a s165l s165c) ∧
                          ∃ (s166a : Option Addr) (s166l s166c : Nat), w162.cell? (p6.add 2) = some (.slice s166a s166l s166c) ∧
                          ∃ (s167a : Option Addr) (s167l s167c : Nat), w162.cell? (p6.add 2) = some (.slice s167a s167l s167c) ∧
                          (0 : Int) ≤ s160.2.1 ∧ s160.2.1 < (s167l : Nat) ∧
                          optM s167a fun a168 =>
                          ∃ x169 : Nat, w162.cell? (a168.add (s160.2.1.toNat * 1)) = some (.float .f64 x169) ∧
                          ∃ n170 : Int, w162.cell? p6 = some (.int .i64 n170) ∧
                          ∃ (s171a : Option Addr) (s171l s171c : Nat), w162.cell? (p6.add 1) = some (.slice s171a s171l s171c) ∧
                          ∃ (s172a : Option Addr) (s172l s172c : Nat), w162.cell? (p6.add 2) = some (.slice s172a s172l s172c) ∧
                          (drM w162 fun w173 =>
                          CallsX P N.f_girderlaw13_entry #[.agg #[.int .i64 n164, .slice s165a s165l s165c, .slice s166a s166l s166c], .int .i64 s153.2.2.1, .int .i64 s160.2.1] w173 fun v175 w174 =>
                          ∃ n176 : Int, v175 = (.int .i64 n176) ∧
                          w174.cell? p6 = some (.int .i64 n170) ∧
                          w174.cell? (p6.add 1) = some (.slice s171a s171l s171c) ∧
                          w174.cell? (p6.add 2) = some (.slice s172a s172l s172c) ∧
                          w174.cell? (a168.add (s160.2.1.toNat * 1)) = some (.float .f64 x169) ∧
                          w174.cell? (p6.add 2) = some (.slice s167a s167l s167c) ∧
                          (drM w174 fun w177 =>
                          f2iM x169 .i64 w177 fun n178 w179 =>
                          w179.cell? p6 = some (.int .i64 n170) ∧
                          w179.cell? (p6.add 1) = some (.slice s171a s171l s171c) ∧
                          w179.cell? (p6.add 2) = some (.slice s172a s172l s172c) ∧
                          w179.cell? (a168.add (s160.2.1.toNat * 1)) = some (.float .f64 x169) ∧
                          w179.cell? (p6.add 2) = some (.slice s167a s167l s167c) ∧
                          drM w179 fun w180 =>
                          CallsX P N.f_girderlaw13_entry #[.agg #[.int .i64 n170, .slice s171a s171l s171c, .slice s172a s172l s172c], .int .i64 s146.1, .int .i64 s160.2.1] w180 fun v182 w181 =>
                          ∃ n183 : Int, v182 = (.int .i64 n183) ∧
                          w181.cell? (a168.add (s160.2.1.toNat * 1)) = some (.float .f64 x169) ∧
                          w181.cell? (p6.add 2) = some (.slice s167a s167l s167c) ∧
                          drM w181 fun w184 =>
                          X161 ((IntKind.i64.wrap (s160.1 + (IntKind.i64.wrap ((IntKind.i64.wrap (n176 * n178)) * n183)))), (IntKind.i64.wrap (s160.2.1 + 1)), ()) w184) ∧
                          (drM w174 fun w185 =>
                          CallsX P N.f_girderlaw13_entry #[.agg #[.int .i64 n170, .slice s171a s171l s171c, .slice s172a s172l s172c], .int .i64 s146.1, .int .i64 s160.2.1] w185 fun v187 w186 =>
                          ∃ n188 : Int, v187 = (.int .i64 n188) ∧
                          w186.cell? (a168.add (s160.2.1.toNat * 1)) = some (.float .f64 x169) ∧
                          w186.cell? (p6.add 2) = some (.slice s167a s167l s167c) ∧
                          f2iM x169 .i64 w186 fun n189 w190 =>
                          drM w186 fun w191 =>
                          X161 ((IntKind.i64.wrap (s160.1 + (IntKind.i64.wrap ((IntKind.i64.wrap (n176 * n189)) * n188)))), (IntKind.i64.wrap (s160.2.1 + 1)), ()) w191)) ∧
                          (drM w162 fun w192 =>
                          f2iM x169 .i64 w192 fun n193 w194 =>
                          w194.cell? p6 = some (.int .i64 n170) ∧
                          w194.cell? (p6.add 1) = some (.slice s171a s171l s171c) ∧
                          w194.cell? (p6.add 2) = some (.slice s172a s172l s172c) ∧
                          w194.cell? (a168.add (s160.2.1.toNat * 1)) = some (.float .f64 x169) ∧
                          w194.cell? (p6.add 2) = some (.slice s167a s167l s167c) ∧
                          w194.cell? p6 = some (.int .i64 n164) ∧
                          w194.cell? (p6.add 1) = some (.slice s165a s165l s165c) ∧
                          w194.cell? (p6.add 2) = some (.slice s166a s166l s166c) ∧
                          drM w194 fun w195 =>
                          CallsX P N.f_girderlaw13_entry #[.agg #[.int .i64 n164, .slice s165a s165l s165c, .slice s166a s166l s166c], .int .i64 s153.2.2.1, .int .i64 s160.2.1] w195 fun v197 w196 =>
                          ∃ n198 : Int, v197 = (.int .i64 n198) ∧
                          w196.cell? p6 = some (.int .i64 n170) ∧
                          w196.cell? (p6.add 1) = some (.slice s171a s171l s171c) ∧
                          w196.cell? (p6.add 2) = some (.slice s172a s172l s172c) ∧
                          w196.cell? (a168.add (s160.2.1.toNat * 1)) = some (.float .f64 x169) ∧
                          w196.cell? (p6.add 2) = some (.slice s167a s167l s167c) ∧
                          drM w196 fun w199 =>
                          CallsX P N.f_girderlaw13_entry #[.agg #[.int .i64 n170, .slice s171a s171l s171c, .slice s172a s172l s172c], .int .i64 s146.1, .int .i64 s160.2.1] w199 fun v201 w200 =>
                          ∃ n202 : Int, v201 = (.int .i64 n202) ∧
                          w200.cell? (a168.add (s160.2.1.toNat * 1)) = some (.float .f64 x169) ∧
                          w200.cell? (p6.add 2) = some (.slice s167a s167l s167c) ∧
                          drM w200 fun w203 =>
                          X161 ((IntKind.i64.wrap (s160.1 + (IntKind.i64.wrap ((IntKind.i64.wrap (n198 * n193)) * n202)))), (IntKind.i64.wrap (s160.2.1 + 1)), ()) w203))
                          (J157 (s160.1, ()) w162))
                          (0, 0, ()) w155)
                        (fun s158 w159 =>
                          newM #[.float .f64 (FloatKind.f64.nearest s158.1)] N.t_float64 w159 fun p204 w205 =>
                          appM N.t_float64 1 8 #[.float .f64 0] s153.1.1 s153.1.2.1 s153.1.2.2 (some p204) 1 w205 fun s206a s206l s206c w207 =>
                          newM #[.float .f64 0] N.t_float64 w207 fun p208 w209 =>
                          appM N.t_float64 1 8 #[.float .f64 0] s153.2.1.1 s153.2.1.2.1 s153.2.1.2.2 (some p208) 1 w209 fun s210a s210l s210c w211 =>
                          X154 ((s206a, s206l, s206c), (s210a, s210l, s210c), (IntKind.i64.wrap (s153.2.2.1 + 1)), ()) w211))
                      (J150 ((s153.1.1, s153.1.2.1, s153.1.2.2), (s153.2.1.1, s153.2.1.2.1, s153.2.1.2.2), ()) w155))
                    ((none, 0, 0), (none, 0, 0), 0, ()) w148)
                  (fun s151 w152 =>
                    (0 : Int) ≤ s146.1 ∧ s146.1 < (s151.2.1.2.1 : Nat) ∧
                    optM s151.2.1.1 fun a212 =>
                    stM (a212.add (s146.1.toNat * 1)) (.float .f64 4607182418800017408) w152 fun w213 =>
                    ∃ n214 : Int, w213.cell? p6 = some (.int .i64 n214) ∧
                    ∃ (s215a : Option Addr) (s215l s215c : Nat), w213.cell? (p6.add 1) = some (.slice s215a s215l s215c) ∧
                    ∃ (s216a : Option Addr) (s216l s216c : Nat), w213.cell? (p6.add 2) = some (.slice s216a s216l s216c) ∧
                    CallsX P N.f_solve_Solve #[.agg #[.int .i64 n214, .slice s215a s215l s215c, .slice s216a s216l s216c], .slice s151.1.1 s151.1.2.1 s151.1.2.2] w213 fun v218 w217 =>
                    ∃ (s219a : Option Addr) (s219l s219c : Nat), ∃ n220 : Int, v218 = (.tuple #[.slice s219a s219l s219c, .int .i64 n220]) ∧
                    cond (!(n220 != 0))
                    (CallsX P N.f_girderlaw13_equal #[.slice s219a s219l s219c, .slice s151.2.1.1 s151.2.1.2.1 s151.2.1.2.2] w217 fun v222 w221 =>
                      ∃ b223 : Bool, v222 = (.bool b223) ∧
                      cond (!b223)
                      (K (.bool false) w221)
                      (X147 ((IntKind.i64.wrap (s146.1 + 1)), ()) w221))
                    (K (.bool false) w217)))
                (J143 (()) w148))
              (0, ()) w136)
            (fun s144 w145 =>
              CallsX P N.f_girderlaw13_awake #[] w145 fun v225 w224 =>
              ∃ b226 : Bool, v225 = (.bool b226) ∧
              K (.bool b226) w224))))))

/-- girder/girderlaw13.SolveTurns -/
def S_girderlaw13_SolveTurns (N : Nums) (P : Program) (q0_0 : Int) (q0_1 : Option Addr) (q0_1l q0_1c : Nat) (q0_2 : Option Addr) (q0_2l q0_2c : Nat) (q1 : Option Addr) (q1l q1c : Nat) (w : World) (K : Value → World → Prop) : Prop :=
  newM #[.int .i64 q0_0, .slice q0_1 q0_1l q0_1c, .slice q0_2 q0_2l q0_2c] N.t_Factor w fun p1 w2 =>
  ∃ n3 : Int, w2.cell? p1 = some (.int .i64 n3) ∧
  ∃ (s4a : Option Addr) (s4l s4c : Nat), w2.cell? (p1.add 1) = some (.slice s4a s4l s4c) ∧
  ∃ (s5a : Option Addr) (s5l s5c : Nat), w2.cell? (p1.add 2) = some (.slice s5a s5l s5c) ∧
  CallsX P N.f_solve_Forward #[.agg #[.int .i64 n3, .slice s4a s4l s4c, .slice s5a s5l s5c], .slice q1 q1l q1c] w2 fun v7 w6 =>
  ∃ (s8a : Option Addr) (s8l s8c : Nat), ∃ n9 : Int, v7 = (.tuple #[.slice s8a s8l s8c, .int .i64 n9]) ∧
  ∃ n10 : Int, w6.cell? p1 = some (.int .i64 n10) ∧
  ∃ (s11a : Option Addr) (s11l s11c : Nat), w6.cell? (p1.add 1) = some (.slice s11a s11l s11c) ∧
  ∃ (s12a : Option Addr) (s12l s12c : Nat), w6.cell? (p1.add 2) = some (.slice s12a s12l s12c) ∧
  CallsX P N.f_solve_Solve #[.agg #[.int .i64 n10, .slice s11a s11l s11c, .slice s12a s12l s12c], .slice q1 q1l q1c] w6 fun v14 w13 =>
  ∃ (s15a : Option Addr) (s15l s15c : Nat), ∃ n16 : Int, v14 = (.tuple #[.slice s15a s15l s15c, .int .i64 n16]) ∧
  cond (n9 != 0)
  (cond (n9 == 4)
    (cond (n16 == 4)
      (cond ((IntKind.i64.wrap (((s15l : Nat) : Int) + ((s8l : Nat) : Int))) == 0)
        (CallsX P N.f_girderlaw13_awake #[] w13 fun v18 w17 =>
          ∃ b19 : Bool, v18 = (.bool b19) ∧
          K (.bool b19) w17)
        (K (.bool false) w13))
      (K (.bool false) w13))
    (K (.bool false) w13))
  (∃ n20 : Int, w13.cell? p1 = some (.int .i64 n20) ∧
    ∃ (s21a : Option Addr) (s21l s21c : Nat), w13.cell? (p1.add 1) = some (.slice s21a s21l s21c) ∧
    ∃ (s22a : Option Addr) (s22l s22c : Nat), w13.cell? (p1.add 2) = some (.slice s22a s22l s22c) ∧
    CallsX P N.f_solve_Back #[.agg #[.int .i64 n20, .slice s21a s21l s21c, .slice s22a s22l s22c], .slice s8a s8l s8c] w13 fun v24 w23 =>
    ∃ (s25a : Option Addr) (s25l s25c : Nat), ∃ n26 : Int, v24 = (.tuple #[.slice s25a s25l s25c, .int .i64 n26]) ∧
    ∃ n27 : Int, w23.cell? p1 = some (.int .i64 n27) ∧
    ∃ (s28a : Option Addr) (s28l s28c : Nat), w23.cell? (p1.add 1) = some (.slice s28a s28l s28c) ∧
    ∃ (s29a : Option Addr) (s29l s29c : Nat), w23.cell? (p1.add 2) = some (.slice s29a s29l s29c) ∧
    CallsX P N.f_solve_Inverse #[.agg #[.int .i64 n27, .slice s28a s28l s28c, .slice s29a s29l s29c]] w23 fun v31 w30 =>
    ∃ n32 : Int, ∃ n33 : Int, ∃ (s34a : Option Addr) (s34l s34c : Nat), ∃ n35 : Int, v31 = (.tuple #[.agg #[.int .i64 n32, .int .i64 n33, .slice s34a s34l s34c], .int .i64 n35]) ∧
    newM #[.int .i64 0, .int .i64 0, .slice none 0 0] N.t_Matrix w30 fun p36 w37 =>
    stM p36 (.int .i64 n32) w37 fun w38 =>
    stM (p36.add 1) (.int .i64 n33) w38 fun w39 =>
    stM (p36.add 2) (.slice s34a s34l s34c) w39 fun w40 =>
    cutM (σ := Bool × Unit) (fun J41 =>
      cond (!(n16 != n26))
      (cond (!(n16 != n35))
        (CallsX P N.f_girderkit_SameReals #[.slice s15a s15l s15c, .slice s25a s25l s25c] w40 fun v45 w44 =>
          ∃ b46 : Bool, v45 = (.bool b46) ∧
          J41 ((!b46), ()) w44)
        (J41 (true, ()) w40))
      (J41 (true, ()) w40))
    (fun s42 w43 =>
      cond s42.1
      (K (.bool false) w43)
      (cond (n16 != 0)
        (cond (n16 == 7)
          (∃ (s47a : Option Addr) (s47l s47c : Nat), w43.cell? (p36.add 2) = some (.slice s47a s47l s47c) ∧
            cond ((IntKind.i64.wrap (((s15l : Nat) : Int) + ((s47l : Nat) : Int))) == 0)
            (CallsX P N.f_girderlaw13_awake #[] w43 fun v49 w48 =>
              ∃ b50 : Bool, v49 = (.bool b50) ∧
              K (.bool b50) w48)
            (K (.bool false) w43))
          (K (.bool false) w43))
        (∃ n51 : Int, w43.cell? p1 = some (.int .i64 n51) ∧
          ∃ (s52a : Option Addr) (s52l s52c : Nat), w43.cell? (p1.add 1) = some (.slice s52a s52l s52c) ∧
          ∃ (s53a : Option Addr) (s53l s53c : Nat), w43.cell? (p1.add 2) = some (.slice s53a s53l s53c) ∧
          drM w43 fun w54 =>
          CallsX P N.f_girderlaw13_minus #[.slice q1 q1l q1c] w54 fun v56 w55 =>
          ∃ (s57a : Option Addr) (s57l s57c : Nat), v56 = (.slice s57a s57l s57c) ∧
          w55.cell? p1 = some (.int .i64 n51) ∧
          w55.cell? (p1.add 1) = some (.slice s52a s52l s52c) ∧
          w55.cell? (p1.add 2) = some (.slice s53a s53l s53c) ∧
          drM w55 fun w58 =>
          CallsX P N.f_solve_Solve #[.agg #[.int .i64 n51, .slice s52a s52l s52c, .slice s53a s53l s53c], .slice s57a s57l s57c] w58 fun v60 w59 =>
          ∃ (s61a : Option Addr) (s61l s61c : Nat), ∃ n62 : Int, v60 = (.tuple #[.slice s61a s61l s61c, .int .i64 n62]) ∧
          drM w59 fun w63 =>
          cutM (σ := Bool × Unit) (fun J64 =>
            cond (!(n62 != 0))
            (CallsX P N.f_girderlaw13_minus #[.slice s15a s15l s15c] w63 fun v68 w67 =>
              ∃ (s69a : Option Addr) (s69l s69c : Nat), v68 = (.slice s69a s69l s69c) ∧
              CallsX P N.f_girderlaw13_equal #[.slice s61a s61l s61c, .slice s69a s69l s69c] w67 fun v71 w70 =>
              ∃ b72 : Bool, v71 = (.bool b72) ∧
              cond (!(!b72))
              (∃ n73 : Int, w70.cell? p36 = some (.int .i64 n73) ∧
                ∃ n74 : Int, w70.cell? p1 = some (.int .i64 n74) ∧
                cond (!(n73 != n74))
                (∃ n75 : Int, w70.cell? (p36.add 1) = some (.int .i64 n75) ∧
                  ∃ n76 : Int, w70.cell? p1 = some (.int .i64 n76) ∧
                  cond (!(n75 != n76))
                  (∃ (s77a : Option Addr) (s77l s77c : Nat), w70.cell? (p36.add 2) = some (.slice s77a s77l s77c) ∧
                    ∃ n78 : Int, w70.cell? p1 = some (.int .i64 n78) ∧
                    ∃ n79 : Int, w70.cell? p1 = some (.int .i64 n79) ∧
                    J64 ((((s77l : Nat) : Int) != (IntKind.i64.wrap (n78 * n79))), ()) w70)
                  (J64 (true, ()) w70))
                (J64 (true, ()) w70))
              (J64 (true, ()) w70))
            (J64 (true, ()) w63))
          (fun s65 w66 =>
            cond s65.1
            (K (.bool false) w66)
            (cutM (σ := Unit) (fun J80 =>
                loopM (σ := Int × Unit) (fun s83 X84 w85 =>
                  cutM (σ := Bool × Unit) (fun J86 =>
                    ∃ n89 : Int, w85.cell? p1 = some (.int .i64 n89) ∧
                    cond (decide (s83.1 < n89))
                    (J86 ((decide (s83.1 < 8)), ()) w85)
                    (J86 (false, ()) w85))
                  (fun s87 w88 =>
                    cond s87.1
                    (∃ n90 : Int, w88.cell? p1 = some (.int .i64 n90) ∧
                      mkM N.t_float64 1 8 #[.float .f64 0] n90 n90 w88 fun p91 w92 =>
                      (0 : Int) ≤ s83.1 ∧ s83.1 < (n90.toNat : Nat) ∧
                      stM (p91.add (s83.1.toNat * 1)) (.float .f64 4607182418800017408) w92 fun w93 =>
                      ∃ n94 : Int, w93.cell? p1 = some (.int .i64 n94) ∧
                      ∃ (s95a : Option Addr) (s95l s95c : Nat), w93.cell? (p1.add 1) = some (.slice s95a s95l s95c) ∧
                      ∃ (s96a : Option Addr) (s96l s96c : Nat), w93.cell? (p1.add 2) = some (.slice s96a s96l s96c) ∧
                      CallsX P N.f_solve_Solve #[.agg #[.int .i64 n94, .slice s95a s95l s95c, .slice s96a s96l s96c], .slice (some p91) n90.toNat n90.toNat] w93 fun v98 w97 =>
                      ∃ (s99a : Option Addr) (s99l s99c : Nat), ∃ n100 : Int, v98 = (.tuple #[.slice s99a s99l s99c, .int .i64 n100]) ∧
                      cutM (σ := Unit) (fun J101 =>
                        loopM (σ := Int × Unit) (fun s104 X105 w106 =>
                          ∃ n107 : Int, w106.cell? p1 = some (.int .i64 n107) ∧
                          cond (decide (s104.1 < n107))
                          (cond (!(n100 != 0))
                          ((0 : Int) ≤ s104.1 ∧ s104.1 < (s99l : Nat) ∧
                          optM s99a fun a108 =>
                          ∃ x109 : Nat, w106.cell? (a108.add (s104.1.toNat * 1)) = some (.float .f64 x109) ∧
                          ∃ (s110a : Option Addr) (s110l s110c : Nat), w106.cell? (p36.add 2) = some (.slice s110a s110l s110c) ∧
                          ∃ n111 : Int, w106.cell? p1 = some (.int .i64 n111) ∧
                          (0 : Int) ≤ (IntKind.i64.wrap ((IntKind.i64.wrap (s104.1 * n111)) + s83.1)) ∧ (IntKind.i64.wrap ((IntKind.i64.wrap (s104.1 * n111)) + s83.1)) < (s110l : Nat) ∧
                          optM s110a fun a112 =>
                          ∃ x113 : Nat, w106.cell? (a112.add ((IntKind.i64.wrap ((IntKind.i64.wrap (s104.1 * n111)) + s83.1)).toNat * 1)) = some (.float .f64 x113) ∧
                          drM w106 fun w114 =>
                          CallsX P N.f_girderkit_SameFloat #[.float .f64 x109, .float .f64 x113] w114 fun v116 w115 =>
                          ∃ b117 : Bool, v116 = (.bool b117) ∧
                          w115.cell? p1 = some (.int .i64 n111) ∧
                          w115.cell? (p36.add 2) = some (.slice s110a s110l s110c) ∧
                          drM w115 fun w118 =>
                          cond (!b117)
                          (K (.bool false) w118)
                          (X105 ((IntKind.i64.wrap (s104.1 + 1)), ()) w118))
                          (drM w106 fun w119 =>
                          drM w119 fun w120 =>
                          K (.bool false) w120))
                          (J101 (()) w106))
                        (0, ()) w97)
                      (fun s102 w103 =>
                        X84 ((IntKind.i64.wrap (s83.1 + 1)), ()) w103))
                    (J80 (()) w88)))
                (0, ()) w66)
              (fun s81 w82 =>
                CallsX P N.f_girderlaw13_awake #[] w82 fun v122 w121 =>
                ∃ b123 : Bool, v122 = (.bool b123) ∧
                K (.bool b123) w121)))))))

/-- girder/girderlaw13.SolveScales -/
def S_girderlaw13_SolveScales (N : Nums) (P : Program) (q0 : Int) (q1 : Option Addr) (q1l q1c : Nat) (q2 : Option Addr) (q2l q2c : Nat) (q3 : Option Addr) (q3l q3c : Nat) (q4 : Int) (w : World) (K : Value → World → Prop) : Prop :=
  CallsX P N.f_girderlaw13_whole #[.int .i64 q0, .slice q1 q1l q1c] w fun v2 w1 =>
  ∃ n3 : Int, ∃ (s4a : Option Addr) (s4l s4c : Nat), ∃ (s5a : Option Addr) (s5l s5c : Nat), v2 = (.agg #[.int .i64 n3, .slice s4a s4l s4c, .slice s5a s5l s5c]) ∧
  newM #[.int .i64 0, .slice none 0 0, .slice none 0 0] N.t_Factor w1 fun p6 w7 =>
  stM p6 (.int .i64 n3) w7 fun w8 =>
  stM (p6.add 1) (.slice s4a s4l s4c) w8 fun w9 =>
  stM (p6.add 2) (.slice s5a s5l s5c) w9 fun w10 =>
  cutM (σ := Unit) (fun J11 =>
    loopM (σ := Int × Unit) (fun s14 X15 w16 =>
      ∃ (s17a : Option Addr) (s17l s17c : Nat), w16.cell? (p6.add 1) = some (.slice s17a s17l s17c) ∧
      cond (decide (s14.1 < ((s17l : Nat) : Int)))
      (∃ (s18a : Option Addr) (s18l s18c : Nat), w16.cell? (p6.add 1) = some (.slice s18a s18l s18c) ∧
        drM w16 fun w19 =>
        CallsX P N.f_girderlaw13_at #[.slice q1 q1l q1c, .int .i64 s14.1, .int .i64 32] w19 fun v21 w20 =>
        ∃ n22 : Int, v21 = (.int .i64 n22) ∧
        w20.cell? (p6.add 1) = some (.slice s18a s18l s18c) ∧
        fresM (fdiv (FloatKind.f64.nearest n22) 4620693217682128896) w20 fun x23 w24 =>
        (0 : Int) ≤ s14.1 ∧ s14.1 < (s18l : Nat) ∧
        optM s18a fun a25 =>
        drM w20 fun w26 =>
        stM (a25.add (s14.1.toNat * 1)) (.float .f64 x23) w26 fun w27 =>
        drM w27 fun w28 =>
        X15 ((IntKind.i64.wrap (s14.1 + 1)), ()) w28)
      (J11 (()) w16))
    (0, ()) w10)
  (fun s12 w13 =>
    CallsX P N.f_girderkit_Pick #[.int .i64 q4, .int .i64 41] w13 fun v30 w29 =>
    ∃ n31 : Int, v30 = (.int .i64 n31) ∧
    cutM (σ := Nat × Unit) (fun J32 =>
      loopM (σ := Nat × Int × Unit) (fun s35 X36 w37 =>
        cond (s35.2.1 != 0)
        (cutM (σ := Nat × Int × Unit) (fun J38 =>
            cutM (σ := Nat × Int × Unit) (fun J41 =>
              cond (decide (s35.2.1 > 0))
              (fresM (fmul s35.1 4611686018427387904) w37 fun x44 w45 =>
                J41 (x44, (IntKind.i64.wrap (s35.2.1 - 1)), ()) w45)
              (fresM (fdiv s35.1 4611686018427387904) w37 fun x46 w47 =>
                J41 (x46, (IntKind.i64.wrap (s35.2.1 + 1)), ()) w47))
            (fun s42 w43 =>
              J38 (s42.1, s42.2.1, ()) w43))
          (fun s39 w40 =>
            X36 (s39.1, s39.2.1, ()) w40))
        (J32 (s35.1, ()) w37))
      (4607182418800017408, (IntKind.i64.wrap (n31 - 20)), ()) w29)
    (fun s33 w34 =>
      cutM (σ := (Option Addr × Nat × Nat) × (Option Addr × Nat × Nat) × Unit) (fun J48 =>
        loopM (σ := (Option Addr × Nat × Nat) × (Option Addr × Nat × Nat) × Int × Unit) (fun s51 X52 w53 =>
          ∃ n54 : Int, w53.cell? p6 = some (.int .i64 n54) ∧
          cond (decide (s51.2.2.1 < n54))
          (cutM (σ := (Option Addr × Nat × Nat) × (Option Addr × Nat × Nat) × Unit) (fun J55 =>
              cutM (σ := Nat × Unit) (fun J58 =>
                cond (decide (((q3l : Nat) : Int) > 0))
                ((((q3l : Nat) : Int) : Int) ≠ 0 ∧
                  (0 : Int) ≤ (s51.2.2.1.tmod ((q3l : Nat) : Int)) ∧ (s51.2.2.1.tmod ((q3l : Nat) : Int)) < (q3l : Nat) ∧
                  optM q3 fun a61 =>
                  ∃ x62 : Nat, w53.cell? (a61.add ((s51.2.2.1.tmod ((q3l : Nat) : Int)).toNat * 1)) = some (.float .f64 x62) ∧
                  CallsX P N.f_girderlaw13_tame #[.float .f64 x62] w53 fun v64 w63 =>
                  ∃ x65 : Nat, v64 = (.float .f64 x65) ∧
                  J58 (x65, ()) w63)
                (J58 (4607182418800017408, ()) w53))
              (fun s59 w60 =>
                newM #[.float .f64 s59.1] N.t_float64 w60 fun p66 w67 =>
                appM N.t_float64 1 8 #[.float .f64 0] s51.1.1 s51.1.2.1 s51.1.2.2 (some p66) 1 w67 fun s68a s68l s68c w69 =>
                fresM (fmul s59.1 s33.1) w69 fun x70 w71 =>
                newM #[.float .f64 x70] N.t_float64 w71 fun p72 w73 =>
                appM N.t_float64 1 8 #[.float .f64 0] s51.2.1.1 s51.2.1.2.1 s51.2.1.2.2 (some p72) 1 w73 fun s74a s74l s74c w75 =>
                cond (decide (((q2l : Nat) : Int) > 0))
                ((((q2l : Nat) : Int) : Int) ≠ 0 ∧
                  (0 : Int) ≤ (s51.2.2.1.tmod ((q2l : Nat) : Int)) ∧ (s51.2.2.1.tmod ((q2l : Nat) : Int)) < (q2l : Nat) ∧
                  optM q2 fun a76 =>
                  ∃ x77 : Nat, w75.cell? (a76.add ((s51.2.2.1.tmod ((q2l : Nat) : Int)).toNat * 1)) = some (.float .f64 x77) ∧
                  CallsX P N.f_girderlaw13_tame #[.float .f64 x77] w75 fun v79 w78 =>
                  ∃ x80 : Nat, v79 = (.float .f64 x80) ∧
                  cutM (σ := Unit) (fun J81 =>
                    cond (!feq x80 0)
                    (∃ (s84a : Option Addr) (s84l s84c : Nat), w78.cell? (p6.add 2) = some (.slice s84a s84l s84c) ∧
                      (((q2l : Nat) : Int) : Int) ≠ 0 ∧
                      (0 : Int) ≤ (s51.2.2.1.tmod ((q2l : Nat) : Int)) ∧ (s51.2.2.1.tmod ((q2l : Nat) : Int)) < (q2l : Nat) ∧
                      optM q2 fun a85 =>
                      ∃ x86 : Nat, w78.cell? (a85.add ((s51.2.2.1.tmod ((q2l : Nat) : Int)).toNat * 1)) = some (.float .f64 x86) ∧
                      drM w78 fun w87 =>
                      CallsX P N.f_girderlaw13_tame #[.float .f64 x86] w87 fun v89 w88 =>
                      ∃ x90 : Nat, v89 = (.float .f64 x90) ∧
                      w88.cell? (p6.add 2) = some (.slice s84a s84l s84c) ∧
                      (0 : Int) ≤ s51.2.2.1 ∧ s51.2.2.1 < (s84l : Nat) ∧
                      optM s84a fun a91 =>
                      drM w88 fun w92 =>
                      stM (a91.add (s51.2.2.1.toNat * 1)) (.float .f64 x90) w92 fun w93 =>
                      drM w93 fun w94 =>
                      J81 (()) w94)
                    (J81 (()) w78))
                  (fun s82 w83 =>
                    J55 ((s68a, s68l, s68c), (s74a, s74l, s74c), ()) w83))
                (cutM (σ := Unit) (fun J95 =>
                    J95 (()) w75)
                  (fun s96 w97 =>
                    J55 ((s68a, s68l, s68c), (s74a, s74l, s74c), ()) w97))))
            (fun s56 w57 =>
              X52 ((s56.1.1, s56.1.2.1, s56.1.2.2), (s56.2.1.1, s56.2.1.2.1, s56.2.1.2.2), (IntKind.i64.wrap (s51.2.2.1 + 1)), ()) w57))
          (J48 ((s51.1.1, s51.1.2.1, s51.1.2.2), (s51.2.1.1, s51.2.1.2.1, s51.2.1.2.2), ()) w53))
        ((none, 0, 0), (none, 0, 0), 0, ()) w34)
      (fun s49 w50 =>
        ∃ n98 : Int, w50.cell? p6 = some (.int .i64 n98) ∧
        ∃ (s99a : Option Addr) (s99l s99c : Nat), w50.cell? (p6.add 1) = some (.slice s99a s99l s99c) ∧
        ∃ (s100a : Option Addr) (s100l s100c : Nat), w50.cell? (p6.add 2) = some (.slice s100a s100l s100c) ∧
        CallsX P N.f_solve_Solve #[.agg #[.int .i64 n98, .slice s99a s99l s99c, .slice s100a s100l s100c], .slice s49.1.1 s49.1.2.1 s49.1.2.2] w50 fun v102 w101 =>
        ∃ (s103a : Option Addr) (s103l s103c : Nat), ∃ n104 : Int, v102 = (.tuple #[.slice s103a s103l s103c, .int .i64 n104]) ∧
        ∃ n105 : Int, w101.cell? p6 = some (.int .i64 n105) ∧
        ∃ (s106a : Option Addr) (s106l s106c : Nat), w101.cell? (p6.add 1) = some (.slice s106a s106l s106c) ∧
        ∃ (s107a : Option Addr) (s107l s107c : Nat), w101.cell? (p6.add 2) = some (.slice s107a s107l s107c) ∧
        CallsX P N.f_solve_Solve #[.agg #[.int .i64 n105, .slice s106a s106l s106c, .slice s107a s107l s107c], .slice s49.2.1.1 s49.2.1.2.1 s49.2.1.2.2] w101 fun v109 w108 =>
        ∃ (s110a : Option Addr) (s110l s110c : Nat), ∃ n111 : Int, v109 = (.tuple #[.slice s110a s110l s110c, .int .i64 n111]) ∧
        cutM (σ := Bool × Unit) (fun J112 =>
          cond (!(n104 != 0))
          (cond (!(n111 != 0))
            (∃ n115 : Int, w108.cell? p6 = some (.int .i64 n115) ∧
              cond (!(((s103l : Nat) : Int) != n115))
              (∃ n116 : Int, w108.cell? p6 = some (.int .i64 n116) ∧
                J112 ((((s110l : Nat) : Int) != n116), ()) w108)
              (J112 (true, ()) w108))
            (J112 (true, ()) w108))
          (J112 (true, ()) w108))
        (fun s113 w114 =>
          cond s113.1
          (K (.bool false) w114)
          (cutM (σ := Unit) (fun J117 =>
              loopM (σ := Int × Unit) (fun s120 X121 w122 =>
                ∃ n123 : Int, w122.cell? p6 = some (.int .i64 n123) ∧
                cond (decide (s120.1 < n123))
                ((0 : Int) ≤ s120.1 ∧ s120.1 < (s110l : Nat) ∧
                  optM s110a fun a124 =>
                  ∃ x125 : Nat, w122.cell? (a124.add (s120.1.toNat * 1)) = some (.float .f64 x125) ∧
                  (0 : Int) ≤ s120.1 ∧ s120.1 < (s103l : Nat) ∧
                  optM s103a fun a126 =>
                  ∃ x127 : Nat, w122.cell? (a126.add (s120.1.toNat * 1)) = some (.float .f64 x127) ∧
                  fresM (fmul x127 s33.1) w122 fun x128 w129 =>
                  drM w122 fun w130 =>
                  CallsX P N.f_girderkit_SameFloat #[.float .f64 x125, .float .f64 x128] w130 fun v132 w131 =>
                  ∃ b133 : Bool, v132 = (.bool b133) ∧
                  w131.cell? (a126.add (s120.1.toNat * 1)) = some (.float .f64 x127) ∧
                  drM w131 fun w134 =>
                  cond (!b133)
                  (K (.bool false) w134)
                  (X121 ((IntKind.i64.wrap (s120.1 + 1)), ()) w134))
                (J117 (()) w122))
              (0, ()) w114)
            (fun s118 w119 =>
              CallsX P N.f_girderlaw13_awake #[] w119 fun v136 w135 =>
              ∃ b137 : Bool, v136 = (.bool b137) ∧
              K (.bool b137) w135))))))

/-- girder/girderlaw13.SolveNumbers -/
def S_girderlaw13_SolveNumbers (N : Nums) (P : Program)  (w : World) (K : Value → World → Prop) : Prop :=
  CallsX P N.f_girderlaw13_one #[.float .f64 0] w fun v2 w1 =>
  ∃ n3 : Int, ∃ (s4a : Option Addr) (s4l s4c : Nat), ∃ (s5a : Option Addr) (s5l s5c : Nat), v2 = (.agg #[.int .i64 n3, .slice s4a s4l s4c, .slice s5a s5l s5c]) ∧
  newM #[.float .f64 4617315517961601024] N.t_float64 w1 fun p6 w7 =>
  CallsX P N.f_solve_Forward #[.agg #[.int .i64 n3, .slice s4a s4l s4c, .slice s5a s5l s5c], .slice (some p6) 1 1] w7 fun v9 w8 =>
  ∃ (s10a : Option Addr) (s10l s10c : Nat), ∃ n11 : Int, v9 = (.tuple #[.slice s10a s10l s10c, .int .i64 n11]) ∧
  CallsX P N.f_girderlaw13_one #[.float .f64 0] w8 fun v13 w12 =>
  ∃ n14 : Int, ∃ (s15a : Option Addr) (s15l s15c : Nat), ∃ (s16a : Option Addr) (s16l s16c : Nat), v13 = (.agg #[.int .i64 n14, .slice s15a s15l s15c, .slice s16a s16l s16c]) ∧
  newM #[.float .f64 4617315517961601024] N.t_float64 w12 fun p17 w18 =>
  CallsX P N.f_solve_Solve #[.agg #[.int .i64 n14, .slice s15a s15l s15c, .slice s16a s16l s16c], .slice (some p17) 1 1] w18 fun v20 w19 =>
  ∃ (s21a : Option Addr) (s21l s21c : Nat), ∃ n22 : Int, v20 = (.tuple #[.slice s21a s21l s21c, .int .i64 n22]) ∧
  CallsX P N.f_math_Copysign #[.float .f64 0, .float .f64 13830554455654793216] w19 fun v24 w23 =>
  ∃ x25 : Nat, v24 = (.float .f64 x25) ∧
  CallsX P N.f_girderlaw13_one #[.float .f64 x25] w23 fun v27 w26 =>
  ∃ n28 : Int, ∃ (s29a : Option Addr) (s29l s29c : Nat), ∃ (s30a : Option Addr) (s30l s30c : Nat), v27 = (.agg #[.int .i64 n28, .slice s29a s29l s29c, .slice s30a s30l s30c]) ∧
  newM #[.float .f64 4617315517961601024] N.t_float64 w26 fun p31 w32 =>
  CallsX P N.f_solve_Back #[.agg #[.int .i64 n28, .slice s29a s29l s29c, .slice s30a s30l s30c], .slice (some p31) 1 1] w32 fun v34 w33 =>
  ∃ (s35a : Option Addr) (s35l s35c : Nat), ∃ n36 : Int, v34 = (.tuple #[.slice s35a s35l s35c, .int .i64 n36]) ∧
  CallsX P N.f_math_Inf #[.int .i64 1] w33 fun v38 w37 =>
  ∃ x39 : Nat, v38 = (.float .f64 x39) ∧
  CallsX P N.f_girderlaw13_one #[.float .f64 x39] w37 fun v41 w40 =>
  ∃ n42 : Int, ∃ (s43a : Option Addr) (s43l s43c : Nat), ∃ (s44a : Option Addr) (s44l s44c : Nat), v41 = (.agg #[.int .i64 n42, .slice s43a s43l s43c, .slice s44a s44l s44c]) ∧
  newM #[.float .f64 13840687554816376832] N.t_float64 w40 fun p45 w46 =>
  CallsX P N.f_solve_Solve #[.agg #[.int .i64 n42, .slice s43a s43l s43c, .slice s44a s44l s44c], .slice (some p45) 1 1] w46 fun v48 w47 =>
  ∃ (s49a : Option Addr) (s49l s49c : Nat), ∃ n50 : Int, v48 = (.tuple #[.slice s49a s49l s49c, .int .i64 n50]) ∧
  CallsX P N.f_math_NaN #[] w47 fun v52 w51 =>
  ∃ x53 : Nat, v52 = (.float .f64 x53) ∧
  CallsX P N.f_girderlaw13_one #[.float .f64 x53] w51 fun v55 w54 =>
  ∃ n56 : Int, ∃ (s57a : Option Addr) (s57l s57c : Nat), ∃ (s58a : Option Addr) (s58l s58c : Nat), v55 = (.agg #[.int .i64 n56, .slice s57a s57l s57c, .slice s58a s58l s58c]) ∧
  newM #[.float .f64 4617315517961601024] N.t_float64 w54 fun p59 w60 =>
  CallsX P N.f_solve_Solve #[.agg #[.int .i64 n56, .slice s57a s57l s57c, .slice s58a s58l s58c], .slice (some p59) 1 1] w60 fun v62 w61 =>
  ∃ (s63a : Option Addr) (s63l s63c : Nat), ∃ n64 : Int, v62 = (.tuple #[.slice s63a s63l s63c, .int .i64 n64]) ∧
  CallsX P N.f_girderlaw13_one #[.float .f64 4607182418800017408] w61 fun v66 w65 =>
  ∃ n67 : Int, ∃ (s68a : Option Addr) (s68l s68c : Nat), ∃ (s69a : Option Addr) (s69l s69c : Nat), v66 = (.agg #[.int .i64 n67, .slice s68a s68l s68c, .slice s69a s69l s69c]) ∧
  newM #[.float .f64 4617315517961601024, .float .f64 4617315517961601024] N.t_float64 w65 fun p70 w71 =>
  CallsX P N.f_solve_Solve #[.agg #[.int .i64 n67, .slice s68a s68l s68c, .slice s69a s69l s69c], .slice (some p70) 2 2] w71 fun v73 w72 =>
  ∃ (s74a : Option Addr) (s74l s74c : Nat), ∃ n75 : Int, v73 = (.tuple #[.slice s74a s74l s74c, .int .i64 n75]) ∧
  newM #[.float .f64 4607182418800017408, .float .f64 4607182418800017408] N.t_float64 w72 fun p76 w77 =>
  newM #[.float .f64 4617315517961601024, .float .f64 4617315517961601024] N.t_float64 w77 fun p78 w79 =>
  CallsX P N.f_solve_Forward #[.agg #[.int .i64 2, .slice none 0 0, .slice (some p76) 2 2], .slice (some p78) 2 2] w79 fun v81 w80 =>
  ∃ (s82a : Option Addr) (s82l s82c : Nat), ∃ n83 : Int, v81 = (.tuple #[.slice s82a s82l s82c, .int .i64 n83]) ∧
  CallsX P N.f_solve_Solve #[.agg #[.int .i64 0, .slice none 0 0, .slice none 0 0], .slice none 0 0] w80 fun v85 w84 =>
  ∃ (s86a : Option Addr) (s86l s86c : Nat), ∃ n87 : Int, v85 = (.tuple #[.slice s86a s86l s86c, .int .i64 n87]) ∧
  CallsX P N.f_solve_Inverse #[.agg #[.int .i64 0, .slice none 0 0, .slice none 0 0]] w84 fun v89 w88 =>
  ∃ n90 : Int, ∃ n91 : Int, ∃ (s92a : Option Addr) (s92l s92c : Nat), ∃ n93 : Int, v89 = (.tuple #[.agg #[.int .i64 n90, .int .i64 n91, .slice s92a s92l s92c], .int .i64 n93]) ∧
  newM #[.int .i64 0, .int .i64 0, .slice none 0 0] N.t_Matrix w88 fun p94 w95 =>
  stM p94 (.int .i64 n90) w95 fun w96 =>
  stM (p94.add 1) (.int .i64 n91) w96 fun w97 =>
  stM (p94.add 2) (.slice s92a s92l s92c) w97 fun w98 =>
  CallsX P N.f_girderlaw13_one #[.float .f64 0] w98 fun v100 w99 =>
  ∃ n101 : Int, ∃ (s102a : Option Addr) (s102l s102c : Nat), ∃ (s103a : Option Addr) (s103l s103c : Nat), v100 = (.agg #[.int .i64 n101, .slice s102a s102l s102c, .slice s103a s103l s103c]) ∧
  CallsX P N.f_solve_Inverse #[.agg #[.int .i64 n101, .slice s102a s102l s102c, .slice s103a s103l s103c]] w99 fun v105 w104 =>
  ∃ n106 : Int, ∃ n107 : Int, ∃ (s108a : Option Addr) (s108l s108c : Nat), ∃ n109 : Int, v105 = (.tuple #[.agg #[.int .i64 n106, .int .i64 n107, .slice s108a s108l s108c], .int .i64 n109]) ∧
  newM #[.int .i64 0, .int .i64 0, .slice none 0 0] N.t_Matrix w104 fun p110 w111 =>
  stM p110 (.int .i64 n106) w111 fun w112 =>
  stM (p110.add 1) (.int .i64 n107) w112 fun w113 =>
  stM (p110.add 2) (.slice s108a s108l s108c) w113 fun w114 =>
  cutM (σ := Bool × Unit) (fun J115 =>
    newM #[.float .f64 4617315517961601024] N.t_float64 w114 fun p118 w119 =>
    CallsX P N.f_girderlaw13_is #[.slice s10a s10l s10c, .int .i64 n11, .slice (some p118) 1 1, .int .i64 0] w119 fun v121 w120 =>
    ∃ b122 : Bool, v121 = (.bool b122) ∧
    cond b122
    (CallsX P N.f_math_Copysign #[.float .f64 0, .float .f64 13830554455654793216] w120 fun v124 w123 =>
      ∃ x125 : Nat, v124 = (.float .f64 x125) ∧
      newM #[.float .f64 x125] N.t_float64 w123 fun p126 w127 =>
      CallsX P N.f_girderlaw13_is #[.slice s49a s49l s49c, .int .i64 n50, .slice (some p126) 1 1, .int .i64 0] w127 fun v129 w128 =>
      ∃ b130 : Bool, v129 = (.bool b130) ∧
      cond b130
      (CallsX P N.f_math_NaN #[] w128 fun v132 w131 =>
        ∃ x133 : Nat, v132 = (.float .f64 x133) ∧
        newM #[.float .f64 x133] N.t_float64 w131 fun p134 w135 =>
        CallsX P N.f_girderlaw13_is #[.slice s63a s63l s63c, .int .i64 n64, .slice (some p134) 1 1, .int .i64 0] w135 fun v137 w136 =>
        ∃ b138 : Bool, v137 = (.bool b138) ∧
        cond b138
        (CallsX P N.f_girderlaw13_is #[.slice s86a s86l s86c, .int .i64 n87, .slice none 0 0, .int .i64 0] w136 fun v140 w139 =>
          ∃ b141 : Bool, v140 = (.bool b141) ∧
          cond b141
          (cond (n93 == 0)
            (∃ n142 : Int, w139.cell? p94 = some (.int .i64 n142) ∧
              ∃ n143 : Int, w139.cell? (p94.add 1) = some (.int .i64 n143) ∧
              ∃ (s144a : Option Addr) (s144l s144c : Nat), w139.cell? (p94.add 2) = some (.slice s144a s144l s144c) ∧
              J115 (((IntKind.i64.wrap ((IntKind.i64.wrap (n142 + n143)) + ((s144l : Nat) : Int))) == 0), ()) w139)
            (J115 (false, ()) w139))
          (J115 (false, ()) w139))
        (J115 (false, ()) w136))
      (J115 (false, ()) w128))
    (J115 (false, ()) w120))
  (fun s116 w117 =>
    cutM (σ := Bool × Unit) (fun J145 =>
      CallsX P N.f_girderlaw13_is #[.slice s21a s21l s21c, .int .i64 n22, .slice none 0 0, .int .i64 7] w117 fun v149 w148 =>
      ∃ b150 : Bool, v149 = (.bool b150) ∧
      cond b150
      (CallsX P N.f_girderlaw13_is #[.slice s35a s35l s35c, .int .i64 n36, .slice none 0 0, .int .i64 7] w148 fun v152 w151 =>
        ∃ b153 : Bool, v152 = (.bool b153) ∧
        cond b153
        (CallsX P N.f_girderlaw13_is #[.slice s74a s74l s74c, .int .i64 n75, .slice none 0 0, .int .i64 4] w151 fun v155 w154 =>
          ∃ b156 : Bool, v155 = (.bool b156) ∧
          cond b156
          (CallsX P N.f_girderlaw13_is #[.slice s82a s82l s82c, .int .i64 n83, .slice none 0 0, .int .i64 4] w154 fun v158 w157 =>
            ∃ b159 : Bool, v158 = (.bool b159) ∧
            cond b159
            (cond (n109 == 7)
              (∃ n160 : Int, w157.cell? p110 = some (.int .i64 n160) ∧
                ∃ n161 : Int, w157.cell? (p110.add 1) = some (.int .i64 n161) ∧
                ∃ (s162a : Option Addr) (s162l s162c : Nat), w157.cell? (p110.add 2) = some (.slice s162a s162l s162c) ∧
                CallsX P N.f_girderkit_SameMatrix #[.agg #[.int .i64 n160, .int .i64 n161, .slice s162a s162l s162c], .agg #[.int .i64 0, .int .i64 0, .slice none 0 0]] w157 fun v164 w163 =>
                ∃ b165 : Bool, v164 = (.bool b165) ∧
                J145 (b165, ()) w163)
              (J145 (false, ()) w157))
            (J145 (false, ()) w157))
          (J145 (false, ()) w154))
        (J145 (false, ()) w151))
      (J145 (false, ()) w148))
    (fun s146 w147 =>
      cutM (σ := (Option Addr) × Unit) (fun J166 =>
        (drM w147 fun w169 =>
          mkM N.t_float64 1 8 #[.float .f64 0] 1128 1128 w169 fun p170 w171 =>
          (drM w171 fun w172 =>
            mkM N.t_float64 1 8 #[.float .f64 0] 48 48 w172 fun p173 w174 =>
            drM w174 fun w175 =>
            newM #[.int .i64 0, .slice none 0 0, .slice none 0 0] N.t_Factor w175 fun p176 w177 =>
            drM w177 fun w178 =>
            stM p176 (.int .i64 48) w178 fun w179 =>
            stM (p176.add 1) (.slice (some p170) ((1128 : Int).toNat) ((1128 : Int).toNat)) w179 fun w180 =>
            stM (p176.add 2) (.slice (some p173) ((48 : Int).toNat) ((48 : Int).toNat)) w180 fun w181 =>
            drM w181 fun w182 =>
            J166 ((some p176), ()) w182) ∧
          (drM w171 fun w183 =>
            newM #[.int .i64 0, .slice none 0 0, .slice none 0 0] N.t_Factor w183 fun p184 w185 =>
            drM w185 fun w186 =>
            mkM N.t_float64 1 8 #[.float .f64 0] 48 48 w186 fun p187 w188 =>
            drM w188 fun w189 =>
            stM p184 (.int .i64 48) w189 fun w190 =>
            stM (p184.add 1) (.slice (some p170) ((1128 : Int).toNat) ((1128 : Int).toNat)) w190 fun w191 =>
            stM (p184.add 2) (.slice (some p187) ((48 : Int).toNat) ((48 : Int).toNat)) w191 fun w192 =>
            drM w192 fun w193 =>
            J166 ((some p184), ()) w193)) ∧
        (drM w147 fun w194 =>
          mkM N.t_float64 1 8 #[.float .f64 0] 48 48 w194 fun p195 w196 =>
          (drM w196 fun w197 =>
            mkM N.t_float64 1 8 #[.float .f64 0] 1128 1128 w197 fun p198 w199 =>
            drM w199 fun w200 =>
            newM #[.int .i64 0, .slice none 0 0, .slice none 0 0] N.t_Factor w200 fun p201 w202 =>
            drM w202 fun w203 =>
            stM p201 (.int .i64 48) w203 fun w204 =>
            stM (p201.add 1) (.slice (some p198) ((1128 : Int).toNat) ((1128 : Int).toNat)) w204 fun w205 =>
            stM (p201.add 2) (.slice (some p195) ((48 : Int).toNat) ((48 : Int).toNat)) w205 fun w206 =>
            drM w206 fun w207 =>
            J166 ((some p201), ()) w207) ∧
          (drM w196 fun w208 =>
            newM #[.int .i64 0, .slice none 0 0, .slice none 0 0] N.t_Factor w208 fun p209 w210 =>
            drM w210 fun w211 =>
            mkM N.t_float64 1 8 #[.float .f64 0] 1128 1128 w211 fun p212 w213 =>
            drM w213 fun w214 =>
            stM p209 (.int .i64 48) w214 fun w215 =>
            stM (p209.add 1) (.slice (some p212) ((1128 : Int).toNat) ((1128 : Int).toNat)) w215 fun w216 =>
            stM (p209.add 2) (.slice (some p195) ((48 : Int).toNat) ((48 : Int).toNat)) w216 fun w217 =>
            drM w217 fun w218 =>
            J166 ((some p209), ()) w218)) ∧
        (drM w147 fun w219 =>
          newM #[.int .i64 0, .slice none 0 0, .slice none 0 0] N.t_Factor w219 fun p220 w221 =>
          (drM w221 fun w222 =>
            mkM N.t_float64 1 8 #[.float .f64 0] 1128 1128 w222 fun p223 w224 =>
            drM w224 fun w225 =>
            mkM N.t_float64 1 8 #[.float .f64 0] 48 48 w225 fun p226 w227 =>
            drM w227 fun w228 =>
            stM p220 (.int .i64 48) w228 fun w229 =>
            stM (p220.add 1) (.slice (some p223) ((1128 : Int).toNat) ((1128 : Int).toNat)) w229 fun w230 =>
            stM (p220.add 2) (.slice (some p226) ((48 : Int).toNat) ((48 : Int).toNat)) w230 fun w231 =>
            drM w231 fun w232 =>
            J166 ((some p220), ()) w232) ∧
          (drM w221 fun w233 =>
            mkM N.t_float64 1 8 #[.float .f64 0] 48 48 w233 fun p234 w235 =>
            drM w235 fun w236 =>
            mkM N.t_float64 1 8 #[.float .f64 0] 1128 1128 w236 fun p237 w238 =>
            drM w238 fun w239 =>
            stM p220 (.int .i64 48) w239 fun w240 =>
            stM (p220.add 1) (.slice (some p237) ((1128 : Int).toNat) ((1128 : Int).toNat)) w240 fun w241 =>
            stM (p220.add 2) (.slice (some p234) ((48 : Int).toNat) ((48 : Int).toNat)) w241 fun w242 =>
            drM w242 fun w243 =>
            J166 ((some p220), ()) w243)))
      (fun s167 w168 =>
        cutM (σ := Unit) (fun J244 =>
          loopM (σ := Int × Unit) (fun s247 X248 w249 =>
            cond (decide (s247.1 < 48))
            (optM s167.1 fun a250 =>
              ∃ (s251a : Option Addr) (s251l s251c : Nat), w249.cell? (a250.add 2) = some (.slice s251a s251l s251c) ∧
              (0 : Int) ≤ s247.1 ∧ s247.1 < (s251l : Nat) ∧
              optM s251a fun a252 =>
              stM (a252.add (s247.1.toNat * 1)) (.float .f64 4611686018427387904) w249 fun w253 =>
              X248 ((IntKind.i64.wrap (s247.1 + 1)), ()) w253)
            (J244 (()) w249))
          (0, ()) w168)
        (fun s245 w246 =>
          optM s167.1 fun a254 =>
          ∃ n255 : Int, w246.cell? a254 = some (.int .i64 n255) ∧
          ∃ (s256a : Option Addr) (s256l s256c : Nat), w246.cell? (a254.add 1) = some (.slice s256a s256l s256c) ∧
          ∃ (s257a : Option Addr) (s257l s257c : Nat), w246.cell? (a254.add 2) = some (.slice s257a s257l s257c) ∧
          CallsX P N.f_solve_Inverse #[.agg #[.int .i64 n255, .slice s256a s256l s256c, .slice s257a s257l s257c]] w246 fun v259 w258 =>
          ∃ n260 : Int, ∃ n261 : Int, ∃ (s262a : Option Addr) (s262l s262c : Nat), ∃ n263 : Int, v259 = (.tuple #[.agg #[.int .i64 n260, .int .i64 n261, .slice s262a s262l s262c], .int .i64 n263]) ∧
          newM #[.int .i64 0, .int .i64 0, .slice none 0 0] N.t_Matrix w258 fun p264 w265 =>
          stM p264 (.int .i64 n260) w265 fun w266 =>
          stM (p264.add 1) (.int .i64 n261) w266 fun w267 =>
          stM (p264.add 2) (.slice s262a s262l s262c) w267 fun w268 =>
          cutM (σ := (Option Addr) × Int × Unit) (fun J269 =>
            (drM w268 fun w272 =>
              mkM N.t_float64 1 8 #[.float .f64 0] 1176 1176 w272 fun p273 w274 =>
              (drM w274 fun w275 =>
                mkM N.t_float64 1 8 #[.float .f64 0] 49 49 w275 fun p276 w277 =>
                (drM w277 fun w278 =>
                  CallsX P N.f_solve_Inverse #[.agg #[.int .i64 49, .slice (some p273) ((1176 : Int).toNat) ((1176 : Int).toNat), .slice (some p276) ((49 : Int).toNat) ((49 : Int).toNat)]] w278 fun v280 w279 =>
                  ∃ n281 : Int, ∃ n282 : Int, ∃ (s283a : Option Addr) (s283l s283c : Nat), ∃ n284 : Int, v280 = (.tuple #[.agg #[.int .i64 n281, .int .i64 n282, .slice s283a s283l s283c], .int .i64 n284]) ∧
                  drM w279 fun w285 =>
                  newM #[.int .i64 0, .int .i64 0, .slice none 0 0] N.t_Matrix w285 fun p286 w287 =>
                  drM w287 fun w288 =>
                  stM p286 (.int .i64 n281) w288 fun w289 =>
                  stM (p286.add 1) (.int .i64 n282) w289 fun w290 =>
                  stM (p286.add 2) (.slice s283a s283l s283c) w290 fun w291 =>
                  drM w291 fun w292 =>
                  J269 ((some p286), n284, ()) w292) ∧
                (drM w277 fun w293 =>
                  newM #[.int .i64 0, .int .i64 0, .slice none 0 0] N.t_Matrix w293 fun p294 w295 =>
                  drM w295 fun w296 =>
                  CallsX P N.f_solve_Inverse #[.agg #[.int .i64 49, .slice (some p273) ((1176 : Int).toNat) ((1176 : Int).toNat), .slice (some p276) ((49 : Int).toNat) ((49 : Int).toNat)]] w296 fun v298 w297 =>
                  ∃ n299 : Int, ∃ n300 : Int, ∃ (s301a : Option Addr) (s301l s301c : Nat), ∃ n302 : Int, v298 = (.tuple #[.agg #[.int .i64 n299, .int .i64 n300, .slice s301a s301l s301c], .int .i64 n302]) ∧
                  drM w297 fun w303 =>
                  stM p294 (.int .i64 n299) w303 fun w304 =>
                  stM (p294.add 1) (.int .i64 n300) w304 fun w305 =>
                  stM (p294.add 2) (.slice s301a s301l s301c) w305 fun w306 =>
                  drM w306 fun w307 =>
                  J269 ((some p294), n302, ()) w307)) ∧
              (drM w274 fun w308 =>
                newM #[.int .i64 0, .int .i64 0, .slice none 0 0] N.t_Matrix w308 fun p309 w310 =>
                drM w310 fun w311 =>
                mkM N.t_float64 1 8 #[.float .f64 0] 49 49 w311 fun p312 w313 =>
                drM w313 fun w314 =>
                CallsX P N.f_solve_Inverse #[.agg #[.int .i64 49, .slice (some p273) ((1176 : Int).toNat) ((1176 : Int).toNat), .slice (some p312) ((49 : Int).toNat) ((49 : Int).toNat)]] w314 fun v316 w315 =>
                ∃ n317 : Int, ∃ n318 : Int, ∃ (s319a : Option Addr) (s319l s319c : Nat), ∃ n320 : Int, v316 = (.tuple #[.agg #[.int .i64 n317, .int .i64 n318, .slice s319a s319l s319c], .int .i64 n320]) ∧
                drM w315 fun w321 =>
                stM p309 (.int .i64 n317) w321 fun w322 =>
                stM (p309.add 1) (.int .i64 n318) w322 fun w323 =>
                stM (p309.add 2) (.slice s319a s319l s319c) w323 fun w324 =>
                drM w324 fun w325 =>
                J269 ((some p309), n320, ()) w325)) ∧
            (drM w268 fun w326 =>
              mkM N.t_float64 1 8 #[.float .f64 0] 49 49 w326 fun p327 w328 =>
              (drM w328 fun w329 =>
                mkM N.t_float64 1 8 #[.float .f64 0] 1176 1176 w329 fun p330 w331 =>
                (drM w331 fun w332 =>
                  CallsX P N.f_solve_Inverse #[.agg #[.int .i64 49, .slice (some p330) ((1176 : Int).toNat) ((1176 : Int).toNat), .slice (some p327) ((49 : Int).toNat) ((49 : Int).toNat)]] w332 fun v334 w333 =>
                  ∃ n335 : Int, ∃ n336 : Int, ∃ (s337a : Option Addr) (s337l s337c : Nat), ∃ n338 : Int, v334 = (.tuple #[.agg #[.int .i64 n335, .int .i64 n336, .slice s337a s337l s337c], .int .i64 n338]) ∧
                  drM w333 fun w339 =>
                  newM #[.int .i64 0, .int .i64 0, .slice none 0 0] N.t_Matrix w339 fun p340 w341 =>
                  drM w341 fun w342 =>
                  stM p340 (.int .i64 n335) w342 fun w343 =>
                  stM (p340.add 1) (.int .i64 n336) w343 fun w344 =>
                  stM (p340.add 2) (.slice s337a s337l s337c) w344 fun w345 =>
                  drM w345 fun w346 =>
                  J269 ((some p340), n338, ()) w346) ∧
                (drM w331 fun w347 =>
                  newM #[.int .i64 0, .int .i64 0, .slice none 0 0] N.t_Matrix w347 fun p348 w349 =>
                  drM w349 fun w350 =>
                  CallsX P N.f_solve_Inverse #[.agg #[.int .i64 49, .slice (some p330) ((1176 : Int).toNat) ((1176 : Int).toNat), .slice (some p327) ((49 : Int).toNat) ((49 : Int).toNat)]] w350 fun v352 w351 =>
                  ∃ n353 : Int, ∃ n354 : Int, ∃ (s355a : Option Addr) (s355l s355c : Nat), ∃ n356 : Int, v352 = (.tuple #[.agg #[.int .i64 n353, .int .i64 n354, .slice s355a s355l s355c], .int .i64 n356]) ∧
                  drM w351 fun w357 =>
                  stM p348 (.int .i64 n353) w357 fun w358 =>
                  stM (p348.add 1) (.int .i64 n354) w358 fun w359 =>
                  stM (p348.add 2) (.slice s355a s355l s355c) w359 fun w360 =>
                  drM w360 fun w361 =>
                  J269 ((some p348), n356, ()) w361)) ∧
              (drM w328 fun w362 =>
                newM #[.int .i64 0, .int .i64 0, .slice none 0 0] N.t_Matrix w362 fun p363 w364 =>
                drM w364 fun w365 =>
                mkM N.t_float64 1 8 #[.float .f64 0] 1176 1176 w365 fun p366 w367 =>
                drM w367 fun w368 =>
                CallsX P N.f_solve_Inverse #[.agg #[.int .i64 49, .slice (some p366) ((1176 : Int).toNat) ((1176 : Int).toNat), .slice (some p327) ((49 : Int).toNat) ((49 : Int).toNat)]] w368 fun v370 w369 =>
                ∃ n371 : Int, ∃ n372 : Int, ∃ (s373a : Option Addr) (s373l s373c : Nat), ∃ n374 : Int, v370 = (.tuple #[.agg #[.int .i64 n371, .int .i64 n372, .slice s373a s373l s373c], .int .i64 n374]) ∧
                drM w369 fun w375 =>
                stM p363 (.int .i64 n371) w375 fun w376 =>
                stM (p363.add 1) (.int .i64 n372) w376 fun w377 =>
                stM (p363.add 2) (.slice s373a s373l s373c) w377 fun w378 =>
                drM w378 fun w379 =>
                J269 ((some p363), n374, ()) w379)) ∧
            (drM w268 fun w380 =>
              newM #[.int .i64 0, .int .i64 0, .slice none 0 0] N.t_Matrix w380 fun p381 w382 =>
              (drM w382 fun w383 =>
                mkM N.t_float64 1 8 #[.float .f64 0] 1176 1176 w383 fun p384 w385 =>
                drM w385 fun w386 =>
                mkM N.t_float64 1 8 #[.float .f64 0] 49 49 w386 fun p387 w388 =>
                drM w388 fun w389 =>
                CallsX P N.f_solve_Inverse #[.agg #[.int .i64 49, .slice (some p384) ((1176 : Int).toNat) ((1176 : Int).toNat), .slice (some p387) ((49 : Int).toNat) ((49 : Int).toNat)]] w389 fun v391 w390 =>
                ∃ n392 : Int, ∃ n393 : Int, ∃ (s394a : Option Addr) (s394l s394c : Nat), ∃ n395 : Int, v391 = (.tuple #[.agg #[.int .i64 n392, .int .i64 n393, .slice s394a s394l s394c], .int .i64 n395]) ∧
                drM w390 fun w396 =>
                stM p381 (.int .i64 n392) w396 fun w397 =>
                stM (p381.add 1) (.int .i64 n393) w397 fun w398 =>
                stM (p381.add 2) (.slice s394a s394l s394c) w398 fun w399 =>
                drM w399 fun w400 =>
                J269 ((some p381), n395, ()) w400) ∧
              (drM w382 fun w401 =>
                mkM N.t_float64 1 8 #[.float .f64 0] 49 49 w401 fun p402 w403 =>
                drM w403 fun w404 =>
                mkM N.t_float64 1 8 #[.float .f64 0] 1176 1176 w404 fun p405 w406 =>
                drM w406 fun w407 =>
                CallsX P N.f_solve_Inverse #[.agg #[.int .i64 49, .slice (some p405) ((1176 : Int).toNat) ((1176 : Int).toNat), .slice (some p402) ((49 : Int).toNat) ((49 : Int).toNat)]] w407 fun v409 w408 =>
                ∃ n410 : Int, ∃ n411 : Int, ∃ (s412a : Option Addr) (s412l s412c : Nat), ∃ n413 : Int, v409 = (.tuple #[.agg #[.int .i64 n410, .int .i64 n411, .slice s412a s412l s412c], .int .i64 n413]) ∧
                drM w408 fun w414 =>
                stM p381 (.int .i64 n410) w414 fun w415 =>
                stM (p381.add 1) (.int .i64 n411) w415 fun w416 =>
                stM (p381.add 2) (.slice s412a s412l s412c) w416 fun w417 =>
                drM w417 fun w418 =>
                J269 ((some p381), n413, ()) w418)))
          (fun s270 w271 =>
            CallsX P N.f_solve_Solve #[.agg #[.int .i64 (-1), .slice none 0 0, .slice none 0 0], .slice none 0 0] w271 fun v420 w419 =>
            ∃ (s421a : Option Addr) (s421l s421c : Nat), ∃ n422 : Int, v420 = (.tuple #[.slice s421a s421l s421c, .int .i64 n422]) ∧
            cond s116.1
            (cond s146.1
              (cond (n263 == 0)
                (∃ (s423a : Option Addr) (s423l s423c : Nat), w419.cell? (p264.add 2) = some (.slice s423a s423l s423c) ∧
                  cond (((s423l : Nat) : Int) == 2304)
                  (∃ (s424a : Option Addr) (s424l s424c : Nat), w419.cell? (p264.add 2) = some (.slice s424a s424l s424c) ∧
                    (0 : Int) ≤ (0 : Int) ∧ (0 : Int) < (s424l : Nat) ∧
                    optM s424a fun a425 =>
                    ∃ x426 : Nat, w419.cell? (a425.add ((0 : Int).toNat * 1)) = some (.float .f64 x426) ∧
                    cond (feq x426 4602678819172646912)
                    (∃ (s427a : Option Addr) (s427l s427c : Nat), w419.cell? (p264.add 2) = some (.slice s427a s427l s427c) ∧
                      (0 : Int) ≤ (2303 : Int) ∧ (2303 : Int) < (s427l : Nat) ∧
                      optM s427a fun a428 =>
                      ∃ x429 : Nat, w419.cell? (a428.add ((2303 : Int).toNat * 1)) = some (.float .f64 x429) ∧
                      cond (feq x429 4602678819172646912)
                      (cond (s270.2.1 == 4)
                        (optM s270.1 fun a430 =>
                          ∃ (s431a : Option Addr) (s431l s431c : Nat), w419.cell? (a430.add 2) = some (.slice s431a s431l s431c) ∧
                          cond (((s431l : Nat) : Int) == 0)
                          (cond (n422 == 4)
                          (CallsX P N.f_girderlaw13_awake #[] w419 fun v433 w432 =>
                          ∃ b434 : Bool, v433 = (.bool b434) ∧
                          K (.bool b434) w432)
                          (K (.bool false) w419))
                          (K (.bool false) w419))
                        (K (.bool false) w419))
                      (K (.bool false) w419))
                    (K (.bool false) w419))
                  (K (.bool false) w419))
                (K (.bool false) w419))
              (K (.bool false) w419))
            (K (.bool false) w419))))))

/-- girder/girderkit.LentFactor -/
def S_girderkit_LentFactor (N : Nums) (P : Program) (q0_0 : Int) (q0_1 : Option Addr) (q0_1l q0_1c : Nat) (q0_2 : Option Addr) (q0_2l q0_2c : Nat) (w : World) (K : Value → World → Prop) : Prop :=
  newM #[.int .i64 q0_0, .slice q0_1 q0_1l q0_1c, .slice q0_2 q0_2l q0_2c] N.t_Factor w fun p1 w2 =>
  newM #[.int .i64 0, .slice none 0 0, .slice none 0 0] N.t_Factor w2 fun p3 w4 =>
  ∃ (s5a : Option Addr) (s5l s5c : Nat), w4.cell? (p1.add 1) = some (.slice s5a s5l s5c) ∧
  CallsX P N.f_girderkit_LentReals #[.slice s5a s5l s5c] w4 fun v7 w6 =>
  ∃ (s8a : Option Addr) (s8l s8c : Nat), v7 = (.slice s8a s8l s8c) ∧
  stM (p1.add 1) (.slice s8a s8l s8c) w6 fun w9 =>
  ∃ (s10a : Option Addr) (s10l s10c : Nat), w9.cell? (p1.add 2) = some (.slice s10a s10l s10c) ∧
  CallsX P N.f_girderkit_LentReals #[.slice s10a s10l s10c] w9 fun v12 w11 =>
  ∃ (s13a : Option Addr) (s13l s13c : Nat), v12 = (.slice s13a s13l s13c) ∧
  stM (p1.add 2) (.slice s13a s13l s13c) w11 fun w14 =>
  ∃ n15 : Int, w14.cell? p1 = some (.int .i64 n15) ∧
  ∃ (s16a : Option Addr) (s16l s16c : Nat), w14.cell? (p1.add 1) = some (.slice s16a s16l s16c) ∧
  ∃ (s17a : Option Addr) (s17l s17c : Nat), w14.cell? (p1.add 2) = some (.slice s17a s17l s17c) ∧
  stM p3 (.int .i64 n15) w14 fun w18 =>
  stM (p3.add 1) (.slice s16a s16l s16c) w18 fun w19 =>
  stM (p3.add 2) (.slice s17a s17l s17c) w19 fun w20 =>
  ∃ n21 : Int, w20.cell? p3 = some (.int .i64 n21) ∧
  ∃ (s22a : Option Addr) (s22l s22c : Nat), w20.cell? (p3.add 1) = some (.slice s22a s22l s22c) ∧
  ∃ (s23a : Option Addr) (s23l s23c : Nat), w20.cell? (p3.add 2) = some (.slice s23a s23l s23c) ∧
  K (.agg #[.int .i64 n21, .slice s22a s22l s22c, .slice s23a s23l s23c]) w20

/-- girder/girderkit.LentReals -/
def S_girderkit_LentReals (N : Nums) (P : Program) (q0 : Option Addr) (q0l q0c : Nat) (w : World) (K : Value → World → Prop) : Prop :=
  mkM N.t_float64 1 8 #[.float .f64 0] 0 (IntKind.i64.wrap (((q0l : Nat) : Int) + 12)) w fun p1 w2 =>
  appM N.t_float64 1 8 #[.float .f64 0] (some p1) ((0 : Int).toNat) ((IntKind.i64.wrap (((q0l : Nat) : Int) + 12)).toNat) q0 q0l w2 fun s3a s3l s3c w4 =>
  cutM (σ := (Option Addr × Nat × Nat) × Unit) (fun J5 =>
    loopM (σ := (Option Addr × Nat × Nat) × Int × Unit) (fun s8 X9 w10 =>
      cond (decide (s8.2.1 < 12))
      (CallsX P N.f_girderkit_mark #[.int .i64 1, .int .i64 s8.2.1] w10 fun v12 w11 =>
        ∃ n13 : Int, v12 = (.int .i64 n13) ∧
        newM #[.float .f64 (FloatKind.f64.nearest n13)] N.t_float64 w11 fun p14 w15 =>
        appM N.t_float64 1 8 #[.float .f64 0] s8.1.1 s8.1.2.1 s8.1.2.2 (some p14) 1 w15 fun s16a s16l s16c w17 =>
        X9 ((s16a, s16l, s16c), (IntKind.i64.wrap (s8.2.1 + 1)), ()) w17)
      (J5 ((s8.1.1, s8.1.2.1, s8.1.2.2), ()) w10))
    ((s3a, s3l, s3c), 0, ()) w4)
  (fun s6 w7 =>
    (0 : Int) ≤ ((q0l : Nat) : Int) ∧ ((q0l : Nat) : Int) ≤ (s6.1.2.2 : Nat) ∧
    K (.slice (slBase s6.1.1 0 s6.1.2.2 1) (((q0l : Nat) : Int).toNat) s6.1.2.2) w7)

/-- girder/solve.Forward -/
def S_solve_Forward (N : Nums) (P : Program) (q0_0 : Int) (q0_1 : Option Addr) (q0_1l q0_1c : Nat) (q0_2 : Option Addr) (q0_2l q0_2c : Nat) (q1 : Option Addr) (q1l q1c : Nat) (w : World) (K : Value → World → Prop) : Prop :=
  newM #[.int .i64 q0_0, .slice q0_1 q0_1l q0_1c, .slice q0_2 q0_2l q0_2c] N.t_Factor w fun p1 w2 =>
  ∃ n3 : Int, w2.cell? p1 = some (.int .i64 n3) ∧
  ∃ (s4a : Option Addr) (s4l s4c : Nat), w2.cell? (p1.add 1) = some (.slice s4a s4l s4c) ∧
  ∃ (s5a : Option Addr) (s5l s5c : Nat), w2.cell? (p1.add 2) = some (.slice s5a s5l s5c) ∧
  CallsX P N.f_solve_fits #[.agg #[.int .i64 n3, .slice s4a s4l s4c, .slice s5a s5l s5c], .int .i64 ((q1l : Nat) : Int)] w2 fun v7 w6 =>
  ∃ n8 : Int, v7 = (.int .i64 n8) ∧
  cond (n8 != 0)
  (K (.tuple #[.slice none 0 0, .int .i64 n8]) w6)
  (CallsX P N.f_slices_Clone___float64_float64 #[.slice q1 q1l q1c] w6 fun v10 w9 =>
    ∃ (s11a : Option Addr) (s11l s11c : Nat), v10 = (.slice s11a s11l s11c) ∧
    cutM (σ := Unit) (fun J12 =>
      loopM (σ := Int × Unit) (fun s15 X16 w17 =>
        cond (decide (s15.1 < ((s11l : Nat) : Int)))
        (cutM (σ := Unit) (fun J18 =>
            loopM (σ := Int × Unit) (fun s21 X22 w23 =>
              cond (decide (s21.1 < s15.1))
              ((0 : Int) ≤ s15.1 ∧ s15.1 < (s11l : Nat) ∧
                optM s11a fun a24 =>
                ∃ x25 : Nat, w23.cell? (a24.add (s15.1.toNat * 1)) = some (.float .f64 x25) ∧
                ∃ n26 : Int, w23.cell? p1 = some (.int .i64 n26) ∧
                ∃ (s27a : Option Addr) (s27l s27c : Nat), w23.cell? (p1.add 1) = some (.slice s27a s27l s27c) ∧
                ∃ (s28a : Option Addr) (s28l s28c : Nat), w23.cell? (p1.add 2) = some (.slice s28a s28l s28c) ∧
                (0 : Int) ≤ s21.1 ∧ s21.1 < (s11l : Nat) ∧
                optM s11a fun a29 =>
                ∃ x30 : Nat, w23.cell? (a29.add (s21.1.toNat * 1)) = some (.float .f64 x30) ∧
                drM w23 fun w31 =>
                CallsX P N.f_solve_below #[.agg #[.int .i64 n26, .slice s27a s27l s27c, .slice s28a s28l s28c], .int .i64 s15.1, .int .i64 s21.1] w31 fun v33 w32 =>
                ∃ x34 : Nat, v33 = (.float .f64 x34) ∧
                w32.cell? (a29.add (s21.1.toNat * 1)) = some (.float .f64 x30) ∧
                w32.cell? (a24.add (s15.1.toNat * 1)) = some (.float .f64 x25) ∧
                fresM (fmul x34 x30) w32 fun x35 w36 =>
                fresM (fsub x25 x35) w32 fun x37 w38 =>
                (0 : Int) ≤ s15.1 ∧ s15.1 < (s11l : Nat) ∧
                optM s11a fun a39 =>
                drM w32 fun w40 =>
                stM (a39.add (s15.1.toNat * 1)) (.float .f64 x37) w40 fun w41 =>
                drM w41 fun w42 =>
                X22 ((IntKind.i64.wrap (s21.1 + 1)), ()) w42)
              (J18 (()) w23))
            (0, ()) w17)
          (fun s19 w20 =>
            X16 ((IntKind.i64.wrap (s15.1 + 1)), ()) w20))
        (J12 (()) w17))
      (0, ()) w9)
    (fun s13 w14 =>
      K (.tuple #[.slice s11a s11l s11c, .int .i64 0]) w14))

/-- girder/girderref13.Forward -/
def S_girderref13_Forward (N : Nums) (P : Program) (q0_0 : Int) (q0_1 : Option Addr) (q0_1l q0_1c : Nat) (q0_2 : Option Addr) (q0_2l q0_2c : Nat) (q1 : Option Addr) (q1l q1c : Nat) (w : World) (K : Value → World → Prop) : Prop :=
  newM #[.int .i64 q0_0, .slice q0_1 q0_1l q0_1c, .slice q0_2 q0_2l q0_2c] N.t_Factor w fun p1 w2 =>
  cutM (σ := Bool × Unit) (fun J3 =>
    ∃ n6 : Int, w2.cell? p1 = some (.int .i64 n6) ∧
    ∃ (s7a : Option Addr) (s7l s7c : Nat), w2.cell? (p1.add 1) = some (.slice s7a s7l s7c) ∧
    ∃ (s8a : Option Addr) (s8l s8c : Nat), w2.cell? (p1.add 2) = some (.slice s8a s8l s8c) ∧
    CallsX P N.f_girderref13_Right #[.agg #[.int .i64 n6, .slice s7a s7l s7c, .slice s8a s8l s8c]] w2 fun v10 w9 =>
    ∃ b11 : Bool, v10 = (.bool b11) ∧
    cond (!(!b11))
    (∃ n12 : Int, w9.cell? p1 = some (.int .i64 n12) ∧
      J3 ((((q1l : Nat) : Int) != n12), ()) w9)
    (J3 (true, ()) w9))
  (fun s4 w5 =>
    cond s4.1
    (K (.tuple #[.slice none 0 0, .int .i64 4]) w5)
    (∃ n13 : Int, w5.cell? p1 = some (.int .i64 n13) ∧
      mkM N.t_float64 1 8 #[.float .f64 0] n13 n13 w5 fun p14 w15 =>
      cutM (σ := Unit) (fun J16 =>
        loopM (σ := Int × Unit) (fun s19 X20 w21 =>
          ∃ n22 : Int, w21.cell? p1 = some (.int .i64 n22) ∧
          cond (decide (s19.1 < n22))
          ((0 : Int) ≤ s19.1 ∧ s19.1 < (q1l : Nat) ∧
            optM q1 fun a23 =>
            ∃ x24 : Nat, w21.cell? (a23.add (s19.1.toNat * 1)) = some (.float .f64 x24) ∧
            cutM (σ := Nat × Unit) (fun J25 =>
              loopM (σ := Nat × Int × Unit) (fun s28 X29 w30 =>
                cond (decide (s28.2.1 < s19.1))
                (∃ n31 : Int, w30.cell? p1 = some (.int .i64 n31) ∧
                  ∃ (s32a : Option Addr) (s32l s32c : Nat), w30.cell? (p1.add 1) = some (.slice s32a s32l s32c) ∧
                  ∃ (s33a : Option Addr) (s33l s33c : Nat), w30.cell? (p1.add 2) = some (.slice s33a s33l s33c) ∧
                  (0 : Int) ≤ s28.2.1 ∧ s28.2.1 < (n13.toNat : Nat) ∧
                  ∃ x34 : Nat, w30.cell? (p14.add (s28.2.1.toNat * 1)) = some (.float .f64 x34) ∧
                  drM w30 fun w35 =>
                  CallsX P N.f_girderref13_at #[.agg #[.int .i64 n31, .slice s32a s32l s32c, .slice s33a s33l s33c], .int .i64 s19.1, .int .i64 s28.2.1] w35 fun v37 w36 =>
                  ∃ x38 : Nat, v37 = (.float .f64 x38) ∧
                  w36.cell? (p14.add (s28.2.1.toNat * 1)) = some (.float .f64 x34) ∧
                  fresM (fmul x38 x34) w36 fun x39 w40 =>
                  drM w36 fun w41 =>
                  fresM (fsub s28.1 x39) w41 fun x42 w43 =>
                  X29 (x42, (IntKind.i64.wrap (s28.2.1 + 1)), ()) w43)
                (J25 (s28.1, ()) w30))
              (x24, 0, ()) w21)
            (fun s26 w27 =>
              (0 : Int) ≤ s19.1 ∧ s19.1 < (n13.toNat : Nat) ∧
              stM (p14.add (s19.1.toNat * 1)) (.float .f64 s26.1) w27 fun w44 =>
              X20 ((IntKind.i64.wrap (s19.1 + 1)), ()) w44))
          (J16 (()) w21))
        (0, ()) w15)
      (fun s17 w18 =>
        K (.tuple #[.slice (some p14) n13.toNat n13.toNat, .int .i64 0]) w18)))

/-- girder/girderlaw13.is -/
def S_girderlaw13_is (N : Nums) (P : Program) (q0 : Option Addr) (q0l q0c : Nat) (q1 : Int) (q2 : Option Addr) (q2l q2c : Nat) (q3 : Int) (w : World) (K : Value → World → Prop) : Prop :=
  cond (q1 == q3)
  (CallsX P N.f_girderkit_SameReals #[.slice q0 q0l q0c, .slice q2 q2l q2c] w fun v2 w1 =>
    ∃ b3 : Bool, v2 = (.bool b3) ∧
    K (.bool b3) w1)
  (K (.bool false) w)

/-- girder/solve.Back -/
def S_solve_Back (N : Nums) (P : Program) (q0_0 : Int) (q0_1 : Option Addr) (q0_1l q0_1c : Nat) (q0_2 : Option Addr) (q0_2l q0_2c : Nat) (q1 : Option Addr) (q1l q1c : Nat) (w : World) (K : Value → World → Prop) : Prop :=
  newM #[.int .i64 q0_0, .slice q0_1 q0_1l q0_1c, .slice q0_2 q0_2l q0_2c] N.t_Factor w fun p1 w2 =>
  ∃ n3 : Int, w2.cell? p1 = some (.int .i64 n3) ∧
  ∃ (s4a : Option Addr) (s4l s4c : Nat), w2.cell? (p1.add 1) = some (.slice s4a s4l s4c) ∧
  ∃ (s5a : Option Addr) (s5l s5c : Nat), w2.cell? (p1.add 2) = some (.slice s5a s5l s5c) ∧
  CallsX P N.f_solve_fits #[.agg #[.int .i64 n3, .slice s4a s4l s4c, .slice s5a s5l s5c], .int .i64 ((q1l : Nat) : Int)] w2 fun v7 w6 =>
  ∃ n8 : Int, v7 = (.int .i64 n8) ∧
  cond (n8 != 0)
  (K (.tuple #[.slice none 0 0, .int .i64 n8]) w6)
  (∃ (s9a : Option Addr) (s9l s9c : Nat), w6.cell? (p1.add 2) = some (.slice s9a s9l s9c) ∧
    CallsX P N.f_slices_Contains___float64_float64 #[.slice s9a s9l s9c, .float .f64 0] w6 fun v11 w10 =>
    ∃ b12 : Bool, v11 = (.bool b12) ∧
    cond b12
    (K (.tuple #[.slice none 0 0, .int .i64 7]) w10)
    (CallsX P N.f_slices_Clone___float64_float64 #[.slice q1 q1l q1c] w10 fun v14 w13 =>
      ∃ (s15a : Option Addr) (s15l s15c : Nat), v14 = (.slice s15a s15l s15c) ∧
      ∃ (s16a : Option Addr) (s16l s16c : Nat), w13.cell? (p1.add 2) = some (.slice s16a s16l s16c) ∧
      cutM (σ := Unit) (fun J17 =>
        loopM (σ := Int × Unit) (fun s20 X21 w22 =>
          cond (decide (s20.1 < ((s16l : Nat) : Int)))
          ((0 : Int) ≤ s20.1 ∧ s20.1 < (s16l : Nat) ∧
            optM s16a fun a23 =>
            ∃ x24 : Nat, w22.cell? (a23.add (s20.1.toNat * 1)) = some (.float .f64 x24) ∧
            (0 : Int) ≤ s20.1 ∧ s20.1 < (s15l : Nat) ∧
            optM s15a fun a25 =>
            ∃ x26 : Nat, w22.cell? (a25.add (s20.1.toNat * 1)) = some (.float .f64 x26) ∧
            fresM (fdiv x26 x24) w22 fun x27 w28 =>
            (0 : Int) ≤ s20.1 ∧ s20.1 < (s15l : Nat) ∧
            optM s15a fun a29 =>
            stM (a29.add (s20.1.toNat * 1)) (.float .f64 x27) w28 fun w30 =>
            X21 ((IntKind.i64.wrap (s20.1 + 1)), ()) w30)
          (J17 (()) w22))
        (0, ()) w13)
      (fun s18 w19 =>
        cutM (σ := Unit) (fun J31 =>
          loopM (σ := Int × Unit) (fun s34 X35 w36 =>
            cond (decide (s34.1 < ((s15l : Nat) : Int)))
            (cutM (σ := Unit) (fun J37 =>
                loopM (σ := Int × Unit) (fun s40 X41 w42 =>
                  cond (decide (s40.1 < ((s15l : Nat) : Int)))
                  ((0 : Int) ≤ (IntKind.i64.wrap ((IntKind.i64.wrap (((s15l : Nat) : Int) - 1)) - s34.1)) ∧ (IntKind.i64.wrap ((IntKind.i64.wrap (((s15l : Nat) : Int) - 1)) - s34.1)) < (s15l : Nat) ∧
                    optM s15a fun a43 =>
                    ∃ x44 : Nat, w42.cell? (a43.add ((IntKind.i64.wrap ((IntKind.i64.wrap (((s15l : Nat) : Int) - 1)) - s34.1)).toNat * 1)) = some (.float .f64 x44) ∧
                    ∃ n45 : Int, w42.cell? p1 = some (.int .i64 n45) ∧
                    ∃ (s46a : Option Addr) (s46l s46c : Nat), w42.cell? (p1.add 1) = some (.slice s46a s46l s46c) ∧
                    ∃ (s47a : Option Addr) (s47l s47c : Nat), w42.cell? (p1.add 2) = some (.slice s47a s47l s47c) ∧
                    (0 : Int) ≤ s40.1 ∧ s40.1 < (s15l : Nat) ∧
                    optM s15a fun a48 =>
                    ∃ x49 : Nat, w42.cell? (a48.add (s40.1.toNat * 1)) = some (.float .f64 x49) ∧
                    drM w42 fun w50 =>
                    CallsX P N.f_solve_below #[.agg #[.int .i64 n45, .slice s46a s46l s46c, .slice s47a s47l s47c], .int .i64 s40.1, .int .i64 (IntKind.i64.wrap ((IntKind.i64.wrap (((s15l : Nat) : Int) - 1)) - s34.1))] w50 fun v52 w51 =>
                    ∃ x53 : Nat, v52 = (.float .f64 x53) ∧
                    w51.cell? (a48.add (s40.1.toNat * 1)) = some (.float .f64 x49) ∧
                    w51.cell? (a43.add ((IntKind.i64.wrap ((IntKind.i64.wrap (((s15l : Nat) : Int) - 1)) - s34.1)).toNat * 1)) = some (.float .f64 x44) ∧
                    fresM (fmul x53 x49) w51 fun x54 w55 =>
                    fresM (fsub x44 x54) w51 fun x56 w57 =>
                    (0 : Int) ≤ (IntKind.i64.wrap ((IntKind.i64.wrap (((s15l : Nat) : Int) - 1)) - s34.1)) ∧ (IntKind.i64.wrap ((IntKind.i64.wrap (((s15l : Nat) : Int) - 1)) - s34.1)) < (s15l : Nat) ∧
                    optM s15a fun a58 =>
                    drM w51 fun w59 =>
                    stM (a58.add ((IntKind.i64.wrap ((IntKind.i64.wrap (((s15l : Nat) : Int) - 1)) - s34.1)).toNat * 1)) (.float .f64 x56) w59 fun w60 =>
                    drM w60 fun w61 =>
                    X41 ((IntKind.i64.wrap (s40.1 + 1)), ()) w61)
                  (J37 (()) w42))
                ((IntKind.i64.wrap ((IntKind.i64.wrap ((IntKind.i64.wrap (((s15l : Nat) : Int) - 1)) - s34.1)) + 1)), ()) w36)
              (fun s38 w39 =>
                X35 ((IntKind.i64.wrap (s34.1 + 1)), ()) w39))
            (J31 (()) w36))
          (0, ()) w19)
        (fun s32 w33 =>
          K (.tuple #[.slice s15a s15l s15c, .int .i64 0]) w33))))

/-- girder/girderref13.Back -/
def S_girderref13_Back (N : Nums) (P : Program) (q0_0 : Int) (q0_1 : Option Addr) (q0_1l q0_1c : Nat) (q0_2 : Option Addr) (q0_2l q0_2c : Nat) (q1 : Option Addr) (q1l q1c : Nat) (w : World) (K : Value → World → Prop) : Prop :=
  newM #[.int .i64 q0_0, .slice q0_1 q0_1l q0_1c, .slice q0_2 q0_2l q0_2c] N.t_Factor w fun p1 w2 =>
  cutM (σ := Bool × Unit) (fun J3 =>
    ∃ n6 : Int, w2.cell? p1 = some (.int .i64 n6) ∧
    ∃ (s7a : Option Addr) (s7l s7c : Nat), w2.cell? (p1.add 1) = some (.slice s7a s7l s7c) ∧
    ∃ (s8a : Option Addr) (s8l s8c : Nat), w2.cell? (p1.add 2) = some (.slice s8a s8l s8c) ∧
    CallsX P N.f_girderref13_Right #[.agg #[.int .i64 n6, .slice s7a s7l s7c, .slice s8a s8l s8c]] w2 fun v10 w9 =>
    ∃ b11 : Bool, v10 = (.bool b11) ∧
    cond (!(!b11))
    (∃ n12 : Int, w9.cell? p1 = some (.int .i64 n12) ∧
      J3 ((((q1l : Nat) : Int) != n12), ()) w9)
    (J3 (true, ()) w9))
  (fun s4 w5 =>
    cond s4.1
    (K (.tuple #[.slice none 0 0, .int .i64 4]) w5)
    (∃ n13 : Int, w5.cell? p1 = some (.int .i64 n13) ∧
      ∃ (s14a : Option Addr) (s14l s14c : Nat), w5.cell? (p1.add 1) = some (.slice s14a s14l s14c) ∧
      ∃ (s15a : Option Addr) (s15l s15c : Nat), w5.cell? (p1.add 2) = some (.slice s15a s15l s15c) ∧
      CallsX P N.f_girderref13_zero #[.agg #[.int .i64 n13, .slice s14a s14l s14c, .slice s15a s15l s15c]] w5 fun v17 w16 =>
      ∃ b18 : Bool, v17 = (.bool b18) ∧
      cond b18
      (K (.tuple #[.slice none 0 0, .int .i64 7]) w16)
      (∃ n19 : Int, w16.cell? p1 = some (.int .i64 n19) ∧
        mkM N.t_float64 1 8 #[.float .f64 0] n19 n19 w16 fun p20 w21 =>
        ∃ n22 : Int, w21.cell? p1 = some (.int .i64 n22) ∧
        cutM (σ := Unit) (fun J23 =>
          loopM (σ := Int × Unit) (fun s26 X27 w28 =>
            cond (decide (s26.1 ≥ 0))
            ((0 : Int) ≤ s26.1 ∧ s26.1 < (q1l : Nat) ∧
              optM q1 fun a29 =>
              ∃ x30 : Nat, w28.cell? (a29.add (s26.1.toNat * 1)) = some (.float .f64 x30) ∧
              ∃ (s31a : Option Addr) (s31l s31c : Nat), w28.cell? (p1.add 2) = some (.slice s31a s31l s31c) ∧
              (0 : Int) ≤ s26.1 ∧ s26.1 < (s31l : Nat) ∧
              optM s31a fun a32 =>
              ∃ x33 : Nat, w28.cell? (a32.add (s26.1.toNat * 1)) = some (.float .f64 x33) ∧
              fresM (fdiv x30 x33) w28 fun x34 w35 =>
              drM w28 fun w36 =>
              cutM (σ := Nat × Unit) (fun J37 =>
                loopM (σ := Nat × Int × Unit) (fun s40 X41 w42 =>
                  ∃ n43 : Int, w42.cell? p1 = some (.int .i64 n43) ∧
                  cond (decide (s40.2.1 < n43))
                  (∃ n44 : Int, w42.cell? p1 = some (.int .i64 n44) ∧
                    ∃ (s45a : Option Addr) (s45l s45c : Nat), w42.cell? (p1.add 1) = some (.slice s45a s45l s45c) ∧
                    ∃ (s46a : Option Addr) (s46l s46c : Nat), w42.cell? (p1.add 2) = some (.slice s46a s46l s46c) ∧
                    (0 : Int) ≤ s40.2.1 ∧ s40.2.1 < (n19.toNat : Nat) ∧
                    ∃ x47 : Nat, w42.cell? (p20.add (s40.2.1.toNat * 1)) = some (.float .f64 x47) ∧
                    drM w42 fun w48 =>
                    CallsX P N.f_girderref13_at #[.agg #[.int .i64 n44, .slice s45a s45l s45c, .slice s46a s46l s46c], .int .i64 s40.2.1, .int .i64 s26.1] w48 fun v50 w49 =>
                    ∃ x51 : Nat, v50 = (.float .f64 x51) ∧
                    w49.cell? (p20.add (s40.2.1.toNat * 1)) = some (.float .f64 x47) ∧
                    fresM (fmul x51 x47) w49 fun x52 w53 =>
                    drM w49 fun w54 =>
                    fresM (fsub s40.1 x52) w54 fun x55 w56 =>
                    X41 (x55, (IntKind.i64.wrap (s40.2.1 + 1)), ()) w56)
                  (J37 (s40.1, ()) w42))
                (x34, (IntKind.i64.wrap (s26.1 + 1)), ()) w36)
              (fun s38 w39 =>
                (0 : Int) ≤ s26.1 ∧ s26.1 < (n19.toNat : Nat) ∧
                stM (p20.add (s26.1.toNat * 1)) (.float .f64 s38.1) w39 fun w57 =>
                X27 ((IntKind.i64.wrap (s26.1 - 1)), ()) w57))
            (J23 (()) w28))
          ((IntKind.i64.wrap (n22 - 1)), ()) w21)
        (fun s24 w25 =>
          K (.tuple #[.slice (some p20) n19.toNat n19.toNat, .int .i64 0]) w25))))

/-- girder/solve.Solve -/
def S_solve_Solve (N : Nums) (P : Program) (q0_0 : Int) (q0_1 : Option Addr) (q0_1l q0_1c : Nat) (q0_2 : Option Addr) (q0_2l q0_2c : Nat) (q1 : Option Addr) (q1l q1c : Nat) (w : World) (K : Value → World → Prop) : Prop :=
  newM #[.int .i64 q0_0, .slice q0_1 q0_1l q0_1c, .slice q0_2 q0_2l q0_2c] N.t_Factor w fun p1 w2 =>
  ∃ n3 : Int, w2.cell? p1 = some (.int .i64 n3) ∧
  ∃ (s4a : Option Addr) (s4l s4c : Nat), w2.cell? (p1.add 1) = some (.slice s4a s4l s4c) ∧
  ∃ (s5a : Option Addr) (s5l s5c : Nat), w2.cell? (p1.add 2) = some (.slice s5a s5l s5c) ∧
  CallsX P N.f_solve_Forward #[.agg #[.int .i64 n3, .slice s4a s4l s4c, .slice s5a s5l s5c], .slice q1 q1l q1c] w2 fun v7 w6 =>
  ∃ (s8a : Option Addr) (s8l s8c : Nat), ∃ n9 : Int, v7 = (.tuple #[.slice s8a s8l s8c, .int .i64 n9]) ∧
  cond (n9 != 0)
  (K (.tuple #[.slice none 0 0, .int .i64 n9]) w6)
  (∃ n10 : Int, w6.cell? p1 = some (.int .i64 n10) ∧
    ∃ (s11a : Option Addr) (s11l s11c : Nat), w6.cell? (p1.add 1) = some (.slice s11a s11l s11c) ∧
    ∃ (s12a : Option Addr) (s12l s12c : Nat), w6.cell? (p1.add 2) = some (.slice s12a s12l s12c) ∧
    CallsX P N.f_solve_Back #[.agg #[.int .i64 n10, .slice s11a s11l s11c, .slice s12a s12l s12c], .slice s8a s8l s8c] w6 fun v14 w13 =>
    ∃ (s15a : Option Addr) (s15l s15c : Nat), ∃ n16 : Int, v14 = (.tuple #[.slice s15a s15l s15c, .int .i64 n16]) ∧
    K (.tuple #[.slice s15a s15l s15c, .int .i64 n16]) w13)

/-- girder/girderref13.Solve -/
def S_girderref13_Solve (N : Nums) (P : Program) (q0_0 : Int) (q0_1 : Option Addr) (q0_1l q0_1c : Nat) (q0_2 : Option Addr) (q0_2l q0_2c : Nat) (q1 : Option Addr) (q1l q1c : Nat) (w : World) (K : Value → World → Prop) : Prop :=
  newM #[.int .i64 q0_0, .slice q0_1 q0_1l q0_1c, .slice q0_2 q0_2l q0_2c] N.t_Factor w fun p1 w2 =>
  ∃ n3 : Int, w2.cell? p1 = some (.int .i64 n3) ∧
  ∃ (s4a : Option Addr) (s4l s4c : Nat), w2.cell? (p1.add 1) = some (.slice s4a s4l s4c) ∧
  ∃ (s5a : Option Addr) (s5l s5c : Nat), w2.cell? (p1.add 2) = some (.slice s5a s5l s5c) ∧
  CallsX P N.f_girderref13_Forward #[.agg #[.int .i64 n3, .slice s4a s4l s4c, .slice s5a s5l s5c], .slice q1 q1l q1c] w2 fun v7 w6 =>
  ∃ (s8a : Option Addr) (s8l s8c : Nat), ∃ n9 : Int, v7 = (.tuple #[.slice s8a s8l s8c, .int .i64 n9]) ∧
  cond (n9 != 0)
  (K (.tuple #[.slice none 0 0, .int .i64 n9]) w6)
  (∃ n10 : Int, w6.cell? p1 = some (.int .i64 n10) ∧
    ∃ (s11a : Option Addr) (s11l s11c : Nat), w6.cell? (p1.add 1) = some (.slice s11a s11l s11c) ∧
    ∃ (s12a : Option Addr) (s12l s12c : Nat), w6.cell? (p1.add 2) = some (.slice s12a s12l s12c) ∧
    CallsX P N.f_girderref13_Back #[.agg #[.int .i64 n10, .slice s11a s11l s11c, .slice s12a s12l s12c], .slice s8a s8l s8c] w6 fun v14 w13 =>
    ∃ (s15a : Option Addr) (s15l s15c : Nat), ∃ n16 : Int, v14 = (.tuple #[.slice s15a s15l s15c, .int .i64 n16]) ∧
    K (.tuple #[.slice s15a s15l s15c, .int .i64 n16]) w13)

/-- girder/solve.Inverse -/
def S_solve_Inverse (N : Nums) (P : Program) (q0_0 : Int) (q0_1 : Option Addr) (q0_1l q0_1c : Nat) (q0_2 : Option Addr) (q0_2l q0_2c : Nat) (w : World) (K : Value → World → Prop) : Prop :=
  newM #[.int .i64 q0_0, .slice q0_1 q0_1l q0_1c, .slice q0_2 q0_2l q0_2c] N.t_Factor w fun p1 w2 =>
  newM #[.int .i64 0, .int .i64 0, .slice none 0 0] N.t_Matrix w2 fun p3 w4 =>
  ∃ n5 : Int, w4.cell? p1 = some (.int .i64 n5) ∧
  ∃ (s6a : Option Addr) (s6l s6c : Nat), w4.cell? (p1.add 1) = some (.slice s6a s6l s6c) ∧
  ∃ (s7a : Option Addr) (s7l s7c : Nat), w4.cell? (p1.add 2) = some (.slice s7a s7l s7c) ∧
  ∃ n8 : Int, w4.cell? p1 = some (.int .i64 n8) ∧
  CallsX P N.f_solve_fits #[.agg #[.int .i64 n5, .slice s6a s6l s6c, .slice s7a s7l s7c], .int .i64 n8] w4 fun v10 w9 =>
  ∃ n11 : Int, v10 = (.int .i64 n11) ∧
  cond (n11 != 0)
  (stM p3 (.int .i64 0) w9 fun w12 =>
    stM (p3.add 1) (.int .i64 0) w12 fun w13 =>
    stM (p3.add 2) (.slice none 0 0) w13 fun w14 =>
    ∃ n15 : Int, w14.cell? p3 = some (.int .i64 n15) ∧
    ∃ n16 : Int, w14.cell? (p3.add 1) = some (.int .i64 n16) ∧
    ∃ (s17a : Option Addr) (s17l s17c : Nat), w14.cell? (p3.add 2) = some (.slice s17a s17l s17c) ∧
    K (.tuple #[.agg #[.int .i64 n15, .int .i64 n16, .slice s17a s17l s17c], .int .i64 n11]) w14)
  (∃ n18 : Int, w9.cell? p1 = some (.int .i64 n18) ∧
    CallsX P N.f_matrix_Identity #[.int .i64 n18] w9 fun v20 w19 =>
    ∃ n21 : Int, ∃ n22 : Int, ∃ (s23a : Option Addr) (s23l s23c : Nat), ∃ n24 : Int, v20 = (.tuple #[.agg #[.int .i64 n21, .int .i64 n22, .slice s23a s23l s23c], .int .i64 n24]) ∧
    newM #[.int .i64 0, .int .i64 0, .slice none 0 0] N.t_Matrix w19 fun p25 w26 =>
    stM p25 (.int .i64 n21) w26 fun w27 =>
    stM (p25.add 1) (.int .i64 n22) w27 fun w28 =>
    stM (p25.add 2) (.slice s23a s23l s23c) w28 fun w29 =>
    cond (n24 != 0)
    (stM p3 (.int .i64 0) w29 fun w30 =>
      stM (p3.add 1) (.int .i64 0) w30 fun w31 =>
      stM (p3.add 2) (.slice none 0 0) w31 fun w32 =>
      ∃ n33 : Int, w32.cell? p3 = some (.int .i64 n33) ∧
      ∃ n34 : Int, w32.cell? (p3.add 1) = some (.int .i64 n34) ∧
      ∃ (s35a : Option Addr) (s35l s35c : Nat), w32.cell? (p3.add 2) = some (.slice s35a s35l s35c) ∧
      K (.tuple #[.agg #[.int .i64 n33, .int .i64 n34, .slice s35a s35l s35c], .int .i64 n24]) w32)
    (∃ n36 : Int, w29.cell? p1 = some (.int .i64 n36) ∧
      ∃ n37 : Int, w29.cell? p1 = some (.int .i64 n37) ∧
      newM #[.int .i64 0, .int .i64 0, .slice none 0 0] N.t_Matrix w29 fun p38 w39 =>
      stM p38 (.int .i64 n36) w39 fun w40 =>
      stM (p38.add 1) (.int .i64 n37) w40 fun w41 =>
      stM (p38.add 2) (.slice none 0 0) w41 fun w42 =>
      ∃ n43 : Int, w42.cell? p1 = some (.int .i64 n43) ∧
      cutM (σ := Unit) (fun J44 =>
        loopM (σ := Int × Unit) (fun s47 X48 w49 =>
          cond (decide (s47.1 < n43))
          (∃ n50 : Int, w49.cell? p1 = some (.int .i64 n50) ∧
            ∃ (s51a : Option Addr) (s51l s51c : Nat), w49.cell? (p1.add 1) = some (.slice s51a s51l s51c) ∧
            ∃ (s52a : Option Addr) (s52l s52c : Nat), w49.cell? (p1.add 2) = some (.slice s52a s52l s52c) ∧
            ∃ (s53a : Option Addr) (s53l s53c : Nat), w49.cell? (p25.add 2) = some (.slice s53a s53l s53c) ∧
            ∃ n54 : Int, w49.cell? p1 = some (.int .i64 n54) ∧
            ∃ n55 : Int, w49.cell? p1 = some (.int .i64 n55) ∧
            (0 : Int) ≤ (IntKind.i64.wrap ((IntKind.i64.wrap (s47.1 + 1)) * n55)) ∧ (IntKind.i64.wrap ((IntKind.i64.wrap (s47.1 + 1)) * n55)) ≤ (s53c : Nat) ∧ (0 : Int) ≤ (IntKind.i64.wrap (s47.1 * n54)) ∧ (IntKind.i64.wrap (s47.1 * n54)) ≤ (IntKind.i64.wrap ((IntKind.i64.wrap (s47.1 + 1)) * n55)) ∧
            drM w49 fun w56 =>
            CallsX P N.f_solve_Solve #[.agg #[.int .i64 n50, .slice s51a s51l s51c, .slice s52a s52l s52c], .slice (slBase s53a ((IntKind.i64.wrap (s47.1 * n54)).toNat) s53c 1) ((IntKind.i64.wrap ((IntKind.i64.wrap (s47.1 + 1)) * n55)).toNat - (IntKind.i64.wrap (s47.1 * n54)).toNat) (s53c - (IntKind.i64.wrap (s47.1 * n54)).toNat)] w56 fun v58 w57 =>
            ∃ (s59a : Option Addr) (s59l s59c : Nat), ∃ n60 : Int, v58 = (.tuple #[.slice s59a s59l s59c, .int .i64 n60]) ∧
            w57.cell? p1 = some (.int .i64 n55) ∧
            w57.cell? p1 = some (.int .i64 n54) ∧
            w57.cell? (p25.add 2) = some (.slice s53a s53l s53c) ∧
            drM w57 fun w61 =>
            cond (n60 != 0)
            (stM p3 (.int .i64 0) w61 fun w62 =>
              stM (p3.add 1) (.int .i64 0) w62 fun w63 =>
              stM (p3.add 2) (.slice none 0 0) w63 fun w64 =>
              ∃ n65 : Int, w64.cell? p3 = some (.int .i64 n65) ∧
              ∃ n66 : Int, w64.cell? (p3.add 1) = some (.int .i64 n66) ∧
              ∃ (s67a : Option Addr) (s67l s67c : Nat), w64.cell? (p3.add 2) = some (.slice s67a s67l s67c) ∧
              K (.tuple #[.agg #[.int .i64 n65, .int .i64 n66, .slice s67a s67l s67c], .int .i64 n60]) w64)
            (∃ (s68a : Option Addr) (s68l s68c : Nat), w61.cell? (p38.add 2) = some (.slice s68a s68l s68c) ∧
              appM N.t_float64 1 8 #[.float .f64 0] s68a s68l s68c s59a s59l w61 fun s69a s69l s69c w70 =>
              stM (p38.add 2) (.slice s69a s69l s69c) w70 fun w71 =>
              X48 ((IntKind.i64.wrap (s47.1 + 1)), ()) w71))
          (J44 (()) w49))
        (0, ()) w42)
      (fun s45 w46 =>
        ∃ n72 : Int, w46.cell? p38 = some (.int .i64 n72) ∧
        ∃ n73 : Int, w46.cell? (p38.add 1) = some (.int .i64 n73) ∧
        ∃ (s74a : Option Addr) (s74l s74c : Nat), w46.cell? (p38.add 2) = some (.slice s74a s74l s74c) ∧
        CallsX P N.f_matrix_Transpose #[.agg #[.int .i64 n72, .int .i64 n73, .slice s74a s74l s74c]] w46 fun v76 w75 =>
        ∃ n77 : Int, ∃ n78 : Int, ∃ (s79a : Option Addr) (s79l s79c : Nat), ∃ n80 : Int, v76 = (.tuple #[.agg #[.int .i64 n77, .int .i64 n78, .slice s79a s79l s79c], .int .i64 n80]) ∧
        stM p3 (.int .i64 n77) w75 fun w81 =>
        stM (p3.add 1) (.int .i64 n78) w81 fun w82 =>
        stM (p3.add 2) (.slice s79a s79l s79c) w82 fun w83 =>
        ∃ n84 : Int, w83.cell? p3 = some (.int .i64 n84) ∧
        ∃ n85 : Int, w83.cell? (p3.add 1) = some (.int .i64 n85) ∧
        ∃ (s86a : Option Addr) (s86l s86c : Nat), w83.cell? (p3.add 2) = some (.slice s86a s86l s86c) ∧
        K (.tuple #[.agg #[.int .i64 n84, .int .i64 n85, .slice s86a s86l s86c], .int .i64 n80]) w83)))

/-- girder/girderref13.Inverse -/
def S_girderref13_Inverse (N : Nums) (P : Program) (q0_0 : Int) (q0_1 : Option Addr) (q0_1l q0_1c : Nat) (q0_2 : Option Addr) (q0_2l q0_2c : Nat) (w : World) (K : Value → World → Prop) : Prop :=
  newM #[.int .i64 q0_0, .slice q0_1 q0_1l q0_1c, .slice q0_2 q0_2l q0_2c] N.t_Factor w fun p1 w2 =>
  newM #[.int .i64 0, .int .i64 0, .slice none 0 0] N.t_Matrix w2 fun p3 w4 =>
  ∃ n5 : Int, w4.cell? p1 = some (.int .i64 n5) ∧
  ∃ (s6a : Option Addr) (s6l s6c : Nat), w4.cell? (p1.add 1) = some (.slice s6a s6l s6c) ∧
  ∃ (s7a : Option Addr) (s7l s7c : Nat), w4.cell? (p1.add 2) = some (.slice s7a s7l s7c) ∧
  CallsX P N.f_girderref13_Right #[.agg #[.int .i64 n5, .slice s6a s6l s6c, .slice s7a s7l s7c]] w4 fun v9 w8 =>
  ∃ b10 : Bool, v9 = (.bool b10) ∧
  cond (!b10)
  (stM p3 (.int .i64 0) w8 fun w11 =>
    stM (p3.add 1) (.int .i64 0) w11 fun w12 =>
    stM (p3.add 2) (.slice none 0 0) w12 fun w13 =>
    ∃ n14 : Int, w13.cell? p3 = some (.int .i64 n14) ∧
    ∃ n15 : Int, w13.cell? (p3.add 1) = some (.int .i64 n15) ∧
    ∃ (s16a : Option Addr) (s16l s16c : Nat), w13.cell? (p3.add 2) = some (.slice s16a s16l s16c) ∧
    K (.tuple #[.agg #[.int .i64 n14, .int .i64 n15, .slice s16a s16l s16c], .int .i64 4]) w13)
  (∃ n17 : Int, w8.cell? p1 = some (.int .i64 n17) ∧
    ∃ (s18a : Option Addr) (s18l s18c : Nat), w8.cell? (p1.add 1) = some (.slice s18a s18l s18c) ∧
    ∃ (s19a : Option Addr) (s19l s19c : Nat), w8.cell? (p1.add 2) = some (.slice s19a s19l s19c) ∧
    CallsX P N.f_girderref13_zero #[.agg #[.int .i64 n17, .slice s18a s18l s18c, .slice s19a s19l s19c]] w8 fun v21 w20 =>
    ∃ b22 : Bool, v21 = (.bool b22) ∧
    cond b22
    (stM p3 (.int .i64 0) w20 fun w23 =>
      stM (p3.add 1) (.int .i64 0) w23 fun w24 =>
      stM (p3.add 2) (.slice none 0 0) w24 fun w25 =>
      ∃ n26 : Int, w25.cell? p3 = some (.int .i64 n26) ∧
      ∃ n27 : Int, w25.cell? (p3.add 1) = some (.int .i64 n27) ∧
      ∃ (s28a : Option Addr) (s28l s28c : Nat), w25.cell? (p3.add 2) = some (.slice s28a s28l s28c) ∧
      K (.tuple #[.agg #[.int .i64 n26, .int .i64 n27, .slice s28a s28l s28c], .int .i64 7]) w25)
    (cutM (σ := (Option Addr) × Unit) (fun J29 =>
        ∃ n32 : Int, w20.cell? p1 = some (.int .i64 n32) ∧
        ∃ n33 : Int, w20.cell? p1 = some (.int .i64 n33) ∧
        ∃ n34 : Int, w20.cell? p1 = some (.int .i64 n34) ∧
        ∃ n35 : Int, w20.cell? p1 = some (.int .i64 n35) ∧
        (drM w20 fun w36 =>
          mkM N.t_float64 1 8 #[.float .f64 0] (IntKind.i64.wrap (n34 * n35)) (IntKind.i64.wrap (n34 * n35)) w36 fun p37 w38 =>
          w38.cell? p1 = some (.int .i64 n35) ∧
          w38.cell? p1 = some (.int .i64 n34) ∧
          w38.cell? p1 = some (.int .i64 n33) ∧
          w38.cell? p1 = some (.int .i64 n32) ∧
          drM w38 fun w39 =>
          newM #[.int .i64 0, .int .i64 0, .slice none 0 0] N.t_Matrix w39 fun p40 w41 =>
          w41.cell? p1 = some (.int .i64 n35) ∧
          w41.cell? p1 = some (.int .i64 n34) ∧
          w41.cell? p1 = some (.int .i64 n33) ∧
          w41.cell? p1 = some (.int .i64 n32) ∧
          drM w41 fun w42 =>
          stM p40 (.int .i64 n32) w42 fun w43 =>
          stM (p40.add 1) (.int .i64 n33) w43 fun w44 =>
          stM (p40.add 2) (.slice (some p37) ((IntKind.i64.wrap (n34 * n35)).toNat) ((IntKind.i64.wrap (n34 * n35)).toNat)) w44 fun w45 =>
          drM w45 fun w46 =>
          J29 ((some p40), ()) w46) ∧
        (drM w20 fun w47 =>
          newM #[.int .i64 0, .int .i64 0, .slice none 0 0] N.t_Matrix w47 fun p48 w49 =>
          w49.cell? p1 = some (.int .i64 n35) ∧
          w49.cell? p1 = some (.int .i64 n34) ∧
          w49.cell? p1 = some (.int .i64 n33) ∧
          w49.cell? p1 = some (.int .i64 n32) ∧
          drM w49 fun w50 =>
          mkM N.t_float64 1 8 #[.float .f64 0] (IntKind.i64.wrap (n34 * n35)) (IntKind.i64.wrap (n34 * n35)) w50 fun p51 w52 =>
          w52.cell? p1 = some (.int .i64 n35) ∧
          w52.cell? p1 = some (.int .i64 n34) ∧
          w52.cell? p1 = some (.int .i64 n33) ∧
          w52.cell? p1 = some (.int .i64 n32) ∧
          drM w52 fun w53 =>
          stM p48 (.int .i64 n32) w53 fun w54 =>
          stM (p48.add 1) (.int .i64 n33) w54 fun w55 =>
          stM (p48.add 2) (.slice (some p51) ((IntKind.i64.wrap (n34 * n35)).toNat) ((IntKind.i64.wrap (n34 * n35)).toNat)) w55 fun w56 =>
          drM w56 fun w57 =>
          J29 ((some p48), ()) w57))
      (fun s30 w31 =>
        cutM (σ := Unit) (fun J58 =>
          loopM (σ := Int × Unit) (fun s61 X62 w63 =>
            ∃ n64 : Int, w63.cell? p1 = some (.int .i64 n64) ∧
            cond (decide (s61.1 < n64))
            (∃ n65 : Int, w63.cell? p1 = some (.int .i64 n65) ∧
              mkM N.t_float64 1 8 #[.float .f64 0] n65 n65 w63 fun p66 w67 =>
              (0 : Int) ≤ s61.1 ∧ s61.1 < (n65.toNat : Nat) ∧
              stM (p66.add (s61.1.toNat * 1)) (.float .f64 4607182418800017408) w67 fun w68 =>
              ∃ n69 : Int, w68.cell? p1 = some (.int .i64 n69) ∧
              ∃ (s70a : Option Addr) (s70l s70c : Nat), w68.cell? (p1.add 1) = some (.slice s70a s70l s70c) ∧
              ∃ (s71a : Option Addr) (s71l s71c : Nat), w68.cell? (p1.add 2) = some (.slice s71a s71l s71c) ∧
              CallsX P N.f_girderref13_Solve #[.agg #[.int .i64 n69, .slice s70a s70l s70c, .slice s71a s71l s71c], .slice (some p66) n65.toNat n65.toNat] w68 fun v73 w72 =>
              ∃ (s74a : Option Addr) (s74l s74c : Nat), ∃ n75 : Int, v73 = (.tuple #[.slice s74a s74l s74c, .int .i64 n75]) ∧
              cutM (σ := Unit) (fun J76 =>
                loopM (σ := Int × Unit) (fun s79 X80 w81 =>
                  ∃ n82 : Int, w81.cell? p1 = some (.int .i64 n82) ∧
                  cond (decide (s79.1 < n82))
                  (optM s30.1 fun a83 =>
                    ∃ (s84a : Option Addr) (s84l s84c : Nat), w81.cell? (a83.add 2) = some (.slice s84a s84l s84c) ∧
                    ∃ n85 : Int, w81.cell? p1 = some (.int .i64 n85) ∧
                    (0 : Int) ≤ s79.1 ∧ s79.1 < (s74l : Nat) ∧
                    optM s74a fun a86 =>
                    ∃ x87 : Nat, w81.cell? (a86.add (s79.1.toNat * 1)) = some (.float .f64 x87) ∧
                    (0 : Int) ≤ (IntKind.i64.wrap ((IntKind.i64.wrap (s79.1 * n85)) + s61.1)) ∧ (IntKind.i64.wrap ((IntKind.i64.wrap (s79.1 * n85)) + s61.1)) < (s84l : Nat) ∧
                    optM s84a fun a88 =>
                    drM w81 fun w89 =>
                    stM (a88.add ((IntKind.i64.wrap ((IntKind.i64.wrap (s79.1 * n85)) + s61.1)).toNat * 1)) (.float .f64 x87) w89 fun w90 =>
                    drM w90 fun w91 =>
                    X80 ((IntKind.i64.wrap (s79.1 + 1)), ()) w91)
                  (J76 (()) w81))
                (0, ()) w72)
              (fun s77 w78 =>
                X62 ((IntKind.i64.wrap (s61.1 + 1)), ()) w78))
            (J58 (()) w63))
          (0, ()) w31)
        (fun s59 w60 =>
          optM s30.1 fun a92 =>
          ∃ n93 : Int, w60.cell? a92 = some (.int .i64 n93) ∧
          ∃ n94 : Int, w60.cell? (a92.add 1) = some (.int .i64 n94) ∧
          ∃ (s95a : Option Addr) (s95l s95c : Nat), w60.cell? (a92.add 2) = some (.slice s95a s95l s95c) ∧
          stM p3 (.int .i64 n93) w60 fun w96 =>
          stM (p3.add 1) (.int .i64 n94) w96 fun w97 =>
          stM (p3.add 2) (.slice s95a s95l s95c) w97 fun w98 =>
          ∃ n99 : Int, w98.cell? p3 = some (.int .i64 n99) ∧
          ∃ n100 : Int, w98.cell? (p3.add 1) = some (.int .i64 n100) ∧
          ∃ (s101a : Option Addr) (s101l s101c : Nat), w98.cell? (p3.add 2) = some (.slice s101a s101l s101c) ∧
          K (.tuple #[.agg #[.int .i64 n99, .int .i64 n100, .slice s101a s101l s101c], .int .i64 0]) w98))))

/-- girder/girderkit.SameMatrix -/
def S_girderkit_SameMatrix (N : Nums) (P : Program) (q0_0 : Int) (q0_1 : Int) (q0_2 : Option Addr) (q0_2l q0_2c : Nat) (q1_0 : Int) (q1_1 : Int) (q1_2 : Option Addr) (q1_2l q1_2c : Nat) (w : World) (K : Value → World → Prop) : Prop :=
  newM #[.int .i64 q0_0, .int .i64 q0_1, .slice q0_2 q0_2l q0_2c] N.t_Matrix w fun p1 w2 =>
  newM #[.int .i64 q1_0, .int .i64 q1_1, .slice q1_2 q1_2l q1_2c] N.t_Matrix w2 fun p3 w4 =>
  ∃ n5 : Int, w4.cell? p1 = some (.int .i64 n5) ∧
  ∃ n6 : Int, w4.cell? p3 = some (.int .i64 n6) ∧
  cond (n5 == n6)
  (∃ n7 : Int, w4.cell? (p1.add 1) = some (.int .i64 n7) ∧
    ∃ n8 : Int, w4.cell? (p3.add 1) = some (.int .i64 n8) ∧
    cond (n7 == n8)
    (∃ (s9a : Option Addr) (s9l s9c : Nat), w4.cell? (p1.add 2) = some (.slice s9a s9l s9c) ∧
      ∃ (s10a : Option Addr) (s10l s10c : Nat), w4.cell? (p3.add 2) = some (.slice s10a s10l s10c) ∧
      CallsX P N.f_girderkit_SameReals #[.slice s9a s9l s9c, .slice s10a s10l s10c] w4 fun v12 w11 =>
      ∃ b13 : Bool, v12 = (.bool b13) ∧
      K (.bool b13) w11)
    (K (.bool false) w4))
  (K (.bool false) w4)

/-- girder/girderkit.KeptFactor -/
def S_girderkit_KeptFactor (N : Nums) (P : Program) (q0_0 : Int) (q0_1 : Option Addr) (q0_1l q0_1c : Nat) (q0_2 : Option Addr) (q0_2l q0_2c : Nat) (q1_0 : Int) (q1_1 : Option Addr) (q1_1l q1_1c : Nat) (q1_2 : Option Addr) (q1_2l q1_2c : Nat) (w : World) (K : Value → World → Prop) : Prop :=
  newM #[.int .i64 q0_0, .slice q0_1 q0_1l q0_1c, .slice q0_2 q0_2l q0_2c] N.t_Factor w fun p1 w2 =>
  newM #[.int .i64 q1_0, .slice q1_1 q1_1l q1_1c, .slice q1_2 q1_2l q1_2c] N.t_Factor w2 fun p3 w4 =>
  ∃ n5 : Int, w4.cell? p1 = some (.int .i64 n5) ∧
  ∃ (s6a : Option Addr) (s6l s6c : Nat), w4.cell? (p1.add 1) = some (.slice s6a s6l s6c) ∧
  ∃ (s7a : Option Addr) (s7l s7c : Nat), w4.cell? (p1.add 2) = some (.slice s7a s7l s7c) ∧
  ∃ n8 : Int, w4.cell? p3 = some (.int .i64 n8) ∧
  ∃ (s9a : Option Addr) (s9l s9c : Nat), w4.cell? (p3.add 1) = some (.slice s9a s9l s9c) ∧
  ∃ (s10a : Option Addr) (s10l s10c : Nat), w4.cell? (p3.add 2) = some (.slice s10a s10l s10c) ∧
  CallsX P N.f_girderkit_SameFactor #[.agg #[.int .i64 n5, .slice s6a s6l s6c, .slice s7a s7l s7c], .agg #[.int .i64 n8, .slice s9a s9l s9c, .slice s10a s10l s10c]] w4 fun v12 w11 =>
  ∃ b13 : Bool, v12 = (.bool b13) ∧
  cond b13
  (∃ (s14a : Option Addr) (s14l s14c : Nat), w11.cell? (p1.add 1) = some (.slice s14a s14l s14c) ∧
    ∃ (s15a : Option Addr) (s15l s15c : Nat), w11.cell? (p3.add 1) = some (.slice s15a s15l s15c) ∧
    CallsX P N.f_girderkit_KeptReals #[.slice s14a s14l s14c, .slice s15a s15l s15c] w11 fun v17 w16 =>
    ∃ b18 : Bool, v17 = (.bool b18) ∧
    cond b18
    (∃ (s19a : Option Addr) (s19l s19c : Nat), w16.cell? (p1.add 2) = some (.slice s19a s19l s19c) ∧
      ∃ (s20a : Option Addr) (s20l s20c : Nat), w16.cell? (p3.add 2) = some (.slice s20a s20l s20c) ∧
      CallsX P N.f_girderkit_KeptReals #[.slice s19a s19l s19c, .slice s20a s20l s20c] w16 fun v22 w21 =>
      ∃ b23 : Bool, v22 = (.bool b23) ∧
      K (.bool b23) w21)
    (K (.bool false) w16))
  (K (.bool false) w11)

/-- girder/girderkit.KeptReals -/
def S_girderkit_KeptReals (N : Nums) (P : Program) (q0 : Option Addr) (q0l q0c : Nat) (q1 : Option Addr) (q1l q1c : Nat) (w : World) (K : Value → World → Prop) : Prop :=
  cond (((q0l : Nat) : Int) != ((q1l : Nat) : Int))
  (K (.bool false) w)
  ((0 : Int) ≤ (IntKind.i64.wrap (((q1l : Nat) : Int) + 12)) ∧ (IntKind.i64.wrap (((q1l : Nat) : Int) + 12)) ≤ (q0c : Nat) ∧
    cutM (σ := Unit) (fun J1 =>
      loopM (σ := Int × Unit) (fun s4 X5 w6 =>
        cond (decide (s4.1 < (((IntKind.i64.wrap (((q1l : Nat) : Int) + 12)).toNat : Nat) : Int)))
        (cond (decide (s4.1 < ((q1l : Nat) : Int)))
          ((0 : Int) ≤ s4.1 ∧ s4.1 < ((IntKind.i64.wrap (((q1l : Nat) : Int) + 12)).toNat : Nat) ∧
            optM (slBase q0 0 q0c 1) fun a7 =>
            ∃ x8 : Nat, w6.cell? (a7.add (s4.1.toNat * 1)) = some (.float .f64 x8) ∧
            (0 : Int) ≤ s4.1 ∧ s4.1 < (q1l : Nat) ∧
            optM q1 fun a9 =>
            ∃ x10 : Nat, w6.cell? (a9.add (s4.1.toNat * 1)) = some (.float .f64 x10) ∧
            drM w6 fun w11 =>
            CallsX P N.f_girderkit_SameFloat #[.float .f64 x8, .float .f64 x10] w11 fun v13 w12 =>
            ∃ b14 : Bool, v13 = (.bool b14) ∧
            cond (!(!b14))
            (cond (decide (s4.1 ≥ ((q1l : Nat) : Int)))
              ((0 : Int) ≤ s4.1 ∧ s4.1 < ((IntKind.i64.wrap (((q1l : Nat) : Int) + 12)).toNat : Nat) ∧
                optM (slBase q0 0 q0c 1) fun a15 =>
                ∃ x16 : Nat, w12.cell? (a15.add (s4.1.toNat * 1)) = some (.float .f64 x16) ∧
                drM w12 fun w17 =>
                CallsX P N.f_girderkit_mark #[.int .i64 1, .int .i64 (IntKind.i64.wrap (s4.1 - ((q1l : Nat) : Int)))] w17 fun v19 w18 =>
                ∃ n20 : Int, v19 = (.int .i64 n20) ∧
                w18.cell? (a15.add (s4.1.toNat * 1)) = some (.float .f64 x16) ∧
                drM w18 fun w21 =>
                cond (!(feq x16 (FloatKind.f64.nearest n20)))
                (K (.bool false) w21)
                (X5 ((IntKind.i64.wrap (s4.1 + 1)), ()) w21))
              (drM w12 fun w22 =>
                drM w22 fun w23 =>
                X5 ((IntKind.i64.wrap (s4.1 + 1)), ()) w23))
            (drM w12 fun w24 =>
              drM w24 fun w25 =>
              K (.bool false) w25))
          (drM w6 fun w26 =>
            cond (decide (s4.1 ≥ ((q1l : Nat) : Int)))
            ((0 : Int) ≤ s4.1 ∧ s4.1 < ((IntKind.i64.wrap (((q1l : Nat) : Int) + 12)).toNat : Nat) ∧
              optM (slBase q0 0 q0c 1) fun a27 =>
              ∃ x28 : Nat, w26.cell? (a27.add (s4.1.toNat * 1)) = some (.float .f64 x28) ∧
              drM w26 fun w29 =>
              CallsX P N.f_girderkit_mark #[.int .i64 1, .int .i64 (IntKind.i64.wrap (s4.1 - ((q1l : Nat) : Int)))] w29 fun v31 w30 =>
              ∃ n32 : Int, v31 = (.int .i64 n32) ∧
              w30.cell? (a27.add (s4.1.toNat * 1)) = some (.float .f64 x28) ∧
              drM w30 fun w33 =>
              cond (!(feq x28 (FloatKind.f64.nearest n32)))
              (K (.bool false) w33)
              (X5 ((IntKind.i64.wrap (s4.1 + 1)), ()) w33))
            (drM w26 fun w34 =>
              drM w34 fun w35 =>
              X5 ((IntKind.i64.wrap (s4.1 + 1)), ()) w35)))
        (J1 (()) w6))
      (0, ()) w)
    (fun s2 w3 =>
      K (.bool true) w3))

/-- girder/girderlaw13.awake -/
def S_girderlaw13_awake (N : Nums) (P : Program)  (w : World) (K : Value → World → Prop) : Prop :=
  CallsX P N.f_girderlaw13_two #[] w fun v2 w1 =>
  ∃ n3 : Int, ∃ (s4a : Option Addr) (s4l s4c : Nat), ∃ (s5a : Option Addr) (s5l s5c : Nat), v2 = (.agg #[.int .i64 n3, .slice s4a s4l s4c, .slice s5a s5l s5c]) ∧
  newM #[.float .f64 4613937818241073152, .float .f64 4621819117588971520] N.t_float64 w1 fun p6 w7 =>
  CallsX P N.f_solve_Solve #[.agg #[.int .i64 n3, .slice s4a s4l s4c, .slice s5a s5l s5c], .slice (some p6) 2 2] w7 fun v9 w8 =>
  ∃ (s10a : Option Addr) (s10l s10c : Nat), ∃ n11 : Int, v9 = (.tuple #[.slice s10a s10l s10c, .int .i64 n11]) ∧
  CallsX P N.f_girderlaw13_two #[] w8 fun v13 w12 =>
  ∃ n14 : Int, ∃ (s15a : Option Addr) (s15l s15c : Nat), ∃ (s16a : Option Addr) (s16l s16c : Nat), v13 = (.agg #[.int .i64 n14, .slice s15a s15l s15c, .slice s16a s16l s16c]) ∧
  CallsX P N.f_solve_Inverse #[.agg #[.int .i64 n14, .slice s15a s15l s15c, .slice s16a s16l s16c]] w12 fun v18 w17 =>
  ∃ n19 : Int, ∃ n20 : Int, ∃ (s21a : Option Addr) (s21l s21c : Nat), ∃ n22 : Int, v18 = (.tuple #[.agg #[.int .i64 n19, .int .i64 n20, .slice s21a s21l s21c], .int .i64 n22]) ∧
  newM #[.int .i64 0, .int .i64 0, .slice none 0 0] N.t_Matrix w17 fun p23 w24 =>
  stM p23 (.int .i64 n19) w24 fun w25 =>
  stM (p23.add 1) (.int .i64 n20) w25 fun w26 =>
  stM (p23.add 2) (.slice s21a s21l s21c) w26 fun w27 =>
  newM #[.float .f64 4607182418800017408, .float .f64 4607182418800017408] N.t_float64 w27 fun p28 w29 =>
  CallsX P N.f_girderlaw13_is #[.slice s10a s10l s10c, .int .i64 n11, .slice (some p28) 2 2, .int .i64 0] w29 fun v31 w30 =>
  ∃ b32 : Bool, v31 = (.bool b32) ∧
  cond b32
  (cond (n22 == 0)
    (∃ (s33a : Option Addr) (s33l s33c : Nat), w30.cell? (p23.add 2) = some (.slice s33a s33l s33c) ∧
      newM #[.float .f64 4611686018427387904, .float .f64 13826050856027422720, .float .f64 13826050856027422720, .float .f64 4598175219545276416] N.t_float64 w30 fun p34 w35 =>
      CallsX P N.f_girderkit_SameReals #[.slice s33a s33l s33c, .slice (some p34) 4 4] w35 fun v37 w36 =>
      ∃ b38 : Bool, v37 = (.bool b38) ∧
      K (.bool b38) w36)
    (K (.bool false) w30))
  (K (.bool false) w30)

/-- girder/girderlaw13.whole -/
def S_girderlaw13_whole (N : Nums) (P : Program) (q0 : Int) (q1 : Option Addr) (q1l q1c : Nat) (w : World) (K : Value → World → Prop) : Prop :=
  newM #[.int .i64 0, .slice none 0 0, .slice none 0 0] N.t_Factor w fun p1 w2 =>
  CallsX P N.f_girderkit_Pick #[.int .i64 q0, .int .i64 7] w2 fun v4 w3 =>
  ∃ n5 : Int, v4 = (.int .i64 n5) ∧
  newM #[.int .i64 0, .slice none 0 0, .slice none 0 0] N.t_Factor w3 fun p6 w7 =>
  stM p6 (.int .i64 n5) w7 fun w8 =>
  stM (p6.add 1) (.slice none 0 0) w8 fun w9 =>
  stM (p6.add 2) (.slice none 0 0) w9 fun w10 =>
  cutM (σ := Unit) (fun J11 =>
    loopM (σ := Int × Unit) (fun s14 X15 w16 =>
      ∃ n17 : Int, w16.cell? p6 = some (.int .i64 n17) ∧
      ∃ n18 : Int, w16.cell? p6 = some (.int .i64 n18) ∧
      (2 : Int) ≠ 0 ∧
      cond (decide (s14.1 < (IntKind.i64.wrap ((IntKind.i64.wrap (n17 * (IntKind.i64.wrap (n18 - 1)))).tdiv 2))))
      (∃ (s19a : Option Addr) (s19l s19c : Nat), w16.cell? (p6.add 1) = some (.slice s19a s19l s19c) ∧
        drM w16 fun w20 =>
        CallsX P N.f_girderlaw13_at #[.slice q1 q1l q1c, .int .i64 s14.1, .int .i64 3] w20 fun v22 w21 =>
        ∃ n23 : Int, v22 = (.int .i64 n23) ∧
        w21.cell? (p6.add 1) = some (.slice s19a s19l s19c) ∧
        drM w21 fun w24 =>
        newM #[.float .f64 (FloatKind.f64.nearest n23)] N.t_float64 w24 fun p25 w26 =>
        w26.cell? (p6.add 1) = some (.slice s19a s19l s19c) ∧
        drM w26 fun w27 =>
        appM N.t_float64 1 8 #[.float .f64 0] s19a s19l s19c (some p25) 1 w27 fun s28a s28l s28c w29 =>
        drM w29 fun w30 =>
        stM (p6.add 1) (.slice s28a s28l s28c) w30 fun w31 =>
        drM w31 fun w32 =>
        X15 ((IntKind.i64.wrap (s14.1 + 1)), ()) w32)
      (J11 (()) w16))
    (0, ()) w10)
  (fun s12 w13 =>
    cutM (σ := Unit) (fun J33 =>
      loopM (σ := Int × Unit) (fun s36 X37 w38 =>
        ∃ n39 : Int, w38.cell? p6 = some (.int .i64 n39) ∧
        cond (decide (s36.1 < n39))
        (CallsX P N.f_girderlaw13_at #[.slice q1 q1l q1c, .int .i64 (IntKind.i64.wrap ((IntKind.i64.wrap (3 * s36.1)) + 1)), .int .i64 50] w38 fun v41 w40 =>
          ∃ n42 : Int, v41 = (.int .i64 n42) ∧
          cutM (σ := Int × Unit) (fun J43 =>
            cond (n42 == 0)
            (J43 (7, ()) w40)
            (J43 (n42, ()) w40))
          (fun s44 w45 =>
            ∃ (s46a : Option Addr) (s46l s46c : Nat), w45.cell? (p6.add 2) = some (.slice s46a s46l s46c) ∧
            newM #[.float .f64 (FloatKind.f64.nearest s44.1)] N.t_float64 w45 fun p47 w48 =>
            appM N.t_float64 1 8 #[.float .f64 0] s46a s46l s46c (some p47) 1 w48 fun s49a s49l s49c w50 =>
            stM (p6.add 2) (.slice s49a s49l s49c) w50 fun w51 =>
            X37 ((IntKind.i64.wrap (s36.1 + 1)), ()) w51))
        (J33 (()) w38))
      (0, ()) w13)
    (fun s34 w35 =>
      ∃ n52 : Int, w35.cell? p6 = some (.int .i64 n52) ∧
      ∃ (s53a : Option Addr) (s53l s53c : Nat), w35.cell? (p6.add 1) = some (.slice s53a s53l s53c) ∧
      ∃ (s54a : Option Addr) (s54l s54c : Nat), w35.cell? (p6.add 2) = some (.slice s54a s54l s54c) ∧
      stM p1 (.int .i64 n52) w35 fun w55 =>
      stM (p1.add 1) (.slice s53a s53l s53c) w55 fun w56 =>
      stM (p1.add 2) (.slice s54a s54l s54c) w56 fun w57 =>
      ∃ n58 : Int, w57.cell? p1 = some (.int .i64 n58) ∧
      ∃ (s59a : Option Addr) (s59l s59c : Nat), w57.cell? (p1.add 1) = some (.slice s59a s59l s59c) ∧
      ∃ (s60a : Option Addr) (s60l s60c : Nat), w57.cell? (p1.add 2) = some (.slice s60a s60l s60c) ∧
      K (.agg #[.int .i64 n58, .slice s59a s59l s59c, .slice s60a s60l s60c]) w57))

/-- girder/girderlaw13.at -/
def S_girderlaw13_at (N : Nums) (P : Program) (q0 : Option Addr) (q0l q0c : Nat) (q1 : Int) (q2 : Int) (w : World) (K : Value → World → Prop) : Prop :=
  cond (((q0l : Nat) : Int) == 0)
  (K (.int .i64 1) w)
  ((((q0l : Nat) : Int) : Int) ≠ 0 ∧
    (0 : Int) ≤ (q1.tmod ((q0l : Nat) : Int)) ∧ (q1.tmod ((q0l : Nat) : Int)) < (q0l : Nat) ∧
    optM q0 fun a1 =>
    ∃ n2 : Int, w.cell? (a1.add ((q1.tmod ((q0l : Nat) : Int)).toNat * 1)) = some (.int .i64 n2) ∧
    CallsX P N.f_girderkit_Pick #[.int .i64 n2, .int .i64 (IntKind.i64.wrap ((IntKind.i64.wrap (2 * q2)) + 1))] w fun v4 w3 =>
    ∃ n5 : Int, v4 = (.int .i64 n5) ∧
    K (.int .i64 (IntKind.i64.wrap (n5 - q2))) w3)

/-- girder/girderlaw13.entry -/
def S_girderlaw13_entry (N : Nums) (P : Program) (q0_0 : Int) (q0_1 : Option Addr) (q0_1l q0_1c : Nat) (q0_2 : Option Addr) (q0_2l q0_2c : Nat) (q1 : Int) (q2 : Int) (w : World) (K : Value → World → Prop) : Prop :=
  newM #[.int .i64 q0_0, .slice q0_1 q0_1l q0_1c, .slice q0_2 q0_2l q0_2c] N.t_Factor w fun p1 w2 =>
  cond (q1 == q2)
  (K (.int .i64 1) w2)
  (cond (decide (q2 > q1))
    (K (.int .i64 0) w2)
    (∃ (s3a : Option Addr) (s3l s3c : Nat), w2.cell? (p1.add 1) = some (.slice s3a s3l s3c) ∧
      (2 : Int) ≠ 0 ∧
      (0 : Int) ≤ (IntKind.i64.wrap ((IntKind.i64.wrap ((IntKind.i64.wrap (q1 * (IntKind.i64.wrap (q1 - 1)))).tdiv 2)) + q2)) ∧ (IntKind.i64.wrap ((IntKind.i64.wrap ((IntKind.i64.wrap (q1 * (IntKind.i64.wrap (q1 - 1)))).tdiv 2)) + q2)) < (s3l : Nat) ∧
      optM s3a fun a4 =>
      ∃ x5 : Nat, w2.cell? (a4.add ((IntKind.i64.wrap ((IntKind.i64.wrap ((IntKind.i64.wrap (q1 * (IntKind.i64.wrap (q1 - 1)))).tdiv 2)) + q2)).toNat * 1)) = some (.float .f64 x5) ∧
      f2iM x5 .i64 w2 fun n6 w7 =>
      K (.int .i64 n6) w7))

/-- girder/girderlaw13.equal -/
def S_girderlaw13_equal (N : Nums) (P : Program) (q0 : Option Addr) (q0l q0c : Nat) (q1 : Option Addr) (q1l q1c : Nat) (w : World) (K : Value → World → Prop) : Prop :=
  cond (((q0l : Nat) : Int) != ((q1l : Nat) : Int))
  (K (.bool false) w)
  (cutM (σ := Unit) (fun J1 =>
      loopM (σ := Int × Unit) (fun s4 X5 w6 =>
        cond (decide (s4.1 < ((q0l : Nat) : Int)))
        ((0 : Int) ≤ s4.1 ∧ s4.1 < (q0l : Nat) ∧
          optM q0 fun a7 =>
          ∃ x8 : Nat, w6.cell? (a7.add (s4.1.toNat * 1)) = some (.float .f64 x8) ∧
          (0 : Int) ≤ s4.1 ∧ s4.1 < (q1l : Nat) ∧
          optM q1 fun a9 =>
          ∃ x10 : Nat, w6.cell? (a9.add (s4.1.toNat * 1)) = some (.float .f64 x10) ∧
          cond (!feq x8 x10)
          ((0 : Int) ≤ s4.1 ∧ s4.1 < (q0l : Nat) ∧
            optM q0 fun a11 =>
            ∃ x12 : Nat, w6.cell? (a11.add (s4.1.toNat * 1)) = some (.float .f64 x12) ∧
            (0 : Int) ≤ s4.1 ∧ s4.1 < (q0l : Nat) ∧
            optM q0 fun a13 =>
            ∃ x14 : Nat, w6.cell? (a13.add (s4.1.toNat * 1)) = some (.float .f64 x14) ∧
            cond (!(feq x12 x14))
            ((0 : Int) ≤ s4.1 ∧ s4.1 < (q1l : Nat) ∧
              optM q1 fun a15 =>
              ∃ x16 : Nat, w6.cell? (a15.add (s4.1.toNat * 1)) = some (.float .f64 x16) ∧
              (0 : Int) ≤ s4.1 ∧ s4.1 < (q1l : Nat) ∧
              optM q1 fun a17 =>
              ∃ x18 : Nat, w6.cell? (a17.add (s4.1.toNat * 1)) = some (.float .f64 x18) ∧
              drM w6 fun w19 =>
              cond (feq x16 x18)
              (K (.bool false) w19)
              (X5 ((IntKind.i64.wrap (s4.1 + 1)), ()) w19))
            (drM w6 fun w20 =>
              K (.bool false) w20))
          (drM w6 fun w21 =>
            X5 ((IntKind.i64.wrap (s4.1 + 1)), ()) w21))
        (J1 (()) w6))
      (0, ()) w)
    (fun s2 w3 =>
      K (.bool true) w3))

/-- girder/girderkit.SameReals -/
def S_girderkit_SameReals (N : Nums) (P : Program) (q0 : Option Addr) (q0l q0c : Nat) (q1 : Option Addr) (q1l q1c : Nat) (w : World) (K : Value → World → Prop) : Prop :=
  cond (((q0l : Nat) : Int) != ((q1l : Nat) : Int))
  (K (.bool false) w)
  (cutM (σ := Unit) (fun J1 =>
      loopM (σ := Int × Unit) (fun s4 X5 w6 =>
        cond (decide (s4.1 < ((q0l : Nat) : Int)))
        ((0 : Int) ≤ s4.1 ∧ s4.1 < (q0l : Nat) ∧
          optM q0 fun a7 =>
          ∃ x8 : Nat, w6.cell? (a7.add (s4.1.toNat * 1)) = some (.float .f64 x8) ∧
          (0 : Int) ≤ s4.1 ∧ s4.1 < (q1l : Nat) ∧
          optM q1 fun a9 =>
          ∃ x10 : Nat, w6.cell? (a9.add (s4.1.toNat * 1)) = some (.float .f64 x10) ∧
          drM w6 fun w11 =>
          CallsX P N.f_girderkit_SameFloat #[.float .f64 x8, .float .f64 x10] w11 fun v13 w12 =>
          ∃ b14 : Bool, v13 = (.bool b14) ∧
          drM w12 fun w15 =>
          cond (!b14)
          (K (.bool false) w15)
          (X5 ((IntKind.i64.wrap (s4.1 + 1)), ()) w15))
        (J1 (()) w6))
      (0, ()) w)
    (fun s2 w3 =>
      K (.bool true) w3))

/-- girder/girderlaw13.minus -/
def S_girderlaw13_minus (N : Nums) (P : Program) (q0 : Option Addr) (q0l q0c : Nat) (w : World) (K : Value → World → Prop) : Prop :=
  cutM (σ := (Option Addr × Nat × Nat) × Unit) (fun J1 =>
    loopM (σ := (Option Addr × Nat × Nat) × Int × Unit) (fun s4 X5 w6 =>
      cond (decide (s4.2.1 < ((q0l : Nat) : Int)))
      ((0 : Int) ≤ s4.2.1 ∧ s4.2.1 < (q0l : Nat) ∧
        optM q0 fun a7 =>
        ∃ x8 : Nat, w6.cell? (a7.add (s4.2.1.toNat * 1)) = some (.float .f64 x8) ∧
        newM #[.float .f64 (fneg x8)] N.t_float64 w6 fun p9 w10 =>
        appM N.t_float64 1 8 #[.float .f64 0] s4.1.1 s4.1.2.1 s4.1.2.2 (some p9) 1 w10 fun s11a s11l s11c w12 =>
        X5 ((s11a, s11l, s11c), (IntKind.i64.wrap (s4.2.1 + 1)), ()) w12)
      (J1 ((s4.1.1, s4.1.2.1, s4.1.2.2), ()) w6))
    ((none, 0, 0), 0, ()) w)
  (fun s2 w3 =>
    K (.slice s2.1.1 s2.1.2.1 s2.1.2.2) w3)

/-- girder/girderkit.SameFloat -/
def S_girderkit_SameFloat (N : Nums) (P : Program) (q0 : Nat) (q1 : Nat) (w : World) (K : Value → World → Prop) : Prop :=
  CallsX P N.f_math_Float64bits #[.float .f64 q0] w fun v2 w1 =>
  ∃ n3 : Int, v2 = (.int .u64 n3) ∧
  CallsX P N.f_math_Float64bits #[.float .f64 q1] w1 fun v5 w4 =>
  ∃ n6 : Int, v5 = (.int .u64 n6) ∧
  cond (!(n3 == n6))
  (cond (!feq q0 q0)
    (K (.bool (!feq q1 q1)) w4)
    (K (.bool false) w4))
  (K (.bool true) w4)

/-- girder/girderkit.Pick -/
def S_girderkit_Pick (N : Nums) (P : Program) (q0 : Int) (q1 : Int) (w : World) (K : Value → World → Prop) : Prop :=
  cond (decide (q1 < 1))
  (K (.int .i64 0) w)
  ((q1 : Int) ≠ 0 ∧
    cutM (σ := Int × Unit) (fun J1 =>
      cond (decide ((q0.tmod q1) < 0))
      (J1 ((IntKind.i64.wrap ((q0.tmod q1) + q1)), ()) w)
      (J1 ((q0.tmod q1), ()) w))
    (fun s2 w3 =>
      K (.int .i64 s2.1) w3))

/-- girder/girderlaw13.tame -/
def S_girderlaw13_tame (N : Nums) (P : Program) (q0 : Nat) (w : World) (K : Value → World → Prop) : Prop :=
  cond (!(feq q0 0))
  (cond (fgt q0 4517110426252607488 || feq q0 4517110426252607488)
    (cond (!(flt q0 4697254411347427328 || feq q0 4697254411347427328))
      (cond (flt q0 13740482463107383296 || feq q0 13740482463107383296)
        (cond (fgt q0 13920626448202203136 || feq q0 13920626448202203136)
          (K (.float .f64 q0) w)
          (K (.float .f64 4613937818241073152) w))
        (K (.float .f64 4613937818241073152) w))
      (K (.float .f64 q0) w))
    (cond (flt q0 13740482463107383296 || feq q0 13740482463107383296)
      (cond (fgt q0 13920626448202203136 || feq q0 13920626448202203136)
        (K (.float .f64 q0) w)
        (K (.float .f64 4613937818241073152) w))
      (K (.float .f64 4613937818241073152) w)))
  (K (.float .f64 q0) w)

/-- girder/girderlaw13.one -/
def S_girderlaw13_one (N : Nums) (P : Program) (q0 : Nat) (w : World) (K : Value → World → Prop) : Prop :=
  newM #[.int .i64 0, .slice none 0 0, .slice none 0 0] N.t_Factor w fun p1 w2 =>
  newM #[.float .f64 q0] N.t_float64 w2 fun p3 w4 =>
  stM p1 (.int .i64 1) w4 fun w5 =>
  stM (p1.add 1) (.slice none 0 0) w5 fun w6 =>
  stM (p1.add 2) (.slice (some p3) 1 1) w6 fun w7 =>
  ∃ n8 : Int, w7.cell? p1 = some (.int .i64 n8) ∧
  ∃ (s9a : Option Addr) (s9l s9c : Nat), w7.cell? (p1.add 1) = some (.slice s9a s9l s9c) ∧
  ∃ (s10a : Option Addr) (s10l s10c : Nat), w7.cell? (p1.add 2) = some (.slice s10a s10l s10c) ∧
  K (.agg #[.int .i64 n8, .slice s9a s9l s9c, .slice s10a s10l s10c]) w7

/-- math.Copysign -/
def S_math_Copysign (N : Nums) (P : Program) (q0 : Nat) (q1 : Nat) (w : World) (K : Value → World → Prop) : Prop :=
  CallsX P N.f_math_Float64bits #[.float .f64 q0] w fun v2 w1 =>
  ∃ n3 : Int, v2 = (.int .u64 n3) ∧
  CallsX P N.f_math_Float64bits #[.float .f64 q1] w1 fun v5 w4 =>
  ∃ n6 : Int, v5 = (.int .u64 n6) ∧
  CallsX P N.f_math_Float64frombits #[.int .u64 (IntKind.u64.wrap (BitVec.ofInt IntKind.u64.bits (IntKind.u64.wrap (BitVec.ofInt IntKind.u64.bits n3 &&& ~~~BitVec.ofInt IntKind.u64.bits 9223372036854775808).toNat) ||| BitVec.ofInt IntKind.u64.bits (IntKind.u64.wrap (BitVec.ofInt IntKind.u64.bits n6 &&& BitVec.ofInt IntKind.u64.bits 9223372036854775808).toNat)).toNat)] w4 fun v8 w7 =>
  ∃ x9 : Nat, v8 = (.float .f64 x9) ∧
  K (.float .f64 x9) w7

/-- math.Inf -/
def S_math_Inf (N : Nums) (P : Program) (q0 : Int) (w : World) (K : Value → World → Prop) : Prop :=
  cutM (σ := Int × Unit) (fun J1 =>
    cond (decide (q0 ≥ 0))
    (J1 (9218868437227405312, ()) w)
    (J1 (18442240474082181120, ()) w))
  (fun s2 w3 =>
    CallsX P N.f_math_Float64frombits #[.int .u64 s2.1] w3 fun v5 w4 =>
    ∃ x6 : Nat, v5 = (.float .f64 x6) ∧
    K (.float .f64 x6) w4)

/-- math.NaN -/
def S_math_NaN (N : Nums) (P : Program)  (w : World) (K : Value → World → Prop) : Prop :=
  CallsX P N.f_math_Float64frombits #[.int .u64 9221120237041090561] w fun v2 w1 =>
  ∃ x3 : Nat, v2 = (.float .f64 x3) ∧
  K (.float .f64 x3) w1

/-- girder/girderkit.mark -/
def S_girderkit_mark (N : Nums) (P : Program) (q0 : Int) (q1 : Int) (w : World) (K : Value → World → Prop) : Prop :=
  K (.int .i64 (IntKind.i64.wrap ((IntKind.i64.wrap (1000003 * (IntKind.i64.wrap (q0 + 7)))) + q1))) w

/-- girder/solve.fits -/
def S_solve_fits (N : Nums) (P : Program) (q0_0 : Int) (q0_1 : Option Addr) (q0_1l q0_1c : Nat) (q0_2 : Option Addr) (q0_2l q0_2c : Nat) (q1 : Int) (w : World) (K : Value → World → Prop) : Prop :=
  newM #[.int .i64 q0_0, .slice q0_1 q0_1l q0_1c, .slice q0_2 q0_2l q0_2c] N.t_Factor w fun p1 w2 =>
  ∃ n3 : Int, w2.cell? p1 = some (.int .i64 n3) ∧
  ∃ (s4a : Option Addr) (s4l s4c : Nat), w2.cell? (p1.add 1) = some (.slice s4a s4l s4c) ∧
  ∃ (s5a : Option Addr) (s5l s5c : Nat), w2.cell? (p1.add 2) = some (.slice s5a s5l s5c) ∧
  CallsX P N.f_lower_Right #[.agg #[.int .i64 n3, .slice s4a s4l s4c, .slice s5a s5l s5c]] w2 fun v7 w6 =>
  ∃ b8 : Bool, v7 = (.bool b8) ∧
  cond (!(!b8))
  (∃ n9 : Int, w6.cell? p1 = some (.int .i64 n9) ∧
    cond (q1 != n9)
    (K (.int .i64 4) w6)
    (K (.int .i64 0) w6))
  (K (.int .i64 4) w6)

/-- slices.Clone[[]float64,float64] -/
def S_slices_Clone___float64_float64 (N : Nums) (P : Program) (q0 : Option Addr) (q0l q0c : Nat) (w : World) (K : Value → World → Prop) : Prop :=
  cond (Option.isNone q0)
  (K (.slice none 0 0) w)
  (newM #[] N.t_float64 w fun p1 w2 =>
    appM N.t_float64 1 8 #[.float .f64 0] (some p1) 0 0 q0 q0l w2 fun s3a s3l s3c w4 =>
    K (.slice s3a s3l s3c) w4)

/-- girder/solve.below -/
def S_solve_below (N : Nums) (P : Program) (q0_0 : Int) (q0_1 : Option Addr) (q0_1l q0_1c : Nat) (q0_2 : Option Addr) (q0_2l q0_2c : Nat) (q1 : Int) (q2 : Int) (w : World) (K : Value → World → Prop) : Prop :=
  newM #[.int .i64 q0_0, .slice q0_1 q0_1l q0_1c, .slice q0_2 q0_2l q0_2c] N.t_Factor w fun p1 w2 =>
  ∃ (s3a : Option Addr) (s3l s3c : Nat), w2.cell? (p1.add 1) = some (.slice s3a s3l s3c) ∧
  (2 : Int) ≠ 0 ∧
  (0 : Int) ≤ (IntKind.i64.wrap ((IntKind.i64.wrap ((IntKind.i64.wrap (q1 * (IntKind.i64.wrap (q1 - 1)))).tdiv 2)) + q2)) ∧ (IntKind.i64.wrap ((IntKind.i64.wrap ((IntKind.i64.wrap (q1 * (IntKind.i64.wrap (q1 - 1)))).tdiv 2)) + q2)) < (s3l : Nat) ∧
  optM s3a fun a4 =>
  ∃ x5 : Nat, w2.cell? (a4.add ((IntKind.i64.wrap ((IntKind.i64.wrap ((IntKind.i64.wrap (q1 * (IntKind.i64.wrap (q1 - 1)))).tdiv 2)) + q2)).toNat * 1)) = some (.float .f64 x5) ∧
  K (.float .f64 x5) w2

/-- girder/girderref13.Right -/
def S_girderref13_Right (N : Nums) (P : Program) (q0_0 : Int) (q0_1 : Option Addr) (q0_1l q0_1c : Nat) (q0_2 : Option Addr) (q0_2l q0_2c : Nat) (w : World) (K : Value → World → Prop) : Prop :=
  newM #[.int .i64 q0_0, .slice q0_1 q0_1l q0_1c, .slice q0_2 q0_2l q0_2c] N.t_Factor w fun p1 w2 =>
  ∃ n3 : Int, w2.cell? p1 = some (.int .i64 n3) ∧
  cond (decide (n3 ≥ 0))
  (∃ n4 : Int, w2.cell? p1 = some (.int .i64 n4) ∧
    cond (decide (n4 ≤ 48))
    (∃ (s5a : Option Addr) (s5l s5c : Nat), w2.cell? (p1.add 1) = some (.slice s5a s5l s5c) ∧
      ∃ n6 : Int, w2.cell? p1 = some (.int .i64 n6) ∧
      ∃ n7 : Int, w2.cell? p1 = some (.int .i64 n7) ∧
      (2 : Int) ≠ 0 ∧
      cond (((s5l : Nat) : Int) == (IntKind.i64.wrap ((IntKind.i64.wrap (n6 * (IntKind.i64.wrap (n7 - 1)))).tdiv 2)))
      (∃ (s8a : Option Addr) (s8l s8c : Nat), w2.cell? (p1.add 2) = some (.slice s8a s8l s8c) ∧
        ∃ n9 : Int, w2.cell? p1 = some (.int .i64 n9) ∧
        K (.bool (((s8l : Nat) : Int) == n9)) w2)
      (K (.bool false) w2))
    (K (.bool false) w2))
  (K (.bool false) w2)

/-- girder/girderref13.at -/
def S_girderref13_at (N : Nums) (P : Program) (q0_0 : Int) (q0_1 : Option Addr) (q0_1l q0_1c : Nat) (q0_2 : Option Addr) (q0_2l q0_2c : Nat) (q1 : Int) (q2 : Int) (w : World) (K : Value → World → Prop) : Prop :=
  newM #[.int .i64 q0_0, .slice q0_1 q0_1l q0_1c, .slice q0_2 q0_2l q0_2c] N.t_Factor w fun p1 w2 =>
  ∃ (s3a : Option Addr) (s3l s3c : Nat), w2.cell? (p1.add 1) = some (.slice s3a s3l s3c) ∧
  (2 : Int) ≠ 0 ∧
  (0 : Int) ≤ (IntKind.i64.wrap ((IntKind.i64.wrap ((IntKind.i64.wrap (q1 * (IntKind.i64.wrap (q1 - 1)))).tdiv 2)) + q2)) ∧ (IntKind.i64.wrap ((IntKind.i64.wrap ((IntKind.i64.wrap (q1 * (IntKind.i64.wrap (q1 - 1)))).tdiv 2)) + q2)) < (s3l : Nat) ∧
  optM s3a fun a4 =>
  ∃ x5 : Nat, w2.cell? (a4.add ((IntKind.i64.wrap ((IntKind.i64.wrap ((IntKind.i64.wrap (q1 * (IntKind.i64.wrap (q1 - 1)))).tdiv 2)) + q2)).toNat * 1)) = some (.float .f64 x5) ∧
  K (.float .f64 x5) w2

/-- slices.Contains[[]float64,float64] -/
def S_slices_Contains___float64_float64 (N : Nums) (P : Program) (q0 : Option Addr) (q0l q0c : Nat) (q1 : Nat) (w : World) (K : Value → World → Prop) : Prop :=
  CallsX P N.f_slices_Index___float64_float64 #[.slice q0 q0l q0c, .float .f64 q1] w fun v2 w1 =>
  ∃ n3 : Int, v2 = (.int .i64 n3) ∧
  K (.bool (decide (n3 ≥ 0))) w1

/-- girder/girderref13.zero -/
def S_girderref13_zero (N : Nums) (P : Program) (q0_0 : Int) (q0_1 : Option Addr) (q0_1l q0_1c : Nat) (q0_2 : Option Addr) (q0_2l q0_2c : Nat) (w : World) (K : Value → World → Prop) : Prop :=
  newM #[.int .i64 q0_0, .slice q0_1 q0_1l q0_1c, .slice q0_2 q0_2l q0_2c] N.t_Factor w fun p1 w2 =>
  cutM (σ := Unit) (fun J3 =>
    loopM (σ := Int × Unit) (fun s6 X7 w8 =>
      ∃ (s9a : Option Addr) (s9l s9c : Nat), w8.cell? (p1.add 2) = some (.slice s9a s9l s9c) ∧
      cond (decide (s6.1 < ((s9l : Nat) : Int)))
      (∃ (s10a : Option Addr) (s10l s10c : Nat), w8.cell? (p1.add 2) = some (.slice s10a s10l s10c) ∧
        (0 : Int) ≤ s6.1 ∧ s6.1 < (s10l : Nat) ∧
        optM s10a fun a11 =>
        ∃ x12 : Nat, w8.cell? (a11.add (s6.1.toNat * 1)) = some (.float .f64 x12) ∧
        cond (feq x12 0)
        (K (.bool true) w8)
        (X7 ((IntKind.i64.wrap (s6.1 + 1)), ()) w8))
      (J3 (()) w8))
    (0, ()) w2)
  (fun s4 w5 =>
    K (.bool false) w5)

/-- girder/matrix.Identity -/
def S_matrix_Identity (N : Nums) (P : Program) (q0 : Int) (w : World) (K : Value → World → Prop) : Prop :=
  newM #[.int .i64 0, .int .i64 0, .slice none 0 0] N.t_Matrix w fun p1 w2 =>
  CallsX P N.f_matrix_Make #[.int .i64 q0, .int .i64 q0] w2 fun v4 w3 =>
  ∃ n5 : Int, ∃ n6 : Int, ∃ (s7a : Option Addr) (s7l s7c : Nat), ∃ n8 : Int, v4 = (.tuple #[.agg #[.int .i64 n5, .int .i64 n6, .slice s7a s7l s7c], .int .i64 n8]) ∧
  newM #[.int .i64 0, .int .i64 0, .slice none 0 0] N.t_Matrix w3 fun p9 w10 =>
  stM p9 (.int .i64 n5) w10 fun w11 =>
  stM (p9.add 1) (.int .i64 n6) w11 fun w12 =>
  stM (p9.add 2) (.slice s7a s7l s7c) w12 fun w13 =>
  ∃ n14 : Int, w13.cell? p9 = some (.int .i64 n14) ∧
  cutM (σ := Unit) (fun J15 =>
    loopM (σ := Int × Unit) (fun s18 X19 w20 =>
      cond (decide (s18.1 < n14))
      (∃ (s21a : Option Addr) (s21l s21c : Nat), w20.cell? (p9.add 2) = some (.slice s21a s21l s21c) ∧
        (0 : Int) ≤ (IntKind.i64.wrap ((IntKind.i64.wrap (s18.1 * q0)) + s18.1)) ∧ (IntKind.i64.wrap ((IntKind.i64.wrap (s18.1 * q0)) + s18.1)) < (s21l : Nat) ∧
        optM s21a fun a22 =>
        stM (a22.add ((IntKind.i64.wrap ((IntKind.i64.wrap (s18.1 * q0)) + s18.1)).toNat * 1)) (.float .f64 4607182418800017408) w20 fun w23 =>
        X19 ((IntKind.i64.wrap (s18.1 + 1)), ()) w23)
      (J15 (()) w20))
    (0, ()) w13)
  (fun s16 w17 =>
    ∃ n24 : Int, w17.cell? p9 = some (.int .i64 n24) ∧
    ∃ n25 : Int, w17.cell? (p9.add 1) = some (.int .i64 n25) ∧
    ∃ (s26a : Option Addr) (s26l s26c : Nat), w17.cell? (p9.add 2) = some (.slice s26a s26l s26c) ∧
    stM p1 (.int .i64 n24) w17 fun w27 =>
    stM (p1.add 1) (.int .i64 n25) w27 fun w28 =>
    stM (p1.add 2) (.slice s26a s26l s26c) w28 fun w29 =>
    ∃ n30 : Int, w29.cell? p1 = some (.int .i64 n30) ∧
    ∃ n31 : Int, w29.cell? (p1.add 1) = some (.int .i64 n31) ∧
    ∃ (s32a : Option Addr) (s32l s32c : Nat), w29.cell? (p1.add 2) = some (.slice s32a s32l s32c) ∧
    K (.tuple #[.agg #[.int .i64 n30, .int .i64 n31, .slice s32a s32l s32c], .int .i64 n8]) w29)

/-- girder/matrix.Transpose -/
def S_matrix_Transpose (N : Nums) (P : Program) (q0_0 : Int) (q0_1 : Int) (q0_2 : Option Addr) (q0_2l q0_2c : Nat) (w : World) (K : Value → World → Prop) : Prop :=
  newM #[.int .i64 q0_0, .int .i64 q0_1, .slice q0_2 q0_2l q0_2c] N.t_Matrix w fun p1 w2 =>
  newM #[.int .i64 0, .int .i64 0, .slice none 0 0] N.t_Matrix w2 fun p3 w4 =>
  ∃ n5 : Int, w4.cell? p1 = some (.int .i64 n5) ∧
  ∃ n6 : Int, w4.cell? (p1.add 1) = some (.int .i64 n6) ∧
  ∃ (s7a : Option Addr) (s7l s7c : Nat), w4.cell? (p1.add 2) = some (.slice s7a s7l s7c) ∧
  CallsX P N.f_matrix_Right #[.agg #[.int .i64 n5, .int .i64 n6, .slice s7a s7l s7c]] w4 fun v9 w8 =>
  ∃ b10 : Bool, v9 = (.bool b10) ∧
  cond (!b10)
  (stM p3 (.int .i64 0) w8 fun w11 =>
    stM (p3.add 1) (.int .i64 0) w11 fun w12 =>
    stM (p3.add 2) (.slice none 0 0) w12 fun w13 =>
    ∃ n14 : Int, w13.cell? p3 = some (.int .i64 n14) ∧
    ∃ n15 : Int, w13.cell? (p3.add 1) = some (.int .i64 n15) ∧
    ∃ (s16a : Option Addr) (s16l s16c : Nat), w13.cell? (p3.add 2) = some (.slice s16a s16l s16c) ∧
    K (.tuple #[.agg #[.int .i64 n14, .int .i64 n15, .slice s16a s16l s16c], .int .i64 4]) w13)
  (∃ n17 : Int, w8.cell? (p1.add 1) = some (.int .i64 n17) ∧
    ∃ n18 : Int, w8.cell? p1 = some (.int .i64 n18) ∧
    CallsX P N.f_matrix_laid #[.int .i64 n17, .int .i64 n18, .func (.func N.f_matrix_Transpose_1) #[] #[.pointer (some p1)]] w8 fun v20 w19 =>
    ∃ n21 : Int, ∃ n22 : Int, ∃ (s23a : Option Addr) (s23l s23c : Nat), v20 = (.agg #[.int .i64 n21, .int .i64 n22, .slice s23a s23l s23c]) ∧
    stM p3 (.int .i64 n21) w19 fun w24 =>
    stM (p3.add 1) (.int .i64 n22) w24 fun w25 =>
    stM (p3.add 2) (.slice s23a s23l s23c) w25 fun w26 =>
    ∃ n27 : Int, w26.cell? p3 = some (.int .i64 n27) ∧
    ∃ n28 : Int, w26.cell? (p3.add 1) = some (.int .i64 n28) ∧
    ∃ (s29a : Option Addr) (s29l s29c : Nat), w26.cell? (p3.add 2) = some (.slice s29a s29l s29c) ∧
    K (.tuple #[.agg #[.int .i64 n27, .int .i64 n28, .slice s29a s29l s29c], .int .i64 0]) w26)

/-- girder/girderkit.SameFactor -/
def S_girderkit_SameFactor (N : Nums) (P : Program) (q0_0 : Int) (q0_1 : Option Addr) (q0_1l q0_1c : Nat) (q0_2 : Option Addr) (q0_2l q0_2c : Nat) (q1_0 : Int) (q1_1 : Option Addr) (q1_1l q1_1c : Nat) (q1_2 : Option Addr) (q1_2l q1_2c : Nat) (w : World) (K : Value → World → Prop) : Prop :=
  newM #[.int .i64 q0_0, .slice q0_1 q0_1l q0_1c, .slice q0_2 q0_2l q0_2c] N.t_Factor w fun p1 w2 =>
  newM #[.int .i64 q1_0, .slice q1_1 q1_1l q1_1c, .slice q1_2 q1_2l q1_2c] N.t_Factor w2 fun p3 w4 =>
  ∃ n5 : Int, w4.cell? p1 = some (.int .i64 n5) ∧
  ∃ n6 : Int, w4.cell? p3 = some (.int .i64 n6) ∧
  cond (n5 == n6)
  (∃ (s7a : Option Addr) (s7l s7c : Nat), w4.cell? (p1.add 1) = some (.slice s7a s7l s7c) ∧
    ∃ (s8a : Option Addr) (s8l s8c : Nat), w4.cell? (p3.add 1) = some (.slice s8a s8l s8c) ∧
    CallsX P N.f_girderkit_SameReals #[.slice s7a s7l s7c, .slice s8a s8l s8c] w4 fun v10 w9 =>
    ∃ b11 : Bool, v10 = (.bool b11) ∧
    cond b11
    (∃ (s12a : Option Addr) (s12l s12c : Nat), w9.cell? (p1.add 2) = some (.slice s12a s12l s12c) ∧
      ∃ (s13a : Option Addr) (s13l s13c : Nat), w9.cell? (p3.add 2) = some (.slice s13a s13l s13c) ∧
      CallsX P N.f_girderkit_SameReals #[.slice s12a s12l s12c, .slice s13a s13l s13c] w9 fun v15 w14 =>
      ∃ b16 : Bool, v15 = (.bool b16) ∧
      K (.bool b16) w14)
    (K (.bool false) w9))
  (K (.bool false) w4)

/-- girder/girderlaw13.two -/
def S_girderlaw13_two (N : Nums) (P : Program)  (w : World) (K : Value → World → Prop) : Prop :=
  newM #[.int .i64 0, .slice none 0 0, .slice none 0 0] N.t_Factor w fun p1 w2 =>
  newM #[.float .f64 4611686018427387904] N.t_float64 w2 fun p3 w4 =>
  newM #[.float .f64 4607182418800017408, .float .f64 4616189618054758400] N.t_float64 w4 fun p5 w6 =>
  stM p1 (.int .i64 2) w6 fun w7 =>
  stM (p1.add 1) (.slice (some p3) 1 1) w7 fun w8 =>
  stM (p1.add 2) (.slice (some p5) 2 2) w8 fun w9 =>
  ∃ n10 : Int, w9.cell? p1 = some (.int .i64 n10) ∧
  ∃ (s11a : Option Addr) (s11l s11c : Nat), w9.cell? (p1.add 1) = some (.slice s11a s11l s11c) ∧
  ∃ (s12a : Option Addr) (s12l s12c : Nat), w9.cell? (p1.add 2) = some (.slice s12a s12l s12c) ∧
  K (.agg #[.int .i64 n10, .slice s11a s11l s11c, .slice s12a s12l s12c]) w9

/-- girder/lower.Right -/
def S_lower_Right (N : Nums) (P : Program) (q0_0 : Int) (q0_1 : Option Addr) (q0_1l q0_1c : Nat) (q0_2 : Option Addr) (q0_2l q0_2c : Nat) (w : World) (K : Value → World → Prop) : Prop :=
  newM #[.int .i64 q0_0, .slice q0_1 q0_1l q0_1c, .slice q0_2 q0_2l q0_2c] N.t_Factor w fun p1 w2 =>
  ∃ n3 : Int, w2.cell? p1 = some (.int .i64 n3) ∧
  cond (decide (n3 ≥ 0))
  (∃ n4 : Int, w2.cell? p1 = some (.int .i64 n4) ∧
    cond (decide (n4 ≤ 48))
    (∃ (s5a : Option Addr) (s5l s5c : Nat), w2.cell? (p1.add 1) = some (.slice s5a s5l s5c) ∧
      ∃ n6 : Int, w2.cell? p1 = some (.int .i64 n6) ∧
      ∃ n7 : Int, w2.cell? p1 = some (.int .i64 n7) ∧
      (2 : Int) ≠ 0 ∧
      cond (((s5l : Nat) : Int) == (IntKind.i64.wrap ((IntKind.i64.wrap (n6 * (IntKind.i64.wrap (n7 - 1)))).tdiv 2)))
      (∃ (s8a : Option Addr) (s8l s8c : Nat), w2.cell? (p1.add 2) = some (.slice s8a s8l s8c) ∧
        ∃ n9 : Int, w2.cell? p1 = some (.int .i64 n9) ∧
        K (.bool (((s8l : Nat) : Int) == n9)) w2)
      (K (.bool false) w2))
    (K (.bool false) w2))
  (K (.bool false) w2)

/-- slices.Index[[]float64,float64] -/
def S_slices_Index___float64_float64 (N : Nums) (P : Program) (q0 : Option Addr) (q0l q0c : Nat) (q1 : Nat) (w : World) (K : Value → World → Prop) : Prop :=
  cutM (σ := Unit) (fun J1 =>
    loopM (σ := Int × Unit) (fun s4 X5 w6 =>
      cond (decide (s4.1 < ((q0l : Nat) : Int)))
      ((0 : Int) ≤ s4.1 ∧ s4.1 < (q0l : Nat) ∧
        optM q0 fun a7 =>
        ∃ x8 : Nat, w6.cell? (a7.add (s4.1.toNat * 1)) = some (.float .f64 x8) ∧
        cond (feq q1 x8)
        (K (.int .i64 s4.1) w6)
        (X5 ((IntKind.i64.wrap (s4.1 + 1)), ()) w6))
      (J1 (()) w6))
    (0, ()) w)
  (fun s2 w3 =>
    K (.int .i64 (-1)) w3)

/-- girder/matrix.Make -/
def S_matrix_Make (N : Nums) (P : Program) (q0 : Int) (q1 : Int) (w : World) (K : Value → World → Prop) : Prop :=
  newM #[.int .i64 0, .int .i64 0, .slice none 0 0] N.t_Matrix w fun p1 w2 =>
  CallsX P N.f_matrix_fits #[.int .i64 q0] w2 fun v4 w3 =>
  ∃ b5 : Bool, v4 = (.bool b5) ∧
  cond (!(!b5))
  (CallsX P N.f_matrix_fits #[.int .i64 q1] w3 fun v7 w6 =>
    ∃ b8 : Bool, v7 = (.bool b8) ∧
    cond (!b8)
    (stM p1 (.int .i64 0) w6 fun w9 =>
      stM (p1.add 1) (.int .i64 0) w9 fun w10 =>
      stM (p1.add 2) (.slice none 0 0) w10 fun w11 =>
      ∃ n12 : Int, w11.cell? p1 = some (.int .i64 n12) ∧
      ∃ n13 : Int, w11.cell? (p1.add 1) = some (.int .i64 n13) ∧
      ∃ (s14a : Option Addr) (s14l s14c : Nat), w11.cell? (p1.add 2) = some (.slice s14a s14l s14c) ∧
      K (.tuple #[.agg #[.int .i64 n12, .int .i64 n13, .slice s14a s14l s14c], .int .i64 2]) w11)
    (CallsX P N.f_matrix_laid #[.int .i64 q0, .int .i64 q1, .func (.func N.f_matrix_Make_1) #[] #[]] w6 fun v16 w15 =>
      ∃ n17 : Int, ∃ n18 : Int, ∃ (s19a : Option Addr) (s19l s19c : Nat), v16 = (.agg #[.int .i64 n17, .int .i64 n18, .slice s19a s19l s19c]) ∧
      stM p1 (.int .i64 n17) w15 fun w20 =>
      stM (p1.add 1) (.int .i64 n18) w20 fun w21 =>
      stM (p1.add 2) (.slice s19a s19l s19c) w21 fun w22 =>
      ∃ n23 : Int, w22.cell? p1 = some (.int .i64 n23) ∧
      ∃ n24 : Int, w22.cell? (p1.add 1) = some (.int .i64 n24) ∧
      ∃ (s25a : Option Addr) (s25l s25c : Nat), w22.cell? (p1.add 2) = some (.slice s25a s25l s25c) ∧
      K (.tuple #[.agg #[.int .i64 n23, .int .i64 n24, .slice s25a s25l s25c], .int .i64 0]) w22))
  (stM p1 (.int .i64 0) w3 fun w26 =>
    stM (p1.add 1) (.int .i64 0) w26 fun w27 =>
    stM (p1.add 2) (.slice none 0 0) w27 fun w28 =>
    ∃ n29 : Int, w28.cell? p1 = some (.int .i64 n29) ∧
    ∃ n30 : Int, w28.cell? (p1.add 1) = some (.int .i64 n30) ∧
    ∃ (s31a : Option Addr) (s31l s31c : Nat), w28.cell? (p1.add 2) = some (.slice s31a s31l s31c) ∧
    K (.tuple #[.agg #[.int .i64 n29, .int .i64 n30, .slice s31a s31l s31c], .int .i64 2]) w28)

/-- girder/matrix.Right -/
def S_matrix_Right (N : Nums) (P : Program) (q0_0 : Int) (q0_1 : Int) (q0_2 : Option Addr) (q0_2l q0_2c : Nat) (w : World) (K : Value → World → Prop) : Prop :=
  newM #[.int .i64 q0_0, .int .i64 q0_1, .slice q0_2 q0_2l q0_2c] N.t_Matrix w fun p1 w2 =>
  ∃ n3 : Int, w2.cell? p1 = some (.int .i64 n3) ∧
  CallsX P N.f_matrix_fits #[.int .i64 n3] w2 fun v5 w4 =>
  ∃ b6 : Bool, v5 = (.bool b6) ∧
  cond b6
  (∃ n7 : Int, w4.cell? (p1.add 1) = some (.int .i64 n7) ∧
    CallsX P N.f_matrix_fits #[.int .i64 n7] w4 fun v9 w8 =>
    ∃ b10 : Bool, v9 = (.bool b10) ∧
    cond b10
    (∃ (s11a : Option Addr) (s11l s11c : Nat), w8.cell? (p1.add 2) = some (.slice s11a s11l s11c) ∧
      ∃ n12 : Int, w8.cell? p1 = some (.int .i64 n12) ∧
      ∃ n13 : Int, w8.cell? (p1.add 1) = some (.int .i64 n13) ∧
      K (.bool (((s11l : Nat) : Int) == (IntKind.i64.wrap (n12 * n13)))) w8)
    (K (.bool false) w8))
  (K (.bool false) w4)

/-- girder/matrix.laid -/
def S_matrix_laid (N : Nums) (P : Program) (q0 : Int) (q1 : Int) (q2 : Value) (w : World) (K : Value → World → Prop) : Prop :=
  newM #[.int .i64 0, .int .i64 0, .slice none 0 0] N.t_Matrix w fun p1 w2 =>
  mkM N.t_float64 1 8 #[.float .f64 0] (IntKind.i64.wrap (q0 * q1)) (IntKind.i64.wrap (q0 * q1)) w2 fun p3 w4 =>
  newM #[.int .i64 0, .int .i64 0, .slice none 0 0] N.t_Matrix w4 fun p5 w6 =>
  stM p5 (.int .i64 q0) w6 fun w7 =>
  stM (p5.add 1) (.int .i64 q1) w7 fun w8 =>
  stM (p5.add 2) (.slice (some p3) ((IntKind.i64.wrap (q0 * q1)).toNat) ((IntKind.i64.wrap (q0 * q1)).toNat)) w8 fun w9 =>
  cutM (σ := Unit) (fun J10 =>
    loopM (σ := Int × Unit) (fun s13 X14 w15 =>
      cond (decide (s13.1 < q0))
      (cutM (σ := Unit) (fun J16 =>
          loopM (σ := Int × Unit) (fun s19 X20 w21 =>
            cond (decide (s19.1 < q1))
            (∃ (s22a : Option Addr) (s22l s22c : Nat), w21.cell? (p5.add 2) = some (.slice s22a s22l s22c) ∧
              drM w21 fun w23 =>
              fnM q2 fun f26 f26p f26q => CallsX P f26 (f26p.toList ++ (([.int .i64 s13.1, .int .i64 s19.1] : List Value) ++ f26q.toList)).toArray w23 fun v25 w24 =>
              ∃ x27 : Nat, v25 = (.float .f64 x27) ∧
              w24.cell? (p5.add 2) = some (.slice s22a s22l s22c) ∧
              (0 : Int) ≤ (IntKind.i64.wrap ((IntKind.i64.wrap (s13.1 * q1)) + s19.1)) ∧ (IntKind.i64.wrap ((IntKind.i64.wrap (s13.1 * q1)) + s19.1)) < (s22l : Nat) ∧
              optM s22a fun a28 =>
              drM w24 fun w29 =>
              stM (a28.add ((IntKind.i64.wrap ((IntKind.i64.wrap (s13.1 * q1)) + s19.1)).toNat * 1)) (.float .f64 x27) w29 fun w30 =>
              drM w30 fun w31 =>
              X20 ((IntKind.i64.wrap (s19.1 + 1)), ()) w31)
            (J16 (()) w21))
          (0, ()) w15)
        (fun s17 w18 =>
          X14 ((IntKind.i64.wrap (s13.1 + 1)), ()) w18))
      (J10 (()) w15))
    (0, ()) w9)
  (fun s11 w12 =>
    ∃ n32 : Int, w12.cell? p5 = some (.int .i64 n32) ∧
    ∃ n33 : Int, w12.cell? (p5.add 1) = some (.int .i64 n33) ∧
    ∃ (s34a : Option Addr) (s34l s34c : Nat), w12.cell? (p5.add 2) = some (.slice s34a s34l s34c) ∧
    stM p1 (.int .i64 n32) w12 fun w35 =>
    stM (p1.add 1) (.int .i64 n33) w35 fun w36 =>
    stM (p1.add 2) (.slice s34a s34l s34c) w36 fun w37 =>
    ∃ n38 : Int, w37.cell? p1 = some (.int .i64 n38) ∧
    ∃ n39 : Int, w37.cell? (p1.add 1) = some (.int .i64 n39) ∧
    ∃ (s40a : Option Addr) (s40l s40c : Nat), w37.cell? (p1.add 2) = some (.slice s40a s40l s40c) ∧
    K (.agg #[.int .i64 n38, .int .i64 n39, .slice s40a s40l s40c]) w37)

/-- girder/matrix.Transpose$1 -/
def S_matrix_Transpose_1 (N : Nums) (P : Program) (q0 : Int) (q1 : Int) (q2 : Option Addr) (w : World) (K : Value → World → Prop) : Prop :=
  optM q2 fun a1 =>
  ∃ (s2a : Option Addr) (s2l s2c : Nat), w.cell? (a1.add 2) = some (.slice s2a s2l s2c) ∧
  optM q2 fun a3 =>
  ∃ n4 : Int, w.cell? (a3.add 1) = some (.int .i64 n4) ∧
  (0 : Int) ≤ (IntKind.i64.wrap ((IntKind.i64.wrap (q1 * n4)) + q0)) ∧ (IntKind.i64.wrap ((IntKind.i64.wrap (q1 * n4)) + q0)) < (s2l : Nat) ∧
  optM s2a fun a5 =>
  ∃ x6 : Nat, w.cell? (a5.add ((IntKind.i64.wrap ((IntKind.i64.wrap (q1 * n4)) + q0)).toNat * 1)) = some (.float .f64 x6) ∧
  K (.float .f64 x6) w

/-- girder/matrix.fits -/
def S_matrix_fits (N : Nums) (P : Program) (q0 : Int) (w : World) (K : Value → World → Prop) : Prop :=
  cond (decide (q0 ≥ 0))
  (K (.bool (decide (q0 ≤ 48))) w)
  (K (.bool false) w)

/-- girder/matrix.Make$1 -/
def S_matrix_Make_1 (N : Nums) (P : Program) (q0 : Int) (q1 : Int) (w : World) (K : Value → World → Prop) : Prop :=
  K (.float .f64 0) w

end Go.Eng
