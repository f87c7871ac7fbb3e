/-
  Some of the functions as propositions in the manner of a weakest precondition, printed off the structured code by a program of the session. No condition.
-/
import Derived.Test.YtkbmapgioggadaaTbl
import Derived.Test.YtkbmapgioggadaaNm
set_option linter.unusedSimpArgs false
set_option linter.unnecessarySimpa false
set_option linter.unusedSectionVars false
set_option linter.unusedVariables false
set_option maxRecDepth 100000
namespace Go.Eng
open Go

/-- girder/girderlaw12.LowerFactors -/
def S_girderlaw12_LowerFactors (N : Nums) (P : Program) (q0_0 : Int) (q0_1 : Int) (q0_2 : Option Addr) (q0_2l q0_2c : Nat) (w : World) (K : Value → World → Prop) : Prop :=
  newM #[.int .i64 q0_0, .int .i64 q0_1, .slice q0_2 q0_2l q0_2c] N.t_Matrix w fun p1 w2 =>
  cutM (σ := Unit) (fun J3 =>
    loopM (σ := Int × Unit) (fun s6 X7 w8 =>
      cond (decide (s6.1 < 2))
      (∃ n9 : Int, w8.cell? p1 = some (.int .i64 n9) ∧
        ∃ n10 : Int, w8.cell? (p1.add 1) = some (.int .i64 n10) ∧
        ∃ (s11a : Option Addr) (s11l s11c : Nat), w8.cell? (p1.add 2) = some (.slice s11a s11l s11c) ∧
        CallsX P N.f_lower_Factor #[.agg #[.int .i64 n9, .int .i64 n10, .slice s11a s11l s11c]] w8 fun v13 w12 =>
        ∃ n14 : Int, ∃ (s15a : Option Addr) (s15l s15c : Nat), ∃ (s16a : Option Addr) (s16l s16c : Nat), ∃ n17 : Int, ∃ n18 : Int, v13 = (.tuple #[.agg #[.int .i64 n14, .slice s15a s15l s15c, .slice s16a s16l s16c], .int .i64 n17, .int .i64 n18]) ∧
        newM #[.int .i64 0, .slice none 0 0, .slice none 0 0] N.t_Factor w12 fun p19 w20 =>
        stM p19 (.int .i64 n14) w20 fun w21 =>
        stM (p19.add 1) (.slice s15a s15l s15c) w21 fun w22 =>
        stM (p19.add 2) (.slice s16a s16l s16c) w22 fun w23 =>
        ∃ n24 : Int, w23.cell? p1 = some (.int .i64 n24) ∧
        ∃ n25 : Int, w23.cell? (p1.add 1) = some (.int .i64 n25) ∧
        ∃ (s26a : Option Addr) (s26l s26c : Nat), w23.cell? (p1.add 2) = some (.slice s26a s26l s26c) ∧
        CallsX P N.f_girderref12_Factor #[.agg #[.int .i64 n24, .int .i64 n25, .slice s26a s26l s26c]] w23 fun v28 w27 =>
        ∃ n29 : Int, ∃ (s30a : Option Addr) (s30l s30c : Nat), ∃ (s31a : Option Addr) (s31l s31c : Nat), ∃ n32 : Int, ∃ n33 : Int, v28 = (.tuple #[.agg #[.int .i64 n29, .slice s30a s30l s30c, .slice s31a s31l s31c], .int .i64 n32, .int .i64 n33]) ∧
        newM #[.int .i64 0, .slice none 0 0, .slice none 0 0] N.t_Factor w27 fun p34 w35 =>
        stM p34 (.int .i64 n29) w35 fun w36 =>
        stM (p34.add 1) (.slice s30a s30l s30c) w36 fun w37 =>
        stM (p34.add 2) (.slice s31a s31l s31c) w37 fun w38 =>
        ∃ n39 : Int, w38.cell? p19 = some (.int .i64 n39) ∧
        ∃ (s40a : Option Addr) (s40l s40c : Nat), w38.cell? (p19.add 1) = some (.slice s40a s40l s40c) ∧
        ∃ (s41a : Option Addr) (s41l s41c : Nat), w38.cell? (p19.add 2) = some (.slice s41a s41l s41c) ∧
        ∃ n42 : Int, w38.cell? p34 = some (.int .i64 n42) ∧
        ∃ (s43a : Option Addr) (s43l s43c : Nat), w38.cell? (p34.add 1) = some (.slice s43a s43l s43c) ∧
        ∃ (s44a : Option Addr) (s44l s44c : Nat), w38.cell? (p34.add 2) = some (.slice s44a s44l s44c) ∧
        CallsX P N.f_girderkit_SameFactor #[.agg #[.int .i64 n39, .slice s40a s40l s40c, .slice s41a s41l s41c], .agg #[.int .i64 n42, .slice s43a s43l s43c, .slice s44a s44l s44c]] w38 fun v46 w45 =>
        ∃ b47 : Bool, v46 = (.bool b47) ∧
        cond (!(!b47))
        (cond (!(n17 != n32))
          (cond (n18 != n33)
            (K (.bool false) w45)
            (∃ n48 : Int, w45.cell? p1 = some (.int .i64 n48) ∧
              ∃ n49 : Int, w45.cell? (p1.add 1) = some (.int .i64 n49) ∧
              ∃ (s50a : Option Addr) (s50l s50c : Nat), w45.cell? (p1.add 2) = some (.slice s50a s50l s50c) ∧
              CallsX P N.f_girderlaw12_mirrored #[.agg #[.int .i64 n48, .int .i64 n49, .slice s50a s50l s50c]] w45 fun v52 w51 =>
              ∃ n53 : Int, ∃ n54 : Int, ∃ (s55a : Option Addr) (s55l s55c : Nat), v52 = (.agg #[.int .i64 n53, .int .i64 n54, .slice s55a s55l s55c]) ∧
              stM p1 (.int .i64 n53) w51 fun w56 =>
              stM (p1.add 1) (.int .i64 n54) w56 fun w57 =>
              stM (p1.add 2) (.slice s55a s55l s55c) w57 fun w58 =>
              X7 ((IntKind.i64.wrap (s6.1 + 1)), ()) w58))
          (K (.bool false) w45))
        (K (.bool false) w45))
      (J3 (()) w8))
    (0, ()) w2)
  (fun s4 w5 =>
    CallsX P N.f_girderlaw12_awake #[] w5 fun v60 w59 =>
    ∃ b61 : Bool, v60 = (.bool b61) ∧
    K (.bool b61) w59)

/-- girder/girderlaw12.LowerTimes -/
def S_girderlaw12_LowerTimes (N : Nums) (P : Program) (q0_0 : Int) (q0_1 : Option Addr) (q0_1l q0_1c : Nat) (q0_2 : Option Addr) (q0_2l q0_2c : Nat) (w : World) (K : Value → World → Prop) : Prop :=
  newM #[.int .i64 q0_0, .slice q0_1 q0_1l q0_1c, .slice q0_2 q0_2l q0_2c] N.t_Factor w fun p1 w2 =>
  cutM (σ := Unit) (fun J3 =>
    loopM (σ := Int × Unit) (fun s6 X7 w8 =>
      cond (decide (s6.1 < 2))
      (∃ n9 : Int, w8.cell? p1 = some (.int .i64 n9) ∧
        ∃ (s10a : Option Addr) (s10l s10c : Nat), w8.cell? (p1.add 1) = some (.slice s10a s10l s10c) ∧
        ∃ (s11a : Option Addr) (s11l s11c : Nat), w8.cell? (p1.add 2) = some (.slice s11a s11l s11c) ∧
        CallsX P N.f_lower_Times #[.agg #[.int .i64 n9, .slice s10a s10l s10c, .slice s11a s11l s11c]] w8 fun v13 w12 =>
        ∃ n14 : Int, ∃ n15 : Int, ∃ (s16a : Option Addr) (s16l s16c : Nat), ∃ n17 : Int, v13 = (.tuple #[.agg #[.int .i64 n14, .int .i64 n15, .slice s16a s16l s16c], .int .i64 n17]) ∧
        newM #[.int .i64 0, .int .i64 0, .slice none 0 0] N.t_Matrix w12 fun p18 w19 =>
        stM p18 (.int .i64 n14) w19 fun w20 =>
        stM (p18.add 1) (.int .i64 n15) w20 fun w21 =>
        stM (p18.add 2) (.slice s16a s16l s16c) w21 fun w22 =>
        ∃ n23 : Int, w22.cell? p1 = some (.int .i64 n23) ∧
        ∃ (s24a : Option Addr) (s24l s24c : Nat), w22.cell? (p1.add 1) = some (.slice s24a s24l s24c) ∧
        ∃ (s25a : Option Addr) (s25l s25c : Nat), w22.cell? (p1.add 2) = some (.slice s25a s25l s25c) ∧
        CallsX P N.f_girderref12_Times #[.agg #[.int .i64 n23, .slice s24a s24l s24c, .slice s25a s25l s25c]] w22 fun v27 w26 =>
        ∃ n28 : Int, ∃ n29 : Int, ∃ (s30a : Option Addr) (s30l s30c : Nat), ∃ n31 : Int, v27 = (.tuple #[.agg #[.int .i64 n28, .int .i64 n29, .slice s30a s30l s30c], .int .i64 n31]) ∧
        newM #[.int .i64 0, .int .i64 0, .slice none 0 0] N.t_Matrix w26 fun p32 w33 =>
        stM p32 (.int .i64 n28) w33 fun w34 =>
        stM (p32.add 1) (.int .i64 n29) w34 fun w35 =>
        stM (p32.add 2) (.slice s30a s30l s30c) w35 fun w36 =>
        cutM (σ := Bool × Unit) (fun J37 =>
          ∃ n40 : Int, w36.cell? p1 = some (.int .i64 n40) ∧
          ∃ (s41a : Option Addr) (s41l s41c : Nat), w36.cell? (p1.add 1) = some (.slice s41a s41l s41c) ∧
          ∃ (s42a : Option Addr) (s42l s42c : Nat), w36.cell? (p1.add 2) = some (.slice s42a s42l s42c) ∧
          ∃ n43 : Int, w36.cell? p1 = some (.int .i64 n43) ∧
          ∃ (s44a : Option Addr) (s44l s44c : Nat), w36.cell? (p1.add 1) = some (.slice s44a s44l s44c) ∧
          ∃ (s45a : Option Addr) (s45l s45c : Nat), w36.cell? (p1.add 2) = some (.slice s45a s45l s45c) ∧
          drM w36 fun w46 =>
          CallsX P N.f_lower_Right #[.agg #[.int .i64 n40, .slice s41a s41l s41c, .slice s42a s42l s42c]] w46 fun v48 w47 =>
          ∃ b49 : Bool, v48 = (.bool b49) ∧
          w47.cell? p1 = some (.int .i64 n43) ∧
          w47.cell? (p1.add 1) = some (.slice s44a s44l s44c) ∧
          w47.cell? (p1.add 2) = some (.slice s45a s45l s45c) ∧
          drM w47 fun w50 =>
          CallsX P N.f_girderref12_Right #[.agg #[.int .i64 n43, .slice s44a s44l s44c, .slice s45a s45l s45c]] w50 fun v52 w51 =>
          ∃ b53 : Bool, v52 = (.bool b53) ∧
          cond (!(!(b49 == b53)))
          (∃ n54 : Int, w51.cell? p18 = some (.int .i64 n54) ∧
            ∃ n55 : Int, w51.cell? (p18.add 1) = some (.int .i64 n55) ∧
            ∃ (s56a : Option Addr) (s56l s56c : Nat), w51.cell? (p18.add 2) = some (.slice s56a s56l s56c) ∧
            ∃ n57 : Int, w51.cell? p32 = some (.int .i64 n57) ∧
            ∃ n58 : Int, w51.cell? (p32.add 1) = some (.int .i64 n58) ∧
            ∃ (s59a : Option Addr) (s59l s59c : Nat), w51.cell? (p32.add 2) = some (.slice s59a s59l s59c) ∧
            drM w51 fun w60 =>
            CallsX P N.f_girderkit_SameMatrix #[.agg #[.int .i64 n54, .int .i64 n55, .slice s56a s56l s56c], .agg #[.int .i64 n57, .int .i64 n58, .slice s59a s59l s59c]] w60 fun v62 w61 =>
            ∃ b63 : Bool, v62 = (.bool b63) ∧
            cond (!(!b63))
            (drM w61 fun w64 =>
              J37 ((n17 != n31), ()) w64)
            (drM w61 fun w65 =>
              J37 (true, ()) w65))
          (drM w51 fun w66 =>
            drM w66 fun w67 =>
            J37 (true, ()) w67))
        (fun s38 w39 =>
          cond s38.1
          (K (.bool false) w39)
          (cutM (σ := Int × Unit) (fun J68 =>
              loopM (σ := Int × Unit) (fun s71 X72 w73 =>
                cond (decide (s71.1 < 48))
                (∃ (s74a : Option Addr) (s74l s74c : Nat), w73.cell? (p1.add 2) = some (.slice s74a s74l s74c) ∧
                  cond (decide ((IntKind.i64.wrap (s71.1 + 1)) ≤ ((s74l : Nat) : Int)))
                  ((2 : Int) ≠ 0 ∧
                    ∃ (s75a : Option Addr) (s75l s75c : Nat), w73.cell? (p1.add 1) = some (.slice s75a s75l s75c) ∧
                    cond (decide ((IntKind.i64.wrap ((IntKind.i64.wrap ((IntKind.i64.wrap (s71.1 + 1)) * s71.1)).tdiv 2)) ≤ ((s75l : Nat) : Int)))
                    (X72 ((IntKind.i64.wrap (s71.1 + 1)), ()) w73)
                    (J68 (s71.1, ()) w73))
                  (J68 (s71.1, ()) w73))
                (J68 (s71.1, ()) w73))
              (0, ()) w39)
            (fun s69 w70 =>
              ∃ (s76a : Option Addr) (s76l s76c : Nat), w70.cell? (p1.add 1) = some (.slice s76a s76l s76c) ∧
              (2 : Int) ≠ 0 ∧
              (0 : Int) ≤ (IntKind.i64.wrap ((IntKind.i64.wrap (s69.1 * (IntKind.i64.wrap (s69.1 - 1)))).tdiv 2)) ∧ (IntKind.i64.wrap ((IntKind.i64.wrap (s69.1 * (IntKind.i64.wrap (s69.1 - 1)))).tdiv 2)) ≤ (s76c : Nat) ∧
              ∃ (s77a : Option Addr) (s77l s77c : Nat), w70.cell? (p1.add 2) = some (.slice s77a s77l s77c) ∧
              (0 : Int) ≤ s69.1 ∧ s69.1 ≤ (s77c : Nat) ∧
              drM w70 fun w78 =>
              stM p1 (.int .i64 s69.1) w78 fun w79 =>
              stM (p1.add 1) (.slice (slBase s76a 0 s76c 1) ((IntKind.i64.wrap ((IntKind.i64.wrap (s69.1 * (IntKind.i64.wrap (s69.1 - 1)))).tdiv 2)).toNat) s76c) w79 fun w80 =>
              stM (p1.add 2) (.slice (slBase s77a 0 s77c 1) s69.1.toNat s77c) w80 fun w81 =>
              drM w81 fun w82 =>
              X7 ((IntKind.i64.wrap (s6.1 + 1)), ()) w82))))
      (J3 (()) w8))
    (0, ()) w2)
  (fun s4 w5 =>
    CallsX P N.f_girderlaw12_awake #[] w5 fun v84 w83 =>
    ∃ b85 : Bool, v84 = (.bool b85) ∧
    K (.bool b85) w83)

/-- girder/girderlaw12.LowerNumbers -/
def S_girderlaw12_LowerNumbers (N : Nums) (P : Program)  (w : World) (K : Value → World → Prop) : Prop :=
  cutM (σ := Unit) (fun J1 =>
    loopM (σ := Int × Unit) (fun s4 X5 w6 =>
      cond (decide (s4.1 ≤ 49))
      (mkM N.t_float64 1 8 #[.float .f64 0] (IntKind.i64.wrap (s4.1 * s4.1)) (IntKind.i64.wrap (s4.1 * s4.1)) w6 fun p7 w8 =>
        newM #[.int .i64 0, .int .i64 0, .slice none 0 0] N.t_Matrix w8 fun p9 w10 =>
        stM p9 (.int .i64 s4.1) w10 fun w11 =>
        stM (p9.add 1) (.int .i64 s4.1) w11 fun w12 =>
        stM (p9.add 2) (.slice (some p7) ((IntKind.i64.wrap (s4.1 * s4.1)).toNat) ((IntKind.i64.wrap (s4.1 * s4.1)).toNat)) w12 fun w13 =>
        cutM (σ := Unit) (fun J14 =>
          loopM (σ := Int × Unit) (fun s17 X18 w19 =>
            cond (decide (s17.1 < s4.1))
            (∃ (s20a : Option Addr) (s20l s20c : Nat), w19.cell? (p9.add 2) = some (.slice s20a s20l s20c) ∧
              (0 : Int) ≤ (IntKind.i64.wrap ((IntKind.i64.wrap (s17.1 * s4.1)) + s17.1)) ∧ (IntKind.i64.wrap ((IntKind.i64.wrap (s17.1 * s4.1)) + s17.1)) < (s20l : Nat) ∧
              optM s20a fun a21 =>
              stM (a21.add ((IntKind.i64.wrap ((IntKind.i64.wrap (s17.1 * s4.1)) + s17.1)).toNat * 1)) (.float .f64 4611686018427387904) w19 fun w22 =>
              X18 ((IntKind.i64.wrap (s17.1 + 1)), ()) w22)
            (J14 (()) w19))
          (0, ()) w13)
        (fun s15 w16 =>
          ∃ n23 : Int, w16.cell? p9 = some (.int .i64 n23) ∧
          ∃ n24 : Int, w16.cell? (p9.add 1) = some (.int .i64 n24) ∧
          ∃ (s25a : Option Addr) (s25l s25c : Nat), w16.cell? (p9.add 2) = some (.slice s25a s25l s25c) ∧
          CallsX P N.f_lower_Factor #[.agg #[.int .i64 n23, .int .i64 n24, .slice s25a s25l s25c]] w16 fun v27 w26 =>
          ∃ n28 : Int, ∃ (s29a : Option Addr) (s29l s29c : Nat), ∃ (s30a : Option Addr) (s30l s30c : Nat), ∃ n31 : Int, ∃ n32 : Int, v27 = (.tuple #[.agg #[.int .i64 n28, .slice s29a s29l s29c, .slice s30a s30l s30c], .int .i64 n31, .int .i64 n32]) ∧
          newM #[.int .i64 0, .slice none 0 0, .slice none 0 0] N.t_Factor w26 fun p33 w34 =>
          stM p33 (.int .i64 n28) w34 fun w35 =>
          stM (p33.add 1) (.slice s29a s29l s29c) w35 fun w36 =>
          stM (p33.add 2) (.slice s30a s30l s30c) w36 fun w37 =>
          cutM (σ := Bool × Unit) (fun J38 =>
            cond (!(!((n31 == 0) == (decide (s4.1 ≤ 48)))))
            (cond (!(!((n31 == 4) == (s4.1 == 49))))
              (cond (n31 == 0)
                (∃ n41 : Int, w37.cell? p33 = some (.int .i64 n41) ∧
                  cond (!(n41 != s4.1))
                  (∃ n42 : Int, w37.cell? p33 = some (.int .i64 n42) ∧
                    ∃ (s43a : Option Addr) (s43l s43c : Nat), w37.cell? (p33.add 1) = some (.slice s43a s43l s43c) ∧
                    ∃ (s44a : Option Addr) (s44l s44c : Nat), w37.cell? (p33.add 2) = some (.slice s44a s44l s44c) ∧
                    CallsX P N.f_lower_Right #[.agg #[.int .i64 n42, .slice s43a s43l s43c, .slice s44a s44l s44c]] w37 fun v46 w45 =>
                    ∃ b47 : Bool, v46 = (.bool b47) ∧
                    J38 ((!b47), ()) w45)
                  (J38 (true, ()) w37))
                (J38 (false, ()) w37))
              (J38 (true, ()) w37))
            (J38 (true, ()) w37))
          (fun s39 w40 =>
            cond s39.1
            (K (.bool false) w40)
            ((2 : Int) ≠ 0 ∧
              (drM w40 fun w48 =>
                mkM N.t_float64 1 8 #[.float .f64 0] (IntKind.i64.wrap ((IntKind.i64.wrap (s4.1 * (IntKind.i64.wrap (s4.1 - 1)))).tdiv 2)) (IntKind.i64.wrap ((IntKind.i64.wrap (s4.1 * (IntKind.i64.wrap (s4.1 - 1)))).tdiv 2)) w48 fun p49 w50 =>
                drM w50 fun w51 =>
                mkM N.t_float64 1 8 #[.float .f64 0] s4.1 s4.1 w51 fun p52 w53 =>
                drM w53 fun w54 =>
                CallsX P N.f_lower_Right #[.agg #[.int .i64 s4.1, .slice (some p49) ((IntKind.i64.wrap ((IntKind.i64.wrap (s4.1 * (IntKind.i64.wrap (s4.1 - 1)))).tdiv 2)).toNat) ((IntKind.i64.wrap ((IntKind.i64.wrap (s4.1 * (IntKind.i64.wrap (s4.1 - 1)))).tdiv 2)).toNat), .slice (some p52) s4.1.toNat s4.1.toNat]] w54 fun v56 w55 =>
                ∃ b57 : Bool, v56 = (.bool b57) ∧
                drM w55 fun w58 =>
                cond (!(b57 == (decide (s4.1 ≤ 48))))
                (K (.bool false) w58)
                (X5 ((IntKind.i64.wrap (s4.1 + 1)), ()) w58)) ∧
              (drM w40 fun w59 =>
                mkM N.t_float64 1 8 #[.float .f64 0] s4.1 s4.1 w59 fun p60 w61 =>
                drM w61 fun w62 =>
                mkM N.t_float64 1 8 #[.float .f64 0] (IntKind.i64.wrap ((IntKind.i64.wrap (s4.1 * (IntKind.i64.wrap (s4.1 - 1)))).tdiv 2)) (IntKind.i64.wrap ((IntKind.i64.wrap (s4.1 * (IntKind.i64.wrap (s4.1 - 1)))).tdiv 2)) w62 fun p63 w64 =>
                drM w64 fun w65 =>
                CallsX P N.f_lower_Right #[.agg #[.int .i64 s4.1, .slice (some p63) ((IntKind.i64.wrap ((IntKind.i64.wrap (s4.1 * (IntKind.i64.wrap (s4.1 - 1)))).tdiv 2)).toNat) ((IntKind.i64.wrap ((IntKind.i64.wrap (s4.1 * (IntKind.i64.wrap (s4.1 - 1)))).tdiv 2)).toNat), .slice (some p60) s4.1.toNat s4.1.toNat]] w65 fun v67 w66 =>
                ∃ b68 : Bool, v67 = (.bool b68) ∧
                drM w66 fun w69 =>
                cond (!(b68 == (decide (s4.1 ≤ 48))))
                (K (.bool false) w69)
                (X5 ((IntKind.i64.wrap (s4.1 + 1)), ()) w69))))))
      (J1 (()) w6))
    (47, ()) w)
  (fun s2 w3 =>
    newM #[.float .f64 0] N.t_float64 w3 fun p70 w71 =>
    newM #[.float .f64 13830554455654793216] N.t_float64 w71 fun p72 w73 =>
    CallsX P N.f_math_Copysign #[.float .f64 0, .float .f64 13830554455654793216] w73 fun v75 w74 =>
    ∃ x76 : Nat, v75 = (.float .f64 x76) ∧
    newM #[.float .f64 x76] N.t_float64 w74 fun p77 w78 =>
    newM #[.float .f64 9218868437227405311, .float .f64 9218868437227405311, .float .f64 9218868437227405311, .float .f64 9218868437227405311] N.t_float64 w78 fun p79 w80 =>
    newM #[.float .f64 4607182418800017408, .float .f64 4611686018427387904, .float .f64 4613937818241073152, .float .f64 4616189618054758400] N.t_float64 w80 fun p81 w82 =>
    CallsX P N.f_math_NaN #[] w82 fun v84 w83 =>
    ∃ x85 : Nat, v84 = (.float .f64 x85) ∧
    CallsX P N.f_math_NaN #[] w83 fun v87 w86 =>
    ∃ x88 : Nat, v87 = (.float .f64 x88) ∧
    newM #[.float .f64 4607182418800017408, .float .f64 x85, .float .f64 x88, .float .f64 4607182418800017408] N.t_float64 w86 fun p89 w90 =>
    CallsX P N.f_math_Float64frombits #[.int .u64 1] w90 fun v92 w91 =>
    ∃ x93 : Nat, v92 = (.float .f64 x93) ∧
    newM #[.float .f64 x93, .float .f64 9110782046170513408, .float .f64 9110782046170513408, .float .f64 4607182418800017408] N.t_float64 w91 fun p94 w95 =>
    CallsX P N.f_math_Inf #[.int .i64 1] w95 fun v97 w96 =>
    ∃ x98 : Nat, v97 = (.float .f64 x98) ∧
    newM #[.float .f64 x98] N.t_float64 w96 fun p99 w100 =>
    newM #[.float .f64 4607182418800017408, .float .f64 7309342195222315008, .float .f64 7309342195222315008, .float .f64 4607182418800017408] N.t_float64 w100 fun p101 w102 =>
    newM #[.slice (some p70) 1 1, .slice (some p72) 1 1, .slice (some p77) 1 1, .slice (some p79) 4 4, .slice (some p81) 4 4, .slice (some p89) 4 4, .slice (some p94) 4 4, .slice (some p99) 1 1, .slice (some p101) 4 4, .slice none 0 0] N.t_L_float64 w102 fun p103 w104 =>
    newM #[.int .i64 220, .int .i64 220, .int .i64 220, .int .i64 220, .int .i64 4, .int .i64 5, .int .i64 6, .int .i64 5, .int .i64 220, .int .i64 0] N.t_int w104 fun p105 w106 =>
    newM #[.int .i64 0, .int .i64 0, .int .i64 0, .int .i64 1, .int .i64 0, .int .i64 0, .int .i64 0, .int .i64 0, .int .i64 1, .int .i64 0] N.t_int w106 fun p107 w108 =>
    cutM (σ := Unit) (fun J109 =>
      loopM (σ := Int × Unit) (fun s112 X113 w114 =>
        cond (decide (s112.1 < ((10 : Nat) : Int)))
        ((0 : Int) ≤ s112.1 ∧ s112.1 < (10 : Nat) ∧
          ∃ (s115a : Option Addr) (s115l s115c : Nat), w114.cell? (p103.add (s112.1.toNat * 1)) = some (.slice s115a s115l s115c) ∧
          (0 : Int) ≤ s112.1 ∧ s112.1 < (10 : Nat) ∧
          ∃ (s116a : Option Addr) (s116l s116c : Nat), w114.cell? (p103.add (s112.1.toNat * 1)) = some (.slice s116a s116l s116c) ∧
          cutM (σ := Int × Unit) (fun J117 =>
            cond (((s116l : Nat) : Int) == 4)
            (J117 (2, ()) w114)
            (J117 ((if 1 < ((s115l : Nat) : Int) then 1 else ((s115l : Nat) : Int)), ()) w114))
          (fun s118 w119 =>
            (0 : Int) ≤ s112.1 ∧ s112.1 < (10 : Nat) ∧
            ∃ (s120a : Option Addr) (s120l s120c : Nat), w119.cell? (p103.add (s112.1.toNat * 1)) = some (.slice s120a s120l s120c) ∧
            CallsX P N.f_lower_Factor #[.agg #[.int .i64 s118.1, .int .i64 s118.1, .slice s120a s120l s120c]] w119 fun v122 w121 =>
            ∃ n123 : Int, ∃ (s124a : Option Addr) (s124l s124c : Nat), ∃ (s125a : Option Addr) (s125l s125c : Nat), ∃ n126 : Int, ∃ n127 : Int, v122 = (.tuple #[.agg #[.int .i64 n123, .slice s124a s124l s124c, .slice s125a s125l s125c], .int .i64 n126, .int .i64 n127]) ∧
            newM #[.int .i64 0, .slice none 0 0, .slice none 0 0] N.t_Factor w121 fun p128 w129 =>
            stM p128 (.int .i64 n123) w129 fun w130 =>
            stM (p128.add 1) (.slice s124a s124l s124c) w130 fun w131 =>
            stM (p128.add 2) (.slice s125a s125l s125c) w131 fun w132 =>
            (0 : Int) ≤ s112.1 ∧ s112.1 < (10 : Nat) ∧
            ∃ n133 : Int, w132.cell? (p105.add (s112.1.toNat * 1)) = some (.int .i64 n133) ∧
            cond (!(n126 != n133))
            ((0 : Int) ≤ s112.1 ∧ s112.1 < (10 : Nat) ∧
              ∃ n134 : Int, w132.cell? (p107.add (s112.1.toNat * 1)) = some (.int .i64 n134) ∧
              cond (!(n127 != n134))
              (cond (n126 != 0)
                (∃ n135 : Int, w132.cell? p128 = some (.int .i64 n135) ∧
                  cond (!(n135 != 0))
                  (∃ (s136a : Option Addr) (s136l s136c : Nat), w132.cell? (p128.add 1) = some (.slice s136a s136l s136c) ∧
                    ∃ (s137a : Option Addr) (s137l s137c : Nat), w132.cell? (p128.add 2) = some (.slice s137a s137l s137c) ∧
                    cond ((IntKind.i64.wrap (((s136l : Nat) : Int) + ((s137l : Nat) : Int))) != 0)
                    (K (.bool false) w132)
                    (X113 ((IntKind.i64.wrap (s112.1 + 1)), ()) w132))
                  (K (.bool false) w132))
                (X113 ((IntKind.i64.wrap (s112.1 + 1)), ()) w132))
              (K (.bool false) w132))
            (K (.bool false) w132)))
        (J109 (()) w114))
      (0, ()) w108)
    (fun s110 w111 =>
      CallsX P N.f_lower_Right #[.agg #[.int .i64 0, .slice none 0 0, .slice none 0 0]] w111 fun v139 w138 =>
      ∃ b140 : Bool, v139 = (.bool b140) ∧
      cond b140
      (CallsX P N.f_lower_Right #[.agg #[.int .i64 (-1), .slice none 0 0, .slice none 0 0]] w138 fun v142 w141 =>
        ∃ b143 : Bool, v142 = (.bool b143) ∧
        cond (!b143)
        (CallsX P N.f_lower_Right #[.agg #[.int .i64 1, .slice none 0 0, .slice none 0 0]] w141 fun v145 w144 =>
          ∃ b146 : Bool, v145 = (.bool b146) ∧
          cond (!b146)
          (newM #[.float .f64 4607182418800017408] N.t_float64 w144 fun p147 w148 =>
            CallsX P N.f_lower_Right #[.agg #[.int .i64 0, .slice (some p147) 1 1, .slice none 0 0]] w148 fun v150 w149 =>
            ∃ b151 : Bool, v150 = (.bool b151) ∧
            cond (!b151)
            (CallsX P N.f_girderlaw12_awake #[] w149 fun v153 w152 =>
              ∃ b154 : Bool, v153 = (.bool b154) ∧
              K (.bool b154) w152)
            (K (.bool false) w149))
          (K (.bool false) w144))
        (K (.bool false) w141))
      (K (.bool false) w138)))

/-- girder/girderlaw12.LowerScaled -/
def S_girderlaw12_LowerScaled (N : Nums) (P : Program) (q0_0 : Int) (q0_1 : Int) (q0_2 : Option Addr) (q0_2l q0_2c : Nat) (q1 : Int) (w : World) (K : Value → World → Prop) : Prop :=
  newM #[.int .i64 q0_0, .int .i64 q0_1, .slice q0_2 q0_2l q0_2c] N.t_Matrix w fun p1 w2 =>
  CallsX P N.f_girderlaw12_awake #[] w2 fun v4 w3 =>
  ∃ b5 : Bool, v4 = (.bool b5) ∧
  cond (!b5)
  (K (.bool false) w3)
  (∃ n6 : Int, w3.cell? p1 = some (.int .i64 n6) ∧
    ∃ n7 : Int, w3.cell? (p1.add 1) = some (.int .i64 n7) ∧
    ∃ (s8a : Option Addr) (s8l s8c : Nat), w3.cell? (p1.add 2) = some (.slice s8a s8l s8c) ∧
    CallsX P N.f_girderlaw12_mirrored #[.agg #[.int .i64 n6, .int .i64 n7, .slice s8a s8l s8c]] w3 fun v10 w9 =>
    ∃ n11 : Int, ∃ n12 : Int, ∃ (s13a : Option Addr) (s13l s13c : Nat), v10 = (.agg #[.int .i64 n11, .int .i64 n12, .slice s13a s13l s13c]) ∧
    stM p1 (.int .i64 n11) w9 fun w14 =>
    stM (p1.add 1) (.int .i64 n12) w14 fun w15 =>
    stM (p1.add 2) (.slice s13a s13l s13c) w15 fun w16 =>
    ∃ n17 : Int, w16.cell? p1 = some (.int .i64 n17) ∧
    ∃ n18 : Int, w16.cell? (p1.add 1) = some (.int .i64 n18) ∧
    ∃ (s19a : Option Addr) (s19l s19c : Nat), w16.cell? (p1.add 2) = some (.slice s19a s19l s19c) ∧
    CallsX P N.f_lower_Factor #[.agg #[.int .i64 n17, .int .i64 n18, .slice s19a s19l s19c]] w16 fun v21 w20 =>
    ∃ n22 : Int, ∃ (s23a : Option Addr) (s23l s23c : Nat), ∃ (s24a : Option Addr) (s24l s24c : Nat), ∃ n25 : Int, ∃ n26 : Int, v21 = (.tuple #[.agg #[.int .i64 n22, .slice s23a s23l s23c, .slice s24a s24l s24c], .int .i64 n25, .int .i64 n26]) ∧
    newM #[.int .i64 0, .slice none 0 0, .slice none 0 0] N.t_Factor w20 fun p27 w28 =>
    stM p27 (.int .i64 n22) w28 fun w29 =>
    stM (p27.add 1) (.slice s23a s23l s23c) w29 fun w30 =>
    stM (p27.add 2) (.slice s24a s24l s24c) w30 fun w31 =>
    cutM (σ := Bool × Unit) (fun J32 =>
      cond (!(n25 != 0))
      (∃ (s35a : Option Addr) (s35l s35c : Nat), w31.cell? (p1.add 2) = some (.slice s35a s35l s35c) ∧
        CallsX P N.f_girderlaw12_even #[.slice s35a s35l s35c] w31 fun v37 w36 =>
        ∃ b38 : Bool, v37 = (.bool b38) ∧
        cond (!(!b38))
        (∃ (s39a : Option Addr) (s39l s39c : Nat), w36.cell? (p27.add 1) = some (.slice s39a s39l s39c) ∧
          CallsX P N.f_girderlaw12_even #[.slice s39a s39l s39c] w36 fun v41 w40 =>
          ∃ b42 : Bool, v41 = (.bool b42) ∧
          cond (!(!b42))
          (∃ (s43a : Option Addr) (s43l s43c : Nat), w40.cell? (p27.add 2) = some (.slice s43a s43l s43c) ∧
            CallsX P N.f_girderlaw12_even #[.slice s43a s43l s43c] w40 fun v45 w44 =>
            ∃ b46 : Bool, v45 = (.bool b46) ∧
            J32 ((!b46), ()) w44)
          (J32 (true, ()) w40))
        (J32 (true, ()) w36))
      (J32 (true, ()) w31))
    (fun s33 w34 =>
      cond s33.1
      (K (.bool true) w34)
      (CallsX P N.f_girderkit_Pick #[.int .i64 q1, .int .i64 41] w34 fun v48 w47 =>
        ∃ n49 : Int, v48 = (.int .i64 n49) ∧
        CallsX P N.f_math_Ldexp #[.float .f64 4607182418800017408, .int .i64 (IntKind.i64.wrap (n49 - 20))] w47 fun v51 w50 =>
        ∃ x52 : Nat, v51 = (.float .f64 x52) ∧
        ∃ n53 : Int, w50.cell? p1 = some (.int .i64 n53) ∧
        ∃ n54 : Int, w50.cell? (p1.add 1) = some (.int .i64 n54) ∧
        ∃ (s55a : Option Addr) (s55l s55c : Nat), w50.cell? (p1.add 2) = some (.slice s55a s55l s55c) ∧
        CallsX P N.f_girderkit_CopyMatrix #[.agg #[.int .i64 n53, .int .i64 n54, .slice s55a s55l s55c]] w50 fun v57 w56 =>
        ∃ n58 : Int, ∃ n59 : Int, ∃ (s60a : Option Addr) (s60l s60c : Nat), v57 = (.agg #[.int .i64 n58, .int .i64 n59, .slice s60a s60l s60c]) ∧
        newM #[.int .i64 0, .int .i64 0, .slice none 0 0] N.t_Matrix w56 fun p61 w62 =>
        stM p61 (.int .i64 n58) w62 fun w63 =>
        stM (p61.add 1) (.int .i64 n59) w63 fun w64 =>
        stM (p61.add 2) (.slice s60a s60l s60c) w64 fun w65 =>
        cutM (σ := Unit) (fun J66 =>
          loopM (σ := Int × Unit) (fun s69 X70 w71 =>
            ∃ (s72a : Option Addr) (s72l s72c : Nat), w71.cell? (p61.add 2) = some (.slice s72a s72l s72c) ∧
            cond (decide (s69.1 < ((s72l : Nat) : Int)))
            (∃ (s73a : Option Addr) (s73l s73c : Nat), w71.cell? (p61.add 2) = some (.slice s73a s73l s73c) ∧
              ∃ (s74a : Option Addr) (s74l s74c : Nat), w71.cell? (p61.add 2) = some (.slice s74a s74l s74c) ∧
              (0 : Int) ≤ s69.1 ∧ s69.1 < (s74l : Nat) ∧
              optM s74a fun a75 =>
              ∃ x76 : Nat, w71.cell? (a75.add (s69.1.toNat * 1)) = some (.float .f64 x76) ∧
              fresM (fmul x76 x52) w71 fun x77 w78 =>
              (0 : Int) ≤ s69.1 ∧ s69.1 < (s73l : Nat) ∧
              optM s73a fun a79 =>
              drM w71 fun w80 =>
              stM (a79.add (s69.1.toNat * 1)) (.float .f64 x77) w80 fun w81 =>
              drM w81 fun w82 =>
              X70 ((IntKind.i64.wrap (s69.1 + 1)), ()) w82)
            (J66 (()) w71))
          (0, ()) w65)
        (fun s67 w68 =>
          ∃ (s83a : Option Addr) (s83l s83c : Nat), w68.cell? (p27.add 2) = some (.slice s83a s83l s83c) ∧
          CallsX P N.f_girderkit_CopyReals #[.slice s83a s83l s83c] w68 fun v85 w84 =>
          ∃ (s86a : Option Addr) (s86l s86c : Nat), v85 = (.slice s86a s86l s86c) ∧
          cutM (σ := Unit) (fun J87 =>
            loopM (σ := Int × Unit) (fun s90 X91 w92 =>
              cond (decide (s90.1 < ((s86l : Nat) : Int)))
              ((0 : Int) ≤ s90.1 ∧ s90.1 < (s86l : Nat) ∧
                optM s86a fun a93 =>
                ∃ x94 : Nat, w92.cell? (a93.add (s90.1.toNat * 1)) = some (.float .f64 x94) ∧
                fresM (fmul x94 x52) w92 fun x95 w96 =>
                (0 : Int) ≤ s90.1 ∧ s90.1 < (s86l : Nat) ∧
                optM s86a fun a97 =>
                stM (a97.add (s90.1.toNat * 1)) (.float .f64 x95) w96 fun w98 =>
                X91 ((IntKind.i64.wrap (s90.1 + 1)), ()) w98)
              (J87 (()) w92))
            (0, ()) w84)
          (fun s88 w89 =>
            ∃ n99 : Int, w89.cell? p61 = some (.int .i64 n99) ∧
            ∃ n100 : Int, w89.cell? (p61.add 1) = some (.int .i64 n100) ∧
            ∃ (s101a : Option Addr) (s101l s101c : Nat), w89.cell? (p61.add 2) = some (.slice s101a s101l s101c) ∧
            CallsX P N.f_lower_Factor #[.agg #[.int .i64 n99, .int .i64 n100, .slice s101a s101l s101c]] w89 fun v103 w102 =>
            ∃ n104 : Int, ∃ (s105a : Option Addr) (s105l s105c : Nat), ∃ (s106a : Option Addr) (s106l s106c : Nat), ∃ n107 : Int, ∃ n108 : Int, v103 = (.tuple #[.agg #[.int .i64 n104, .slice s105a s105l s105c, .slice s106a s106l s106c], .int .i64 n107, .int .i64 n108]) ∧
            newM #[.int .i64 0, .slice none 0 0, .slice none 0 0] N.t_Factor w102 fun p109 w110 =>
            stM p109 (.int .i64 n104) w110 fun w111 =>
            stM (p109.add 1) (.slice s105a s105l s105c) w111 fun w112 =>
            stM (p109.add 2) (.slice s106a s106l s106c) w112 fun w113 =>
            cond (n107 == 0)
            (cond (n108 == 0)
              (∃ (s114a : Option Addr) (s114l s114c : Nat), w113.cell? (p109.add 1) = some (.slice s114a s114l s114c) ∧
                ∃ (s115a : Option Addr) (s115l s115c : Nat), w113.cell? (p27.add 1) = some (.slice s115a s115l s115c) ∧
                CallsX P N.f_girderkit_SameReals #[.slice s114a s114l s114c, .slice s115a s115l s115c] w113 fun v117 w116 =>
                ∃ b118 : Bool, v117 = (.bool b118) ∧
                cond b118
                (∃ (s119a : Option Addr) (s119l s119c : Nat), w116.cell? (p109.add 2) = some (.slice s119a s119l s119c) ∧
                  CallsX P N.f_girderkit_SameReals #[.slice s119a s119l s119c, .slice s86a s86l s86c] w116 fun v121 w120 =>
                  ∃ b122 : Bool, v121 = (.bool b122) ∧
                  K (.bool b122) w120)
                (K (.bool false) w116))
              (K (.bool false) w113))
            (K (.bool false) w113))))))

/-- girder/girderlaw12.LowerBack -/
def S_girderlaw12_LowerBack (N : Nums) (P : Program) (q0 : Option Addr) (q0l q0c : Nat) (q1 : Option Addr) (q1l q1c : Nat) (w : World) (K : Value → World → Prop) : Prop :=
  CallsX P N.f_girderlaw12_awake #[] w fun v2 w1 =>
  ∃ b3 : Bool, v2 = (.bool b3) ∧
  cond (!b3)
  (K (.bool false) w1)
  (newM #[.int .i64 0, .slice none 0 0, .slice none 0 0] N.t_Factor w1 fun p4 w5 =>
    stM p4 (.int .i64 (if 9 < ((q1l : Nat) : Int) then 9 else ((q1l : Nat) : Int))) w5 fun w6 =>
    stM (p4.add 1) (.slice none 0 0) w6 fun w7 =>
    stM (p4.add 2) (.slice none 0 0) w7 fun w8 =>
    cutM (σ := Unit) (fun J9 =>
      loopM (σ := Int × Unit) (fun s12 X13 w14 =>
        (2 : Int) ≠ 0 ∧
        cond (decide (s12.1 < (IntKind.i64.wrap ((IntKind.i64.wrap ((if 9 < ((q1l : Nat) : Int) then 9 else ((q1l : Nat) : Int)) * (IntKind.i64.wrap ((if 9 < ((q1l : Nat) : Int) then 9 else ((q1l : Nat) : Int)) - 1)))).tdiv 2))))
        (cutM (σ := Int × Unit) (fun J15 =>
            cond (decide (((q0l : Nat) : Int) > 0))
            ((((q0l : Nat) : Int) : Int) ≠ 0 ∧
              (0 : Int) ≤ (s12.1.tmod ((q0l : Nat) : Int)) ∧ (s12.1.tmod ((q0l : Nat) : Int)) < (q0l : Nat) ∧
              optM q0 fun a18 =>
              ∃ n19 : Int, w14.cell? (a18.add ((s12.1.tmod ((q0l : Nat) : Int)).toNat * 1)) = some (.int .i64 n19) ∧
              CallsX P N.f_girderkit_Pick #[.int .i64 (IntKind.i64.wrap (n19 + s12.1)), .int .i64 9] w14 fun v21 w20 =>
              ∃ n22 : Int, v21 = (.int .i64 n22) ∧
              J15 ((IntKind.i64.wrap (n22 - 4)), ()) w20)
            (J15 (0, ()) w14))
          (fun s16 w17 =>
            ∃ (s23a : Option Addr) (s23l s23c : Nat), w17.cell? (p4.add 1) = some (.slice s23a s23l s23c) ∧
            newM #[.float .f64 (FloatKind.f64.nearest s16.1)] N.t_float64 w17 fun p24 w25 =>
            appM N.t_float64 1 8 #[.float .f64 0] s23a s23l s23c (some p24) 1 w25 fun s26a s26l s26c w27 =>
            stM (p4.add 1) (.slice s26a s26l s26c) w27 fun w28 =>
            X13 ((IntKind.i64.wrap (s12.1 + 1)), ()) w28))
        (J9 (()) w14))
      (0, ()) w8)
    (fun s10 w11 =>
      cutM (σ := Unit) (fun J29 =>
        loopM (σ := Int × Unit) (fun s32 X33 w34 =>
          cond (decide (s32.1 < (if 9 < ((q1l : Nat) : Int) then 9 else ((q1l : Nat) : Int))))
          (∃ (s35a : Option Addr) (s35l s35c : Nat), w34.cell? (p4.add 2) = some (.slice s35a s35l s35c) ∧
            (0 : Int) ≤ s32.1 ∧ s32.1 < (q1l : Nat) ∧
            optM q1 fun a36 =>
            ∃ n37 : Int, w34.cell? (a36.add (s32.1.toNat * 1)) = some (.int .i64 n37) ∧
            drM w34 fun w38 =>
            CallsX P N.f_girderkit_Pick #[.int .i64 n37, .int .i64 9] w38 fun v40 w39 =>
            ∃ n41 : Int, v40 = (.int .i64 n41) ∧
            w39.cell? (p4.add 2) = some (.slice s35a s35l s35c) ∧
            drM w39 fun w42 =>
            CallsX P N.f_math_Ldexp #[.float .f64 4607182418800017408, .int .i64 (IntKind.i64.wrap (n41 - 4))] w42 fun v44 w43 =>
            ∃ x45 : Nat, v44 = (.float .f64 x45) ∧
            w43.cell? (p4.add 2) = some (.slice s35a s35l s35c) ∧
            drM w43 fun w46 =>
            newM #[.float .f64 x45] N.t_float64 w46 fun p47 w48 =>
            w48.cell? (p4.add 2) = some (.slice s35a s35l s35c) ∧
            drM w48 fun w49 =>
            appM N.t_float64 1 8 #[.float .f64 0] s35a s35l s35c (some p47) 1 w49 fun s50a s50l s50c w51 =>
            drM w51 fun w52 =>
            stM (p4.add 2) (.slice s50a s50l s50c) w52 fun w53 =>
            drM w53 fun w54 =>
            X33 ((IntKind.i64.wrap (s32.1 + 1)), ()) w54)
          (J29 (()) w34))
        (0, ()) w11)
      (fun s30 w31 =>
        ∃ n55 : Int, w31.cell? p4 = some (.int .i64 n55) ∧
        ∃ (s56a : Option Addr) (s56l s56c : Nat), w31.cell? (p4.add 1) = some (.slice s56a s56l s56c) ∧
        ∃ (s57a : Option Addr) (s57l s57c : Nat), w31.cell? (p4.add 2) = some (.slice s57a s57l s57c) ∧
        CallsX P N.f_girderkit_CopyFactor #[.agg #[.int .i64 n55, .slice s56a s56l s56c, .slice s57a s57l s57c]] w31 fun v59 w58 =>
        ∃ n60 : Int, ∃ (s61a : Option Addr) (s61l s61c : Nat), ∃ (s62a : Option Addr) (s62l s62c : Nat), v59 = (.agg #[.int .i64 n60, .slice s61a s61l s61c, .slice s62a s62l s62c]) ∧
        CallsX P N.f_lower_Times #[.agg #[.int .i64 n60, .slice s61a s61l s61c, .slice s62a s62l s62c]] w58 fun v64 w63 =>
        ∃ n65 : Int, ∃ n66 : Int, ∃ (s67a : Option Addr) (s67l s67c : Nat), ∃ n68 : Int, v64 = (.tuple #[.agg #[.int .i64 n65, .int .i64 n66, .slice s67a s67l s67c], .int .i64 n68]) ∧
        newM #[.int .i64 0, .int .i64 0, .slice none 0 0] N.t_Matrix w63 fun p69 w70 =>
        stM p69 (.int .i64 n65) w70 fun w71 =>
        stM (p69.add 1) (.int .i64 n66) w71 fun w72 =>
        stM (p69.add 2) (.slice s67a s67l s67c) w72 fun w73 =>
        ∃ n74 : Int, w73.cell? p69 = some (.int .i64 n74) ∧
        ∃ n75 : Int, w73.cell? (p69.add 1) = some (.int .i64 n75) ∧
        ∃ (s76a : Option Addr) (s76l s76c : Nat), w73.cell? (p69.add 2) = some (.slice s76a s76l s76c) ∧
        CallsX P N.f_lower_Factor #[.agg #[.int .i64 n74, .int .i64 n75, .slice s76a s76l s76c]] w73 fun v78 w77 =>
        ∃ n79 : Int, ∃ (s80a : Option Addr) (s80l s80c : Nat), ∃ (s81a : Option Addr) (s81l s81c : Nat), ∃ n82 : Int, ∃ n83 : Int, v78 = (.tuple #[.agg #[.int .i64 n79, .slice s80a s80l s80c, .slice s81a s81l s81c], .int .i64 n82, .int .i64 n83]) ∧
        newM #[.int .i64 0, .slice none 0 0, .slice none 0 0] N.t_Factor w77 fun p84 w85 =>
        stM p84 (.int .i64 n79) w85 fun w86 =>
        stM (p84.add 1) (.slice s80a s80l s80c) w86 fun w87 =>
        stM (p84.add 2) (.slice s81a s81l s81c) w87 fun w88 =>
        cond (n68 == 0)
        (cond (n82 == 0)
          (∃ n89 : Int, w88.cell? p4 = some (.int .i64 n89) ∧
            ∃ (s90a : Option Addr) (s90l s90c : Nat), w88.cell? (p4.add 1) = some (.slice s90a s90l s90c) ∧
            ∃ (s91a : Option Addr) (s91l s91c : Nat), w88.cell? (p4.add 2) = some (.slice s91a s91l s91c) ∧
            ∃ n92 : Int, w88.cell? p84 = some (.int .i64 n92) ∧
            ∃ (s93a : Option Addr) (s93l s93c : Nat), w88.cell? (p84.add 1) = some (.slice s93a s93l s93c) ∧
            ∃ (s94a : Option Addr) (s94l s94c : Nat), w88.cell? (p84.add 2) = some (.slice s94a s94l s94c) ∧
            CallsX P N.f_girderkit_SameFactor #[.agg #[.int .i64 n89, .slice s90a s90l s90c, .slice s91a s91l s91c], .agg #[.int .i64 n92, .slice s93a s93l s93c, .slice s94a s94l s94c]] w88 fun v96 w95 =>
            ∃ b97 : Bool, v96 = (.bool b97) ∧
            K (.bool b97) w95)
          (K (.bool false) w88))
        (K (.bool false) w88))))

/-- girder/lower.Factor -/
def S_lower_Factor (N : Nums) (P : Program) (q0_0 : Int) (q0_1 : Int) (q0_2 : Option Addr) (q0_2l q0_2c : Nat) (w : World) (K : Value → World → Prop) : Prop :=
  newM #[.int .i64 q0_0, .int .i64 q0_1, .slice q0_2 q0_2l q0_2c] N.t_Matrix w fun p1 w2 =>
  newM #[.int .i64 0, .slice none 0 0, .slice none 0 0] N.t_Factor w2 fun p3 w4 =>
  ∃ n5 : Int, w4.cell? p1 = some (.int .i64 n5) ∧
  ∃ n6 : Int, w4.cell? (p1.add 1) = some (.int .i64 n6) ∧
  ∃ (s7a : Option Addr) (s7l s7c : Nat), w4.cell? (p1.add 2) = some (.slice s7a s7l s7c) ∧
  CallsX P N.f_matrix_Symmetric #[.agg #[.int .i64 n5, .int .i64 n6, .slice s7a s7l s7c]] w4 fun v9 w8 =>
  ∃ b10 : Bool, v9 = (.bool b10) ∧
  cond (!b10)
  (∃ n11 : Int, w8.cell? p3 = some (.int .i64 n11) ∧
    ∃ (s12a : Option Addr) (s12l s12c : Nat), w8.cell? (p3.add 1) = some (.slice s12a s12l s12c) ∧
    ∃ (s13a : Option Addr) (s13l s13c : Nat), w8.cell? (p3.add 2) = some (.slice s13a s13l s13c) ∧
    stM p3 (.int .i64 n11) w8 fun w14 =>
    stM (p3.add 1) (.slice s12a s12l s12c) w14 fun w15 =>
    stM (p3.add 2) (.slice s13a s13l s13c) w15 fun w16 =>
    ∃ n17 : Int, w16.cell? p3 = some (.int .i64 n17) ∧
    ∃ (s18a : Option Addr) (s18l s18c : Nat), w16.cell? (p3.add 1) = some (.slice s18a s18l s18c) ∧
    ∃ (s19a : Option Addr) (s19l s19c : Nat), w16.cell? (p3.add 2) = some (.slice s19a s19l s19c) ∧
    K (.tuple #[.agg #[.int .i64 n17, .slice s18a s18l s18c, .slice s19a s19l s19c], .int .i64 4, .int .i64 0]) w16)
  (∃ (s20a : Option Addr) (s20l s20c : Nat), w8.cell? (p1.add 2) = some (.slice s20a s20l s20c) ∧
    cutM (σ := Int × Int × Unit) (fun J21 =>
      loopM (σ := Int × Int × Int × Unit) (fun s24 X25 w26 =>
        cond (decide (s24.2.2.1 < ((s20l : Nat) : Int)))
        ((0 : Int) ≤ s24.2.2.1 ∧ s24.2.2.1 < (s20l : Nat) ∧
          optM s20a fun a27 =>
          ∃ x28 : Nat, w26.cell? (a27.add (s24.2.2.1.toNat * 1)) = some (.float .f64 x28) ∧
          CallsX P N.f_lower_finite #[.float .f64 x28] w26 fun v30 w29 =>
          ∃ b31 : Bool, v30 = (.bool b31) ∧
          cond (!b31)
          (∃ n32 : Int, w29.cell? p3 = some (.int .i64 n32) ∧
            ∃ (s33a : Option Addr) (s33l s33c : Nat), w29.cell? (p3.add 1) = some (.slice s33a s33l s33c) ∧
            ∃ (s34a : Option Addr) (s34l s34c : Nat), w29.cell? (p3.add 2) = some (.slice s34a s34l s34c) ∧
            stM p3 (.int .i64 n32) w29 fun w35 =>
            stM (p3.add 1) (.slice s33a s33l s33c) w35 fun w36 =>
            stM (p3.add 2) (.slice s34a s34l s34c) w36 fun w37 =>
            ∃ n38 : Int, w37.cell? p3 = some (.int .i64 n38) ∧
            ∃ (s39a : Option Addr) (s39l s39c : Nat), w37.cell? (p3.add 1) = some (.slice s39a s39l s39c) ∧
            ∃ (s40a : Option Addr) (s40l s40c : Nat), w37.cell? (p3.add 2) = some (.slice s40a s40l s40c) ∧
            K (.tuple #[.agg #[.int .i64 n38, .slice s39a s39l s39c, .slice s40a s40l s40c], .int .i64 5, .int .i64 0]) w37)
          (X25 (s24.1, s24.2.1, (IntKind.i64.wrap (s24.2.2.1 + 1)), ()) w29))
        (J21 (s24.1, s24.2.1, ()) w26))
      (0, 0, 0, ()) w8)
    (fun s22 w23 =>
      ∃ n41 : Int, w23.cell? p1 = some (.int .i64 n41) ∧
      cutM (σ := (Option Addr × Nat × Nat) × (Option Addr × Nat × Nat) × Unit) (fun J42 =>
        (2 : Int) ≠ 0 ∧
        (drM w23 fun w45 =>
          mkM N.t_float64 1 8 #[.float .f64 0] (IntKind.i64.wrap ((IntKind.i64.wrap (n41 * (IntKind.i64.wrap (n41 - 1)))).tdiv 2)) (IntKind.i64.wrap ((IntKind.i64.wrap (n41 * (IntKind.i64.wrap (n41 - 1)))).tdiv 2)) w45 fun p46 w47 =>
          drM w47 fun w48 =>
          mkM N.t_float64 1 8 #[.float .f64 0] n41 n41 w48 fun p49 w50 =>
          drM w50 fun w51 =>
          J42 (((some p46), (IntKind.i64.wrap ((IntKind.i64.wrap (n41 * (IntKind.i64.wrap (n41 - 1)))).tdiv 2)).toNat, (IntKind.i64.wrap ((IntKind.i64.wrap (n41 * (IntKind.i64.wrap (n41 - 1)))).tdiv 2)).toNat), ((some p49), n41.toNat, n41.toNat), ()) w51) ∧
        (drM w23 fun w52 =>
          mkM N.t_float64 1 8 #[.float .f64 0] n41 n41 w52 fun p53 w54 =>
          drM w54 fun w55 =>
          mkM N.t_float64 1 8 #[.float .f64 0] (IntKind.i64.wrap ((IntKind.i64.wrap (n41 * (IntKind.i64.wrap (n41 - 1)))).tdiv 2)) (IntKind.i64.wrap ((IntKind.i64.wrap (n41 * (IntKind.i64.wrap (n41 - 1)))).tdiv 2)) w55 fun p56 w57 =>
          drM w57 fun w58 =>
          J42 (((some p56), (IntKind.i64.wrap ((IntKind.i64.wrap (n41 * (IntKind.i64.wrap (n41 - 1)))).tdiv 2)).toNat, (IntKind.i64.wrap ((IntKind.i64.wrap (n41 * (IntKind.i64.wrap (n41 - 1)))).tdiv 2)).toNat), ((some p53), n41.toNat, n41.toNat), ()) w58))
      (fun s43 w44 =>
        mkM N.t_float64 1 8 #[.float .f64 0] n41 n41 w44 fun p59 w60 =>
        cutM (σ := Int × Int × Unit) (fun J61 =>
          loopM (σ := Int × Int × Int × Unit) (fun s64 X65 w66 =>
            cond (decide (s64.2.2.1 < n41))
            (CallsX P N.f_lower_row #[.slice s43.1.1 s43.1.2.1 s43.1.2.2, .int .i64 s64.2.2.1] w66 fun v68 w67 =>
              ∃ (s69a : Option Addr) (s69l s69c : Nat), v68 = (.slice s69a s69l s69c) ∧
              ∃ (s70a : Option Addr) (s70l s70c : Nat), w67.cell? (p1.add 2) = some (.slice s70a s70l s70c) ∧
              (0 : Int) ≤ (IntKind.i64.wrap ((IntKind.i64.wrap (s64.2.2.1 * n41)) + s64.2.2.1)) ∧ (IntKind.i64.wrap ((IntKind.i64.wrap (s64.2.2.1 * n41)) + s64.2.2.1)) < (s70l : Nat) ∧
              optM s70a fun a71 =>
              ∃ x72 : Nat, w67.cell? (a71.add ((IntKind.i64.wrap ((IntKind.i64.wrap (s64.2.2.1 * n41)) + s64.2.2.1)).toNat * 1)) = some (.float .f64 x72) ∧
              cutM (σ := Nat × Unit) (fun J73 =>
                loopM (σ := Nat × Int × Unit) (fun s76 X77 w78 =>
                  cond (decide (s76.2.1 < ((s69l : Nat) : Int)))
                  ((0 : Int) ≤ s76.2.1 ∧ s76.2.1 < (s69l : Nat) ∧
                    optM s69a fun a79 =>
                    ∃ x80 : Nat, w78.cell? (a79.add (s76.2.1.toNat * 1)) = some (.float .f64 x80) ∧
                    (0 : Int) ≤ s76.2.1 ∧ s76.2.1 < (s43.2.1.2.1 : Nat) ∧
                    optM s43.2.1.1 fun a81 =>
                    ∃ x82 : Nat, w78.cell? (a81.add (s76.2.1.toNat * 1)) = some (.float .f64 x82) ∧
                    fresM (fmul x80 x82) w78 fun x83 w84 =>
                    (0 : Int) ≤ s76.2.1 ∧ s76.2.1 < (n41.toNat : Nat) ∧
                    stM (p59.add (s76.2.1.toNat * 1)) (.float .f64 x83) w84 fun w85 =>
                    (0 : Int) ≤ s76.2.1 ∧ s76.2.1 < (n41.toNat : Nat) ∧
                    ∃ x86 : Nat, w85.cell? (p59.add (s76.2.1.toNat * 1)) = some (.float .f64 x86) ∧
                    fresM (fmul x86 x80) w85 fun x87 w88 =>
                    fresM (fsub s76.1 x87) w88 fun x89 w90 =>
                    X77 (x89, (IntKind.i64.wrap (s76.2.1 + 1)), ()) w90)
                  (J73 (s76.1, ()) w78))
                (x72, 0, ()) w67)
              (fun s74 w75 =>
                cutM (σ := Bool × Unit) (fun J91 =>
                  cond (!(!(fgt s74.1 0)))
                  (CallsX P N.f_lower_finite #[.float .f64 s74.1] w75 fun v95 w94 =>
                    ∃ b96 : Bool, v95 = (.bool b96) ∧
                    J91 ((!b96), ()) w94)
                  (J91 (true, ()) w75))
                (fun s92 w93 =>
                  cond s92.1
                  (J61 (220, s64.2.2.1, ()) w93)
                  ((0 : Int) ≤ s64.2.2.1 ∧ s64.2.2.1 < (s43.2.1.2.1 : Nat) ∧
                    optM s43.2.1.1 fun a97 =>
                    stM (a97.add (s64.2.2.1.toNat * 1)) (.float .f64 s74.1) w93 fun w98 =>
                    cutM (σ := Int × Int × Unit) (fun J99 =>
                      loopM (σ := Int × Int × Int × Unit) (fun s102 X103 w104 =>
                        cond (decide (s102.2.2.1 < n41))
                        (CallsX P N.f_lower_row #[.slice s43.1.1 s43.1.2.1 s43.1.2.2, .int .i64 s102.2.2.1] w104 fun v106 w105 =>
                          ∃ (s107a : Option Addr) (s107l s107c : Nat), v106 = (.slice s107a s107l s107c) ∧
                          ∃ (s108a : Option Addr) (s108l s108c : Nat), w105.cell? (p1.add 2) = some (.slice s108a s108l s108c) ∧
                          (0 : Int) ≤ (IntKind.i64.wrap ((IntKind.i64.wrap (s102.2.2.1 * n41)) + s64.2.2.1)) ∧ (IntKind.i64.wrap ((IntKind.i64.wrap (s102.2.2.1 * n41)) + s64.2.2.1)) < (s108l : Nat) ∧
                          optM s108a fun a109 =>
                          ∃ x110 : Nat, w105.cell? (a109.add ((IntKind.i64.wrap ((IntKind.i64.wrap (s102.2.2.1 * n41)) + s64.2.2.1)).toNat * 1)) = some (.float .f64 x110) ∧
                          cutM (σ := Nat × Unit) (fun J111 =>
                          loopM (σ := Nat × Int × Unit) (fun s114 X115 w116 =>
                          cond (decide (s114.2.1 < s64.2.2.1))
                          ((0 : Int) ≤ s114.2.1 ∧ s114.2.1 < (s107l : Nat) ∧
                          optM s107a fun a117 =>
                          ∃ x118 : Nat, w116.cell? (a117.add (s114.2.1.toNat * 1)) = some (.float .f64 x118) ∧
                          (0 : Int) ≤ s114.2.1 ∧ s114.2.1 < (n41.toNat : Nat) ∧
                          ∃ x119 : Nat, w116.cell? (p59.add (s114.2.1.toNat * 1)) = some (.float .f64 x119) ∧
                          fresM (fmul x118 x119) w116 fun x120 w121 =>
                          fresM (fsub s114.1 x120) w116 fun x122 w123 =>
                          drM w116 fun w124 =>
                          X115 (x122, (IntKind.i64.wrap (s114.2.1 + 1)), ()) w124)
                          (J111 (s114.1, ()) w116))
                          (x110, 0, ()) w105)
                          (fun s112 w113 =>
                          (0 : Int) ≤ s64.2.2.1 ∧ s64.2.2.1 < (s43.2.1.2.1 : Nat) ∧
                          optM s43.2.1.1 fun a125 =>
                          ∃ x126 : Nat, w113.cell? (a125.add (s64.2.2.1.toNat * 1)) = some (.float .f64 x126) ∧
                          fresM (fdiv s112.1 x126) w113 fun x127 w128 =>
                          (0 : Int) ≤ s64.2.2.1 ∧ s64.2.2.1 < (s107l : Nat) ∧
                          optM s107a fun a129 =>
                          stM (a129.add (s64.2.2.1.toNat * 1)) (.float .f64 x127) w128 fun w130 =>
                          (0 : Int) ≤ s64.2.2.1 ∧ s64.2.2.1 < (s107l : Nat) ∧
                          optM s107a fun a131 =>
                          ∃ x132 : Nat, w130.cell? (a131.add (s64.2.2.1.toNat * 1)) = some (.float .f64 x132) ∧
                          CallsX P N.f_lower_finite #[.float .f64 x132] w130 fun v134 w133 =>
                          ∃ b135 : Bool, v134 = (.bool b135) ∧
                          cond (!b135)
                          (J61 (6, s64.2.2.1, ()) w133)
                          (X103 (s102.1, s102.2.1, (IntKind.i64.wrap (s102.2.2.1 + 1)), ()) w133)))
                        (J99 (s102.1, s102.2.1, ()) w104))
                      (s64.1, s64.2.1, (IntKind.i64.wrap (s64.2.2.1 + 1)), ()) w98)
                    (fun s100 w101 =>
                      X65 (s100.1, s100.2.1, (IntKind.i64.wrap (s64.2.2.1 + 1)), ()) w101)))))
            (J61 (s64.1, s64.2.1, ()) w66))
          (s22.1, s22.2.1, 0, ()) w60)
        (fun s62 w63 =>
          cond (s62.1 != 0)
          (∃ n136 : Int, w63.cell? p3 = some (.int .i64 n136) ∧
            ∃ (s137a : Option Addr) (s137l s137c : Nat), w63.cell? (p3.add 1) = some (.slice s137a s137l s137c) ∧
            ∃ (s138a : Option Addr) (s138l s138c : Nat), w63.cell? (p3.add 2) = some (.slice s138a s138l s138c) ∧
            stM p3 (.int .i64 n136) w63 fun w139 =>
            stM (p3.add 1) (.slice s137a s137l s137c) w139 fun w140 =>
            stM (p3.add 2) (.slice s138a s138l s138c) w140 fun w141 =>
            ∃ n142 : Int, w141.cell? p3 = some (.int .i64 n142) ∧
            ∃ (s143a : Option Addr) (s143l s143c : Nat), w141.cell? (p3.add 1) = some (.slice s143a s143l s143c) ∧
            ∃ (s144a : Option Addr) (s144l s144c : Nat), w141.cell? (p3.add 2) = some (.slice s144a s144l s144c) ∧
            K (.tuple #[.agg #[.int .i64 n142, .slice s143a s143l s143c, .slice s144a s144l s144c], .int .i64 s62.1, .int .i64 s62.2.1]) w141)
          (stM p3 (.int .i64 n41) w63 fun w145 =>
            stM (p3.add 1) (.slice s43.1.1 s43.1.2.1 s43.1.2.2) w145 fun w146 =>
            stM (p3.add 2) (.slice s43.2.1.1 s43.2.1.2.1 s43.2.1.2.2) w146 fun w147 =>
            ∃ n148 : Int, w147.cell? p3 = some (.int .i64 n148) ∧
            ∃ (s149a : Option Addr) (s149l s149c : Nat), w147.cell? (p3.add 1) = some (.slice s149a s149l s149c) ∧
            ∃ (s150a : Option Addr) (s150l s150c : Nat), w147.cell? (p3.add 2) = some (.slice s150a s150l s150c) ∧
            K (.tuple #[.agg #[.int .i64 n148, .slice s149a s149l s149c, .slice s150a s150l s150c], .int .i64 0, .int .i64 0]) w147)))))

/-- girder/girderref12.Factor -/
def S_girderref12_Factor (N : Nums) (P : Program) (q0_0 : Int) (q0_1 : Int) (q0_2 : Option Addr) (q0_2l q0_2c : Nat) (w : World) (K : Value → World → Prop) : Prop :=
  newM #[.int .i64 q0_0, .int .i64 q0_1, .slice q0_2 q0_2l q0_2c] N.t_Matrix w fun p1 w2 =>
  newM #[.int .i64 0, .slice none 0 0, .slice none 0 0] N.t_Factor w2 fun p3 w4 =>
  newM #[.int .i64 0, .slice none 0 0, .slice none 0 0] N.t_Factor w4 fun p5 w6 =>
  stM p5 (.int .i64 0) w6 fun w7 =>
  stM (p5.add 1) (.slice none 0 0) w7 fun w8 =>
  stM (p5.add 2) (.slice none 0 0) w8 fun w9 =>
  ∃ n10 : Int, w9.cell? p1 = some (.int .i64 n10) ∧
  ∃ n11 : Int, w9.cell? (p1.add 1) = some (.int .i64 n11) ∧
  ∃ (s12a : Option Addr) (s12l s12c : Nat), w9.cell? (p1.add 2) = some (.slice s12a s12l s12c) ∧
  CallsX P N.f_girderref10_Symmetric #[.agg #[.int .i64 n10, .int .i64 n11, .slice s12a s12l s12c]] w9 fun v14 w13 =>
  ∃ b15 : Bool, v14 = (.bool b15) ∧
  cond (!b15)
  (∃ n16 : Int, w13.cell? p5 = some (.int .i64 n16) ∧
    ∃ (s17a : Option Addr) (s17l s17c : Nat), w13.cell? (p5.add 1) = some (.slice s17a s17l s17c) ∧
    ∃ (s18a : Option Addr) (s18l s18c : Nat), w13.cell? (p5.add 2) = some (.slice s18a s18l s18c) ∧
    stM p3 (.int .i64 n16) w13 fun w19 =>
    stM (p3.add 1) (.slice s17a s17l s17c) w19 fun w20 =>
    stM (p3.add 2) (.slice s18a s18l s18c) w20 fun w21 =>
    ∃ n22 : Int, w21.cell? p3 = some (.int .i64 n22) ∧
    ∃ (s23a : Option Addr) (s23l s23c : Nat), w21.cell? (p3.add 1) = some (.slice s23a s23l s23c) ∧
    ∃ (s24a : Option Addr) (s24l s24c : Nat), w21.cell? (p3.add 2) = some (.slice s24a s24l s24c) ∧
    K (.tuple #[.agg #[.int .i64 n22, .slice s23a s23l s23c, .slice s24a s24l s24c], .int .i64 4, .int .i64 0]) w21)
  (cutM (σ := Unit) (fun J25 =>
      loopM (σ := Int × Unit) (fun s28 X29 w30 =>
        ∃ (s31a : Option Addr) (s31l s31c : Nat), w30.cell? (p1.add 2) = some (.slice s31a s31l s31c) ∧
        cond (decide (s28.1 < ((s31l : Nat) : Int)))
        (∃ (s32a : Option Addr) (s32l s32c : Nat), w30.cell? (p1.add 2) = some (.slice s32a s32l s32c) ∧
          (0 : Int) ≤ s28.1 ∧ s28.1 < (s32l : Nat) ∧
          optM s32a fun a33 =>
          ∃ x34 : Nat, w30.cell? (a33.add (s28.1.toNat * 1)) = some (.float .f64 x34) ∧
          CallsX P N.f_girderref03_Finite #[.float .f64 x34] w30 fun v36 w35 =>
          ∃ b37 : Bool, v36 = (.bool b37) ∧
          cond (!b37)
          (∃ n38 : Int, w35.cell? p5 = some (.int .i64 n38) ∧
            ∃ (s39a : Option Addr) (s39l s39c : Nat), w35.cell? (p5.add 1) = some (.slice s39a s39l s39c) ∧
            ∃ (s40a : Option Addr) (s40l s40c : Nat), w35.cell? (p5.add 2) = some (.slice s40a s40l s40c) ∧
            stM p3 (.int .i64 n38) w35 fun w41 =>
            stM (p3.add 1) (.slice s39a s39l s39c) w41 fun w42 =>
            stM (p3.add 2) (.slice s40a s40l s40c) w42 fun w43 =>
            ∃ n44 : Int, w43.cell? p3 = some (.int .i64 n44) ∧
            ∃ (s45a : Option Addr) (s45l s45c : Nat), w43.cell? (p3.add 1) = some (.slice s45a s45l s45c) ∧
            ∃ (s46a : Option Addr) (s46l s46c : Nat), w43.cell? (p3.add 2) = some (.slice s46a s46l s46c) ∧
            K (.tuple #[.agg #[.int .i64 n44, .slice s45a s45l s45c, .slice s46a s46l s46c], .int .i64 5, .int .i64 0]) w43)
          (X29 ((IntKind.i64.wrap (s28.1 + 1)), ()) w35))
        (J25 (()) w30))
      (0, ()) w13)
    (fun s26 w27 =>
      ∃ n47 : Int, w27.cell? p1 = some (.int .i64 n47) ∧
      (2 : Int) ≠ 0 ∧
      mkM N.t_float64 1 8 #[.float .f64 0] (IntKind.i64.wrap ((IntKind.i64.wrap (n47 * (IntKind.i64.wrap (n47 - 1)))).tdiv 2)) (IntKind.i64.wrap ((IntKind.i64.wrap (n47 * (IntKind.i64.wrap (n47 - 1)))).tdiv 2)) w27 fun p48 w49 =>
      mkM N.t_float64 1 8 #[.float .f64 0] n47 n47 w49 fun p50 w51 =>
      cutM (σ := Unit) (fun J52 =>
        loopM (σ := Int × Unit) (fun s55 X56 w57 =>
          cond (decide (s55.1 < n47))
          (mkM N.t_float64 1 8 #[.float .f64 0] s55.1 s55.1 w57 fun p58 w59 =>
            cutM (σ := Unit) (fun J60 =>
              loopM (σ := Int × Unit) (fun s63 X64 w65 =>
                cond (decide (s63.1 < s55.1))
                ((0 : Int) ≤ s63.1 ∧ s63.1 < (n47.toNat : Nat) ∧
                  ∃ x66 : Nat, w65.cell? (p50.add (s63.1.toNat * 1)) = some (.float .f64 x66) ∧
                  drM w65 fun w67 =>
                  CallsX P N.f_girderref12_At #[.slice (some p48) ((IntKind.i64.wrap ((IntKind.i64.wrap (n47 * (IntKind.i64.wrap (n47 - 1)))).tdiv 2)).toNat) ((IntKind.i64.wrap ((IntKind.i64.wrap (n47 * (IntKind.i64.wrap (n47 - 1)))).tdiv 2)).toNat), .int .i64 s55.1, .int .i64 s63.1] w67 fun v69 w68 =>
                  ∃ x70 : Nat, v69 = (.float .f64 x70) ∧
                  w68.cell? (p50.add (s63.1.toNat * 1)) = some (.float .f64 x66) ∧
                  fresM (fmul x70 x66) w68 fun x71 w72 =>
                  (0 : Int) ≤ s63.1 ∧ s63.1 < (s55.1.toNat : Nat) ∧
                  drM w68 fun w73 =>
                  stM (p58.add (s63.1.toNat * 1)) (.float .f64 x71) w73 fun w74 =>
                  drM w74 fun w75 =>
                  X64 ((IntKind.i64.wrap (s63.1 + 1)), ()) w75)
                (J60 (()) w65))
              (0, ()) w59)
            (fun s61 w62 =>
              cutM (σ := Unit) (fun J76 =>
                loopM (σ := Int × Unit) (fun s79 X80 w81 =>
                  cond (decide (s79.1 < n47))
                  (cutM (σ := Unit) (fun J82 =>
                      ∃ (s85a : Option Addr) (s85l s85c : Nat), w81.cell? (p1.add 2) = some (.slice s85a s85l s85c) ∧
                      (0 : Int) ≤ (IntKind.i64.wrap ((IntKind.i64.wrap (s79.1 * n47)) + s55.1)) ∧ (IntKind.i64.wrap ((IntKind.i64.wrap (s79.1 * n47)) + s55.1)) < (s85l : Nat) ∧
                      optM s85a fun a86 =>
                      ∃ x87 : Nat, w81.cell? (a86.add ((IntKind.i64.wrap ((IntKind.i64.wrap (s79.1 * n47)) + s55.1)).toNat * 1)) = some (.float .f64 x87) ∧
                      cutM (σ := Nat × Unit) (fun J88 =>
                        loopM (σ := Nat × Int × Unit) (fun s91 X92 w93 =>
                          cond (decide (s91.2.1 < s55.1))
                          ((0 : Int) ≤ s91.2.1 ∧ s91.2.1 < (s55.1.toNat : Nat) ∧
                          ∃ x94 : Nat, w93.cell? (p58.add (s91.2.1.toNat * 1)) = some (.float .f64 x94) ∧
                          drM w93 fun w95 =>
                          CallsX P N.f_girderref12_At #[.slice (some p48) ((IntKind.i64.wrap ((IntKind.i64.wrap (n47 * (IntKind.i64.wrap (n47 - 1)))).tdiv 2)).toNat) ((IntKind.i64.wrap ((IntKind.i64.wrap (n47 * (IntKind.i64.wrap (n47 - 1)))).tdiv 2)).toNat), .int .i64 s79.1, .int .i64 s91.2.1] w95 fun v97 w96 =>
                          ∃ x98 : Nat, v97 = (.float .f64 x98) ∧
                          w96.cell? (p58.add (s91.2.1.toNat * 1)) = some (.float .f64 x94) ∧
                          fresM (fmul x98 x94) w96 fun x99 w100 =>
                          drM w96 fun w101 =>
                          fresM (fsub s91.1 x99) w101 fun x102 w103 =>
                          X92 (x102, (IntKind.i64.wrap (s91.2.1 + 1)), ()) w103)
                          (J88 (s91.1, ()) w93))
                        (x87, 0, ()) w81)
                      (fun s89 w90 =>
                        cond (s79.1 == s55.1)
                        (cond (!(!(fgt s89.1 0)))
                          (CallsX P N.f_girderref03_Finite #[.float .f64 s89.1] w90 fun v105 w104 =>
                          ∃ b106 : Bool, v105 = (.bool b106) ∧
                          cond (!b106)
                          (∃ n107 : Int, w104.cell? p5 = some (.int .i64 n107) ∧
                          ∃ (s108a : Option Addr) (s108l s108c : Nat), w104.cell? (p5.add 1) = some (.slice s108a s108l s108c) ∧
                          ∃ (s109a : Option Addr) (s109l s109c : Nat), w104.cell? (p5.add 2) = some (.slice s109a s109l s109c) ∧
                          stM p3 (.int .i64 n107) w104 fun w110 =>
                          stM (p3.add 1) (.slice s108a s108l s108c) w110 fun w111 =>
                          stM (p3.add 2) (.slice s109a s109l s109c) w111 fun w112 =>
                          ∃ n113 : Int, w112.cell? p3 = some (.int .i64 n113) ∧
                          ∃ (s114a : Option Addr) (s114l s114c : Nat), w112.cell? (p3.add 1) = some (.slice s114a s114l s114c) ∧
                          ∃ (s115a : Option Addr) (s115l s115c : Nat), w112.cell? (p3.add 2) = some (.slice s115a s115l s115c) ∧
                          K (.tuple #[.agg #[.int .i64 n113, .slice s114a s114l s114c, .slice s115a s115l s115c], .int .i64 220, .int .i64 s55.1]) w112)
                          ((0 : Int) ≤ s55.1 ∧ s55.1 < (n47.toNat : Nat) ∧
                          stM (p50.add (s55.1.toNat * 1)) (.float .f64 s89.1) w104 fun w116 =>
                          J82 (()) w116))
                          (∃ n117 : Int, w90.cell? p5 = some (.int .i64 n117) ∧
                          ∃ (s118a : Option Addr) (s118l s118c : Nat), w90.cell? (p5.add 1) = some (.slice s118a s118l s118c) ∧
                          ∃ (s119a : Option Addr) (s119l s119c : Nat), w90.cell? (p5.add 2) = some (.slice s119a s119l s119c) ∧
                          stM p3 (.int .i64 n117) w90 fun w120 =>
                          stM (p3.add 1) (.slice s118a s118l s118c) w120 fun w121 =>
                          stM (p3.add 2) (.slice s119a s119l s119c) w121 fun w122 =>
                          ∃ n123 : Int, w122.cell? p3 = some (.int .i64 n123) ∧
                          ∃ (s124a : Option Addr) (s124l s124c : Nat), w122.cell? (p3.add 1) = some (.slice s124a s124l s124c) ∧
                          ∃ (s125a : Option Addr) (s125l s125c : Nat), w122.cell? (p3.add 2) = some (.slice s125a s125l s125c) ∧
                          K (.tuple #[.agg #[.int .i64 n123, .slice s124a s124l s124c, .slice s125a s125l s125c], .int .i64 220, .int .i64 s55.1]) w122))
                        ((0 : Int) ≤ s55.1 ∧ s55.1 < (n47.toNat : Nat) ∧
                          ∃ x126 : Nat, w90.cell? (p50.add (s55.1.toNat * 1)) = some (.float .f64 x126) ∧
                          fresM (fdiv s89.1 x126) w90 fun x127 w128 =>
                          CallsX P N.f_girderref03_Finite #[.float .f64 x127] w128 fun v130 w129 =>
                          ∃ b131 : Bool, v130 = (.bool b131) ∧
                          cond (!b131)
                          (∃ n132 : Int, w129.cell? p5 = some (.int .i64 n132) ∧
                          ∃ (s133a : Option Addr) (s133l s133c : Nat), w129.cell? (p5.add 1) = some (.slice s133a s133l s133c) ∧
                          ∃ (s134a : Option Addr) (s134l s134c : Nat), w129.cell? (p5.add 2) = some (.slice s134a s134l s134c) ∧
                          stM p3 (.int .i64 n132) w129 fun w135 =>
                          stM (p3.add 1) (.slice s133a s133l s133c) w135 fun w136 =>
                          stM (p3.add 2) (.slice s134a s134l s134c) w136 fun w137 =>
                          ∃ n138 : Int, w137.cell? p3 = some (.int .i64 n138) ∧
                          ∃ (s139a : Option Addr) (s139l s139c : Nat), w137.cell? (p3.add 1) = some (.slice s139a s139l s139c) ∧
                          ∃ (s140a : Option Addr) (s140l s140c : Nat), w137.cell? (p3.add 2) = some (.slice s140a s140l s140c) ∧
                          K (.tuple #[.agg #[.int .i64 n138, .slice s139a s139l s139c, .slice s140a s140l s140c], .int .i64 6, .int .i64 s55.1]) w137)
                          ((2 : Int) ≠ 0 ∧
                          (0 : Int) ≤ (IntKind.i64.wrap ((IntKind.i64.wrap ((IntKind.i64.wrap (s79.1 * (IntKind.i64.wrap (s79.1 - 1)))).tdiv 2)) + s55.1)) ∧ (IntKind.i64.wrap ((IntKind.i64.wrap ((IntKind.i64.wrap (s79.1 * (IntKind.i64.wrap (s79.1 - 1)))).tdiv 2)) + s55.1)) < ((IntKind.i64.wrap ((IntKind.i64.wrap (n47 * (IntKind.i64.wrap (n47 - 1)))).tdiv 2)).toNat : Nat) ∧
                          stM (p48.add ((IntKind.i64.wrap ((IntKind.i64.wrap ((IntKind.i64.wrap (s79.1 * (IntKind.i64.wrap (s79.1 - 1)))).tdiv 2)) + s55.1)).toNat * 1)) (.float .f64 x127) w129 fun w141 =>
                          J82 (()) w141))))
                    (fun s83 w84 =>
                      X80 ((IntKind.i64.wrap (s79.1 + 1)), ()) w84))
                  (J76 (()) w81))
                (s55.1, ()) w62)
              (fun s77 w78 =>
                X56 ((IntKind.i64.wrap (s55.1 + 1)), ()) w78)))
          (J52 (()) w57))
        (0, ()) w51)
      (fun s53 w54 =>
        stM p3 (.int .i64 n47) w54 fun w142 =>
        stM (p3.add 1) (.slice (some p48) ((IntKind.i64.wrap ((IntKind.i64.wrap (n47 * (IntKind.i64.wrap (n47 - 1)))).tdiv 2)).toNat) ((IntKind.i64.wrap ((IntKind.i64.wrap (n47 * (IntKind.i64.wrap (n47 - 1)))).tdiv 2)).toNat)) w142 fun w143 =>
        stM (p3.add 2) (.slice (some p50) n47.toNat n47.toNat) w143 fun w144 =>
        ∃ n145 : Int, w144.cell? p3 = some (.int .i64 n145) ∧
        ∃ (s146a : Option Addr) (s146l s146c : Nat), w144.cell? (p3.add 1) = some (.slice s146a s146l s146c) ∧
        ∃ (s147a : Option Addr) (s147l s147c : Nat), w144.cell? (p3.add 2) = some (.slice s147a s147l s147c) ∧
        K (.tuple #[.agg #[.int .i64 n145, .slice s146a s146l s146c, .slice s147a s147l s147c], .int .i64 0, .int .i64 0]) w144)))

/-- girder/girderkit.SameFactor -/
def S_girderkit_SameFactor (N : Nums) (P : Program) (q0_0 : Int) (q0_1 : Option Addr) (q0_1l q0_1c : Nat) (q0_2 : Option Addr) (q0_2l q0_2c : Nat) (q1_0 : Int) (q1_1 : Option Addr) (q1_1l q1_1c : Nat) (q1_2 : Option Addr) (q1_2l q1_2c : Nat) (w : World) (K : Value → World → Prop) : Prop :=
  newM #[.int .i64 q0_0, .slice q0_1 q0_1l q0_1c, .slice q0_2 q0_2l q0_2c] N.t_Factor w fun p1 w2 =>
  newM #[.int .i64 q1_0, .slice q1_1 q1_1l q1_1c, .slice q1_2 q1_2l q1_2c] N.t_Factor w2 fun p3 w4 =>
  ∃ n5 : Int, w4.cell? p1 = some (.int .i64 n5) ∧
  ∃ n6 : Int, w4.cell? p3 = some (.int .i64 n6) ∧
  cond (n5 == n6)
  (∃ (s7a : Option Addr) (s7l s7c : Nat), w4.cell? (p1.add 1) = some (.slice s7a s7l s7c) ∧
    ∃ (s8a : Option Addr) (s8l s8c : Nat), w4.cell? (p3.add 1) = some (.slice s8a s8l s8c) ∧
    CallsX P N.f_girderkit_SameReals #[.slice s7a s7l s7c, .slice s8a s8l s8c] w4 fun v10 w9 =>
    ∃ b11 : Bool, v10 = (.bool b11) ∧
    cond b11
    (∃ (s12a : Option Addr) (s12l s12c : Nat), w9.cell? (p1.add 2) = some (.slice s12a s12l s12c) ∧
      ∃ (s13a : Option Addr) (s13l s13c : Nat), w9.cell? (p3.add 2) = some (.slice s13a s13l s13c) ∧
      CallsX P N.f_girderkit_SameReals #[.slice s12a s12l s12c, .slice s13a s13l s13c] w9 fun v15 w14 =>
      ∃ b16 : Bool, v15 = (.bool b16) ∧
      K (.bool b16) w14)
    (K (.bool false) w9))
  (K (.bool false) w4)

/-- girder/girderlaw12.mirrored -/
def S_girderlaw12_mirrored (N : Nums) (P : Program) (q0_0 : Int) (q0_1 : Int) (q0_2 : Option Addr) (q0_2l q0_2c : Nat) (w : World) (K : Value → World → Prop) : Prop :=
  newM #[.int .i64 q0_0, .int .i64 q0_1, .slice q0_2 q0_2l q0_2c] N.t_Matrix w fun p1 w2 =>
  newM #[.int .i64 0, .int .i64 0, .slice none 0 0] N.t_Matrix w2 fun p3 w4 =>
  cutM (σ := Int × Unit) (fun J5 =>
    loopM (σ := Int × Unit) (fun s8 X9 w10 =>
      cond (decide (s8.1 < 48))
      (∃ (s11a : Option Addr) (s11l s11c : Nat), w10.cell? (p1.add 2) = some (.slice s11a s11l s11c) ∧
        cond (decide ((IntKind.i64.wrap ((IntKind.i64.wrap (s8.1 + 1)) * (IntKind.i64.wrap (s8.1 + 1)))) ≤ ((s11l : Nat) : Int)))
        (∃ n12 : Int, w10.cell? p1 = some (.int .i64 n12) ∧
          cond (decide (s8.1 < n12))
          (X9 ((IntKind.i64.wrap (s8.1 + 1)), ()) w10)
          (J5 (s8.1, ()) w10))
        (J5 (s8.1, ()) w10))
      (J5 (s8.1, ()) w10))
    (0, ()) w4)
  (fun s6 w7 =>
    mkM N.t_float64 1 8 #[.float .f64 0] (IntKind.i64.wrap (s6.1 * s6.1)) (IntKind.i64.wrap (s6.1 * s6.1)) w7 fun p13 w14 =>
    newM #[.int .i64 0, .int .i64 0, .slice none 0 0] N.t_Matrix w14 fun p15 w16 =>
    stM p15 (.int .i64 s6.1) w16 fun w17 =>
    stM (p15.add 1) (.int .i64 s6.1) w17 fun w18 =>
    stM (p15.add 2) (.slice (some p13) ((IntKind.i64.wrap (s6.1 * s6.1)).toNat) ((IntKind.i64.wrap (s6.1 * s6.1)).toNat)) w18 fun w19 =>
    cutM (σ := Unit) (fun J20 =>
      loopM (σ := Int × Unit) (fun s23 X24 w25 =>
        cond (decide (s23.1 < s6.1))
        (cutM (σ := Unit) (fun J26 =>
            loopM (σ := Int × Unit) (fun s29 X30 w31 =>
              cond (decide (s29.1 ≤ s23.1))
              (∃ (s32a : Option Addr) (s32l s32c : Nat), w31.cell? (p15.add 2) = some (.slice s32a s32l s32c) ∧
                ∃ (s33a : Option Addr) (s33l s33c : Nat), w31.cell? (p1.add 2) = some (.slice s33a s33l s33c) ∧
                (0 : Int) ≤ (IntKind.i64.wrap ((IntKind.i64.wrap (s23.1 * s6.1)) + s29.1)) ∧ (IntKind.i64.wrap ((IntKind.i64.wrap (s23.1 * s6.1)) + s29.1)) < (s33l : Nat) ∧
                optM s33a fun a34 =>
                ∃ x35 : Nat, w31.cell? (a34.add ((IntKind.i64.wrap ((IntKind.i64.wrap (s23.1 * s6.1)) + s29.1)).toNat * 1)) = some (.float .f64 x35) ∧
                (0 : Int) ≤ (IntKind.i64.wrap ((IntKind.i64.wrap (s23.1 * s6.1)) + s29.1)) ∧ (IntKind.i64.wrap ((IntKind.i64.wrap (s23.1 * s6.1)) + s29.1)) < (s32l : Nat) ∧
                optM s32a fun a36 =>
                drM w31 fun w37 =>
                stM (a36.add ((IntKind.i64.wrap ((IntKind.i64.wrap (s23.1 * s6.1)) + s29.1)).toNat * 1)) (.float .f64 x35) w37 fun w38 =>
                drM w38 fun w39 =>
                ∃ (s40a : Option Addr) (s40l s40c : Nat), w39.cell? (p15.add 2) = some (.slice s40a s40l s40c) ∧
                ∃ (s41a : Option Addr) (s41l s41c : Nat), w39.cell? (p1.add 2) = some (.slice s41a s41l s41c) ∧
                (0 : Int) ≤ (IntKind.i64.wrap ((IntKind.i64.wrap (s23.1 * s6.1)) + s29.1)) ∧ (IntKind.i64.wrap ((IntKind.i64.wrap (s23.1 * s6.1)) + s29.1)) < (s41l : Nat) ∧
                optM s41a fun a42 =>
                ∃ x43 : Nat, w39.cell? (a42.add ((IntKind.i64.wrap ((IntKind.i64.wrap (s23.1 * s6.1)) + s29.1)).toNat * 1)) = some (.float .f64 x43) ∧
                (0 : Int) ≤ (IntKind.i64.wrap ((IntKind.i64.wrap (s29.1 * s6.1)) + s23.1)) ∧ (IntKind.i64.wrap ((IntKind.i64.wrap (s29.1 * s6.1)) + s23.1)) < (s40l : Nat) ∧
                optM s40a fun a44 =>
                drM w39 fun w45 =>
                stM (a44.add ((IntKind.i64.wrap ((IntKind.i64.wrap (s29.1 * s6.1)) + s23.1)).toNat * 1)) (.float .f64 x43) w45 fun w46 =>
                drM w46 fun w47 =>
                X30 ((IntKind.i64.wrap (s29.1 + 1)), ()) w47)
              (J26 (()) w31))
            (0, ()) w25)
          (fun s27 w28 =>
            X24 ((IntKind.i64.wrap (s23.1 + 1)), ()) w28))
        (J20 (()) w25))
      (0, ()) w19)
    (fun s21 w22 =>
      ∃ n48 : Int, w22.cell? p15 = some (.int .i64 n48) ∧
      ∃ n49 : Int, w22.cell? (p15.add 1) = some (.int .i64 n49) ∧
      ∃ (s50a : Option Addr) (s50l s50c : Nat), w22.cell? (p15.add 2) = some (.slice s50a s50l s50c) ∧
      stM p3 (.int .i64 n48) w22 fun w51 =>
      stM (p3.add 1) (.int .i64 n49) w51 fun w52 =>
      stM (p3.add 2) (.slice s50a s50l s50c) w52 fun w53 =>
      ∃ n54 : Int, w53.cell? p3 = some (.int .i64 n54) ∧
      ∃ n55 : Int, w53.cell? (p3.add 1) = some (.int .i64 n55) ∧
      ∃ (s56a : Option Addr) (s56l s56c : Nat), w53.cell? (p3.add 2) = some (.slice s56a s56l s56c) ∧
      K (.agg #[.int .i64 n54, .int .i64 n55, .slice s56a s56l s56c]) w53))

/-- girder/girderlaw12.awake -/
def S_girderlaw12_awake (N : Nums) (P : Program)  (w : World) (K : Value → World → Prop) : Prop :=
  newM #[.float .f64 4616189618054758400, .float .f64 4611686018427387904, .float .f64 4611686018427387904, .float .f64 4617315517961601024] N.t_float64 w fun p1 w2 =>
  newM #[.int .i64 0, .int .i64 0, .slice none 0 0] N.t_Matrix w2 fun p3 w4 =>
  stM p3 (.int .i64 2) w4 fun w5 =>
  stM (p3.add 1) (.int .i64 2) w5 fun w6 =>
  stM (p3.add 2) (.slice (some p1) 4 4) w6 fun w7 =>
  ∃ n8 : Int, w7.cell? p3 = some (.int .i64 n8) ∧
  ∃ n9 : Int, w7.cell? (p3.add 1) = some (.int .i64 n9) ∧
  ∃ (s10a : Option Addr) (s10l s10c : Nat), w7.cell? (p3.add 2) = some (.slice s10a s10l s10c) ∧
  CallsX P N.f_lower_Factor #[.agg #[.int .i64 n8, .int .i64 n9, .slice s10a s10l s10c]] w7 fun v12 w11 =>
  ∃ n13 : Int, ∃ (s14a : Option Addr) (s14l s14c : Nat), ∃ (s15a : Option Addr) (s15l s15c : Nat), ∃ n16 : Int, ∃ n17 : Int, v12 = (.tuple #[.agg #[.int .i64 n13, .slice s14a s14l s14c, .slice s15a s15l s15c], .int .i64 n16, .int .i64 n17]) ∧
  newM #[.int .i64 0, .slice none 0 0, .slice none 0 0] N.t_Factor w11 fun p18 w19 =>
  stM p18 (.int .i64 n13) w19 fun w20 =>
  stM (p18.add 1) (.slice s14a s14l s14c) w20 fun w21 =>
  stM (p18.add 2) (.slice s15a s15l s15c) w21 fun w22 =>
  ∃ n23 : Int, w22.cell? p18 = some (.int .i64 n23) ∧
  ∃ (s24a : Option Addr) (s24l s24c : Nat), w22.cell? (p18.add 1) = some (.slice s24a s24l s24c) ∧
  ∃ (s25a : Option Addr) (s25l s25c : Nat), w22.cell? (p18.add 2) = some (.slice s25a s25l s25c) ∧
  CallsX P N.f_lower_Times #[.agg #[.int .i64 n23, .slice s24a s24l s24c, .slice s25a s25l s25c]] w22 fun v27 w26 =>
  ∃ n28 : Int, ∃ n29 : Int, ∃ (s30a : Option Addr) (s30l s30c : Nat), ∃ n31 : Int, v27 = (.tuple #[.agg #[.int .i64 n28, .int .i64 n29, .slice s30a s30l s30c], .int .i64 n31]) ∧
  newM #[.int .i64 0, .int .i64 0, .slice none 0 0] N.t_Matrix w26 fun p32 w33 =>
  stM p32 (.int .i64 n28) w33 fun w34 =>
  stM (p32.add 1) (.int .i64 n29) w34 fun w35 =>
  stM (p32.add 2) (.slice s30a s30l s30c) w35 fun w36 =>
  newM #[.float .f64 4616189618054758400, .float .f64 4611686018427387904, .float .f64 4611686018427387904, .float .f64 4607182418800017408] N.t_float64 w36 fun p37 w38 =>
  CallsX P N.f_lower_Factor #[.agg #[.int .i64 2, .int .i64 2, .slice (some p37) 4 4]] w38 fun v40 w39 =>
  ∃ n41 : Int, ∃ (s42a : Option Addr) (s42l s42c : Nat), ∃ (s43a : Option Addr) (s43l s43c : Nat), ∃ n44 : Int, ∃ n45 : Int, v40 = (.tuple #[.agg #[.int .i64 n41, .slice s42a s42l s42c, .slice s43a s43l s43c], .int .i64 n44, .int .i64 n45]) ∧
  newM #[.int .i64 0, .slice none 0 0, .slice none 0 0] N.t_Factor w39 fun p46 w47 =>
  stM p46 (.int .i64 n41) w47 fun w48 =>
  stM (p46.add 1) (.slice s42a s42l s42c) w48 fun w49 =>
  stM (p46.add 2) (.slice s43a s43l s43c) w49 fun w50 =>
  cond (n16 == 0)
  (cond (n17 == 0)
    (∃ n51 : Int, w50.cell? p18 = some (.int .i64 n51) ∧
      ∃ (s52a : Option Addr) (s52l s52c : Nat), w50.cell? (p18.add 1) = some (.slice s52a s52l s52c) ∧
      ∃ (s53a : Option Addr) (s53l s53c : Nat), w50.cell? (p18.add 2) = some (.slice s53a s53l s53c) ∧
      newM #[.float .f64 4602678819172646912] N.t_float64 w50 fun p54 w55 =>
      newM #[.float .f64 4616189618054758400, .float .f64 4616189618054758400] N.t_float64 w55 fun p56 w57 =>
      CallsX P N.f_girderkit_SameFactor #[.agg #[.int .i64 n51, .slice s52a s52l s52c, .slice s53a s53l s53c], .agg #[.int .i64 2, .slice (some p54) 1 1, .slice (some p56) 2 2]] w57 fun v59 w58 =>
      ∃ b60 : Bool, v59 = (.bool b60) ∧
      cond b60
      (cond (n31 == 0)
        (∃ n61 : Int, w58.cell? p32 = some (.int .i64 n61) ∧
          ∃ n62 : Int, w58.cell? (p32.add 1) = some (.int .i64 n62) ∧
          ∃ (s63a : Option Addr) (s63l s63c : Nat), w58.cell? (p32.add 2) = some (.slice s63a s63l s63c) ∧
          ∃ n64 : Int, w58.cell? p3 = some (.int .i64 n64) ∧
          ∃ n65 : Int, w58.cell? (p3.add 1) = some (.int .i64 n65) ∧
          ∃ (s66a : Option Addr) (s66l s66c : Nat), w58.cell? (p3.add 2) = some (.slice s66a s66l s66c) ∧
          CallsX P N.f_girderkit_SameMatrix #[.agg #[.int .i64 n61, .int .i64 n62, .slice s63a s63l s63c], .agg #[.int .i64 n64, .int .i64 n65, .slice s66a s66l s66c]] w58 fun v68 w67 =>
          ∃ b69 : Bool, v68 = (.bool b69) ∧
          cond b69
          (cond (n44 == 220)
            (K (.bool (n45 == 1)) w67)
            (K (.bool false) w67))
          (K (.bool false) w67))
        (K (.bool false) w58))
      (K (.bool false) w58))
    (K (.bool false) w50))
  (K (.bool false) w50)

/-- girder/lower.Times -/
def S_lower_Times (N : Nums) (P : Program) (q0_0 : Int) (q0_1 : Option Addr) (q0_1l q0_1c : Nat) (q0_2 : Option Addr) (q0_2l q0_2c : Nat) (w : World) (K : Value → World → Prop) : Prop :=
  newM #[.int .i64 q0_0, .slice q0_1 q0_1l q0_1c, .slice q0_2 q0_2l q0_2c] N.t_Factor w fun p1 w2 =>
  newM #[.int .i64 0, .int .i64 0, .slice none 0 0] N.t_Matrix w2 fun p3 w4 =>
  ∃ n5 : Int, w4.cell? p1 = some (.int .i64 n5) ∧
  ∃ (s6a : Option Addr) (s6l s6c : Nat), w4.cell? (p1.add 1) = some (.slice s6a s6l s6c) ∧
  ∃ (s7a : Option Addr) (s7l s7c : Nat), w4.cell? (p1.add 2) = some (.slice s7a s7l s7c) ∧
  CallsX P N.f_lower_Right #[.agg #[.int .i64 n5, .slice s6a s6l s6c, .slice s7a s7l s7c]] w4 fun v9 w8 =>
  ∃ b10 : Bool, v9 = (.bool b10) ∧
  cond (!b10)
  (stM p3 (.int .i64 0) w8 fun w11 =>
    stM (p3.add 1) (.int .i64 0) w11 fun w12 =>
    stM (p3.add 2) (.slice none 0 0) w12 fun w13 =>
    ∃ n14 : Int, w13.cell? p3 = some (.int .i64 n14) ∧
    ∃ n15 : Int, w13.cell? (p3.add 1) = some (.int .i64 n15) ∧
    ∃ (s16a : Option Addr) (s16l s16c : Nat), w13.cell? (p3.add 2) = some (.slice s16a s16l s16c) ∧
    K (.tuple #[.agg #[.int .i64 n14, .int .i64 n15, .slice s16a s16l s16c], .int .i64 4]) w13)
  (∃ n17 : Int, w8.cell? p1 = some (.int .i64 n17) ∧
    CallsX P N.f_matrix_Make #[.int .i64 n17, .int .i64 n17] w8 fun v19 w18 =>
    ∃ n20 : Int, ∃ n21 : Int, ∃ (s22a : Option Addr) (s22l s22c : Nat), ∃ n23 : Int, v19 = (.tuple #[.agg #[.int .i64 n20, .int .i64 n21, .slice s22a s22l s22c], .int .i64 n23]) ∧
    newM #[.int .i64 0, .int .i64 0, .slice none 0 0] N.t_Matrix w18 fun p24 w25 =>
    stM p24 (.int .i64 n20) w25 fun w26 =>
    stM (p24.add 1) (.int .i64 n21) w26 fun w27 =>
    stM (p24.add 2) (.slice s22a s22l s22c) w27 fun w28 =>
    cutM (σ := Unit) (fun J29 =>
      loopM (σ := Int × Unit) (fun s32 X33 w34 =>
        cond (decide (s32.1 < n17))
        (∃ (s35a : Option Addr) (s35l s35c : Nat), w34.cell? (p1.add 1) = some (.slice s35a s35l s35c) ∧
          CallsX P N.f_lower_row #[.slice s35a s35l s35c, .int .i64 s32.1] w34 fun v37 w36 =>
          ∃ (s38a : Option Addr) (s38l s38c : Nat), v37 = (.slice s38a s38l s38c) ∧
          newM #[.float .f64 4607182418800017408] N.t_float64 w36 fun p39 w40 =>
          appM N.t_float64 1 8 #[.float .f64 0] s38a s38l s38c (some p39) 1 w40 fun s41a s41l s41c w42 =>
          cutM (σ := Unit) (fun J43 =>
            loopM (σ := Int × Unit) (fun s46 X47 w48 =>
              cond (decide (s46.1 < (IntKind.i64.wrap (s32.1 + 1))))
              (∃ (s49a : Option Addr) (s49l s49c : Nat), w48.cell? (p1.add 1) = some (.slice s49a s49l s49c) ∧
                CallsX P N.f_lower_row #[.slice s49a s49l s49c, .int .i64 s46.1] w48 fun v51 w50 =>
                ∃ (s52a : Option Addr) (s52l s52c : Nat), v51 = (.slice s52a s52l s52c) ∧
                newM #[.float .f64 4607182418800017408] N.t_float64 w50 fun p53 w54 =>
                appM N.t_float64 1 8 #[.float .f64 0] s52a s52l s52c (some p53) 1 w54 fun s55a s55l s55c w56 =>
                cutM (σ := Nat × Unit) (fun J57 =>
                  loopM (σ := Nat × Int × Unit) (fun s60 X61 w62 =>
                    cond (decide (s60.2.1 < (IntKind.i64.wrap (s46.1 + 1))))
                    ((0 : Int) ≤ s60.2.1 ∧ s60.2.1 < (s41l : Nat) ∧
                      optM s41a fun a63 =>
                      ∃ x64 : Nat, w62.cell? (a63.add (s60.2.1.toNat * 1)) = some (.float .f64 x64) ∧
                      ∃ (s65a : Option Addr) (s65l s65c : Nat), w62.cell? (p1.add 2) = some (.slice s65a s65l s65c) ∧
                      (0 : Int) ≤ s60.2.1 ∧ s60.2.1 < (s65l : Nat) ∧
                      optM s65a fun a66 =>
                      ∃ x67 : Nat, w62.cell? (a66.add (s60.2.1.toNat * 1)) = some (.float .f64 x67) ∧
                      fresM (fmul x64 x67) w62 fun x68 w69 =>
                      drM w62 fun w70 =>
                      (0 : Int) ≤ s60.2.1 ∧ s60.2.1 < (s55l : Nat) ∧
                      optM s55a fun a71 =>
                      ∃ x72 : Nat, w70.cell? (a71.add (s60.2.1.toNat * 1)) = some (.float .f64 x72) ∧
                      fresM (fmul x68 x72) w70 fun x73 w74 =>
                      fresM (fadd s60.1 x73) w74 fun x75 w76 =>
                      X61 (x75, (IntKind.i64.wrap (s60.2.1 + 1)), ()) w76)
                    (J57 (s60.1, ()) w62))
                  (0, 0, ()) w56)
                (fun s58 w59 =>
                  ∃ (s77a : Option Addr) (s77l s77c : Nat), w59.cell? (p24.add 2) = some (.slice s77a s77l s77c) ∧
                  ∃ (s78a : Option Addr) (s78l s78c : Nat), w59.cell? (p24.add 2) = some (.slice s78a s78l s78c) ∧
                  (0 : Int) ≤ (IntKind.i64.wrap ((IntKind.i64.wrap (s32.1 * n17)) + s46.1)) ∧ (IntKind.i64.wrap ((IntKind.i64.wrap (s32.1 * n17)) + s46.1)) < (s77l : Nat) ∧
                  optM s77a fun a79 =>
                  drM w59 fun w80 =>
                  stM (a79.add ((IntKind.i64.wrap ((IntKind.i64.wrap (s32.1 * n17)) + s46.1)).toNat * 1)) (.float .f64 s58.1) w80 fun w81 =>
                  w81.cell? (p24.add 2) = some (.slice s78a s78l s78c) ∧
                  (0 : Int) ≤ (IntKind.i64.wrap ((IntKind.i64.wrap (s46.1 * n17)) + s32.1)) ∧ (IntKind.i64.wrap ((IntKind.i64.wrap (s46.1 * n17)) + s32.1)) < (s78l : Nat) ∧
                  optM s78a fun a82 =>
                  drM w81 fun w83 =>
                  stM (a82.add ((IntKind.i64.wrap ((IntKind.i64.wrap (s46.1 * n17)) + s32.1)).toNat * 1)) (.float .f64 s58.1) w83 fun w84 =>
                  drM w84 fun w85 =>
                  X47 ((IntKind.i64.wrap (s46.1 + 1)), ()) w85))
              (J43 (()) w48))
            (0, ()) w42)
          (fun s44 w45 =>
            X33 ((IntKind.i64.wrap (s32.1 + 1)), ()) w45))
        (J29 (()) w34))
      (0, ()) w28)
    (fun s30 w31 =>
      ∃ n86 : Int, w31.cell? p24 = some (.int .i64 n86) ∧
      ∃ n87 : Int, w31.cell? (p24.add 1) = some (.int .i64 n87) ∧
      ∃ (s88a : Option Addr) (s88l s88c : Nat), w31.cell? (p24.add 2) = some (.slice s88a s88l s88c) ∧
      stM p3 (.int .i64 n86) w31 fun w89 =>
      stM (p3.add 1) (.int .i64 n87) w89 fun w90 =>
      stM (p3.add 2) (.slice s88a s88l s88c) w90 fun w91 =>
      ∃ n92 : Int, w91.cell? p3 = some (.int .i64 n92) ∧
      ∃ n93 : Int, w91.cell? (p3.add 1) = some (.int .i64 n93) ∧
      ∃ (s94a : Option Addr) (s94l s94c : Nat), w91.cell? (p3.add 2) = some (.slice s94a s94l s94c) ∧
      K (.tuple #[.agg #[.int .i64 n92, .int .i64 n93, .slice s94a s94l s94c], .int .i64 0]) w91))

/-- girder/girderref12.Times -/
def S_girderref12_Times (N : Nums) (P : Program) (q0_0 : Int) (q0_1 : Option Addr) (q0_1l q0_1c : Nat) (q0_2 : Option Addr) (q0_2l q0_2c : Nat) (w : World) (K : Value → World → Prop) : Prop :=
  newM #[.int .i64 q0_0, .slice q0_1 q0_1l q0_1c, .slice q0_2 q0_2l q0_2c] N.t_Factor w fun p1 w2 =>
  newM #[.int .i64 0, .int .i64 0, .slice none 0 0] N.t_Matrix w2 fun p3 w4 =>
  ∃ n5 : Int, w4.cell? p1 = some (.int .i64 n5) ∧
  ∃ (s6a : Option Addr) (s6l s6c : Nat), w4.cell? (p1.add 1) = some (.slice s6a s6l s6c) ∧
  ∃ (s7a : Option Addr) (s7l s7c : Nat), w4.cell? (p1.add 2) = some (.slice s7a s7l s7c) ∧
  CallsX P N.f_girderref12_Right #[.agg #[.int .i64 n5, .slice s6a s6l s6c, .slice s7a s7l s7c]] w4 fun v9 w8 =>
  ∃ b10 : Bool, v9 = (.bool b10) ∧
  cond (!b10)
  (stM p3 (.int .i64 0) w8 fun w11 =>
    stM (p3.add 1) (.int .i64 0) w11 fun w12 =>
    stM (p3.add 2) (.slice none 0 0) w12 fun w13 =>
    ∃ n14 : Int, w13.cell? p3 = some (.int .i64 n14) ∧
    ∃ n15 : Int, w13.cell? (p3.add 1) = some (.int .i64 n15) ∧
    ∃ (s16a : Option Addr) (s16l s16c : Nat), w13.cell? (p3.add 2) = some (.slice s16a s16l s16c) ∧
    K (.tuple #[.agg #[.int .i64 n14, .int .i64 n15, .slice s16a s16l s16c], .int .i64 4]) w13)
  (cutM (σ := (Option Addr) × Unit) (fun J17 =>
      ∃ n20 : Int, w8.cell? p1 = some (.int .i64 n20) ∧
      ∃ n21 : Int, w8.cell? p1 = some (.int .i64 n21) ∧
      ∃ n22 : Int, w8.cell? p1 = some (.int .i64 n22) ∧
      ∃ n23 : Int, w8.cell? p1 = some (.int .i64 n23) ∧
      (drM w8 fun w24 =>
        mkM N.t_float64 1 8 #[.float .f64 0] (IntKind.i64.wrap (n22 * n23)) (IntKind.i64.wrap (n22 * n23)) w24 fun p25 w26 =>
        w26.cell? p1 = some (.int .i64 n21) ∧
        w26.cell? p1 = some (.int .i64 n20) ∧
        drM w26 fun w27 =>
        newM #[.int .i64 0, .int .i64 0, .slice none 0 0] N.t_Matrix w27 fun p28 w29 =>
        w29.cell? p1 = some (.int .i64 n21) ∧
        w29.cell? p1 = some (.int .i64 n20) ∧
        drM w29 fun w30 =>
        stM p28 (.int .i64 n20) w30 fun w31 =>
        stM (p28.add 1) (.int .i64 n21) w31 fun w32 =>
        stM (p28.add 2) (.slice (some p25) ((IntKind.i64.wrap (n22 * n23)).toNat) ((IntKind.i64.wrap (n22 * n23)).toNat)) w32 fun w33 =>
        drM w33 fun w34 =>
        J17 ((some p28), ()) w34) ∧
      (drM w8 fun w35 =>
        newM #[.int .i64 0, .int .i64 0, .slice none 0 0] N.t_Matrix w35 fun p36 w37 =>
        w37.cell? p1 = some (.int .i64 n23) ∧
        w37.cell? p1 = some (.int .i64 n22) ∧
        w37.cell? p1 = some (.int .i64 n21) ∧
        w37.cell? p1 = some (.int .i64 n20) ∧
        drM w37 fun w38 =>
        mkM N.t_float64 1 8 #[.float .f64 0] (IntKind.i64.wrap (n22 * n23)) (IntKind.i64.wrap (n22 * n23)) w38 fun p39 w40 =>
        w40.cell? p1 = some (.int .i64 n21) ∧
        w40.cell? p1 = some (.int .i64 n20) ∧
        drM w40 fun w41 =>
        stM p36 (.int .i64 n20) w41 fun w42 =>
        stM (p36.add 1) (.int .i64 n21) w42 fun w43 =>
        stM (p36.add 2) (.slice (some p39) ((IntKind.i64.wrap (n22 * n23)).toNat) ((IntKind.i64.wrap (n22 * n23)).toNat)) w43 fun w44 =>
        drM w44 fun w45 =>
        J17 ((some p36), ()) w45))
    (fun s18 w19 =>
      cutM (σ := Unit) (fun J46 =>
        loopM (σ := Int × Unit) (fun s49 X50 w51 =>
          ∃ n52 : Int, w51.cell? p1 = some (.int .i64 n52) ∧
          cond (decide (s49.1 < n52))
          (cutM (σ := Unit) (fun J53 =>
              loopM (σ := Int × Unit) (fun s56 X57 w58 =>
                cond (decide (s56.1 ≤ s49.1))
                (cutM (σ := Nat × Unit) (fun J59 =>
                    loopM (σ := Nat × Int × Unit) (fun s62 X63 w64 =>
                      cond (decide (s62.2.1 ≤ s56.1))
                      (∃ (s65a : Option Addr) (s65l s65c : Nat), w64.cell? (p1.add 1) = some (.slice s65a s65l s65c) ∧
                        ∃ (s66a : Option Addr) (s66l s66c : Nat), w64.cell? (p1.add 2) = some (.slice s66a s66l s66c) ∧
                        (0 : Int) ≤ s62.2.1 ∧ s62.2.1 < (s66l : Nat) ∧
                        optM s66a fun a67 =>
                        ∃ x68 : Nat, w64.cell? (a67.add (s62.2.1.toNat * 1)) = some (.float .f64 x68) ∧
                        drM w64 fun w69 =>
                        CallsX P N.f_girderref12_At #[.slice s65a s65l s65c, .int .i64 s49.1, .int .i64 s62.2.1] w69 fun v71 w70 =>
                        ∃ x72 : Nat, v71 = (.float .f64 x72) ∧
                        w70.cell? (a67.add (s62.2.1.toNat * 1)) = some (.float .f64 x68) ∧
                        w70.cell? (p1.add 2) = some (.slice s66a s66l s66c) ∧
                        fresM (fmul x72 x68) w70 fun x73 w74 =>
                        drM w70 fun w75 =>
                        ∃ (s76a : Option Addr) (s76l s76c : Nat), w75.cell? (p1.add 1) = some (.slice s76a s76l s76c) ∧
                        CallsX P N.f_girderref12_At #[.slice s76a s76l s76c, .int .i64 s56.1, .int .i64 s62.2.1] w75 fun v78 w77 =>
                        ∃ x79 : Nat, v78 = (.float .f64 x79) ∧
                        fresM (fmul x73 x79) w77 fun x80 w81 =>
                        fresM (fadd s62.1 x80) w81 fun x82 w83 =>
                        X63 (x82, (IntKind.i64.wrap (s62.2.1 + 1)), ()) w83)
                      (J59 (s62.1, ()) w64))
                    (0, 0, ()) w58)
                  (fun s60 w61 =>
                    optM s18.1 fun a84 =>
                    ∃ (s85a : Option Addr) (s85l s85c : Nat), w61.cell? (a84.add 2) = some (.slice s85a s85l s85c) ∧
                    ∃ n86 : Int, w61.cell? p1 = some (.int .i64 n86) ∧
                    (0 : Int) ≤ (IntKind.i64.wrap ((IntKind.i64.wrap (s49.1 * n86)) + s56.1)) ∧ (IntKind.i64.wrap ((IntKind.i64.wrap (s49.1 * n86)) + s56.1)) < (s85l : Nat) ∧
                    optM s85a fun a87 =>
                    stM (a87.add ((IntKind.i64.wrap ((IntKind.i64.wrap (s49.1 * n86)) + s56.1)).toNat * 1)) (.float .f64 s60.1) w61 fun w88 =>
                    optM s18.1 fun a89 =>
                    ∃ (s90a : Option Addr) (s90l s90c : Nat), w88.cell? (a89.add 2) = some (.slice s90a s90l s90c) ∧
                    ∃ n91 : Int, w88.cell? p1 = some (.int .i64 n91) ∧
                    (0 : Int) ≤ (IntKind.i64.wrap ((IntKind.i64.wrap (s56.1 * n91)) + s49.1)) ∧ (IntKind.i64.wrap ((IntKind.i64.wrap (s56.1 * n91)) + s49.1)) < (s90l : Nat) ∧
                    optM s90a fun a92 =>
                    stM (a92.add ((IntKind.i64.wrap ((IntKind.i64.wrap (s56.1 * n91)) + s49.1)).toNat * 1)) (.float .f64 s60.1) w88 fun w93 =>
                    X57 ((IntKind.i64.wrap (s56.1 + 1)), ()) w93))
                (J53 (()) w58))
              (0, ()) w51)
            (fun s54 w55 =>
              X50 ((IntKind.i64.wrap (s49.1 + 1)), ()) w55))
          (J46 (()) w51))
        (0, ()) w19)
      (fun s47 w48 =>
        optM s18.1 fun a94 =>
        ∃ n95 : Int, w48.cell? a94 = some (.int .i64 n95) ∧
        ∃ n96 : Int, w48.cell? (a94.add 1) = some (.int .i64 n96) ∧
        ∃ (s97a : Option Addr) (s97l s97c : Nat), w48.cell? (a94.add 2) = some (.slice s97a s97l s97c) ∧
        stM p3 (.int .i64 n95) w48 fun w98 =>
        stM (p3.add 1) (.int .i64 n96) w98 fun w99 =>
        stM (p3.add 2) (.slice s97a s97l s97c) w99 fun w100 =>
        ∃ n101 : Int, w100.cell? p3 = some (.int .i64 n101) ∧
        ∃ n102 : Int, w100.cell? (p3.add 1) = some (.int .i64 n102) ∧
        ∃ (s103a : Option Addr) (s103l s103c : Nat), w100.cell? (p3.add 2) = some (.slice s103a s103l s103c) ∧
        K (.tuple #[.agg #[.int .i64 n101, .int .i64 n102, .slice s103a s103l s103c], .int .i64 0]) w100)))

/-- girder/lower.Right -/
def S_lower_Right (N : Nums) (P : Program) (q0_0 : Int) (q0_1 : Option Addr) (q0_1l q0_1c : Nat) (q0_2 : Option Addr) (q0_2l q0_2c : Nat) (w : World) (K : Value → World → Prop) : Prop :=
  newM #[.int .i64 q0_0, .slice q0_1 q0_1l q0_1c, .slice q0_2 q0_2l q0_2c] N.t_Factor w fun p1 w2 =>
  ∃ n3 : Int, w2.cell? p1 = some (.int .i64 n3) ∧
  cond (decide (n3 ≥ 0))
  (∃ n4 : Int, w2.cell? p1 = some (.int .i64 n4) ∧
    cond (decide (n4 ≤ 48))
    (∃ (s5a : Option Addr) (s5l s5c : Nat), w2.cell? (p1.add 1) = some (.slice s5a s5l s5c) ∧
      ∃ n6 : Int, w2.cell? p1 = some (.int .i64 n6) ∧
      ∃ n7 : Int, w2.cell? p1 = some (.int .i64 n7) ∧
      (2 : Int) ≠ 0 ∧
      cond (((s5l : Nat) : Int) == (IntKind.i64.wrap ((IntKind.i64.wrap (n6 * (IntKind.i64.wrap (n7 - 1)))).tdiv 2)))
      (∃ (s8a : Option Addr) (s8l s8c : Nat), w2.cell? (p1.add 2) = some (.slice s8a s8l s8c) ∧
        ∃ n9 : Int, w2.cell? p1 = some (.int .i64 n9) ∧
        K (.bool (((s8l : Nat) : Int) == n9)) w2)
      (K (.bool false) w2))
    (K (.bool false) w2))
  (K (.bool false) w2)

/-- girder/girderref12.Right -/
def S_girderref12_Right (N : Nums) (P : Program) (q0_0 : Int) (q0_1 : Option Addr) (q0_1l q0_1c : Nat) (q0_2 : Option Addr) (q0_2l q0_2c : Nat) (w : World) (K : Value → World → Prop) : Prop :=
  newM #[.int .i64 q0_0, .slice q0_1 q0_1l q0_1c, .slice q0_2 q0_2l q0_2c] N.t_Factor w fun p1 w2 =>
  ∃ n3 : Int, w2.cell? p1 = some (.int .i64 n3) ∧
  cond (decide (n3 ≥ 0))
  (∃ n4 : Int, w2.cell? p1 = some (.int .i64 n4) ∧
    cond (decide (n4 ≤ 48))
    (∃ (s5a : Option Addr) (s5l s5c : Nat), w2.cell? (p1.add 1) = some (.slice s5a s5l s5c) ∧
      ∃ n6 : Int, w2.cell? p1 = some (.int .i64 n6) ∧
      ∃ n7 : Int, w2.cell? p1 = some (.int .i64 n7) ∧
      (2 : Int) ≠ 0 ∧
      cond (((s5l : Nat) : Int) == (IntKind.i64.wrap ((IntKind.i64.wrap (n6 * (IntKind.i64.wrap (n7 - 1)))).tdiv 2)))
      (∃ (s8a : Option Addr) (s8l s8c : Nat), w2.cell? (p1.add 2) = some (.slice s8a s8l s8c) ∧
        ∃ n9 : Int, w2.cell? p1 = some (.int .i64 n9) ∧
        K (.bool (((s8l : Nat) : Int) == n9)) w2)
      (K (.bool false) w2))
    (K (.bool false) w2))
  (K (.bool false) w2)

/-- girder/girderkit.SameMatrix -/
def S_girderkit_SameMatrix (N : Nums) (P : Program) (q0_0 : Int) (q0_1 : Int) (q0_2 : Option Addr) (q0_2l q0_2c : Nat) (q1_0 : Int) (q1_1 : Int) (q1_2 : Option Addr) (q1_2l q1_2c : Nat) (w : World) (K : Value → World → Prop) : Prop :=
  newM #[.int .i64 q0_0, .int .i64 q0_1, .slice q0_2 q0_2l q0_2c] N.t_Matrix w fun p1 w2 =>
  newM #[.int .i64 q1_0, .int .i64 q1_1, .slice q1_2 q1_2l q1_2c] N.t_Matrix w2 fun p3 w4 =>
  ∃ n5 : Int, w4.cell? p1 = some (.int .i64 n5) ∧
  ∃ n6 : Int, w4.cell? p3 = some (.int .i64 n6) ∧
  cond (n5 == n6)
  (∃ n7 : Int, w4.cell? (p1.add 1) = some (.int .i64 n7) ∧
    ∃ n8 : Int, w4.cell? (p3.add 1) = some (.int .i64 n8) ∧
    cond (n7 == n8)
    (∃ (s9a : Option Addr) (s9l s9c : Nat), w4.cell? (p1.add 2) = some (.slice s9a s9l s9c) ∧
      ∃ (s10a : Option Addr) (s10l s10c : Nat), w4.cell? (p3.add 2) = some (.slice s10a s10l s10c) ∧
      CallsX P N.f_girderkit_SameReals #[.slice s9a s9l s9c, .slice s10a s10l s10c] w4 fun v12 w11 =>
      ∃ b13 : Bool, v12 = (.bool b13) ∧
      K (.bool b13) w11)
    (K (.bool false) w4))
  (K (.bool false) w4)

/-- math.Copysign -/
def S_math_Copysign (N : Nums) (P : Program) (q0 : Nat) (q1 : Nat) (w : World) (K : Value → World → Prop) : Prop :=
  CallsX P N.f_math_Float64bits #[.float .f64 q0] w fun v2 w1 =>
  ∃ n3 : Int, v2 = (.int .u64 n3) ∧
  CallsX P N.f_math_Float64bits #[.float .f64 q1] w1 fun v5 w4 =>
  ∃ n6 : Int, v5 = (.int .u64 n6) ∧
  CallsX P N.f_math_Float64frombits #[.int .u64 (IntKind.u64.wrap (BitVec.ofInt IntKind.u64.bits (IntKind.u64.wrap (BitVec.ofInt IntKind.u64.bits n3 &&& ~~~BitVec.ofInt IntKind.u64.bits 9223372036854775808).toNat) ||| BitVec.ofInt IntKind.u64.bits (IntKind.u64.wrap (BitVec.ofInt IntKind.u64.bits n6 &&& BitVec.ofInt IntKind.u64.bits 9223372036854775808).toNat)).toNat)] w4 fun v8 w7 =>
  ∃ x9 : Nat, v8 = (.float .f64 x9) ∧
  K (.float .f64 x9) w7

/-- math.NaN -/
def S_math_NaN (N : Nums) (P : Program)  (w : World) (K : Value → World → Prop) : Prop :=
  CallsX P N.f_math_Float64frombits #[.int .u64 9221120237041090561] w fun v2 w1 =>
  ∃ x3 : Nat, v2 = (.float .f64 x3) ∧
  K (.float .f64 x3) w1

/-- math.Inf -/
def S_math_Inf (N : Nums) (P : Program) (q0 : Int) (w : World) (K : Value → World → Prop) : Prop :=
  cutM (σ := Int × Unit) (fun J1 =>
    cond (decide (q0 ≥ 0))
    (J1 (9218868437227405312, ()) w)
    (J1 (18442240474082181120, ()) w))
  (fun s2 w3 =>
    CallsX P N.f_math_Float64frombits #[.int .u64 s2.1] w3 fun v5 w4 =>
    ∃ x6 : Nat, v5 = (.float .f64 x6) ∧
    K (.float .f64 x6) w4)

/-- girder/girderlaw12.even -/
def S_girderlaw12_even (N : Nums) (P : Program) (q0 : Option Addr) (q0l q0c : Nat) (w : World) (K : Value → World → Prop) : Prop :=
  cutM (σ := Unit) (fun J1 =>
    loopM (σ := Int × Unit) (fun s4 X5 w6 =>
      cond (decide (s4.1 < ((q0l : Nat) : Int)))
      ((0 : Int) ≤ s4.1 ∧ s4.1 < (q0l : Nat) ∧
        optM q0 fun a7 =>
        ∃ x8 : Nat, w6.cell? (a7.add (s4.1.toNat * 1)) = some (.float .f64 x8) ∧
        CallsX P N.f_math_Abs #[.float .f64 x8] w6 fun v10 w9 =>
        ∃ x11 : Nat, v10 = (.float .f64 x11) ∧
        cond (!feq x11 0)
        (cond (fgt x11 3256102530588868608 || feq x11 3256102530588868608)
          (cond (!(flt x11 5958262307011166208 || feq x11 5958262307011166208))
            (K (.bool false) w9)
            (X5 ((IntKind.i64.wrap (s4.1 + 1)), ()) w9))
          (K (.bool false) w9))
        (X5 ((IntKind.i64.wrap (s4.1 + 1)), ()) w9))
      (J1 (()) w6))
    (0, ()) w)
  (fun s2 w3 =>
    K (.bool true) w3)

/-- math.Ldexp -/
def S_math_Ldexp (N : Nums) (P : Program) (q0 : Nat) (q1 : Int) (w : World) (K : Value → World → Prop) : Prop :=
  CallsX P N.f_math_ldexp #[.float .f64 q0, .int .i64 q1] w fun v2 w1 =>
  ∃ x3 : Nat, v2 = (.float .f64 x3) ∧
  K (.float .f64 x3) w1

/-- girder/girderkit.Pick -/
def S_girderkit_Pick (N : Nums) (P : Program) (q0 : Int) (q1 : Int) (w : World) (K : Value → World → Prop) : Prop :=
  cond (decide (q1 < 1))
  (K (.int .i64 0) w)
  ((q1 : Int) ≠ 0 ∧
    cutM (σ := Int × Unit) (fun J1 =>
      cond (decide ((q0.tmod q1) < 0))
      (J1 ((IntKind.i64.wrap ((q0.tmod q1) + q1)), ()) w)
      (J1 ((q0.tmod q1), ()) w))
    (fun s2 w3 =>
      K (.int .i64 s2.1) w3))

/-- girder/girderkit.CopyMatrix -/
def S_girderkit_CopyMatrix (N : Nums) (P : Program) (q0_0 : Int) (q0_1 : Int) (q0_2 : Option Addr) (q0_2l q0_2c : Nat) (w : World) (K : Value → World → Prop) : Prop :=
  newM #[.int .i64 q0_0, .int .i64 q0_1, .slice q0_2 q0_2l q0_2c] N.t_Matrix w fun p1 w2 =>
  newM #[.int .i64 0, .int .i64 0, .slice none 0 0] N.t_Matrix w2 fun p3 w4 =>
  ∃ (s5a : Option Addr) (s5l s5c : Nat), w4.cell? (p1.add 2) = some (.slice s5a s5l s5c) ∧
  CallsX P N.f_girderkit_CopyReals #[.slice s5a s5l s5c] w4 fun v7 w6 =>
  ∃ (s8a : Option Addr) (s8l s8c : Nat), v7 = (.slice s8a s8l s8c) ∧
  stM (p1.add 2) (.slice s8a s8l s8c) w6 fun w9 =>
  ∃ n10 : Int, w9.cell? p1 = some (.int .i64 n10) ∧
  ∃ n11 : Int, w9.cell? (p1.add 1) = some (.int .i64 n11) ∧
  ∃ (s12a : Option Addr) (s12l s12c : Nat), w9.cell? (p1.add 2) = some (.slice s12a s12l s12c) ∧
  stM p3 (.int .i64 n10) w9 fun w13 =>
  stM (p3.add 1) (.int .i64 n11) w13 fun w14 =>
  stM (p3.add 2) (.slice s12a s12l s12c) w14 fun w15 =>
  ∃ n16 : Int, w15.cell? p3 = some (.int .i64 n16) ∧
  ∃ n17 : Int, w15.cell? (p3.add 1) = some (.int .i64 n17) ∧
  ∃ (s18a : Option Addr) (s18l s18c : Nat), w15.cell? (p3.add 2) = some (.slice s18a s18l s18c) ∧
  K (.agg #[.int .i64 n16, .int .i64 n17, .slice s18a s18l s18c]) w15

/-- girder/girderkit.CopyReals -/
def S_girderkit_CopyReals (N : Nums) (P : Program) (q0 : Option Addr) (q0l q0c : Nat) (w : World) (K : Value → World → Prop) : Prop :=
  appM N.t_float64 1 8 #[.float .f64 0] none 0 0 q0 q0l w fun s1a s1l s1c w2 =>
  K (.slice s1a s1l s1c) w2

/-- girder/girderkit.SameReals -/
def S_girderkit_SameReals (N : Nums) (P : Program) (q0 : Option Addr) (q0l q0c : Nat) (q1 : Option Addr) (q1l q1c : Nat) (w : World) (K : Value → World → Prop) : Prop :=
  cond (((q0l : Nat) : Int) != ((q1l : Nat) : Int))
  (K (.bool false) w)
  (cutM (σ := Unit) (fun J1 =>
      loopM (σ := Int × Unit) (fun s4 X5 w6 =>
        cond (decide (s4.1 < ((q0l : Nat) : Int)))
        ((0 : Int) ≤ s4.1 ∧ s4.1 < (q0l : Nat) ∧
          optM q0 fun a7 =>
          ∃ x8 : Nat, w6.cell? (a7.add (s4.1.toNat * 1)) = some (.float .f64 x8) ∧
          (0 : Int) ≤ s4.1 ∧ s4.1 < (q1l : Nat) ∧
          optM q1 fun a9 =>
          ∃ x10 : Nat, w6.cell? (a9.add (s4.1.toNat * 1)) = some (.float .f64 x10) ∧
          drM w6 fun w11 =>
          CallsX P N.f_girderkit_SameFloat #[.float .f64 x8, .float .f64 x10] w11 fun v13 w12 =>
          ∃ b14 : Bool, v13 = (.bool b14) ∧
          drM w12 fun w15 =>
          cond (!b14)
          (K (.bool false) w15)
          (X5 ((IntKind.i64.wrap (s4.1 + 1)), ()) w15))
        (J1 (()) w6))
      (0, ()) w)
    (fun s2 w3 =>
      K (.bool true) w3))

/-- girder/girderkit.CopyFactor -/
def S_girderkit_CopyFactor (N : Nums) (P : Program) (q0_0 : Int) (q0_1 : Option Addr) (q0_1l q0_1c : Nat) (q0_2 : Option Addr) (q0_2l q0_2c : Nat) (w : World) (K : Value → World → Prop) : Prop :=
  newM #[.int .i64 q0_0, .slice q0_1 q0_1l q0_1c, .slice q0_2 q0_2l q0_2c] N.t_Factor w fun p1 w2 =>
  newM #[.int .i64 0, .slice none 0 0, .slice none 0 0] N.t_Factor w2 fun p3 w4 =>
  ∃ (s5a : Option Addr) (s5l s5c : Nat), w4.cell? (p1.add 1) = some (.slice s5a s5l s5c) ∧
  CallsX P N.f_girderkit_CopyReals #[.slice s5a s5l s5c] w4 fun v7 w6 =>
  ∃ (s8a : Option Addr) (s8l s8c : Nat), v7 = (.slice s8a s8l s8c) ∧
  stM (p1.add 1) (.slice s8a s8l s8c) w6 fun w9 =>
  ∃ (s10a : Option Addr) (s10l s10c : Nat), w9.cell? (p1.add 2) = some (.slice s10a s10l s10c) ∧
  CallsX P N.f_girderkit_CopyReals #[.slice s10a s10l s10c] w9 fun v12 w11 =>
  ∃ (s13a : Option Addr) (s13l s13c : Nat), v12 = (.slice s13a s13l s13c) ∧
  stM (p1.add 2) (.slice s13a s13l s13c) w11 fun w14 =>
  ∃ n15 : Int, w14.cell? p1 = some (.int .i64 n15) ∧
  ∃ (s16a : Option Addr) (s16l s16c : Nat), w14.cell? (p1.add 1) = some (.slice s16a s16l s16c) ∧
  ∃ (s17a : Option Addr) (s17l s17c : Nat), w14.cell? (p1.add 2) = some (.slice s17a s17l s17c) ∧
  stM p3 (.int .i64 n15) w14 fun w18 =>
  stM (p3.add 1) (.slice s16a s16l s16c) w18 fun w19 =>
  stM (p3.add 2) (.slice s17a s17l s17c) w19 fun w20 =>
  ∃ n21 : Int, w20.cell? p3 = some (.int .i64 n21) ∧
  ∃ (s22a : Option Addr) (s22l s22c : Nat), w20.cell? (p3.add 1) = some (.slice s22a s22l s22c) ∧
  ∃ (s23a : Option Addr) (s23l s23c : Nat), w20.cell? (p3.add 2) = some (.slice s23a s23l s23c) ∧
  K (.agg #[.int .i64 n21, .slice s22a s22l s22c, .slice s23a s23l s23c]) w20

/-- girder/matrix.Symmetric -/
def S_matrix_Symmetric (N : Nums) (P : Program) (q0_0 : Int) (q0_1 : Int) (q0_2 : Option Addr) (q0_2l q0_2c : Nat) (w : World) (K : Value → World → Prop) : Prop :=
  newM #[.int .i64 q0_0, .int .i64 q0_1, .slice q0_2 q0_2l q0_2c] N.t_Matrix w fun p1 w2 =>
  ∃ n3 : Int, w2.cell? p1 = some (.int .i64 n3) ∧
  ∃ n4 : Int, w2.cell? (p1.add 1) = some (.int .i64 n4) ∧
  ∃ (s5a : Option Addr) (s5l s5c : Nat), w2.cell? (p1.add 2) = some (.slice s5a s5l s5c) ∧
  CallsX P N.f_matrix_Transpose #[.agg #[.int .i64 n3, .int .i64 n4, .slice s5a s5l s5c]] w2 fun v7 w6 =>
  ∃ n8 : Int, ∃ n9 : Int, ∃ (s10a : Option Addr) (s10l s10c : Nat), ∃ n11 : Int, v7 = (.tuple #[.agg #[.int .i64 n8, .int .i64 n9, .slice s10a s10l s10c], .int .i64 n11]) ∧
  newM #[.int .i64 0, .int .i64 0, .slice none 0 0] N.t_Matrix w6 fun p12 w13 =>
  stM p12 (.int .i64 n8) w13 fun w14 =>
  stM (p12.add 1) (.int .i64 n9) w14 fun w15 =>
  stM (p12.add 2) (.slice s10a s10l s10c) w15 fun w16 =>
  cond (n11 == 0)
  (∃ n17 : Int, w16.cell? p12 = some (.int .i64 n17) ∧
    ∃ n18 : Int, w16.cell? (p12.add 1) = some (.int .i64 n18) ∧
    ∃ (s19a : Option Addr) (s19l s19c : Nat), w16.cell? (p12.add 2) = some (.slice s19a s19l s19c) ∧
    ∃ n20 : Int, w16.cell? p1 = some (.int .i64 n20) ∧
    ∃ n21 : Int, w16.cell? (p1.add 1) = some (.int .i64 n21) ∧
    ∃ (s22a : Option Addr) (s22l s22c : Nat), w16.cell? (p1.add 2) = some (.slice s22a s22l s22c) ∧
    CallsX P N.f_matrix_Same #[.agg #[.int .i64 n17, .int .i64 n18, .slice s19a s19l s19c], .agg #[.int .i64 n20, .int .i64 n21, .slice s22a s22l s22c]] w16 fun v24 w23 =>
    ∃ b25 : Bool, v24 = (.bool b25) ∧
    K (.bool b25) w23)
  (K (.bool false) w16)

/-- girder/lower.finite -/
def S_lower_finite (N : Nums) (P : Program) (q0 : Nat) (w : World) (K : Value → World → Prop) : Prop :=
  CallsX P N.f_math_IsNaN #[.float .f64 q0] w fun v2 w1 =>
  ∃ b3 : Bool, v2 = (.bool b3) ∧
  cond (!b3)
  (CallsX P N.f_math_IsInf #[.float .f64 q0, .int .i64 0] w1 fun v5 w4 =>
    ∃ b6 : Bool, v5 = (.bool b6) ∧
    K (.bool (!b6)) w4)
  (K (.bool false) w1)

/-- girder/lower.row -/
def S_lower_row (N : Nums) (P : Program) (q0 : Option Addr) (q0l q0c : Nat) (q1 : Int) (w : World) (K : Value → World → Prop) : Prop :=
  (2 : Int) ≠ 0 ∧
  (0 : Int) ≤ (IntKind.i64.wrap ((IntKind.i64.wrap ((IntKind.i64.wrap (q1 * (IntKind.i64.wrap (q1 - 1)))).tdiv 2)) + q1)) ∧ (IntKind.i64.wrap ((IntKind.i64.wrap ((IntKind.i64.wrap (q1 * (IntKind.i64.wrap (q1 - 1)))).tdiv 2)) + q1)) ≤ (q0c : Nat) ∧ (0 : Int) ≤ (IntKind.i64.wrap ((IntKind.i64.wrap ((IntKind.i64.wrap (q1 * (IntKind.i64.wrap (q1 - 1)))).tdiv 2)) + q1)) ∧ (IntKind.i64.wrap ((IntKind.i64.wrap ((IntKind.i64.wrap (q1 * (IntKind.i64.wrap (q1 - 1)))).tdiv 2)) + q1)) ≤ (IntKind.i64.wrap ((IntKind.i64.wrap ((IntKind.i64.wrap (q1 * (IntKind.i64.wrap (q1 - 1)))).tdiv 2)) + q1)) ∧ (0 : Int) ≤ (IntKind.i64.wrap ((IntKind.i64.wrap (q1 * (IntKind.i64.wrap (q1 - 1)))).tdiv 2)) ∧ (IntKind.i64.wrap ((IntKind.i64.wrap (q1 * (IntKind.i64.wrap (q1 - 1)))).tdiv 2)) ≤ (IntKind.i64.wrap ((IntKind.i64.wrap ((IntKind.i64.wrap (q1 * (IntKind.i64.wrap (q1 - 1)))).tdiv 2)) + q1)) ∧
  K (.slice (slBase q0 ((IntKind.i64.wrap ((IntKind.i64.wrap (q1 * (IntKind.i64.wrap (q1 - 1)))).tdiv 2)).toNat) ((IntKind.i64.wrap ((IntKind.i64.wrap ((IntKind.i64.wrap (q1 * (IntKind.i64.wrap (q1 - 1)))).tdiv 2)) + q1)).toNat) 1) ((IntKind.i64.wrap ((IntKind.i64.wrap ((IntKind.i64.wrap (q1 * (IntKind.i64.wrap (q1 - 1)))).tdiv 2)) + q1)).toNat - (IntKind.i64.wrap ((IntKind.i64.wrap (q1 * (IntKind.i64.wrap (q1 - 1)))).tdiv 2)).toNat) ((IntKind.i64.wrap ((IntKind.i64.wrap ((IntKind.i64.wrap (q1 * (IntKind.i64.wrap (q1 - 1)))).tdiv 2)) + q1)).toNat - (IntKind.i64.wrap ((IntKind.i64.wrap (q1 * (IntKind.i64.wrap (q1 - 1)))).tdiv 2)).toNat)) w

/-- girder/girderref10.Symmetric -/
def S_girderref10_Symmetric (N : Nums) (P : Program) (q0_0 : Int) (q0_1 : Int) (q0_2 : Option Addr) (q0_2l q0_2c : Nat) (w : World) (K : Value → World → Prop) : Prop :=
  newM #[.int .i64 q0_0, .int .i64 q0_1, .slice q0_2 q0_2l q0_2c] N.t_Matrix w fun p1 w2 =>
  cutM (σ := Bool × Unit) (fun J3 =>
    ∃ n6 : Int, w2.cell? p1 = some (.int .i64 n6) ∧
    ∃ n7 : Int, w2.cell? (p1.add 1) = some (.int .i64 n7) ∧
    ∃ (s8a : Option Addr) (s8l s8c : Nat), w2.cell? (p1.add 2) = some (.slice s8a s8l s8c) ∧
    CallsX P N.f_girderref10_Right #[.agg #[.int .i64 n6, .int .i64 n7, .slice s8a s8l s8c]] w2 fun v10 w9 =>
    ∃ b11 : Bool, v10 = (.bool b11) ∧
    cond (!(!b11))
    (∃ n12 : Int, w9.cell? p1 = some (.int .i64 n12) ∧
      ∃ n13 : Int, w9.cell? (p1.add 1) = some (.int .i64 n13) ∧
      J3 ((n12 != n13), ()) w9)
    (J3 (true, ()) w9))
  (fun s4 w5 =>
    cond s4.1
    (K (.bool false) w5)
    (cutM (σ := Unit) (fun J14 =>
        loopM (σ := Int × Unit) (fun s17 X18 w19 =>
          ∃ n20 : Int, w19.cell? p1 = some (.int .i64 n20) ∧
          cond (decide (s17.1 < n20))
          (cutM (σ := Unit) (fun J21 =>
              loopM (σ := Int × Unit) (fun s24 X25 w26 =>
                cond (decide (s24.1 < s17.1))
                (∃ n27 : Int, w26.cell? p1 = some (.int .i64 n27) ∧
                  ∃ n28 : Int, w26.cell? (p1.add 1) = some (.int .i64 n28) ∧
                  ∃ (s29a : Option Addr) (s29l s29c : Nat), w26.cell? (p1.add 2) = some (.slice s29a s29l s29c) ∧
                  ∃ n30 : Int, w26.cell? p1 = some (.int .i64 n30) ∧
                  ∃ n31 : Int, w26.cell? (p1.add 1) = some (.int .i64 n31) ∧
                  ∃ (s32a : Option Addr) (s32l s32c : Nat), w26.cell? (p1.add 2) = some (.slice s32a s32l s32c) ∧
                  drM w26 fun w33 =>
                  CallsX P N.f_girderref10_At #[.agg #[.int .i64 n27, .int .i64 n28, .slice s29a s29l s29c], .int .i64 s17.1, .int .i64 s24.1] w33 fun v35 w34 =>
                  ∃ x36 : Nat, v35 = (.float .f64 x36) ∧
                  w34.cell? p1 = some (.int .i64 n30) ∧
                  w34.cell? (p1.add 1) = some (.int .i64 n31) ∧
                  w34.cell? (p1.add 2) = some (.slice s32a s32l s32c) ∧
                  drM w34 fun w37 =>
                  CallsX P N.f_girderref10_At #[.agg #[.int .i64 n30, .int .i64 n31, .slice s32a s32l s32c], .int .i64 s24.1, .int .i64 s17.1] w37 fun v39 w38 =>
                  ∃ x40 : Nat, v39 = (.float .f64 x40) ∧
                  drM w38 fun w41 =>
                  CallsX P N.f_girderref01_Same #[.float .f64 x36, .float .f64 x40] w41 fun v43 w42 =>
                  ∃ b44 : Bool, v43 = (.bool b44) ∧
                  drM w42 fun w45 =>
                  cond (!b44)
                  (K (.bool false) w45)
                  (X25 ((IntKind.i64.wrap (s24.1 + 1)), ()) w45))
                (J21 (()) w26))
              (0, ()) w19)
            (fun s22 w23 =>
              X18 ((IntKind.i64.wrap (s17.1 + 1)), ()) w23))
          (J14 (()) w19))
        (0, ()) w5)
      (fun s15 w16 =>
        K (.bool true) w16)))

/-- girder/girderref03.Finite -/
def S_girderref03_Finite (N : Nums) (P : Program) (q0 : Nat) (w : World) (K : Value → World → Prop) : Prop :=
  fresM (fsub q0 q0) w fun x1 w2 =>
  K (.bool (feq x1 0)) w2

/-- girder/girderref12.At -/
def S_girderref12_At (N : Nums) (P : Program) (q0 : Option Addr) (q0l q0c : Nat) (q1 : Int) (q2 : Int) (w : World) (K : Value → World → Prop) : Prop :=
  cond (q1 == q2)
  (K (.float .f64 4607182418800017408) w)
  ((2 : Int) ≠ 0 ∧
    (0 : Int) ≤ (IntKind.i64.wrap ((IntKind.i64.wrap ((IntKind.i64.wrap (q1 * (IntKind.i64.wrap (q1 - 1)))).tdiv 2)) + q2)) ∧ (IntKind.i64.wrap ((IntKind.i64.wrap ((IntKind.i64.wrap (q1 * (IntKind.i64.wrap (q1 - 1)))).tdiv 2)) + q2)) < (q0l : Nat) ∧
    optM q0 fun a1 =>
    ∃ x2 : Nat, w.cell? (a1.add ((IntKind.i64.wrap ((IntKind.i64.wrap ((IntKind.i64.wrap (q1 * (IntKind.i64.wrap (q1 - 1)))).tdiv 2)) + q2)).toNat * 1)) = some (.float .f64 x2) ∧
    K (.float .f64 x2) w)

/-- girder/matrix.Make -/
def S_matrix_Make (N : Nums) (P : Program) (q0 : Int) (q1 : Int) (w : World) (K : Value → World → Prop) : Prop :=
  newM #[.int .i64 0, .int .i64 0, .slice none 0 0] N.t_Matrix w fun p1 w2 =>
  CallsX P N.f_matrix_fits #[.int .i64 q0] w2 fun v4 w3 =>
  ∃ b5 : Bool, v4 = (.bool b5) ∧
  cond (!(!b5))
  (CallsX P N.f_matrix_fits #[.int .i64 q1] w3 fun v7 w6 =>
    ∃ b8 : Bool, v7 = (.bool b8) ∧
    cond (!b8)
    (stM p1 (.int .i64 0) w6 fun w9 =>
      stM (p1.add 1) (.int .i64 0) w9 fun w10 =>
      stM (p1.add 2) (.slice none 0 0) w10 fun w11 =>
      ∃ n12 : Int, w11.cell? p1 = some (.int .i64 n12) ∧
      ∃ n13 : Int, w11.cell? (p1.add 1) = some (.int .i64 n13) ∧
      ∃ (s14a : Option Addr) (s14l s14c : Nat), w11.cell? (p1.add 2) = some (.slice s14a s14l s14c) ∧
      K (.tuple #[.agg #[.int .i64 n12, .int .i64 n13, .slice s14a s14l s14c], .int .i64 2]) w11)
    (CallsX P N.f_matrix_laid #[.int .i64 q0, .int .i64 q1, .func (.func N.f_matrix_Make_1) #[] #[]] w6 fun v16 w15 =>
      ∃ n17 : Int, ∃ n18 : Int, ∃ (s19a : Option Addr) (s19l s19c : Nat), v16 = (.agg #[.int .i64 n17, .int .i64 n18, .slice s19a s19l s19c]) ∧
      stM p1 (.int .i64 n17) w15 fun w20 =>
      stM (p1.add 1) (.int .i64 n18) w20 fun w21 =>
      stM (p1.add 2) (.slice s19a s19l s19c) w21 fun w22 =>
      ∃ n23 : Int, w22.cell? p1 = some (.int .i64 n23) ∧
      ∃ n24 : Int, w22.cell? (p1.add 1) = some (.int .i64 n24) ∧
      ∃ (s25a : Option Addr) (s25l s25c : Nat), w22.cell? (p1.add 2) = some (.slice s25a s25l s25c) ∧
      K (.tuple #[.agg #[.int .i64 n23, .int .i64 n24, .slice s25a s25l s25c], .int .i64 0]) w22))
  (stM p1 (.int .i64 0) w3 fun w26 =>
    stM (p1.add 1) (.int .i64 0) w26 fun w27 =>
    stM (p1.add 2) (.slice none 0 0) w27 fun w28 =>
    ∃ n29 : Int, w28.cell? p1 = some (.int .i64 n29) ∧
    ∃ n30 : Int, w28.cell? (p1.add 1) = some (.int .i64 n30) ∧
    ∃ (s31a : Option Addr) (s31l s31c : Nat), w28.cell? (p1.add 2) = some (.slice s31a s31l s31c) ∧
    K (.tuple #[.agg #[.int .i64 n29, .int .i64 n30, .slice s31a s31l s31c], .int .i64 2]) w28)

/-- math.Abs -/
def S_math_Abs (N : Nums) (P : Program) (q0 : Nat) (w : World) (K : Value → World → Prop) : Prop :=
  CallsX P N.f_math_Float64bits #[.float .f64 q0] w fun v2 w1 =>
  ∃ n3 : Int, v2 = (.int .u64 n3) ∧
  CallsX P N.f_math_Float64frombits #[.int .u64 (IntKind.u64.wrap (BitVec.ofInt IntKind.u64.bits n3 &&& ~~~BitVec.ofInt IntKind.u64.bits 9223372036854775808).toNat)] w1 fun v5 w4 =>
  ∃ x6 : Nat, v5 = (.float .f64 x6) ∧
  K (.float .f64 x6) w4

/-- math.ldexp -/
def S_math_ldexp (N : Nums) (P : Program) (q0 : Nat) (q1 : Int) (w : World) (K : Value → World → Prop) : Prop :=
  cond (feq q0 0)
  (K (.float .f64 q0) w)
  (cutM (σ := Bool × Unit) (fun J1 =>
      CallsX P N.f_math_IsInf #[.float .f64 q0, .int .i64 0] w fun v5 w4 =>
      ∃ b6 : Bool, v5 = (.bool b6) ∧
      cond (!b6)
      (CallsX P N.f_math_IsNaN #[.float .f64 q0] w4 fun v8 w7 =>
        ∃ b9 : Bool, v8 = (.bool b9) ∧
        J1 (b9, ()) w7)
      (J1 (true, ()) w4))
    (fun s2 w3 =>
      cond s2.1
      (K (.float .f64 q0) w3)
      (CallsX P N.f_math_normalize #[.float .f64 q0] w3 fun v11 w10 =>
        ∃ x12 : Nat, ∃ n13 : Int, v11 = (.tuple #[.float .f64 x12, .int .i64 n13]) ∧
        CallsX P N.f_math_Float64bits #[.float .f64 x12] w10 fun v15 w14 =>
        ∃ n16 : Int, v15 = (.int .u64 n16) ∧
        (0 : Int) ≤ 52 ∧
        cond (decide ((IntKind.i64.wrap ((IntKind.i64.wrap (q1 + n13)) + (IntKind.i64.wrap ((IntKind.i64.wrap (BitVec.ofInt IntKind.i64.bits (IntKind.i64.wrap (n16.fdiv (2 ^ (min (52 : Int).toNat IntKind.u64.bits)))) &&& BitVec.ofInt IntKind.i64.bits 2047).toNat) - 1023)))) < (-1075)))
        (CallsX P N.f_math_Copysign #[.float .f64 0, .float .f64 x12] w14 fun v18 w17 =>
          ∃ x19 : Nat, v18 = (.float .f64 x19) ∧
          K (.float .f64 x19) w17)
        (cond (decide ((IntKind.i64.wrap ((IntKind.i64.wrap (q1 + n13)) + (IntKind.i64.wrap ((IntKind.i64.wrap (BitVec.ofInt IntKind.i64.bits (IntKind.i64.wrap (n16.fdiv (2 ^ (min (52 : Int).toNat IntKind.u64.bits)))) &&& BitVec.ofInt IntKind.i64.bits 2047).toNat) - 1023)))) > 1023))
          (cond (flt x12 0)
            (CallsX P N.f_math_Inf #[.int .i64 (-1)] w14 fun v21 w20 =>
              ∃ x22 : Nat, v21 = (.float .f64 x22) ∧
              K (.float .f64 x22) w20)
            (CallsX P N.f_math_Inf #[.int .i64 1] w14 fun v24 w23 =>
              ∃ x25 : Nat, v24 = (.float .f64 x25) ∧
              K (.float .f64 x25) w23))
          (cutM (σ := Int × Nat × Unit) (fun J26 =>
              cond (decide ((IntKind.i64.wrap ((IntKind.i64.wrap (q1 + n13)) + (IntKind.i64.wrap ((IntKind.i64.wrap (BitVec.ofInt IntKind.i64.bits (IntKind.i64.wrap (n16.fdiv (2 ^ (min (52 : Int).toNat IntKind.u64.bits)))) &&& BitVec.ofInt IntKind.i64.bits 2047).toNat) - 1023)))) < (-1022)))
              (J26 ((IntKind.i64.wrap ((IntKind.i64.wrap ((IntKind.i64.wrap (q1 + n13)) + (IntKind.i64.wrap ((IntKind.i64.wrap (BitVec.ofInt IntKind.i64.bits (IntKind.i64.wrap (n16.fdiv (2 ^ (min (52 : Int).toNat IntKind.u64.bits)))) &&& BitVec.ofInt IntKind.i64.bits 2047).toNat) - 1023)))) + 53)), 4368491638549381120, ()) w14)
              (J26 ((IntKind.i64.wrap ((IntKind.i64.wrap (q1 + n13)) + (IntKind.i64.wrap ((IntKind.i64.wrap (BitVec.ofInt IntKind.i64.bits (IntKind.i64.wrap (n16.fdiv (2 ^ (min (52 : Int).toNat IntKind.u64.bits)))) &&& BitVec.ofInt IntKind.i64.bits 2047).toNat) - 1023)))), 4607182418800017408, ()) w14))
            (fun s27 w28 =>
              (0 : Int) ≤ 52 ∧
              CallsX P N.f_math_Float64frombits #[.int .u64 (IntKind.u64.wrap (BitVec.ofInt IntKind.u64.bits (IntKind.u64.wrap (BitVec.ofInt IntKind.u64.bits n16 &&& ~~~BitVec.ofInt IntKind.u64.bits 9218868437227405312).toNat) ||| BitVec.ofInt IntKind.u64.bits (IntKind.u64.wrap ((IntKind.u64.wrap (IntKind.i64.wrap (s27.1 + 1023))) * 2 ^ (min (52 : Int).toNat IntKind.u64.bits)))).toNat)] w28 fun v30 w29 =>
              ∃ x31 : Nat, v30 = (.float .f64 x31) ∧
              fresM (fmul s27.2.1 x31) w29 fun x32 w33 =>
              K (.float .f64 x32) w33))))))

/-- girder/girderkit.SameFloat -/
def S_girderkit_SameFloat (N : Nums) (P : Program) (q0 : Nat) (q1 : Nat) (w : World) (K : Value → World → Prop) : Prop :=
  CallsX P N.f_math_Float64bits #[.float .f64 q0] w fun v2 w1 =>
  ∃ n3 : Int, v2 = (.int .u64 n3) ∧
  CallsX P N.f_math_Float64bits #[.float .f64 q1] w1 fun v5 w4 =>
  ∃ n6 : Int, v5 = (.int .u64 n6) ∧
  cond (!(n3 == n6))
  (cond (!feq q0 q0)
    (K (.bool (!feq q1 q1)) w4)
    (K (.bool false) w4))
  (K (.bool true) w4)

/-- girder/matrix.Transpose -/
def S_matrix_Transpose (N : Nums) (P : Program) (q0_0 : Int) (q0_1 : Int) (q0_2 : Option Addr) (q0_2l q0_2c : Nat) (w : World) (K : Value → World → Prop) : Prop :=
  newM #[.int .i64 q0_0, .int .i64 q0_1, .slice q0_2 q0_2l q0_2c] N.t_Matrix w fun p1 w2 =>
  newM #[.int .i64 0, .int .i64 0, .slice none 0 0] N.t_Matrix w2 fun p3 w4 =>
  ∃ n5 : Int, w4.cell? p1 = some (.int .i64 n5) ∧
  ∃ n6 : Int, w4.cell? (p1.add 1) = some (.int .i64 n6) ∧
  ∃ (s7a : Option Addr) (s7l s7c : Nat), w4.cell? (p1.add 2) = some (.slice s7a s7l s7c) ∧
  CallsX P N.f_matrix_Right #[.agg #[.int .i64 n5, .int .i64 n6, .slice s7a s7l s7c]] w4 fun v9 w8 =>
  ∃ b10 : Bool, v9 = (.bool b10) ∧
  cond (!b10)
  (stM p3 (.int .i64 0) w8 fun w11 =>
    stM (p3.add 1) (.int .i64 0) w11 fun w12 =>
    stM (p3.add 2) (.slice none 0 0) w12 fun w13 =>
    ∃ n14 : Int, w13.cell? p3 = some (.int .i64 n14) ∧
    ∃ n15 : Int, w13.cell? (p3.add 1) = some (.int .i64 n15) ∧
    ∃ (s16a : Option Addr) (s16l s16c : Nat), w13.cell? (p3.add 2) = some (.slice s16a s16l s16c) ∧
    K (.tuple #[.agg #[.int .i64 n14, .int .i64 n15, .slice s16a s16l s16c], .int .i64 4]) w13)
  (∃ n17 : Int, w8.cell? (p1.add 1) = some (.int .i64 n17) ∧
    ∃ n18 : Int, w8.cell? p1 = some (.int .i64 n18) ∧
    CallsX P N.f_matrix_laid #[.int .i64 n17, .int .i64 n18, .func (.func N.f_matrix_Transpose_1) #[] #[.pointer (some p1)]] w8 fun v20 w19 =>
    ∃ n21 : Int, ∃ n22 : Int, ∃ (s23a : Option Addr) (s23l s23c : Nat), v20 = (.agg #[.int .i64 n21, .int .i64 n22, .slice s23a s23l s23c]) ∧
    stM p3 (.int .i64 n21) w19 fun w24 =>
    stM (p3.add 1) (.int .i64 n22) w24 fun w25 =>
    stM (p3.add 2) (.slice s23a s23l s23c) w25 fun w26 =>
    ∃ n27 : Int, w26.cell? p3 = some (.int .i64 n27) ∧
    ∃ n28 : Int, w26.cell? (p3.add 1) = some (.int .i64 n28) ∧
    ∃ (s29a : Option Addr) (s29l s29c : Nat), w26.cell? (p3.add 2) = some (.slice s29a s29l s29c) ∧
    K (.tuple #[.agg #[.int .i64 n27, .int .i64 n28, .slice s29a s29l s29c], .int .i64 0]) w26)

/-- girder/matrix.Same -/
def S_matrix_Same (N : Nums) (P : Program) (q0_0 : Int) (q0_1 : Int) (q0_2 : Option Addr) (q0_2l q0_2c : Nat) (q1_0 : Int) (q1_1 : Int) (q1_2 : Option Addr) (q1_2l q1_2c : Nat) (w : World) (K : Value → World → Prop) : Prop :=
  newM #[.int .i64 q0_0, .int .i64 q0_1, .slice q0_2 q0_2l q0_2c] N.t_Matrix w fun p1 w2 =>
  newM #[.int .i64 q1_0, .int .i64 q1_1, .slice q1_2 q1_2l q1_2c] N.t_Matrix w2 fun p3 w4 =>
  ∃ n5 : Int, w4.cell? p1 = some (.int .i64 n5) ∧
  ∃ n6 : Int, w4.cell? p3 = some (.int .i64 n6) ∧
  cond (n5 == n6)
  (∃ n7 : Int, w4.cell? (p1.add 1) = some (.int .i64 n7) ∧
    ∃ n8 : Int, w4.cell? (p3.add 1) = some (.int .i64 n8) ∧
    cond (n7 == n8)
    (∃ (s9a : Option Addr) (s9l s9c : Nat), w4.cell? (p1.add 2) = some (.slice s9a s9l s9c) ∧
      ∃ (s10a : Option Addr) (s10l s10c : Nat), w4.cell? (p3.add 2) = some (.slice s10a s10l s10c) ∧
      CallsX P N.f_vector_Same #[.slice s9a s9l s9c, .slice s10a s10l s10c] w4 fun v12 w11 =>
      ∃ b13 : Bool, v12 = (.bool b13) ∧
      K (.bool b13) w11)
    (K (.bool false) w4))
  (K (.bool false) w4)

/-- math.IsNaN -/
def S_math_IsNaN (N : Nums) (P : Program) (q0 : Nat) (w : World) (K : Value → World → Prop) : Prop :=
  K (.bool (!feq q0 q0)) w

/-- math.IsInf -/
def S_math_IsInf (N : Nums) (P : Program) (q0 : Nat) (q1 : Int) (w : World) (K : Value → World → Prop) : Prop :=
  cutM (σ := Nat × Unit) (fun J1 =>
    cond (q1 == 0)
    (CallsX P N.f_math_Abs #[.float .f64 q0] w fun v5 w4 =>
      ∃ x6 : Nat, v5 = (.float .f64 x6) ∧
      J1 (x6, ()) w4)
    (cutM (σ := Nat × Unit) (fun J7 =>
        cond (decide (q1 < 0))
        (J7 ((fneg q0), ()) w)
        (J7 (q0, ()) w))
      (fun s8 w9 =>
        J1 (s8.1, ()) w9)))
  (fun s2 w3 =>
    K (.bool (fgt s2.1 9218868437227405311)) w3)

/-- girder/girderref10.Right -/
def S_girderref10_Right (N : Nums) (P : Program) (q0_0 : Int) (q0_1 : Int) (q0_2 : Option Addr) (q0_2l q0_2c : Nat) (w : World) (K : Value → World → Prop) : Prop :=
  newM #[.int .i64 q0_0, .int .i64 q0_1, .slice q0_2 q0_2l q0_2c] N.t_Matrix w fun p1 w2 =>
  ∃ n3 : Int, w2.cell? p1 = some (.int .i64 n3) ∧
  CallsX P N.f_girderref10_may #[.int .i64 n3] w2 fun v5 w4 =>
  ∃ b6 : Bool, v5 = (.bool b6) ∧
  cond b6
  (∃ n7 : Int, w4.cell? (p1.add 1) = some (.int .i64 n7) ∧
    CallsX P N.f_girderref10_may #[.int .i64 n7] w4 fun v9 w8 =>
    ∃ b10 : Bool, v9 = (.bool b10) ∧
    cond b10
    (∃ (s11a : Option Addr) (s11l s11c : Nat), w8.cell? (p1.add 2) = some (.slice s11a s11l s11c) ∧
      ∃ n12 : Int, w8.cell? p1 = some (.int .i64 n12) ∧
      ∃ n13 : Int, w8.cell? (p1.add 1) = some (.int .i64 n13) ∧
      K (.bool (((s11l : Nat) : Int) == (IntKind.i64.wrap (n12 * n13)))) w8)
    (K (.bool false) w8))
  (K (.bool false) w4)

/-- girder/girderref01.Same -/
def S_girderref01_Same (N : Nums) (P : Program) (q0 : Nat) (q1 : Nat) (w : World) (K : Value → World → Prop) : Prop :=
  CallsX P N.f_math_Float64bits #[.float .f64 q0] w fun v2 w1 =>
  ∃ n3 : Int, v2 = (.int .u64 n3) ∧
  CallsX P N.f_math_Float64bits #[.float .f64 q1] w1 fun v5 w4 =>
  ∃ n6 : Int, v5 = (.int .u64 n6) ∧
  cond (!(n3 == n6))
  (CallsX P N.f_girderref01_Nan #[.float .f64 q0] w4 fun v8 w7 =>
    ∃ b9 : Bool, v8 = (.bool b9) ∧
    cond b9
    (CallsX P N.f_girderref01_Nan #[.float .f64 q1] w7 fun v11 w10 =>
      ∃ b12 : Bool, v11 = (.bool b12) ∧
      K (.bool b12) w10)
    (K (.bool false) w7))
  (K (.bool true) w4)

/-- girder/girderref10.At -/
def S_girderref10_At (N : Nums) (P : Program) (q0_0 : Int) (q0_1 : Int) (q0_2 : Option Addr) (q0_2l q0_2c : Nat) (q1 : Int) (q2 : Int) (w : World) (K : Value → World → Prop) : Prop :=
  newM #[.int .i64 q0_0, .int .i64 q0_1, .slice q0_2 q0_2l q0_2c] N.t_Matrix w fun p1 w2 =>
  ∃ (s3a : Option Addr) (s3l s3c : Nat), w2.cell? (p1.add 2) = some (.slice s3a s3l s3c) ∧
  ∃ n4 : Int, w2.cell? (p1.add 1) = some (.int .i64 n4) ∧
  (0 : Int) ≤ (IntKind.i64.wrap ((IntKind.i64.wrap (q1 * n4)) + q2)) ∧ (IntKind.i64.wrap ((IntKind.i64.wrap (q1 * n4)) + q2)) < (s3l : Nat) ∧
  optM s3a fun a5 =>
  ∃ x6 : Nat, w2.cell? (a5.add ((IntKind.i64.wrap ((IntKind.i64.wrap (q1 * n4)) + q2)).toNat * 1)) = some (.float .f64 x6) ∧
  K (.float .f64 x6) w2

/-- girder/matrix.fits -/
def S_matrix_fits (N : Nums) (P : Program) (q0 : Int) (w : World) (K : Value → World → Prop) : Prop :=
  cond (decide (q0 ≥ 0))
  (K (.bool (decide (q0 ≤ 48))) w)
  (K (.bool false) w)

/-- girder/matrix.laid -/
def S_matrix_laid (N : Nums) (P : Program) (q0 : Int) (q1 : Int) (q2 : Value) (w : World) (K : Value → World → Prop) : Prop :=
  newM #[.int .i64 0, .int .i64 0, .slice none 0 0] N.t_Matrix w fun p1 w2 =>
  mkM N.t_float64 1 8 #[.float .f64 0] (IntKind.i64.wrap (q0 * q1)) (IntKind.i64.wrap (q0 * q1)) w2 fun p3 w4 =>
  newM #[.int .i64 0, .int .i64 0, .slice none 0 0] N.t_Matrix w4 fun p5 w6 =>
  stM p5 (.int .i64 q0) w6 fun w7 =>
  stM (p5.add 1) (.int .i64 q1) w7 fun w8 =>
  stM (p5.add 2) (.slice (some p3) ((IntKind.i64.wrap (q0 * q1)).toNat) ((IntKind.i64.wrap (q0 * q1)).toNat)) w8 fun w9 =>
  cutM (σ := Unit) (fun J10 =>
    loopM (σ := Int × Unit) (fun s13 X14 w15 =>
      cond (decide (s13.1 < q0))
      (cutM (σ := Unit) (fun J16 =>
          loopM (σ := Int × Unit) (fun s19 X20 w21 =>
            cond (decide (s19.1 < q1))
            (∃ (s22a : Option Addr) (s22l s22c : Nat), w21.cell? (p5.add 2) = some (.slice s22a s22l s22c) ∧
              drM w21 fun w23 =>
              fnM q2 fun f26 f26p f26q => CallsX P f26 (f26p.toList ++ (([.int .i64 s13.1, .int .i64 s19.1] : List Value) ++ f26q.toList)).toArray w23 fun v25 w24 =>
              ∃ x27 : Nat, v25 = (.float .f64 x27) ∧
              w24.cell? (p5.add 2) = some (.slice s22a s22l s22c) ∧
              (0 : Int) ≤ (IntKind.i64.wrap ((IntKind.i64.wrap (s13.1 * q1)) + s19.1)) ∧ (IntKind.i64.wrap ((IntKind.i64.wrap (s13.1 * q1)) + s19.1)) < (s22l : Nat) ∧
              optM s22a fun a28 =>
              drM w24 fun w29 =>
              stM (a28.add ((IntKind.i64.wrap ((IntKind.i64.wrap (s13.1 * q1)) + s19.1)).toNat * 1)) (.float .f64 x27) w29 fun w30 =>
              drM w30 fun w31 =>
              X20 ((IntKind.i64.wrap (s19.1 + 1)), ()) w31)
            (J16 (()) w21))
          (0, ()) w15)
        (fun s17 w18 =>
          X14 ((IntKind.i64.wrap (s13.1 + 1)), ()) w18))
      (J10 (()) w15))
    (0, ()) w9)
  (fun s11 w12 =>
    ∃ n32 : Int, w12.cell? p5 = some (.int .i64 n32) ∧
    ∃ n33 : Int, w12.cell? (p5.add 1) = some (.int .i64 n33) ∧
    ∃ (s34a : Option Addr) (s34l s34c : Nat), w12.cell? (p5.add 2) = some (.slice s34a s34l s34c) ∧
    stM p1 (.int .i64 n32) w12 fun w35 =>
    stM (p1.add 1) (.int .i64 n33) w35 fun w36 =>
    stM (p1.add 2) (.slice s34a s34l s34c) w36 fun w37 =>
    ∃ n38 : Int, w37.cell? p1 = some (.int .i64 n38) ∧
    ∃ n39 : Int, w37.cell? (p1.add 1) = some (.int .i64 n39) ∧
    ∃ (s40a : Option Addr) (s40l s40c : Nat), w37.cell? (p1.add 2) = some (.slice s40a s40l s40c) ∧
    K (.agg #[.int .i64 n38, .int .i64 n39, .slice s40a s40l s40c]) w37)

/-- girder/matrix.Make$1 -/
def S_matrix_Make_1 (N : Nums) (P : Program) (q0 : Int) (q1 : Int) (w : World) (K : Value → World → Prop) : Prop :=
  K (.float .f64 0) w

/-- math.normalize -/
def S_math_normalize (N : Nums) (P : Program) (q0 : Nat) (w : World) (K : Value → World → Prop) : Prop :=
  CallsX P N.f_math_Abs #[.float .f64 q0] w fun v2 w1 =>
  ∃ x3 : Nat, v2 = (.float .f64 x3) ∧
  cond (flt x3 4503599627370496)
  (fresM (fmul q0 4841369599423283200) w1 fun x4 w5 =>
    K (.tuple #[.float .f64 x4, .int .i64 (-52)]) w5)
  (K (.tuple #[.float .f64 q0, .int .i64 0]) w1)

/-- girder/matrix.Right -/
def S_matrix_Right (N : Nums) (P : Program) (q0_0 : Int) (q0_1 : Int) (q0_2 : Option Addr) (q0_2l q0_2c : Nat) (w : World) (K : Value → World → Prop) : Prop :=
  newM #[.int .i64 q0_0, .int .i64 q0_1, .slice q0_2 q0_2l q0_2c] N.t_Matrix w fun p1 w2 =>
  ∃ n3 : Int, w2.cell? p1 = some (.int .i64 n3) ∧
  CallsX P N.f_matrix_fits #[.int .i64 n3] w2 fun v5 w4 =>
  ∃ b6 : Bool, v5 = (.bool b6) ∧
  cond b6
  (∃ n7 : Int, w4.cell? (p1.add 1) = some (.int .i64 n7) ∧
    CallsX P N.f_matrix_fits #[.int .i64 n7] w4 fun v9 w8 =>
    ∃ b10 : Bool, v9 = (.bool b10) ∧
    cond b10
    (∃ (s11a : Option Addr) (s11l s11c : Nat), w8.cell? (p1.add 2) = some (.slice s11a s11l s11c) ∧
      ∃ n12 : Int, w8.cell? p1 = some (.int .i64 n12) ∧
      ∃ n13 : Int, w8.cell? (p1.add 1) = some (.int .i64 n13) ∧
      K (.bool (((s11l : Nat) : Int) == (IntKind.i64.wrap (n12 * n13)))) w8)
    (K (.bool false) w8))
  (K (.bool false) w4)

/-- girder/matrix.Transpose$1 -/
def S_matrix_Transpose_1 (N : Nums) (P : Program) (q0 : Int) (q1 : Int) (q2 : Option Addr) (w : World) (K : Value → World → Prop) : Prop :=
  optM q2 fun a1 =>
  ∃ (s2a : Option Addr) (s2l s2c : Nat), w.cell? (a1.add 2) = some (.slice s2a s2l s2c) ∧
  optM q2 fun a3 =>
  ∃ n4 : Int, w.cell? (a3.add 1) = some (.int .i64 n4) ∧
  (0 : Int) ≤ (IntKind.i64.wrap ((IntKind.i64.wrap (q1 * n4)) + q0)) ∧ (IntKind.i64.wrap ((IntKind.i64.wrap (q1 * n4)) + q0)) < (s2l : Nat) ∧
  optM s2a fun a5 =>
  ∃ x6 : Nat, w.cell? (a5.add ((IntKind.i64.wrap ((IntKind.i64.wrap (q1 * n4)) + q0)).toNat * 1)) = some (.float .f64 x6) ∧
  K (.float .f64 x6) w

/-- girder/vector.Same -/
def S_vector_Same (N : Nums) (P : Program) (q0 : Option Addr) (q0l q0c : Nat) (q1 : Option Addr) (q1l q1c : Nat) (w : World) (K : Value → World → Prop) : Prop :=
  cond (((q0l : Nat) : Int) != ((q1l : Nat) : Int))
  (K (.bool false) w)
  (cutM (σ := Unit) (fun J1 =>
      loopM (σ := Int × Unit) (fun s4 X5 w6 =>
        cond (decide (s4.1 < ((q0l : Nat) : Int)))
        ((0 : Int) ≤ s4.1 ∧ s4.1 < (q0l : Nat) ∧
          optM q0 fun a7 =>
          ∃ x8 : Nat, w6.cell? (a7.add (s4.1.toNat * 1)) = some (.float .f64 x8) ∧
          (0 : Int) ≤ s4.1 ∧ s4.1 < (q1l : Nat) ∧
          optM q1 fun a9 =>
          ∃ x10 : Nat, w6.cell? (a9.add (s4.1.toNat * 1)) = some (.float .f64 x10) ∧
          drM w6 fun w11 =>
          CallsX P N.f_math_Float64bits #[.float .f64 x8] w11 fun v13 w12 =>
          ∃ n14 : Int, v13 = (.int .u64 n14) ∧
          w12.cell? (a9.add (s4.1.toNat * 1)) = some (.float .f64 x10) ∧
          drM w12 fun w15 =>
          CallsX P N.f_math_Float64bits #[.float .f64 x10] w15 fun v17 w16 =>
          ∃ n18 : Int, v17 = (.int .u64 n18) ∧
          cond (n14 != n18)
          (drM w16 fun w19 =>
            CallsX P N.f_math_IsNaN #[.float .f64 x8] w19 fun v21 w20 =>
            ∃ b22 : Bool, v21 = (.bool b22) ∧
            cond b22
            ((0 : Int) ≤ s4.1 ∧ s4.1 < (q1l : Nat) ∧
              optM q1 fun a23 =>
              ∃ x24 : Nat, w20.cell? (a23.add (s4.1.toNat * 1)) = some (.float .f64 x24) ∧
              drM w20 fun w25 =>
              CallsX P N.f_math_IsNaN #[.float .f64 x24] w25 fun v27 w26 =>
              ∃ b28 : Bool, v27 = (.bool b28) ∧
              drM w26 fun w29 =>
              cond (!b28)
              (K (.bool false) w29)
              (X5 ((IntKind.i64.wrap (s4.1 + 1)), ()) w29))
            (drM w20 fun w30 =>
              drM w30 fun w31 =>
              K (.bool false) w31))
          (drM w16 fun w32 =>
            drM w32 fun w33 =>
            drM w33 fun w34 =>
            X5 ((IntKind.i64.wrap (s4.1 + 1)), ()) w34))
        (J1 (()) w6))
      (0, ()) w)
    (fun s2 w3 =>
      K (.bool true) w3))

/-- girder/girderref10.may -/
def S_girderref10_may (N : Nums) (P : Program) (q0 : Int) (w : World) (K : Value → World → Prop) : Prop :=
  cond (decide (q0 ≥ 0))
  (K (.bool (decide (q0 ≤ 48))) w)
  (K (.bool false) w)

/-- girder/girderref01.Nan -/
def S_girderref01_Nan (N : Nums) (P : Program) (q0 : Nat) (w : World) (K : Value → World → Prop) : Prop :=
  CallsX P N.f_girderref01_Kind #[.float .f64 q0] w fun v2 w1 =>
  ∃ n3 : Int, v2 = (.int .i64 n3) ∧
  K (.bool (n3 == 4)) w1

/-- girder/girderref01.Kind -/
def S_girderref01_Kind (N : Nums) (P : Program) (q0 : Nat) (w : World) (K : Value → World → Prop) : Prop :=
  CallsX P N.f_girderref01_fields #[.float .f64 q0] w fun v2 w1 =>
  ∃ b3 : Bool, ∃ n4 : Int, ∃ n5 : Int, v2 = (.tuple #[.bool b3, .int .i64 n4, .int .u64 n5]) ∧
  cond (n4 == 2047)
  (cond (n5 != 0)
    (K (.int .i64 4) w1)
    (cond (n4 == 2047)
      (K (.int .i64 3) w1)
      (cond (decide (n4 > 0))
        (K (.int .i64 2) w1)
        (cond (n5 != 0)
          (K (.int .i64 1) w1)
          (K (.int .i64 0) w1)))))
  (cond (n4 == 2047)
    (K (.int .i64 3) w1)
    (cond (decide (n4 > 0))
      (K (.int .i64 2) w1)
      (cond (n5 != 0)
        (K (.int .i64 1) w1)
        (K (.int .i64 0) w1))))

/-- girder/girderref01.fields -/
def S_girderref01_fields (N : Nums) (P : Program) (q0 : Nat) (w : World) (K : Value → World → Prop) : Prop :=
  CallsX P N.f_math_Float64bits #[.float .f64 q0] w fun v2 w1 =>
  ∃ n3 : Int, v2 = (.int .u64 n3) ∧
  (0 : Int) ≤ 63 ∧
  (4503599627370496 : Int) ≠ 0 ∧
  (2048 : Int) ≠ 0 ∧
  (4503599627370496 : Int) ≠ 0 ∧
  K (.tuple #[.bool ((n3.fdiv (2 ^ (min (63 : Int).toNat IntKind.u64.bits))) == 1), .int .i64 (IntKind.i64.wrap ((IntKind.u64.wrap (n3.tdiv 4503599627370496)).tmod 2048)), .int .u64 (n3.tmod 4503599627370496)]) w1

end Go.Eng
