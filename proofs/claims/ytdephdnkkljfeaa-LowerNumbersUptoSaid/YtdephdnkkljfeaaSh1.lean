/-
 Some of the functions as propositions in the manner of a weakest precondition, printed off the structured code by a program of the session. No condition.
-/
import Derived.Test.YtdephdnkkljfeaaTbl
import Derived.Test.YtdephdnkkljfeaaNm
set_option linter.all false
set_option maxRecDepth 100000
namespace Go.Eng
open Go
def S_w12_LowerNumbers (N : Nums) (P : Program)  (w : World) (K : Value → World → Prop) : Prop :=
 cutM (σ := Unit) (fun J1 =>
  loopM (σ := Int × Unit) (fun s4 X5 w6 =>
   cond (decide (s4.1 ≤ 49))
   (mkM N.t_float64 1 8 #[.float .f64 0] (IntKind.i64.wrap (s4.1 * s4.1)) (IntKind.i64.wrap (s4.1 * s4.1)) w6 fun p7 w8 =>
    newM #[.int .i64 0, .int .i64 0, .slice none 0 0] N.t_Matrix w8 fun p9 w10 =>
    stM p9 (.int .i64 s4.1) w10 fun w11 =>
    stM (p9.add 1) (.int .i64 s4.1) w11 fun w12 =>
    stM (p9.add 2) (.slice (some p7) ((IntKind.i64.wrap (s4.1 * s4.1)).toNat) ((IntKind.i64.wrap (s4.1 * s4.1)).toNat)) w12 fun w13 =>
    cutM (σ := Unit) (fun J14 =>
     loopM (σ := Int × Unit) (fun s17 X18 w19 =>
      cond (decide (s17.1 < s4.1))
      (∃ s20a s20l s20c, w19.cell? (p9.add 2) = some (.slice s20a s20l s20c) ∧
       (0 : Int) ≤ (IntKind.i64.wrap ((IntKind.i64.wrap (s17.1 * s4.1)) + s17.1)) ∧ (IntKind.i64.wrap ((IntKind.i64.wrap (s17.1 * s4.1)) + s17.1)) < (s20l : Nat) ∧
       optM s20a fun a21 =>
       stM (a21.add ((IntKind.i64.wrap ((IntKind.i64.wrap (s17.1 * s4.1)) + s17.1)).toNat * 1)) (.float .f64 4611686018427387904) w19 fun w22 =>
       X18 ((IntKind.i64.wrap (s17.1 + 1)), ()) w22)
      (J14 (()) w19))
     (0, ()) w13)
    (fun s15 w16 =>
     ∃ n23, w16.cell? p9 = some (.int .i64 n23) ∧
     ∃ n24, w16.cell? (p9.add 1) = some (.int .i64 n24) ∧
     ∃ s25a s25l s25c, w16.cell? (p9.add 2) = some (.slice s25a s25l s25c) ∧
     CallsX P N.f_lower_Factor #[.agg #[.int .i64 n23, .int .i64 n24, .slice s25a s25l s25c]] w16 fun v27 w26 =>
     ∃ n28, ∃ s29a s29l s29c, ∃ s30a s30l s30c, ∃ n31, ∃ n32, v27 = (.tuple #[.agg #[.int .i64 n28, .slice s29a s29l s29c, .slice s30a s30l s30c], .int .i64 n31, .int .i64 n32]) ∧
     newM #[.int .i64 0, .slice none 0 0, .slice none 0 0] N.t_Factor w26 fun p33 w34 =>
     stM p33 (.int .i64 n28) w34 fun w35 =>
     stM (p33.add 1) (.slice s29a s29l s29c) w35 fun w36 =>
     stM (p33.add 2) (.slice s30a s30l s30c) w36 fun w37 =>
     cutM (σ := Bool × Unit) (fun J38 =>
      cond (!(!((n31 == 0) == (decide (s4.1 ≤ 48)))))
      (cond (!(!((n31 == 4) == (s4.1 == 49))))
       (cond (n31 == 0)
        (∃ n41, w37.cell? p33 = some (.int .i64 n41) ∧
         cond (!(n41 != s4.1))
         (∃ n42, w37.cell? p33 = some (.int .i64 n42) ∧
          ∃ s43a s43l s43c, w37.cell? (p33.add 1) = some (.slice s43a s43l s43c) ∧
          ∃ s44a s44l s44c, w37.cell? (p33.add 2) = some (.slice s44a s44l s44c) ∧
          CallsX P N.f_lower_Right #[.agg #[.int .i64 n42, .slice s43a s43l s43c, .slice s44a s44l s44c]] w37 fun v46 w45 =>
          ∃ b47, v46 = (.bool b47) ∧
          J38 ((!b47), ()) w45)
         (J38 (true, ()) w37))
        (J38 (false, ()) w37))
       (J38 (true, ()) w37))
      (J38 (true, ()) w37))
     (fun s39 w40 =>
      cond s39.1
      (K (.bool false) w40)
      ((2 : Int) ≠ 0 ∧
       (drM w40 fun w48 =>
        mkM N.t_float64 1 8 #[.float .f64 0] (IntKind.i64.wrap ((IntKind.i64.wrap (s4.1 * (IntKind.i64.wrap (s4.1 - 1)))).tdiv 2)) (IntKind.i64.wrap ((IntKind.i64.wrap (s4.1 * (IntKind.i64.wrap (s4.1 - 1)))).tdiv 2)) w48 fun p49 w50 =>
        drM w50 fun w51 =>
        mkM N.t_float64 1 8 #[.float .f64 0] s4.1 s4.1 w51 fun p52 w53 =>
        drM w53 fun w54 =>
        CallsX P N.f_lower_Right #[.agg #[.int .i64 s4.1, .slice (some p49) ((IntKind.i64.wrap ((IntKind.i64.wrap (s4.1 * (IntKind.i64.wrap (s4.1 - 1)))).tdiv 2)).toNat) ((IntKind.i64.wrap ((IntKind.i64.wrap (s4.1 * (IntKind.i64.wrap (s4.1 - 1)))).tdiv 2)).toNat), .slice (some p52) s4.1.toNat s4.1.toNat]] w54 fun v56 w55 =>
        ∃ b57, v56 = (.bool b57) ∧
        drM w55 fun w58 =>
        cond (!(b57 == (decide (s4.1 ≤ 48))))
        (K (.bool false) w58)
        (X5 ((IntKind.i64.wrap (s4.1 + 1)), ()) w58)) ∧
       (drM w40 fun w59 =>
        mkM N.t_float64 1 8 #[.float .f64 0] s4.1 s4.1 w59 fun p60 w61 =>
        drM w61 fun w62 =>
        mkM N.t_float64 1 8 #[.float .f64 0] (IntKind.i64.wrap ((IntKind.i64.wrap (s4.1 * (IntKind.i64.wrap (s4.1 - 1)))).tdiv 2)) (IntKind.i64.wrap ((IntKind.i64.wrap (s4.1 * (IntKind.i64.wrap (s4.1 - 1)))).tdiv 2)) w62 fun p63 w64 =>
        drM w64 fun w65 =>
        CallsX P N.f_lower_Right #[.agg #[.int .i64 s4.1, .slice (some p63) ((IntKind.i64.wrap ((IntKind.i64.wrap (s4.1 * (IntKind.i64.wrap (s4.1 - 1)))).tdiv 2)).toNat) ((IntKind.i64.wrap ((IntKind.i64.wrap (s4.1 * (IntKind.i64.wrap (s4.1 - 1)))).tdiv 2)).toNat), .slice (some p60) s4.1.toNat s4.1.toNat]] w65 fun v67 w66 =>
        ∃ b68, v67 = (.bool b68) ∧
        drM w66 fun w69 =>
        cond (!(b68 == (decide (s4.1 ≤ 48))))
        (K (.bool false) w69)
        (X5 ((IntKind.i64.wrap (s4.1 + 1)), ()) w69))))))
   (J1 (()) w6))
  (47, ()) w)
 (fun s2 w3 =>
  newM #[.float .f64 0] N.t_float64 w3 fun p70 w71 =>
  newM #[.float .f64 13830554455654793216] N.t_float64 w71 fun p72 w73 =>
  CallsX P N.f_math_Copysign #[.float .f64 0, .float .f64 13830554455654793216] w73 fun v75 w74 =>
  ∃ x76, v75 = (.float .f64 x76) ∧
  newM #[.float .f64 x76] N.t_float64 w74 fun p77 w78 =>
  newM #[.float .f64 9218868437227405311, .float .f64 9218868437227405311, .float .f64 9218868437227405311, .float .f64 9218868437227405311] N.t_float64 w78 fun p79 w80 =>
  newM #[.float .f64 4607182418800017408, .float .f64 4611686018427387904, .float .f64 4613937818241073152, .float .f64 4616189618054758400] N.t_float64 w80 fun p81 w82 =>
  CallsX P N.f_math_NaN #[] w82 fun v84 w83 =>
  ∃ x85, v84 = (.float .f64 x85) ∧
  CallsX P N.f_math_NaN #[] w83 fun v87 w86 =>
  ∃ x88, v87 = (.float .f64 x88) ∧
  newM #[.float .f64 4607182418800017408, .float .f64 x85, .float .f64 x88, .float .f64 4607182418800017408] N.t_float64 w86 fun p89 w90 =>
  CallsX P N.f_math_Float64frombits #[.int .u64 1] w90 fun v92 w91 =>
  ∃ x93, v92 = (.float .f64 x93) ∧
  newM #[.float .f64 x93, .float .f64 9110782046170513408, .float .f64 9110782046170513408, .float .f64 4607182418800017408] N.t_float64 w91 fun p94 w95 =>
  CallsX P N.f_math_Inf #[.int .i64 1] w95 fun v97 w96 =>
  ∃ x98, v97 = (.float .f64 x98) ∧
  newM #[.float .f64 x98] N.t_float64 w96 fun p99 w100 =>
  newM #[.float .f64 4607182418800017408, .float .f64 7309342195222315008, .float .f64 7309342195222315008, .float .f64 4607182418800017408] N.t_float64 w100 fun p101 w102 =>
  newM #[.slice (some p70) 1 1, .slice (some p72) 1 1, .slice (some p77) 1 1, .slice (some p79) 4 4, .slice (some p81) 4 4, .slice (some p89) 4 4, .slice (some p94) 4 4, .slice (some p99) 1 1, .slice (some p101) 4 4, .slice none 0 0] N.t_L_float64 w102 fun p103 w104 =>
  newM #[.int .i64 220, .int .i64 220, .int .i64 220, .int .i64 220, .int .i64 4, .int .i64 5, .int .i64 6, .int .i64 5, .int .i64 220, .int .i64 0] N.t_int w104 fun p105 w106 =>
  newM #[.int .i64 0, .int .i64 0, .int .i64 0, .int .i64 1, .int .i64 0, .int .i64 0, .int .i64 0, .int .i64 0, .int .i64 1, .int .i64 0] N.t_int w106 fun p107 w108 =>
  cutM (σ := Unit) (fun J109 =>
   loopM (σ := Int × Unit) (fun s112 X113 w114 =>
    cond (decide (s112.1 < ((10 : Nat) : Int)))
    ((0 : Int) ≤ s112.1 ∧ s112.1 < (10 : Nat) ∧
     ∃ s115a s115l s115c, w114.cell? (p103.add (s112.1.toNat * 1)) = some (.slice s115a s115l s115c) ∧
     (0 : Int) ≤ s112.1 ∧ s112.1 < (10 : Nat) ∧
     ∃ s116a s116l s116c, w114.cell? (p103.add (s112.1.toNat * 1)) = some (.slice s116a s116l s116c) ∧
     cutM (σ := Int × Unit) (fun J117 =>
      cond (((s116l : Nat) : Int) == 4)
      (J117 (2, ()) w114)
      (J117 ((if 1 < ((s115l : Nat) : Int) then 1 else ((s115l : Nat) : Int)), ()) w114))
     (fun s118 w119 =>
      (0 : Int) ≤ s112.1 ∧ s112.1 < (10 : Nat) ∧
      ∃ s120a s120l s120c, w119.cell? (p103.add (s112.1.toNat * 1)) = some (.slice s120a s120l s120c) ∧
      CallsX P N.f_lower_Factor #[.agg #[.int .i64 s118.1, .int .i64 s118.1, .slice s120a s120l s120c]] w119 fun v122 w121 =>
      ∃ n123, ∃ s124a s124l s124c, ∃ s125a s125l s125c, ∃ n126, ∃ n127, v122 = (.tuple #[.agg #[.int .i64 n123, .slice s124a s124l s124c, .slice s125a s125l s125c], .int .i64 n126, .int .i64 n127]) ∧
      newM #[.int .i64 0, .slice none 0 0, .slice none 0 0] N.t_Factor w121 fun p128 w129 =>
      stM p128 (.int .i64 n123) w129 fun w130 =>
      stM (p128.add 1) (.slice s124a s124l s124c) w130 fun w131 =>
      stM (p128.add 2) (.slice s125a s125l s125c) w131 fun w132 =>
      (0 : Int) ≤ s112.1 ∧ s112.1 < (10 : Nat) ∧
      ∃ n133, w132.cell? (p105.add (s112.1.toNat * 1)) = some (.int .i64 n133) ∧
      cond (!(n126 != n133))
      ((0 : Int) ≤ s112.1 ∧ s112.1 < (10 : Nat) ∧
       ∃ n134, w132.cell? (p107.add (s112.1.toNat * 1)) = some (.int .i64 n134) ∧
       cond (!(n127 != n134))
       (cond (n126 != 0)
        (∃ n135, w132.cell? p128 = some (.int .i64 n135) ∧
         cond (!(n135 != 0))
         (∃ s136a s136l s136c, w132.cell? (p128.add 1) = some (.slice s136a s136l s136c) ∧
          ∃ s137a s137l s137c, w132.cell? (p128.add 2) = some (.slice s137a s137l s137c) ∧
          cond ((IntKind.i64.wrap (((s136l : Nat) : Int) + ((s137l : Nat) : Int))) != 0)
          (K (.bool false) w132)
          (X113 ((IntKind.i64.wrap (s112.1 + 1)), ()) w132))
         (K (.bool false) w132))
        (X113 ((IntKind.i64.wrap (s112.1 + 1)), ()) w132))
       (K (.bool false) w132))
      (K (.bool false) w132)))
    (J109 (()) w114))
   (0, ()) w108)
  (fun s110 w111 =>
   CallsX P N.f_lower_Right #[.agg #[.int .i64 0, .slice none 0 0, .slice none 0 0]] w111 fun v139 w138 =>
   ∃ b140, v139 = (.bool b140) ∧
   cond b140
   (CallsX P N.f_lower_Right #[.agg #[.int .i64 (-1), .slice none 0 0, .slice none 0 0]] w138 fun v142 w141 =>
    ∃ b143, v142 = (.bool b143) ∧
    cond (!b143)
    (CallsX P N.f_lower_Right #[.agg #[.int .i64 1, .slice none 0 0, .slice none 0 0]] w141 fun v145 w144 =>
     ∃ b146, v145 = (.bool b146) ∧
     cond (!b146)
     (newM #[.float .f64 4607182418800017408] N.t_float64 w144 fun p147 w148 =>
      CallsX P N.f_lower_Right #[.agg #[.int .i64 0, .slice (some p147) 1 1, .slice none 0 0]] w148 fun v150 w149 =>
      ∃ b151, v150 = (.bool b151) ∧
      cond (!b151)
      (CallsX P N.f_w12_awake #[] w149 fun v153 w152 =>
       ∃ b154, v153 = (.bool b154) ∧
       K (.bool b154) w152)
      (K (.bool false) w149))
     (K (.bool false) w144))
    (K (.bool false) w141))
   (K (.bool false) w138)))
def S_lower_Factor (N : Nums) (P : Program) (q0_0 : Int) (q0_1 : Int) (q0_2 : Option Addr) (q0_2l q0_2c : Nat) (w : World) (K : Value → World → Prop) : Prop :=
 newM #[.int .i64 q0_0, .int .i64 q0_1, .slice q0_2 q0_2l q0_2c] N.t_Matrix w fun p1 w2 =>
 newM #[.int .i64 0, .slice none 0 0, .slice none 0 0] N.t_Factor w2 fun p3 w4 =>
 ∃ n5, w4.cell? p1 = some (.int .i64 n5) ∧
 ∃ n6, w4.cell? (p1.add 1) = some (.int .i64 n6) ∧
 ∃ s7a s7l s7c, w4.cell? (p1.add 2) = some (.slice s7a s7l s7c) ∧
 CallsX P N.f_matrix_Symmetric #[.agg #[.int .i64 n5, .int .i64 n6, .slice s7a s7l s7c]] w4 fun v9 w8 =>
 ∃ b10, v9 = (.bool b10) ∧
 cond (!b10)
 (∃ n11, w8.cell? p3 = some (.int .i64 n11) ∧
  ∃ s12a s12l s12c, w8.cell? (p3.add 1) = some (.slice s12a s12l s12c) ∧
  ∃ s13a s13l s13c, w8.cell? (p3.add 2) = some (.slice s13a s13l s13c) ∧
  stM p3 (.int .i64 n11) w8 fun w14 =>
  stM (p3.add 1) (.slice s12a s12l s12c) w14 fun w15 =>
  stM (p3.add 2) (.slice s13a s13l s13c) w15 fun w16 =>
  ∃ n17, w16.cell? p3 = some (.int .i64 n17) ∧
  ∃ s18a s18l s18c, w16.cell? (p3.add 1) = some (.slice s18a s18l s18c) ∧
  ∃ s19a s19l s19c, w16.cell? (p3.add 2) = some (.slice s19a s19l s19c) ∧
  K (.tuple #[.agg #[.int .i64 n17, .slice s18a s18l s18c, .slice s19a s19l s19c], .int .i64 4, .int .i64 0]) w16)
 (∃ s20a s20l s20c, w8.cell? (p1.add 2) = some (.slice s20a s20l s20c) ∧
  cutM (σ := Int × Int × Unit) (fun J21 =>
   loopM (σ := Int × Int × Int × Unit) (fun s24 X25 w26 =>
    cond (decide (s24.2.2.1 < ((s20l : Nat) : Int)))
    ((0 : Int) ≤ s24.2.2.1 ∧ s24.2.2.1 < (s20l : Nat) ∧
     optM s20a fun a27 =>
     ∃ x28, w26.cell? (a27.add (s24.2.2.1.toNat * 1)) = some (.float .f64 x28) ∧
     CallsX P N.f_lower_finite #[.float .f64 x28] w26 fun v30 w29 =>
     ∃ b31, v30 = (.bool b31) ∧
     cond (!b31)
     (∃ n32, w29.cell? p3 = some (.int .i64 n32) ∧
      ∃ s33a s33l s33c, w29.cell? (p3.add 1) = some (.slice s33a s33l s33c) ∧
      ∃ s34a s34l s34c, w29.cell? (p3.add 2) = some (.slice s34a s34l s34c) ∧
      stM p3 (.int .i64 n32) w29 fun w35 =>
      stM (p3.add 1) (.slice s33a s33l s33c) w35 fun w36 =>
      stM (p3.add 2) (.slice s34a s34l s34c) w36 fun w37 =>
      ∃ n38, w37.cell? p3 = some (.int .i64 n38) ∧
      ∃ s39a s39l s39c, w37.cell? (p3.add 1) = some (.slice s39a s39l s39c) ∧
      ∃ s40a s40l s40c, w37.cell? (p3.add 2) = some (.slice s40a s40l s40c) ∧
      K (.tuple #[.agg #[.int .i64 n38, .slice s39a s39l s39c, .slice s40a s40l s40c], .int .i64 5, .int .i64 0]) w37)
     (X25 (s24.1, s24.2.1, (IntKind.i64.wrap (s24.2.2.1 + 1)), ()) w29))
    (J21 (s24.1, s24.2.1, ()) w26))
   (0, 0, 0, ()) w8)
  (fun s22 w23 =>
   ∃ n41, w23.cell? p1 = some (.int .i64 n41) ∧
   cutM (σ := (Option Addr × Nat × Nat) × (Option Addr × Nat × Nat) × Unit) (fun J42 =>
    (2 : Int) ≠ 0 ∧
    (drM w23 fun w45 =>
     mkM N.t_float64 1 8 #[.float .f64 0] (IntKind.i64.wrap ((IntKind.i64.wrap (n41 * (IntKind.i64.wrap (n41 - 1)))).tdiv 2)) (IntKind.i64.wrap ((IntKind.i64.wrap (n41 * (IntKind.i64.wrap (n41 - 1)))).tdiv 2)) w45 fun p46 w47 =>
     drM w47 fun w48 =>
     mkM N.t_float64 1 8 #[.float .f64 0] n41 n41 w48 fun p49 w50 =>
     drM w50 fun w51 =>
     J42 (((some p46), (IntKind.i64.wrap ((IntKind.i64.wrap (n41 * (IntKind.i64.wrap (n41 - 1)))).tdiv 2)).toNat, (IntKind.i64.wrap ((IntKind.i64.wrap (n41 * (IntKind.i64.wrap (n41 - 1)))).tdiv 2)).toNat), ((some p49), n41.toNat, n41.toNat), ()) w51) ∧
    (drM w23 fun w52 =>
     mkM N.t_float64 1 8 #[.float .f64 0] n41 n41 w52 fun p53 w54 =>
     drM w54 fun w55 =>
     mkM N.t_float64 1 8 #[.float .f64 0] (IntKind.i64.wrap ((IntKind.i64.wrap (n41 * (IntKind.i64.wrap (n41 - 1)))).tdiv 2)) (IntKind.i64.wrap ((IntKind.i64.wrap (n41 * (IntKind.i64.wrap (n41 - 1)))).tdiv 2)) w55 fun p56 w57 =>
     drM w57 fun w58 =>
     J42 (((some p56), (IntKind.i64.wrap ((IntKind.i64.wrap (n41 * (IntKind.i64.wrap (n41 - 1)))).tdiv 2)).toNat, (IntKind.i64.wrap ((IntKind.i64.wrap (n41 * (IntKind.i64.wrap (n41 - 1)))).tdiv 2)).toNat), ((some p53), n41.toNat, n41.toNat), ()) w58))
   (fun s43 w44 =>
    mkM N.t_float64 1 8 #[.float .f64 0] n41 n41 w44 fun p59 w60 =>
    cutM (σ := Int × Int × Unit) (fun J61 =>
     loopM (σ := Int × Int × Int × Unit) (fun s64 X65 w66 =>
      cond (decide (s64.2.2.1 < n41))
      (CallsX P N.f_lower_row #[.slice s43.1.1 s43.1.2.1 s43.1.2.2, .int .i64 s64.2.2.1] w66 fun v68 w67 =>
       ∃ s69a s69l s69c, v68 = (.slice s69a s69l s69c) ∧
       ∃ s70a s70l s70c, w67.cell? (p1.add 2) = some (.slice s70a s70l s70c) ∧
       (0 : Int) ≤ (IntKind.i64.wrap ((IntKind.i64.wrap (s64.2.2.1 * n41)) + s64.2.2.1)) ∧ (IntKind.i64.wrap ((IntKind.i64.wrap (s64.2.2.1 * n41)) + s64.2.2.1)) < (s70l : Nat) ∧
       optM s70a fun a71 =>
       ∃ x72, w67.cell? (a71.add ((IntKind.i64.wrap ((IntKind.i64.wrap (s64.2.2.1 * n41)) + s64.2.2.1)).toNat * 1)) = some (.float .f64 x72) ∧
       cutM (σ := Nat × Unit) (fun J73 =>
        loopM (σ := Nat × Int × Unit) (fun s76 X77 w78 =>
         cond (decide (s76.2.1 < ((s69l : Nat) : Int)))
         ((0 : Int) ≤ s76.2.1 ∧ s76.2.1 < (s69l : Nat) ∧
          optM s69a fun a79 =>
          ∃ x80, w78.cell? (a79.add (s76.2.1.toNat * 1)) = some (.float .f64 x80) ∧
          (0 : Int) ≤ s76.2.1 ∧ s76.2.1 < (s43.2.1.2.1 : Nat) ∧
          optM s43.2.1.1 fun a81 =>
          ∃ x82, w78.cell? (a81.add (s76.2.1.toNat * 1)) = some (.float .f64 x82) ∧
          fresM (fmul x80 x82) w78 fun x83 w84 =>
          (0 : Int) ≤ s76.2.1 ∧ s76.2.1 < (n41.toNat : Nat) ∧
          stM (p59.add (s76.2.1.toNat * 1)) (.float .f64 x83) w84 fun w85 =>
          (0 : Int) ≤ s76.2.1 ∧ s76.2.1 < (n41.toNat : Nat) ∧
          ∃ x86, w85.cell? (p59.add (s76.2.1.toNat * 1)) = some (.float .f64 x86) ∧
          fresM (fmul x86 x80) w85 fun x87 w88 =>
          fresM (fsub s76.1 x87) w88 fun x89 w90 =>
          X77 (x89, (IntKind.i64.wrap (s76.2.1 + 1)), ()) w90)
         (J73 (s76.1, ()) w78))
        (x72, 0, ()) w67)
       (fun s74 w75 =>
        cutM (σ := Bool × Unit) (fun J91 =>
         cond (!(!(fgt s74.1 0)))
         (CallsX P N.f_lower_finite #[.float .f64 s74.1] w75 fun v95 w94 =>
          ∃ b96, v95 = (.bool b96) ∧
          J91 ((!b96), ()) w94)
         (J91 (true, ()) w75))
        (fun s92 w93 =>
         cond s92.1
         (J61 (220, s64.2.2.1, ()) w93)
         ((0 : Int) ≤ s64.2.2.1 ∧ s64.2.2.1 < (s43.2.1.2.1 : Nat) ∧
          optM s43.2.1.1 fun a97 =>
          stM (a97.add (s64.2.2.1.toNat * 1)) (.float .f64 s74.1) w93 fun w98 =>
          cutM (σ := Int × Int × Unit) (fun J99 =>
           loopM (σ := Int × Int × Int × Unit) (fun s102 X103 w104 =>
            cond (decide (s102.2.2.1 < n41))
            (CallsX P N.f_lower_row #[.slice s43.1.1 s43.1.2.1 s43.1.2.2, .int .i64 s102.2.2.1] w104 fun v106 w105 =>
             ∃ s107a s107l s107c, v106 = (.slice s107a s107l s107c) ∧
             ∃ s108a s108l s108c, w105.cell? (p1.add 2) = some (.slice s108a s108l s108c) ∧
             (0 : Int) ≤ (IntKind.i64.wrap ((IntKind.i64.wrap (s102.2.2.1 * n41)) + s64.2.2.1)) ∧ (IntKind.i64.wrap ((IntKind.i64.wrap (s102.2.2.1 * n41)) + s64.2.2.1)) < (s108l : Nat) ∧
             optM s108a fun a109 =>
             ∃ x110, w105.cell? (a109.add ((IntKind.i64.wrap ((IntKind.i64.wrap (s102.2.2.1 * n41)) + s64.2.2.1)).toNat * 1)) = some (.float .f64 x110) ∧
             cutM (σ := Nat × Unit) (fun J111 =>
             loopM (σ := Nat × Int × Unit) (fun s114 X115 w116 =>
             cond (decide (s114.2.1 < s64.2.2.1))
             ((0 : Int) ≤ s114.2.1 ∧ s114.2.1 < (s107l : Nat) ∧
             optM s107a fun a117 =>
             ∃ x118, w116.cell? (a117.add (s114.2.1.toNat * 1)) = some (.float .f64 x118) ∧
             (0 : Int) ≤ s114.2.1 ∧ s114.2.1 < (n41.toNat : Nat) ∧
             ∃ x119, w116.cell? (p59.add (s114.2.1.toNat * 1)) = some (.float .f64 x119) ∧
             fresM (fmul x118 x119) w116 fun x120 w121 =>
             fresM (fsub s114.1 x120) w116 fun x122 w123 =>
             drM w116 fun w124 =>
             X115 (x122, (IntKind.i64.wrap (s114.2.1 + 1)), ()) w124)
             (J111 (s114.1, ()) w116))
             (x110, 0, ()) w105)
             (fun s112 w113 =>
             (0 : Int) ≤ s64.2.2.1 ∧ s64.2.2.1 < (s43.2.1.2.1 : Nat) ∧
             optM s43.2.1.1 fun a125 =>
             ∃ x126, w113.cell? (a125.add (s64.2.2.1.toNat * 1)) = some (.float .f64 x126) ∧
             fresM (fdiv s112.1 x126) w113 fun x127 w128 =>
             (0 : Int) ≤ s64.2.2.1 ∧ s64.2.2.1 < (s107l : Nat) ∧
             optM s107a fun a129 =>
             stM (a129.add (s64.2.2.1.toNat * 1)) (.float .f64 x127) w128 fun w130 =>
             (0 : Int) ≤ s64.2.2.1 ∧ s64.2.2.1 < (s107l : Nat) ∧
             optM s107a fun a131 =>
             ∃ x132, w130.cell? (a131.add (s64.2.2.1.toNat * 1)) = some (.float .f64 x132) ∧
             CallsX P N.f_lower_finite #[.float .f64 x132] w130 fun v134 w133 =>
             ∃ b135, v134 = (.bool b135) ∧
             cond (!b135)
             (J61 (6, s64.2.2.1, ()) w133)
             (X103 (s102.1, s102.2.1, (IntKind.i64.wrap (s102.2.2.1 + 1)), ()) w133)))
            (J99 (s102.1, s102.2.1, ()) w104))
           (s64.1, s64.2.1, (IntKind.i64.wrap (s64.2.2.1 + 1)), ()) w98)
          (fun s100 w101 =>
           X65 (s100.1, s100.2.1, (IntKind.i64.wrap (s64.2.2.1 + 1)), ()) w101)))))
      (J61 (s64.1, s64.2.1, ()) w66))
     (s22.1, s22.2.1, 0, ()) w60)
    (fun s62 w63 =>
     cond (s62.1 != 0)
     (∃ n136, w63.cell? p3 = some (.int .i64 n136) ∧
      ∃ s137a s137l s137c, w63.cell? (p3.add 1) = some (.slice s137a s137l s137c) ∧
      ∃ s138a s138l s138c, w63.cell? (p3.add 2) = some (.slice s138a s138l s138c) ∧
      stM p3 (.int .i64 n136) w63 fun w139 =>
      stM (p3.add 1) (.slice s137a s137l s137c) w139 fun w140 =>
      stM (p3.add 2) (.slice s138a s138l s138c) w140 fun w141 =>
      ∃ n142, w141.cell? p3 = some (.int .i64 n142) ∧
      ∃ s143a s143l s143c, w141.cell? (p3.add 1) = some (.slice s143a s143l s143c) ∧
      ∃ s144a s144l s144c, w141.cell? (p3.add 2) = some (.slice s144a s144l s144c) ∧
      K (.tuple #[.agg #[.int .i64 n142, .slice s143a s143l s143c, .slice s144a s144l s144c], .int .i64 s62.1, .int .i64 s62.2.1]) w141)
     (stM p3 (.int .i64 n41) w63 fun w145 =>
      stM (p3.add 1) (.slice s43.1.1 s43.1.2.1 s43.1.2.2) w145 fun w146 =>
      stM (p3.add 2) (.slice s43.2.1.1 s43.2.1.2.1 s43.2.1.2.2) w146 fun w147 =>
      ∃ n148, w147.cell? p3 = some (.int .i64 n148) ∧
      ∃ s149a s149l s149c, w147.cell? (p3.add 1) = some (.slice s149a s149l s149c) ∧
      ∃ s150a s150l s150c, w147.cell? (p3.add 2) = some (.slice s150a s150l s150c) ∧
      K (.tuple #[.agg #[.int .i64 n148, .slice s149a s149l s149c, .slice s150a s150l s150c], .int .i64 0, .int .i64 0]) w147)))))
def S_lower_Right (N : Nums) (P : Program) (q0_0 : Int) (q0_1 : Option Addr) (q0_1l q0_1c : Nat) (q0_2 : Option Addr) (q0_2l q0_2c : Nat) (w : World) (K : Value → World → Prop) : Prop :=
 newM #[.int .i64 q0_0, .slice q0_1 q0_1l q0_1c, .slice q0_2 q0_2l q0_2c] N.t_Factor w fun p1 w2 =>
 ∃ n3, w2.cell? p1 = some (.int .i64 n3) ∧
 cond (decide (n3 ≥ 0))
 (∃ n4, w2.cell? p1 = some (.int .i64 n4) ∧
  cond (decide (n4 ≤ 48))
  (∃ s5a s5l s5c, w2.cell? (p1.add 1) = some (.slice s5a s5l s5c) ∧
   ∃ n6, w2.cell? p1 = some (.int .i64 n6) ∧
   ∃ n7, w2.cell? p1 = some (.int .i64 n7) ∧
   (2 : Int) ≠ 0 ∧
   cond (((s5l : Nat) : Int) == (IntKind.i64.wrap ((IntKind.i64.wrap (n6 * (IntKind.i64.wrap (n7 - 1)))).tdiv 2)))
   (∃ s8a s8l s8c, w2.cell? (p1.add 2) = some (.slice s8a s8l s8c) ∧
    ∃ n9, w2.cell? p1 = some (.int .i64 n9) ∧
    K (.bool (((s8l : Nat) : Int) == n9)) w2)
   (K (.bool false) w2))
  (K (.bool false) w2))
 (K (.bool false) w2)
def S_math_Copysign (N : Nums) (P : Program) (q0 : Nat) (q1 : Nat) (w : World) (K : Value → World → Prop) : Prop :=
 CallsX P N.f_math_Float64bits #[.float .f64 q0] w fun v2 w1 =>
 ∃ n3, v2 = (.int .u64 n3) ∧
 CallsX P N.f_math_Float64bits #[.float .f64 q1] w1 fun v5 w4 =>
 ∃ n6, v5 = (.int .u64 n6) ∧
 CallsX P N.f_math_Float64frombits #[.int .u64 (IntKind.u64.wrap (BitVec.ofInt IntKind.u64.bits (IntKind.u64.wrap (BitVec.ofInt IntKind.u64.bits n3 &&& ~~~BitVec.ofInt IntKind.u64.bits 9223372036854775808).toNat) ||| BitVec.ofInt IntKind.u64.bits (IntKind.u64.wrap (BitVec.ofInt IntKind.u64.bits n6 &&& BitVec.ofInt IntKind.u64.bits 9223372036854775808).toNat)).toNat)] w4 fun v8 w7 =>
 ∃ x9, v8 = (.float .f64 x9) ∧
 K (.float .f64 x9) w7
def S_math_NaN (N : Nums) (P : Program)  (w : World) (K : Value → World → Prop) : Prop :=
 CallsX P N.f_math_Float64frombits #[.int .u64 9221120237041090561] w fun v2 w1 =>
 ∃ x3, v2 = (.float .f64 x3) ∧
 K (.float .f64 x3) w1
def S_math_Inf (N : Nums) (P : Program) (q0 : Int) (w : World) (K : Value → World → Prop) : Prop :=
 cutM (σ := Int × Unit) (fun J1 =>
  cond (decide (q0 ≥ 0))
  (J1 (9218868437227405312, ()) w)
  (J1 (18442240474082181120, ()) w))
 (fun s2 w3 =>
  CallsX P N.f_math_Float64frombits #[.int .u64 s2.1] w3 fun v5 w4 =>
  ∃ x6, v5 = (.float .f64 x6) ∧
  K (.float .f64 x6) w4)
def S_w12_awake (N : Nums) (P : Program)  (w : World) (K : Value → World → Prop) : Prop :=
 newM #[.float .f64 4616189618054758400, .float .f64 4611686018427387904, .float .f64 4611686018427387904, .float .f64 4617315517961601024] N.t_float64 w fun p1 w2 =>
 newM #[.int .i64 0, .int .i64 0, .slice none 0 0] N.t_Matrix w2 fun p3 w4 =>
 stM p3 (.int .i64 2) w4 fun w5 =>
 stM (p3.add 1) (.int .i64 2) w5 fun w6 =>
 stM (p3.add 2) (.slice (some p1) 4 4) w6 fun w7 =>
 ∃ n8, w7.cell? p3 = some (.int .i64 n8) ∧
 ∃ n9, w7.cell? (p3.add 1) = some (.int .i64 n9) ∧
 ∃ s10a s10l s10c, w7.cell? (p3.add 2) = some (.slice s10a s10l s10c) ∧
 CallsX P N.f_lower_Factor #[.agg #[.int .i64 n8, .int .i64 n9, .slice s10a s10l s10c]] w7 fun v12 w11 =>
 ∃ n13, ∃ s14a s14l s14c, ∃ s15a s15l s15c, ∃ n16, ∃ n17, v12 = (.tuple #[.agg #[.int .i64 n13, .slice s14a s14l s14c, .slice s15a s15l s15c], .int .i64 n16, .int .i64 n17]) ∧
 newM #[.int .i64 0, .slice none 0 0, .slice none 0 0] N.t_Factor w11 fun p18 w19 =>
 stM p18 (.int .i64 n13) w19 fun w20 =>
 stM (p18.add 1) (.slice s14a s14l s14c) w20 fun w21 =>
 stM (p18.add 2) (.slice s15a s15l s15c) w21 fun w22 =>
 ∃ n23, w22.cell? p18 = some (.int .i64 n23) ∧
 ∃ s24a s24l s24c, w22.cell? (p18.add 1) = some (.slice s24a s24l s24c) ∧
 ∃ s25a s25l s25c, w22.cell? (p18.add 2) = some (.slice s25a s25l s25c) ∧
 CallsX P N.f_lower_Times #[.agg #[.int .i64 n23, .slice s24a s24l s24c, .slice s25a s25l s25c]] w22 fun v27 w26 =>
 ∃ n28, ∃ n29, ∃ s30a s30l s30c, ∃ n31, v27 = (.tuple #[.agg #[.int .i64 n28, .int .i64 n29, .slice s30a s30l s30c], .int .i64 n31]) ∧
 newM #[.int .i64 0, .int .i64 0, .slice none 0 0] N.t_Matrix w26 fun p32 w33 =>
 stM p32 (.int .i64 n28) w33 fun w34 =>
 stM (p32.add 1) (.int .i64 n29) w34 fun w35 =>
 stM (p32.add 2) (.slice s30a s30l s30c) w35 fun w36 =>
 newM #[.float .f64 4616189618054758400, .float .f64 4611686018427387904, .float .f64 4611686018427387904, .float .f64 4607182418800017408] N.t_float64 w36 fun p37 w38 =>
 CallsX P N.f_lower_Factor #[.agg #[.int .i64 2, .int .i64 2, .slice (some p37) 4 4]] w38 fun v40 w39 =>
 ∃ n41, ∃ s42a s42l s42c, ∃ s43a s43l s43c, ∃ n44, ∃ n45, v40 = (.tuple #[.agg #[.int .i64 n41, .slice s42a s42l s42c, .slice s43a s43l s43c], .int .i64 n44, .int .i64 n45]) ∧
 newM #[.int .i64 0, .slice none 0 0, .slice none 0 0] N.t_Factor w39 fun p46 w47 =>
 stM p46 (.int .i64 n41) w47 fun w48 =>
 stM (p46.add 1) (.slice s42a s42l s42c) w48 fun w49 =>
 stM (p46.add 2) (.slice s43a s43l s43c) w49 fun w50 =>
 cond (n16 == 0)
 (cond (n17 == 0)
  (∃ n51, w50.cell? p18 = some (.int .i64 n51) ∧
   ∃ s52a s52l s52c, w50.cell? (p18.add 1) = some (.slice s52a s52l s52c) ∧
   ∃ s53a s53l s53c, w50.cell? (p18.add 2) = some (.slice s53a s53l s53c) ∧
   newM #[.float .f64 4602678819172646912] N.t_float64 w50 fun p54 w55 =>
   newM #[.float .f64 4616189618054758400, .float .f64 4616189618054758400] N.t_float64 w55 fun p56 w57 =>
   CallsX P N.f_k_SameFactor #[.agg #[.int .i64 n51, .slice s52a s52l s52c, .slice s53a s53l s53c], .agg #[.int .i64 2, .slice (some p54) 1 1, .slice (some p56) 2 2]] w57 fun v59 w58 =>
   ∃ b60, v59 = (.bool b60) ∧
   cond b60
   (cond (n31 == 0)
    (∃ n61, w58.cell? p32 = some (.int .i64 n61) ∧
     ∃ n62, w58.cell? (p32.add 1) = some (.int .i64 n62) ∧
     ∃ s63a s63l s63c, w58.cell? (p32.add 2) = some (.slice s63a s63l s63c) ∧
     ∃ n64, w58.cell? p3 = some (.int .i64 n64) ∧
     ∃ n65, w58.cell? (p3.add 1) = some (.int .i64 n65) ∧
     ∃ s66a s66l s66c, w58.cell? (p3.add 2) = some (.slice s66a s66l s66c) ∧
     CallsX P N.f_k_SameMatrix #[.agg #[.int .i64 n61, .int .i64 n62, .slice s63a s63l s63c], .agg #[.int .i64 n64, .int .i64 n65, .slice s66a s66l s66c]] w58 fun v68 w67 =>
     ∃ b69, v68 = (.bool b69) ∧
     cond b69
     (cond (n44 == 220)
      (K (.bool (n45 == 1)) w67)
      (K (.bool false) w67))
     (K (.bool false) w67))
    (K (.bool false) w58))
   (K (.bool false) w58))
  (K (.bool false) w50))
 (K (.bool false) w50)
def S_matrix_Symmetric (N : Nums) (P : Program) (q0_0 : Int) (q0_1 : Int) (q0_2 : Option Addr) (q0_2l q0_2c : Nat) (w : World) (K : Value → World → Prop) : Prop :=
 newM #[.int .i64 q0_0, .int .i64 q0_1, .slice q0_2 q0_2l q0_2c] N.t_Matrix w fun p1 w2 =>
 ∃ n3, w2.cell? p1 = some (.int .i64 n3) ∧
 ∃ n4, w2.cell? (p1.add 1) = some (.int .i64 n4) ∧
 ∃ s5a s5l s5c, w2.cell? (p1.add 2) = some (.slice s5a s5l s5c) ∧
 CallsX P N.f_matrix_Transpose #[.agg #[.int .i64 n3, .int .i64 n4, .slice s5a s5l s5c]] w2 fun v7 w6 =>
 ∃ n8, ∃ n9, ∃ s10a s10l s10c, ∃ n11, v7 = (.tuple #[.agg #[.int .i64 n8, .int .i64 n9, .slice s10a s10l s10c], .int .i64 n11]) ∧
 newM #[.int .i64 0, .int .i64 0, .slice none 0 0] N.t_Matrix w6 fun p12 w13 =>
 stM p12 (.int .i64 n8) w13 fun w14 =>
 stM (p12.add 1) (.int .i64 n9) w14 fun w15 =>
 stM (p12.add 2) (.slice s10a s10l s10c) w15 fun w16 =>
 cond (n11 == 0)
 (∃ n17, w16.cell? p12 = some (.int .i64 n17) ∧
  ∃ n18, w16.cell? (p12.add 1) = some (.int .i64 n18) ∧
  ∃ s19a s19l s19c, w16.cell? (p12.add 2) = some (.slice s19a s19l s19c) ∧
  ∃ n20, w16.cell? p1 = some (.int .i64 n20) ∧
  ∃ n21, w16.cell? (p1.add 1) = some (.int .i64 n21) ∧
  ∃ s22a s22l s22c, w16.cell? (p1.add 2) = some (.slice s22a s22l s22c) ∧
  CallsX P N.f_matrix_Same #[.agg #[.int .i64 n17, .int .i64 n18, .slice s19a s19l s19c], .agg #[.int .i64 n20, .int .i64 n21, .slice s22a s22l s22c]] w16 fun v24 w23 =>
  ∃ b25, v24 = (.bool b25) ∧
  K (.bool b25) w23)
 (K (.bool false) w16)
def S_lower_finite (N : Nums) (P : Program) (q0 : Nat) (w : World) (K : Value → World → Prop) : Prop :=
 CallsX P N.f_math_IsNaN #[.float .f64 q0] w fun v2 w1 =>
 ∃ b3, v2 = (.bool b3) ∧
 cond (!b3)
 (CallsX P N.f_math_IsInf #[.float .f64 q0, .int .i64 0] w1 fun v5 w4 =>
  ∃ b6, v5 = (.bool b6) ∧
  K (.bool (!b6)) w4)
 (K (.bool false) w1)
def S_lower_row (N : Nums) (P : Program) (q0 : Option Addr) (q0l q0c : Nat) (q1 : Int) (w : World) (K : Value → World → Prop) : Prop :=
 (2 : Int) ≠ 0 ∧
 (0 : Int) ≤ (IntKind.i64.wrap ((IntKind.i64.wrap ((IntKind.i64.wrap (q1 * (IntKind.i64.wrap (q1 - 1)))).tdiv 2)) + q1)) ∧ (IntKind.i64.wrap ((IntKind.i64.wrap ((IntKind.i64.wrap (q1 * (IntKind.i64.wrap (q1 - 1)))).tdiv 2)) + q1)) ≤ (q0c : Nat) ∧ (0 : Int) ≤ (IntKind.i64.wrap ((IntKind.i64.wrap ((IntKind.i64.wrap (q1 * (IntKind.i64.wrap (q1 - 1)))).tdiv 2)) + q1)) ∧ (IntKind.i64.wrap ((IntKind.i64.wrap ((IntKind.i64.wrap (q1 * (IntKind.i64.wrap (q1 - 1)))).tdiv 2)) + q1)) ≤ (IntKind.i64.wrap ((IntKind.i64.wrap ((IntKind.i64.wrap (q1 * (IntKind.i64.wrap (q1 - 1)))).tdiv 2)) + q1)) ∧ (0 : Int) ≤ (IntKind.i64.wrap ((IntKind.i64.wrap (q1 * (IntKind.i64.wrap (q1 - 1)))).tdiv 2)) ∧ (IntKind.i64.wrap ((IntKind.i64.wrap (q1 * (IntKind.i64.wrap (q1 - 1)))).tdiv 2)) ≤ (IntKind.i64.wrap ((IntKind.i64.wrap ((IntKind.i64.wrap (q1 * (IntKind.i64.wrap (q1 - 1)))).tdiv 2)) + q1)) ∧
 K (.slice (slBase q0 ((IntKind.i64.wrap ((IntKind.i64.wrap (q1 * (IntKind.i64.wrap (q1 - 1)))).tdiv 2)).toNat) ((IntKind.i64.wrap ((IntKind.i64.wrap ((IntKind.i64.wrap (q1 * (IntKind.i64.wrap (q1 - 1)))).tdiv 2)) + q1)).toNat) 1) ((IntKind.i64.wrap ((IntKind.i64.wrap ((IntKind.i64.wrap (q1 * (IntKind.i64.wrap (q1 - 1)))).tdiv 2)) + q1)).toNat - (IntKind.i64.wrap ((IntKind.i64.wrap (q1 * (IntKind.i64.wrap (q1 - 1)))).tdiv 2)).toNat) ((IntKind.i64.wrap ((IntKind.i64.wrap ((IntKind.i64.wrap (q1 * (IntKind.i64.wrap (q1 - 1)))).tdiv 2)) + q1)).toNat - (IntKind.i64.wrap ((IntKind.i64.wrap (q1 * (IntKind.i64.wrap (q1 - 1)))).tdiv 2)).toNat)) w
def S_lower_Times (N : Nums) (P : Program) (q0_0 : Int) (q0_1 : Option Addr) (q0_1l q0_1c : Nat) (q0_2 : Option Addr) (q0_2l q0_2c : Nat) (w : World) (K : Value → World → Prop) : Prop :=
 newM #[.int .i64 q0_0, .slice q0_1 q0_1l q0_1c, .slice q0_2 q0_2l q0_2c] N.t_Factor w fun p1 w2 =>
 newM #[.int .i64 0, .int .i64 0, .slice none 0 0] N.t_Matrix w2 fun p3 w4 =>
 ∃ n5, w4.cell? p1 = some (.int .i64 n5) ∧
 ∃ s6a s6l s6c, w4.cell? (p1.add 1) = some (.slice s6a s6l s6c) ∧
 ∃ s7a s7l s7c, w4.cell? (p1.add 2) = some (.slice s7a s7l s7c) ∧
 CallsX P N.f_lower_Right #[.agg #[.int .i64 n5, .slice s6a s6l s6c, .slice s7a s7l s7c]] w4 fun v9 w8 =>
 ∃ b10, v9 = (.bool b10) ∧
 cond (!b10)
 (stM p3 (.int .i64 0) w8 fun w11 =>
  stM (p3.add 1) (.int .i64 0) w11 fun w12 =>
  stM (p3.add 2) (.slice none 0 0) w12 fun w13 =>
  ∃ n14, w13.cell? p3 = some (.int .i64 n14) ∧
  ∃ n15, w13.cell? (p3.add 1) = some (.int .i64 n15) ∧
  ∃ s16a s16l s16c, w13.cell? (p3.add 2) = some (.slice s16a s16l s16c) ∧
  K (.tuple #[.agg #[.int .i64 n14, .int .i64 n15, .slice s16a s16l s16c], .int .i64 4]) w13)
 (∃ n17, w8.cell? p1 = some (.int .i64 n17) ∧
  CallsX P N.f_matrix_Make #[.int .i64 n17, .int .i64 n17] w8 fun v19 w18 =>
  ∃ n20, ∃ n21, ∃ s22a s22l s22c, ∃ n23, v19 = (.tuple #[.agg #[.int .i64 n20, .int .i64 n21, .slice s22a s22l s22c], .int .i64 n23]) ∧
  newM #[.int .i64 0, .int .i64 0, .slice none 0 0] N.t_Matrix w18 fun p24 w25 =>
  stM p24 (.int .i64 n20) w25 fun w26 =>
  stM (p24.add 1) (.int .i64 n21) w26 fun w27 =>
  stM (p24.add 2) (.slice s22a s22l s22c) w27 fun w28 =>
  cutM (σ := Unit) (fun J29 =>
   loopM (σ := Int × Unit) (fun s32 X33 w34 =>
    cond (decide (s32.1 < n17))
    (∃ s35a s35l s35c, w34.cell? (p1.add 1) = some (.slice s35a s35l s35c) ∧
     CallsX P N.f_lower_row #[.slice s35a s35l s35c, .int .i64 s32.1] w34 fun v37 w36 =>
     ∃ s38a s38l s38c, v37 = (.slice s38a s38l s38c) ∧
     newM #[.float .f64 4607182418800017408] N.t_float64 w36 fun p39 w40 =>
     appM N.t_float64 1 8 #[.float .f64 0] s38a s38l s38c (some p39) 1 w40 fun s41a s41l s41c w42 =>
     cutM (σ := Unit) (fun J43 =>
      loopM (σ := Int × Unit) (fun s46 X47 w48 =>
       cond (decide (s46.1 < (IntKind.i64.wrap (s32.1 + 1))))
       (∃ s49a s49l s49c, w48.cell? (p1.add 1) = some (.slice s49a s49l s49c) ∧
        CallsX P N.f_lower_row #[.slice s49a s49l s49c, .int .i64 s46.1] w48 fun v51 w50 =>
        ∃ s52a s52l s52c, v51 = (.slice s52a s52l s52c) ∧
        newM #[.float .f64 4607182418800017408] N.t_float64 w50 fun p53 w54 =>
        appM N.t_float64 1 8 #[.float .f64 0] s52a s52l s52c (some p53) 1 w54 fun s55a s55l s55c w56 =>
        cutM (σ := Nat × Unit) (fun J57 =>
         loopM (σ := Nat × Int × Unit) (fun s60 X61 w62 =>
          cond (decide (s60.2.1 < (IntKind.i64.wrap (s46.1 + 1))))
          ((0 : Int) ≤ s60.2.1 ∧ s60.2.1 < (s41l : Nat) ∧
           optM s41a fun a63 =>
           ∃ x64, w62.cell? (a63.add (s60.2.1.toNat * 1)) = some (.float .f64 x64) ∧
           ∃ s65a s65l s65c, w62.cell? (p1.add 2) = some (.slice s65a s65l s65c) ∧
           (0 : Int) ≤ s60.2.1 ∧ s60.2.1 < (s65l : Nat) ∧
           optM s65a fun a66 =>
           ∃ x67, w62.cell? (a66.add (s60.2.1.toNat * 1)) = some (.float .f64 x67) ∧
           fresM (fmul x64 x67) w62 fun x68 w69 =>
           drM w62 fun w70 =>
           (0 : Int) ≤ s60.2.1 ∧ s60.2.1 < (s55l : Nat) ∧
           optM s55a fun a71 =>
           ∃ x72, w70.cell? (a71.add (s60.2.1.toNat * 1)) = some (.float .f64 x72) ∧
           fresM (fmul x68 x72) w70 fun x73 w74 =>
           fresM (fadd s60.1 x73) w74 fun x75 w76 =>
           X61 (x75, (IntKind.i64.wrap (s60.2.1 + 1)), ()) w76)
          (J57 (s60.1, ()) w62))
         (0, 0, ()) w56)
        (fun s58 w59 =>
         ∃ s77a s77l s77c, w59.cell? (p24.add 2) = some (.slice s77a s77l s77c) ∧
         ∃ s78a s78l s78c, w59.cell? (p24.add 2) = some (.slice s78a s78l s78c) ∧
         (0 : Int) ≤ (IntKind.i64.wrap ((IntKind.i64.wrap (s32.1 * n17)) + s46.1)) ∧ (IntKind.i64.wrap ((IntKind.i64.wrap (s32.1 * n17)) + s46.1)) < (s77l : Nat) ∧
         optM s77a fun a79 =>
         drM w59 fun w80 =>
         stM (a79.add ((IntKind.i64.wrap ((IntKind.i64.wrap (s32.1 * n17)) + s46.1)).toNat * 1)) (.float .f64 s58.1) w80 fun w81 =>
         w81.cell? (p24.add 2) = some (.slice s78a s78l s78c) ∧
         (0 : Int) ≤ (IntKind.i64.wrap ((IntKind.i64.wrap (s46.1 * n17)) + s32.1)) ∧ (IntKind.i64.wrap ((IntKind.i64.wrap (s46.1 * n17)) + s32.1)) < (s78l : Nat) ∧
         optM s78a fun a82 =>
         drM w81 fun w83 =>
         stM (a82.add ((IntKind.i64.wrap ((IntKind.i64.wrap (s46.1 * n17)) + s32.1)).toNat * 1)) (.float .f64 s58.1) w83 fun w84 =>
         drM w84 fun w85 =>
         X47 ((IntKind.i64.wrap (s46.1 + 1)), ()) w85))
       (J43 (()) w48))
      (0, ()) w42)
     (fun s44 w45 =>
      X33 ((IntKind.i64.wrap (s32.1 + 1)), ()) w45))
    (J29 (()) w34))
   (0, ()) w28)
  (fun s30 w31 =>
   ∃ n86, w31.cell? p24 = some (.int .i64 n86) ∧
   ∃ n87, w31.cell? (p24.add 1) = some (.int .i64 n87) ∧
   ∃ s88a s88l s88c, w31.cell? (p24.add 2) = some (.slice s88a s88l s88c) ∧
   stM p3 (.int .i64 n86) w31 fun w89 =>
   stM (p3.add 1) (.int .i64 n87) w89 fun w90 =>
   stM (p3.add 2) (.slice s88a s88l s88c) w90 fun w91 =>
   ∃ n92, w91.cell? p3 = some (.int .i64 n92) ∧
   ∃ n93, w91.cell? (p3.add 1) = some (.int .i64 n93) ∧
   ∃ s94a s94l s94c, w91.cell? (p3.add 2) = some (.slice s94a s94l s94c) ∧
   K (.tuple #[.agg #[.int .i64 n92, .int .i64 n93, .slice s94a s94l s94c], .int .i64 0]) w91))
def S_k_SameFactor (N : Nums) (P : Program) (q0_0 : Int) (q0_1 : Option Addr) (q0_1l q0_1c : Nat) (q0_2 : Option Addr) (q0_2l q0_2c : Nat) (q1_0 : Int) (q1_1 : Option Addr) (q1_1l q1_1c : Nat) (q1_2 : Option Addr) (q1_2l q1_2c : Nat) (w : World) (K : Value → World → Prop) : Prop :=
 newM #[.int .i64 q0_0, .slice q0_1 q0_1l q0_1c, .slice q0_2 q0_2l q0_2c] N.t_Factor w fun p1 w2 =>
 newM #[.int .i64 q1_0, .slice q1_1 q1_1l q1_1c, .slice q1_2 q1_2l q1_2c] N.t_Factor w2 fun p3 w4 =>
 ∃ n5, w4.cell? p1 = some (.int .i64 n5) ∧
 ∃ n6, w4.cell? p3 = some (.int .i64 n6) ∧
 cond (n5 == n6)
 (∃ s7a s7l s7c, w4.cell? (p1.add 1) = some (.slice s7a s7l s7c) ∧
  ∃ s8a s8l s8c, w4.cell? (p3.add 1) = some (.slice s8a s8l s8c) ∧
  CallsX P N.f_k_SameReals #[.slice s7a s7l s7c, .slice s8a s8l s8c] w4 fun v10 w9 =>
  ∃ b11, v10 = (.bool b11) ∧
  cond b11
  (∃ s12a s12l s12c, w9.cell? (p1.add 2) = some (.slice s12a s12l s12c) ∧
   ∃ s13a s13l s13c, w9.cell? (p3.add 2) = some (.slice s13a s13l s13c) ∧
   CallsX P N.f_k_SameReals #[.slice s12a s12l s12c, .slice s13a s13l s13c] w9 fun v15 w14 =>
   ∃ b16, v15 = (.bool b16) ∧
   K (.bool b16) w14)
  (K (.bool false) w9))
 (K (.bool false) w4)
def S_k_SameMatrix (N : Nums) (P : Program) (q0_0 : Int) (q0_1 : Int) (q0_2 : Option Addr) (q0_2l q0_2c : Nat) (q1_0 : Int) (q1_1 : Int) (q1_2 : Option Addr) (q1_2l q1_2c : Nat) (w : World) (K : Value → World → Prop) : Prop :=
 newM #[.int .i64 q0_0, .int .i64 q0_1, .slice q0_2 q0_2l q0_2c] N.t_Matrix w fun p1 w2 =>
 newM #[.int .i64 q1_0, .int .i64 q1_1, .slice q1_2 q1_2l q1_2c] N.t_Matrix w2 fun p3 w4 =>
 ∃ n5, w4.cell? p1 = some (.int .i64 n5) ∧
 ∃ n6, w4.cell? p3 = some (.int .i64 n6) ∧
 cond (n5 == n6)
 (∃ n7, w4.cell? (p1.add 1) = some (.int .i64 n7) ∧
  ∃ n8, w4.cell? (p3.add 1) = some (.int .i64 n8) ∧
  cond (n7 == n8)
  (∃ s9a s9l s9c, w4.cell? (p1.add 2) = some (.slice s9a s9l s9c) ∧
   ∃ s10a s10l s10c, w4.cell? (p3.add 2) = some (.slice s10a s10l s10c) ∧
   CallsX P N.f_k_SameReals #[.slice s9a s9l s9c, .slice s10a s10l s10c] w4 fun v12 w11 =>
   ∃ b13, v12 = (.bool b13) ∧
   K (.bool b13) w11)
  (K (.bool false) w4))
 (K (.bool false) w4)
def S_matrix_Transpose (N : Nums) (P : Program) (q0_0 : Int) (q0_1 : Int) (q0_2 : Option Addr) (q0_2l q0_2c : Nat) (w : World) (K : Value → World → Prop) : Prop :=
 newM #[.int .i64 q0_0, .int .i64 q0_1, .slice q0_2 q0_2l q0_2c] N.t_Matrix w fun p1 w2 =>
 newM #[.int .i64 0, .int .i64 0, .slice none 0 0] N.t_Matrix w2 fun p3 w4 =>
 ∃ n5, w4.cell? p1 = some (.int .i64 n5) ∧
 ∃ n6, w4.cell? (p1.add 1) = some (.int .i64 n6) ∧
 ∃ s7a s7l s7c, w4.cell? (p1.add 2) = some (.slice s7a s7l s7c) ∧
 CallsX P N.f_matrix_Right #[.agg #[.int .i64 n5, .int .i64 n6, .slice s7a s7l s7c]] w4 fun v9 w8 =>
 ∃ b10, v9 = (.bool b10) ∧
 cond (!b10)
 (stM p3 (.int .i64 0) w8 fun w11 =>
  stM (p3.add 1) (.int .i64 0) w11 fun w12 =>
  stM (p3.add 2) (.slice none 0 0) w12 fun w13 =>
  ∃ n14, w13.cell? p3 = some (.int .i64 n14) ∧
  ∃ n15, w13.cell? (p3.add 1) = some (.int .i64 n15) ∧
  ∃ s16a s16l s16c, w13.cell? (p3.add 2) = some (.slice s16a s16l s16c) ∧
  K (.tuple #[.agg #[.int .i64 n14, .int .i64 n15, .slice s16a s16l s16c], .int .i64 4]) w13)
 (∃ n17, w8.cell? (p1.add 1) = some (.int .i64 n17) ∧
  ∃ n18, w8.cell? p1 = some (.int .i64 n18) ∧
  CallsX P N.f_matrix_laid #[.int .i64 n17, .int .i64 n18, .func (.func N.f_matrix_Transpose_1) #[] #[.pointer (some p1)]] w8 fun v20 w19 =>
  ∃ n21, ∃ n22, ∃ s23a s23l s23c, v20 = (.agg #[.int .i64 n21, .int .i64 n22, .slice s23a s23l s23c]) ∧
  stM p3 (.int .i64 n21) w19 fun w24 =>
  stM (p3.add 1) (.int .i64 n22) w24 fun w25 =>
  stM (p3.add 2) (.slice s23a s23l s23c) w25 fun w26 =>
  ∃ n27, w26.cell? p3 = some (.int .i64 n27) ∧
  ∃ n28, w26.cell? (p3.add 1) = some (.int .i64 n28) ∧
  ∃ s29a s29l s29c, w26.cell? (p3.add 2) = some (.slice s29a s29l s29c) ∧
  K (.tuple #[.agg #[.int .i64 n27, .int .i64 n28, .slice s29a s29l s29c], .int .i64 0]) w26)
def S_matrix_Same (N : Nums) (P : Program) (q0_0 : Int) (q0_1 : Int) (q0_2 : Option Addr) (q0_2l q0_2c : Nat) (q1_0 : Int) (q1_1 : Int) (q1_2 : Option Addr) (q1_2l q1_2c : Nat) (w : World) (K : Value → World → Prop) : Prop :=
 newM #[.int .i64 q0_0, .int .i64 q0_1, .slice q0_2 q0_2l q0_2c] N.t_Matrix w fun p1 w2 =>
 newM #[.int .i64 q1_0, .int .i64 q1_1, .slice q1_2 q1_2l q1_2c] N.t_Matrix w2 fun p3 w4 =>
 ∃ n5, w4.cell? p1 = some (.int .i64 n5) ∧
 ∃ n6, w4.cell? p3 = some (.int .i64 n6) ∧
 cond (n5 == n6)
 (∃ n7, w4.cell? (p1.add 1) = some (.int .i64 n7) ∧
  ∃ n8, w4.cell? (p3.add 1) = some (.int .i64 n8) ∧
  cond (n7 == n8)
  (∃ s9a s9l s9c, w4.cell? (p1.add 2) = some (.slice s9a s9l s9c) ∧
   ∃ s10a s10l s10c, w4.cell? (p3.add 2) = some (.slice s10a s10l s10c) ∧
   CallsX P N.f_vector_Same #[.slice s9a s9l s9c, .slice s10a s10l s10c] w4 fun v12 w11 =>
   ∃ b13, v12 = (.bool b13) ∧
   K (.bool b13) w11)
  (K (.bool false) w4))
 (K (.bool false) w4)
def S_math_IsNaN (N : Nums) (P : Program) (q0 : Nat) (w : World) (K : Value → World → Prop) : Prop :=
 K (.bool (!feq q0 q0)) w
def S_math_IsInf (N : Nums) (P : Program) (q0 : Nat) (q1 : Int) (w : World) (K : Value → World → Prop) : Prop :=
 cutM (σ := Nat × Unit) (fun J1 =>
  cond (q1 == 0)
  (CallsX P N.f_math_Abs #[.float .f64 q0] w fun v5 w4 =>
   ∃ x6, v5 = (.float .f64 x6) ∧
   J1 (x6, ()) w4)
  (cutM (σ := Nat × Unit) (fun J7 =>
    cond (decide (q1 < 0))
    (J7 ((fneg q0), ()) w)
    (J7 (q0, ()) w))
   (fun s8 w9 =>
    J1 (s8.1, ()) w9)))
 (fun s2 w3 =>
  K (.bool (fgt s2.1 9218868437227405311)) w3)
def S_matrix_Make (N : Nums) (P : Program) (q0 : Int) (q1 : Int) (w : World) (K : Value → World → Prop) : Prop :=
 newM #[.int .i64 0, .int .i64 0, .slice none 0 0] N.t_Matrix w fun p1 w2 =>
 CallsX P N.f_matrix_fits #[.int .i64 q0] w2 fun v4 w3 =>
 ∃ b5, v4 = (.bool b5) ∧
 cond (!(!b5))
 (CallsX P N.f_matrix_fits #[.int .i64 q1] w3 fun v7 w6 =>
  ∃ b8, v7 = (.bool b8) ∧
  cond (!b8)
  (stM p1 (.int .i64 0) w6 fun w9 =>
   stM (p1.add 1) (.int .i64 0) w9 fun w10 =>
   stM (p1.add 2) (.slice none 0 0) w10 fun w11 =>
   ∃ n12, w11.cell? p1 = some (.int .i64 n12) ∧
   ∃ n13, w11.cell? (p1.add 1) = some (.int .i64 n13) ∧
   ∃ s14a s14l s14c, w11.cell? (p1.add 2) = some (.slice s14a s14l s14c) ∧
   K (.tuple #[.agg #[.int .i64 n12, .int .i64 n13, .slice s14a s14l s14c], .int .i64 2]) w11)
  (CallsX P N.f_matrix_laid #[.int .i64 q0, .int .i64 q1, .func (.func N.f_matrix_Make_1) #[] #[]] w6 fun v16 w15 =>
   ∃ n17, ∃ n18, ∃ s19a s19l s19c, v16 = (.agg #[.int .i64 n17, .int .i64 n18, .slice s19a s19l s19c]) ∧
   stM p1 (.int .i64 n17) w15 fun w20 =>
   stM (p1.add 1) (.int .i64 n18) w20 fun w21 =>
   stM (p1.add 2) (.slice s19a s19l s19c) w21 fun w22 =>
   ∃ n23, w22.cell? p1 = some (.int .i64 n23) ∧
   ∃ n24, w22.cell? (p1.add 1) = some (.int .i64 n24) ∧
   ∃ s25a s25l s25c, w22.cell? (p1.add 2) = some (.slice s25a s25l s25c) ∧
   K (.tuple #[.agg #[.int .i64 n23, .int .i64 n24, .slice s25a s25l s25c], .int .i64 0]) w22))
 (stM p1 (.int .i64 0) w3 fun w26 =>
  stM (p1.add 1) (.int .i64 0) w26 fun w27 =>
  stM (p1.add 2) (.slice none 0 0) w27 fun w28 =>
  ∃ n29, w28.cell? p1 = some (.int .i64 n29) ∧
  ∃ n30, w28.cell? (p1.add 1) = some (.int .i64 n30) ∧
  ∃ s31a s31l s31c, w28.cell? (p1.add 2) = some (.slice s31a s31l s31c) ∧
  K (.tuple #[.agg #[.int .i64 n29, .int .i64 n30, .slice s31a s31l s31c], .int .i64 2]) w28)
def S_k_SameReals (N : Nums) (P : Program) (q0 : Option Addr) (q0l q0c : Nat) (q1 : Option Addr) (q1l q1c : Nat) (w : World) (K : Value → World → Prop) : Prop :=
 cond (((q0l : Nat) : Int) != ((q1l : Nat) : Int))
 (K (.bool false) w)
 (cutM (σ := Unit) (fun J1 =>
   loopM (σ := Int × Unit) (fun s4 X5 w6 =>
    cond (decide (s4.1 < ((q0l : Nat) : Int)))
    ((0 : Int) ≤ s4.1 ∧ s4.1 < (q0l : Nat) ∧
     optM q0 fun a7 =>
     ∃ x8, w6.cell? (a7.add (s4.1.toNat * 1)) = some (.float .f64 x8) ∧
     (0 : Int) ≤ s4.1 ∧ s4.1 < (q1l : Nat) ∧
     optM q1 fun a9 =>
     ∃ x10, w6.cell? (a9.add (s4.1.toNat * 1)) = some (.float .f64 x10) ∧
     drM w6 fun w11 =>
     CallsX P N.f_k_SameFloat #[.float .f64 x8, .float .f64 x10] w11 fun v13 w12 =>
     ∃ b14, v13 = (.bool b14) ∧
     drM w12 fun w15 =>
     cond (!b14)
     (K (.bool false) w15)
     (X5 ((IntKind.i64.wrap (s4.1 + 1)), ()) w15))
    (J1 (()) w6))
   (0, ()) w)
  (fun s2 w3 =>
   K (.bool true) w3))
def S_matrix_Right (N : Nums) (P : Program) (q0_0 : Int) (q0_1 : Int) (q0_2 : Option Addr) (q0_2l q0_2c : Nat) (w : World) (K : Value → World → Prop) : Prop :=
 newM #[.int .i64 q0_0, .int .i64 q0_1, .slice q0_2 q0_2l q0_2c] N.t_Matrix w fun p1 w2 =>
 ∃ n3, w2.cell? p1 = some (.int .i64 n3) ∧
 CallsX P N.f_matrix_fits #[.int .i64 n3] w2 fun v5 w4 =>
 ∃ b6, v5 = (.bool b6) ∧
 cond b6
 (∃ n7, w4.cell? (p1.add 1) = some (.int .i64 n7) ∧
  CallsX P N.f_matrix_fits #[.int .i64 n7] w4 fun v9 w8 =>
  ∃ b10, v9 = (.bool b10) ∧
  cond b10
  (∃ s11a s11l s11c, w8.cell? (p1.add 2) = some (.slice s11a s11l s11c) ∧
   ∃ n12, w8.cell? p1 = some (.int .i64 n12) ∧
   ∃ n13, w8.cell? (p1.add 1) = some (.int .i64 n13) ∧
   K (.bool (((s11l : Nat) : Int) == (IntKind.i64.wrap (n12 * n13)))) w8)
  (K (.bool false) w8))
 (K (.bool false) w4)
def S_matrix_laid (N : Nums) (P : Program) (q0 : Int) (q1 : Int) (q2 : Value) (w : World) (K : Value → World → Prop) : Prop :=
 newM #[.int .i64 0, .int .i64 0, .slice none 0 0] N.t_Matrix w fun p1 w2 =>
 mkM N.t_float64 1 8 #[.float .f64 0] (IntKind.i64.wrap (q0 * q1)) (IntKind.i64.wrap (q0 * q1)) w2 fun p3 w4 =>
 newM #[.int .i64 0, .int .i64 0, .slice none 0 0] N.t_Matrix w4 fun p5 w6 =>
 stM p5 (.int .i64 q0) w6 fun w7 =>
 stM (p5.add 1) (.int .i64 q1) w7 fun w8 =>
 stM (p5.add 2) (.slice (some p3) ((IntKind.i64.wrap (q0 * q1)).toNat) ((IntKind.i64.wrap (q0 * q1)).toNat)) w8 fun w9 =>
 cutM (σ := Unit) (fun J10 =>
  loopM (σ := Int × Unit) (fun s13 X14 w15 =>
   cond (decide (s13.1 < q0))
   (cutM (σ := Unit) (fun J16 =>
     loopM (σ := Int × Unit) (fun s19 X20 w21 =>
      cond (decide (s19.1 < q1))
      (∃ s22a s22l s22c, w21.cell? (p5.add 2) = some (.slice s22a s22l s22c) ∧
       drM w21 fun w23 =>
       fnM q2 fun f26 f26p f26q => CallsX P f26 (f26p.toList ++ (([.int .i64 s13.1, .int .i64 s19.1] : List Value) ++ f26q.toList)).toArray w23 fun v25 w24 =>
       ∃ x27, v25 = (.float .f64 x27) ∧
       w24.cell? (p5.add 2) = some (.slice s22a s22l s22c) ∧
       (0 : Int) ≤ (IntKind.i64.wrap ((IntKind.i64.wrap (s13.1 * q1)) + s19.1)) ∧ (IntKind.i64.wrap ((IntKind.i64.wrap (s13.1 * q1)) + s19.1)) < (s22l : Nat) ∧
       optM s22a fun a28 =>
       drM w24 fun w29 =>
       stM (a28.add ((IntKind.i64.wrap ((IntKind.i64.wrap (s13.1 * q1)) + s19.1)).toNat * 1)) (.float .f64 x27) w29 fun w30 =>
       drM w30 fun w31 =>
       X20 ((IntKind.i64.wrap (s19.1 + 1)), ()) w31)
      (J16 (()) w21))
     (0, ()) w15)
    (fun s17 w18 =>
     X14 ((IntKind.i64.wrap (s13.1 + 1)), ()) w18))
   (J10 (()) w15))
  (0, ()) w9)
 (fun s11 w12 =>
  ∃ n32, w12.cell? p5 = some (.int .i64 n32) ∧
  ∃ n33, w12.cell? (p5.add 1) = some (.int .i64 n33) ∧
  ∃ s34a s34l s34c, w12.cell? (p5.add 2) = some (.slice s34a s34l s34c) ∧
  stM p1 (.int .i64 n32) w12 fun w35 =>
  stM (p1.add 1) (.int .i64 n33) w35 fun w36 =>
  stM (p1.add 2) (.slice s34a s34l s34c) w36 fun w37 =>
  ∃ n38, w37.cell? p1 = some (.int .i64 n38) ∧
  ∃ n39, w37.cell? (p1.add 1) = some (.int .i64 n39) ∧
  ∃ s40a s40l s40c, w37.cell? (p1.add 2) = some (.slice s40a s40l s40c) ∧
  K (.agg #[.int .i64 n38, .int .i64 n39, .slice s40a s40l s40c]) w37)
def S_matrix_Transpose_1 (N : Nums) (P : Program) (q0 : Int) (q1 : Int) (q2 : Option Addr) (w : World) (K : Value → World → Prop) : Prop :=
 optM q2 fun a1 =>
 ∃ s2a s2l s2c, w.cell? (a1.add 2) = some (.slice s2a s2l s2c) ∧
 optM q2 fun a3 =>
 ∃ n4, w.cell? (a3.add 1) = some (.int .i64 n4) ∧
 (0 : Int) ≤ (IntKind.i64.wrap ((IntKind.i64.wrap (q1 * n4)) + q0)) ∧ (IntKind.i64.wrap ((IntKind.i64.wrap (q1 * n4)) + q0)) < (s2l : Nat) ∧
 optM s2a fun a5 =>
 ∃ x6, w.cell? (a5.add ((IntKind.i64.wrap ((IntKind.i64.wrap (q1 * n4)) + q0)).toNat * 1)) = some (.float .f64 x6) ∧
 K (.float .f64 x6) w
def S_vector_Same (N : Nums) (P : Program) (q0 : Option Addr) (q0l q0c : Nat) (q1 : Option Addr) (q1l q1c : Nat) (w : World) (K : Value → World → Prop) : Prop :=
 cond (((q0l : Nat) : Int) != ((q1l : Nat) : Int))
 (K (.bool false) w)
 (cutM (σ := Unit) (fun J1 =>
   loopM (σ := Int × Unit) (fun s4 X5 w6 =>
    cond (decide (s4.1 < ((q0l : Nat) : Int)))
    ((0 : Int) ≤ s4.1 ∧ s4.1 < (q0l : Nat) ∧
     optM q0 fun a7 =>
     ∃ x8, w6.cell? (a7.add (s4.1.toNat * 1)) = some (.float .f64 x8) ∧
     (0 : Int) ≤ s4.1 ∧ s4.1 < (q1l : Nat) ∧
     optM q1 fun a9 =>
     ∃ x10, w6.cell? (a9.add (s4.1.toNat * 1)) = some (.float .f64 x10) ∧
     drM w6 fun w11 =>
     CallsX P N.f_math_Float64bits #[.float .f64 x8] w11 fun v13 w12 =>
     ∃ n14, v13 = (.int .u64 n14) ∧
     w12.cell? (a9.add (s4.1.toNat * 1)) = some (.float .f64 x10) ∧
     drM w12 fun w15 =>
     CallsX P N.f_math_Float64bits #[.float .f64 x10] w15 fun v17 w16 =>
     ∃ n18, v17 = (.int .u64 n18) ∧
     cond (n14 != n18)
     (drM w16 fun w19 =>
      CallsX P N.f_math_IsNaN #[.float .f64 x8] w19 fun v21 w20 =>
      ∃ b22, v21 = (.bool b22) ∧
      cond b22
      ((0 : Int) ≤ s4.1 ∧ s4.1 < (q1l : Nat) ∧
       optM q1 fun a23 =>
       ∃ x24, w20.cell? (a23.add (s4.1.toNat * 1)) = some (.float .f64 x24) ∧
       drM w20 fun w25 =>
       CallsX P N.f_math_IsNaN #[.float .f64 x24] w25 fun v27 w26 =>
       ∃ b28, v27 = (.bool b28) ∧
       drM w26 fun w29 =>
       cond (!b28)
       (K (.bool false) w29)
       (X5 ((IntKind.i64.wrap (s4.1 + 1)), ()) w29))
      (drM w20 fun w30 =>
       drM w30 fun w31 =>
       K (.bool false) w31))
     (drM w16 fun w32 =>
      drM w32 fun w33 =>
      drM w33 fun w34 =>
      X5 ((IntKind.i64.wrap (s4.1 + 1)), ()) w34))
    (J1 (()) w6))
   (0, ()) w)
  (fun s2 w3 =>
   K (.bool true) w3))
def S_math_Abs (N : Nums) (P : Program) (q0 : Nat) (w : World) (K : Value → World → Prop) : Prop :=
 CallsX P N.f_math_Float64bits #[.float .f64 q0] w fun v2 w1 =>
 ∃ n3, v2 = (.int .u64 n3) ∧
 CallsX P N.f_math_Float64frombits #[.int .u64 (IntKind.u64.wrap (BitVec.ofInt IntKind.u64.bits n3 &&& ~~~BitVec.ofInt IntKind.u64.bits 9223372036854775808).toNat)] w1 fun v5 w4 =>
 ∃ x6, v5 = (.float .f64 x6) ∧
 K (.float .f64 x6) w4
def S_matrix_fits (N : Nums) (P : Program) (q0 : Int) (w : World) (K : Value → World → Prop) : Prop :=
 cond (decide (q0 ≥ 0))
 (K (.bool (decide (q0 ≤ 48))) w)
 (K (.bool false) w)
def S_matrix_Make_1 (N : Nums) (P : Program) (q0 : Int) (q1 : Int) (w : World) (K : Value → World → Prop) : Prop :=
 K (.float .f64 0) w
def S_k_SameFloat (N : Nums) (P : Program) (q0 : Nat) (q1 : Nat) (w : World) (K : Value → World → Prop) : Prop :=
 CallsX P N.f_math_Float64bits #[.float .f64 q0] w fun v2 w1 =>
 ∃ n3, v2 = (.int .u64 n3) ∧
 CallsX P N.f_math_Float64bits #[.float .f64 q1] w1 fun v5 w4 =>
 ∃ n6, v5 = (.int .u64 n6) ∧
 cond (!(n3 == n6))
 (cond (!feq q0 q0)
  (K (.bool (!feq q1 q1)) w4)
  (K (.bool false) w4))
 (K (.bool true) w4)
end Go.Eng
