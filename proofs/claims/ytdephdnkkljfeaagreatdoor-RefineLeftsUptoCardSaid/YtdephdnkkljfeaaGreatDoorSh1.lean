/-
 Some of the functions as propositions in the manner of a weakest precondition, printed off the structured code by a program of the session. No condition.
-/
import Derived.Test.YtdephdnkkljfeaaGreatDoorTbl
import Derived.Test.YtdephdnkkljfeaaGreatDoorNm
set_option linter.all false
set_option maxRecDepth 100000
namespace Go.Eng
open Go
def S_w14_RefineLefts (N : Nums) (P : Program) (q0_0 : Int) (q0_1 : Int) (q0_2 : Option Addr) (q0_2l q0_2c : Nat) (q1 : Option Addr) (q1l q1c : Nat) (q2 : Option Addr) (q2l q2c : Nat) (w : World) (K : Value → World → Prop) : Prop :=
 newM #[.int .i64 q0_0, .int .i64 q0_1, .slice q0_2 q0_2l q0_2c] N.t_Matrix w fun p1 w2 =>
 CallsX P N.f_w14_awake #[] w2 fun v4 w3 =>
 vB_ v4 fun b5 =>
 cond (!b5)
 (K (.bool false) w3)
 (cutM (σ := Bool × Unit) (fun J6 =>
   cI_ w3 p1 fun n9 =>
   cI_ w3 (p1.add 1) fun n10 =>
   cS_ w3 (p1.add 2) fun s11a s11l s11c =>
   CallsX P N.f_w14_great #[.agg #[.int .i64 n9, .int .i64 n10, .slice s11a s11l s11c]] w3 fun v13 w12 =>
   vB_ v13 fun b14 =>
   cond (!b14)
   (cond (!(decide (((q1l : Nat) : Int) > 100)))
    (J6 ((decide (((q2l : Nat) : Int) > 100)), ()) w12)
    (J6 (true, ()) w12))
   (J6 (true, ()) w12))
  (fun s7 w8 =>
   cond s7.1
   (K (.bool true) w8)
   (cI_ w8 p1 fun n15 =>
    cI_ w8 (p1.add 1) fun n16 =>
    cS_ w8 (p1.add 2) fun s17a s17l s17c =>
    CallsX P N.f_k_LentMatrix #[.agg #[.int .i64 n15, .int .i64 n16, .slice s17a s17l s17c]] w8 fun v19 w18 =>
    ∃ n20, ∃ n21, ∃ s22a s22l s22c, v19 = (.agg #[.int .i64 n20, .int .i64 n21, .slice s22a s22l s22c]) ∧
    CallsX P N.f_k_LentReals #[.slice q1 q1l q1c] w18 fun v24 w23 =>
    vS_ v24 fun s25a s25l s25c =>
    CallsX P N.f_k_LentReals #[.slice q2 q2l q2c] w23 fun v27 w26 =>
    vS_ v27 fun s28a s28l s28c =>
    newM #[.int .i64 0, .int .i64 0, .slice none 0 0] N.t_Matrix w26 fun p29 w30 =>
    stM p29 (.int .i64 n20) w30 fun w31 =>
    stM (p29.add 1) (.int .i64 n21) w31 fun w32 =>
    stM (p29.add 2) (.slice s22a s22l s22c) w32 fun w33 =>
    cI_ w33 p29 fun n34 =>
    cI_ w33 (p29.add 1) fun n35 =>
    cS_ w33 (p29.add 2) fun s36a s36l s36c =>
    CallsX P N.f_refine_Left #[.agg #[.int .i64 n34, .int .i64 n35, .slice s36a s36l s36c], .slice s25a s25l s25c, .slice s28a s28l s28c] w33 fun v38 w37 =>
    ∃ s39a s39l s39c, ∃ n40, v38 = (.tuple #[.slice s39a s39l s39c, .int .i64 n40]) ∧
    cI_ w37 p1 fun n41 =>
    cI_ w37 (p1.add 1) fun n42 =>
    cS_ w37 (p1.add 2) fun s43a s43l s43c =>
    CallsX P N.f_r14_Left #[.agg #[.int .i64 n41, .int .i64 n42, .slice s43a s43l s43c], .slice q1 q1l q1c, .slice q2 q2l q2c] w37 fun v45 w44 =>
    ∃ s46a s46l s46c, ∃ n47, v45 = (.tuple #[.slice s46a s46l s46c, .int .i64 n47]) ∧
    cond (n40 == n47)
    (CallsX P N.f_k_SameReals #[.slice s39a s39l s39c, .slice s46a s46l s46c] w44 fun v49 w48 =>
     vB_ v49 fun b50 =>
     cond b50
     (cI_ w48 p29 fun n51 =>
      cI_ w48 (p29.add 1) fun n52 =>
      cS_ w48 (p29.add 2) fun s53a s53l s53c =>
      cI_ w48 p1 fun n54 =>
      cI_ w48 (p1.add 1) fun n55 =>
      cS_ w48 (p1.add 2) fun s56a s56l s56c =>
      CallsX P N.f_k_KeptMatrix #[.agg #[.int .i64 n51, .int .i64 n52, .slice s53a s53l s53c], .agg #[.int .i64 n54, .int .i64 n55, .slice s56a s56l s56c]] w48 fun v58 w57 =>
      vB_ v58 fun b59 =>
      cond b59
      (CallsX P N.f_k_KeptReals #[.slice s25a s25l s25c, .slice q1 q1l q1c] w57 fun v61 w60 =>
       vB_ v61 fun b62 =>
       cond b62
       (CallsX P N.f_k_KeptReals #[.slice s28a s28l s28c, .slice q2 q2l q2c] w60 fun v64 w63 =>
        vB_ v64 fun b65 =>
        K (.bool b65) w63)
       (K (.bool false) w60))
      (K (.bool false) w57))
     (K (.bool false) w48))
    (K (.bool false) w44))))
def S_w14_awake (N : Nums) (P : Program)  (w : World) (K : Value → World → Prop) : Prop :=
 CallsX P N.f_w14_two #[] w fun v2 w1 =>
 ∃ n3, ∃ n4, ∃ s5a s5l s5c, ∃ n6, ∃ s7a s7l s7c, ∃ s8a s8l s8c, v2 = (.tuple #[.agg #[.int .i64 n3, .int .i64 n4, .slice s5a s5l s5c], .agg #[.int .i64 n6, .slice s7a s7l s7c, .slice s8a s8l s8c]]) ∧
 newM #[.int .i64 0, .int .i64 0, .slice none 0 0] N.t_Matrix w1 fun p9 w10 =>
 newM #[.int .i64 0, .slice none 0 0, .slice none 0 0] N.t_Factor w10 fun p11 w12 =>
 stM p9 (.int .i64 n3) w12 fun w13 =>
 stM (p9.add 1) (.int .i64 n4) w13 fun w14 =>
 stM (p9.add 2) (.slice s5a s5l s5c) w14 fun w15 =>
 stM p11 (.int .i64 n6) w15 fun w16 =>
 stM (p11.add 1) (.slice s7a s7l s7c) w16 fun w17 =>
 stM (p11.add 2) (.slice s8a s8l s8c) w17 fun w18 =>
 cI_ w18 p9 fun n19 =>
 cI_ w18 (p9.add 1) fun n20 =>
 cS_ w18 (p9.add 2) fun s21a s21l s21c =>
 newM #[.float .f64 4607182418800017408, .float .f64 4607182418800017408] N.t_float64 w18 fun p22 w23 =>
 newM #[.float .f64 4618441417868443648, .float .f64 4616189618054758400] N.t_float64 w23 fun p24 w25 =>
 CallsX P N.f_refine_Left #[.agg #[.int .i64 n19, .int .i64 n20, .slice s21a s21l s21c], .slice (some p22) 2 2, .slice (some p24) 2 2] w25 fun v27 w26 =>
 ∃ s28a s28l s28c, ∃ n29, v27 = (.tuple #[.slice s28a s28l s28c, .int .i64 n29]) ∧
 cI_ w26 p9 fun n30 =>
 cI_ w26 (p9.add 1) fun n31 =>
 cS_ w26 (p9.add 2) fun s32a s32l s32c =>
 cI_ w26 p11 fun n33 =>
 cS_ w26 (p11.add 1) fun s34a s34l s34c =>
 cS_ w26 (p11.add 2) fun s35a s35l s35c =>
 newM #[.float .f64 4617315517961601024, .float .f64 4616189618054758400] N.t_float64 w26 fun p36 w37 =>
 CallsX P N.f_refine_Until #[.agg #[.int .i64 n30, .int .i64 n31, .slice s32a s32l s32c], .agg #[.int .i64 n33, .slice s34a s34l s34c, .slice s35a s35l s35c], .slice (some p36) 2 2, .int .i64 8] w37 fun v39 w38 =>
 ∃ s40a s40l s40c, ∃ n41, ∃ n42, v39 = (.tuple #[.slice s40a s40l s40c, .int .i64 n41, .int .i64 n42]) ∧
 newM #[.float .f64 4607182418800017408, .float .f64 4607182418800017408] N.t_float64 w38 fun p43 w44 =>
 newM #[.float .f64 4877398396442247168, .float .f64 4607182418800017408] N.t_float64 w44 fun p45 w46 =>
 newM #[.float .f64 4877398396442247168] N.t_float64 w46 fun p47 w48 =>
 CallsX P N.f_refine_Left #[.agg #[.int .i64 1, .int .i64 2, .slice (some p43) 2 2], .slice (some p45) 2 2, .slice (some p47) 1 1] w48 fun v50 w49 =>
 ∃ s51a s51l s51c, ∃ n52, v50 = (.tuple #[.slice s51a s51l s51c, .int .i64 n52]) ∧
 cond (n29 == 0)
 (cond (n42 == 0)
  (cond (n52 == 0)
   (newM #[.float .f64 4607182418800017408, .float .f64 0] N.t_float64 w49 fun p53 w54 =>
    CallsX P N.f_k_LikeReals #[.slice s28a s28l s28c, .slice (some p53) 2 2] w54 fun v56 w55 =>
    vB_ v56 fun b57 =>
    cond b57
    (cond (((s40l : Nat) : Int) == 2)
     ((0 : Int) ≤ (0 : Int) ∧ (0 : Int) < (s40l : Nat) ∧
      optM s40a fun a58 =>
      cF_ w55 (a58.add ((0 : Int).toNat * 1)) fun x59 =>
      cond (fgt x59 4607092346807469998)
      ((0 : Int) ≤ (0 : Int) ∧ (0 : Int) < (s40l : Nat) ∧
       optM s40a fun a60 =>
       cF_ w55 (a60.add ((0 : Int).toNat * 1)) fun x61 =>
       cond (flt x61 4607227454796291113)
       (cond (decide (n41 ≤ 8))
        (newM #[.float .f64 13830554455654793216] N.t_float64 w55 fun p62 w63 =>
         CallsX P N.f_k_LikeReals #[.slice s51a s51l s51c, .slice (some p62) 1 1] w63 fun v65 w64 =>
         vB_ v65 fun b66 =>
         K (.bool b66) w64)
        (K (.bool false) w55))
       (K (.bool false) w55))
      (K (.bool false) w55))
     (K (.bool false) w55))
    (K (.bool false) w55))
   (K (.bool false) w49))
  (K (.bool false) w49))
 (K (.bool false) w49)
def S_w14_great (N : Nums) (P : Program) (q0_0 : Int) (q0_1 : Int) (q0_2 : Option Addr) (q0_2l q0_2c : Nat) (w : World) (K : Value → World → Prop) : Prop :=
 newM #[.int .i64 q0_0, .int .i64 q0_1, .slice q0_2 q0_2l q0_2c] N.t_Matrix w fun p1 w2 =>
 cS_ w2 (p1.add 2) fun s3a s3l s3c =>
 K (.bool (decide (((s3l : Nat) : Int) > 100))) w2
def S_k_LentMatrix (N : Nums) (P : Program) (q0_0 : Int) (q0_1 : Int) (q0_2 : Option Addr) (q0_2l q0_2c : Nat) (w : World) (K : Value → World → Prop) : Prop :=
 newM #[.int .i64 q0_0, .int .i64 q0_1, .slice q0_2 q0_2l q0_2c] N.t_Matrix w fun p1 w2 =>
 newM #[.int .i64 0, .int .i64 0, .slice none 0 0] N.t_Matrix w2 fun p3 w4 =>
 cS_ w4 (p1.add 2) fun s5a s5l s5c =>
 CallsX P N.f_k_LentReals #[.slice s5a s5l s5c] w4 fun v7 w6 =>
 vS_ v7 fun s8a s8l s8c =>
 stM (p1.add 2) (.slice s8a s8l s8c) w6 fun w9 =>
 cI_ w9 p1 fun n10 =>
 cI_ w9 (p1.add 1) fun n11 =>
 cS_ w9 (p1.add 2) fun s12a s12l s12c =>
 stM p3 (.int .i64 n10) w9 fun w13 =>
 stM (p3.add 1) (.int .i64 n11) w13 fun w14 =>
 stM (p3.add 2) (.slice s12a s12l s12c) w14 fun w15 =>
 cI_ w15 p3 fun n16 =>
 cI_ w15 (p3.add 1) fun n17 =>
 cS_ w15 (p3.add 2) fun s18a s18l s18c =>
 K (.agg #[.int .i64 n16, .int .i64 n17, .slice s18a s18l s18c]) w15
def S_k_LentReals (N : Nums) (P : Program) (q0 : Option Addr) (q0l q0c : Nat) (w : World) (K : Value → World → Prop) : Prop :=
 mkM N.t_float64 1 8 #[.float .f64 0] 0 (IntKind.i64.wrap (((q0l : Nat) : Int) + 12)) w fun p1 w2 =>
 appM N.t_float64 1 8 #[.float .f64 0] (some p1) ((0 : Int).toNat) ((IntKind.i64.wrap (((q0l : Nat) : Int) + 12)).toNat) q0 q0l w2 fun s3a s3l s3c w4 =>
 cutM (σ := (Option Addr × Nat × Nat) × Unit) (fun J5 =>
  loopM (σ := (Option Addr × Nat × Nat) × Int × Unit) (fun s8 X9 w10 =>
   cond (decide (s8.2.1 < 12))
   (CallsX P N.f_k_mark #[.int .i64 1, .int .i64 s8.2.1] w10 fun v12 w11 =>
    ∃ n13, v12 = (.int .i64 n13) ∧
    newM #[.float .f64 (FloatKind.f64.nearest n13)] N.t_float64 w11 fun p14 w15 =>
    appM N.t_float64 1 8 #[.float .f64 0] s8.1.1 s8.1.2.1 s8.1.2.2 (some p14) 1 w15 fun s16a s16l s16c w17 =>
    X9 ((s16a, s16l, s16c), (IntKind.i64.wrap (s8.2.1 + 1)), ()) w17)
   (J5 ((s8.1.1, s8.1.2.1, s8.1.2.2), ()) w10))
  ((s3a, s3l, s3c), 0, ()) w4)
 (fun s6 w7 =>
  (0 : Int) ≤ ((q0l : Nat) : Int) ∧ ((q0l : Nat) : Int) ≤ (s6.1.2.2 : Nat) ∧
  K (.slice (slBase s6.1.1 0 s6.1.2.2 1) (((q0l : Nat) : Int).toNat) s6.1.2.2) w7)
def S_refine_Left (N : Nums) (P : Program) (q0_0 : Int) (q0_1 : Int) (q0_2 : Option Addr) (q0_2l q0_2c : Nat) (q1 : Option Addr) (q1l q1c : Nat) (q2 : Option Addr) (q2l q2c : Nat) (w : World) (K : Value → World → Prop) : Prop :=
 newM #[.int .i64 q0_0, .int .i64 q0_1, .slice q0_2 q0_2l q0_2c] N.t_Matrix w fun p1 w2 =>
 cI_ w2 p1 fun n3 =>
 cI_ w2 (p1.add 1) fun n4 =>
 cS_ w2 (p1.add 2) fun s5a s5l s5c =>
 CallsX P N.f_refine_fit #[.agg #[.int .i64 n3, .int .i64 n4, .slice s5a s5l s5c], .slice q1 q1l q1c, .slice q2 q2l q2c] w2 fun v7 w6 =>
 vB_ v7 fun b8 =>
 cond (!b8)
 (K (.tuple #[.slice none 0 0, .int .i64 4]) w6)
 (cS_ w6 (p1.add 2) fun s9a s9l s9c =>
  newM #[.slice s9a s9l s9c, .slice q1 q1l q1c, .slice q2 q2l q2c] N.t_L_float64 w6 fun p10 w11 =>
  CallsX P N.f_refine_finite #[.slice (some p10) 3 3] w11 fun v13 w12 =>
  vB_ v13 fun b14 =>
  cond (!b14)
  (K (.tuple #[.slice none 0 0, .int .i64 5]) w12)
  (newM #[.float .f64 4607182418800017408] N.t_float64 w12 fun p15 w16 =>
   appM N.t_float64 1 8 #[.float .f64 0] (some p15) 1 1 q1 q1l w16 fun s17a s17l s17c w18 =>
   cI_ w18 p1 fun n19 =>
   cutM (σ := (Option Addr × Nat × Nat) × Unit) (fun J20 =>
    loopM (σ := (Option Addr × Nat × Nat) × Int × Unit) (fun s23 X24 w25 =>
     cond (decide (s23.2.1 < n19))
     ((0 : Int) ≤ s23.2.1 ∧ s23.2.1 < (q2l : Nat) ∧
      optM q2 fun a26 =>
      cF_ w25 (a26.add (s23.2.1.toNat * 1)) fun x27 =>
      newM #[.float .f64 x27] N.t_float64 w25 fun p28 w29 =>
      cS_ w29 (p1.add 2) fun s30a s30l s30c =>
      cI_ w29 (p1.add 1) fun n31 =>
      cI_ w29 (p1.add 1) fun n32 =>
      (0 : Int) ≤ (IntKind.i64.wrap ((IntKind.i64.wrap (s23.2.1 + 1)) * n32)) ∧ (IntKind.i64.wrap ((IntKind.i64.wrap (s23.2.1 + 1)) * n32)) ≤ (s30c : Nat) ∧ (0 : Int) ≤ (IntKind.i64.wrap (s23.2.1 * n31)) ∧ (IntKind.i64.wrap (s23.2.1 * n31)) ≤ (IntKind.i64.wrap ((IntKind.i64.wrap (s23.2.1 + 1)) * n32)) ∧
      cutM (σ := (Option Addr × Nat × Nat) × Unit) (fun J33 =>
       loopM (σ := (Option Addr × Nat × Nat) × Int × Unit) (fun s36 X37 w38 =>
        cond (decide (s36.2.1 < ((((IntKind.i64.wrap ((IntKind.i64.wrap (s23.2.1 + 1)) * n32)).toNat - (IntKind.i64.wrap (s23.2.1 * n31)).toNat) : Nat) : Int)))
        ((0 : Int) ≤ s36.2.1 ∧ s36.2.1 < (((IntKind.i64.wrap ((IntKind.i64.wrap (s23.2.1 + 1)) * n32)).toNat - (IntKind.i64.wrap (s23.2.1 * n31)).toNat) : Nat) ∧
         optM (slBase s30a ((IntKind.i64.wrap (s23.2.1 * n31)).toNat) s30c 1) fun a39 =>
         cF_ w38 (a39.add (s36.2.1.toNat * 1)) fun x40 =>
         newM #[.float .f64 (fneg x40)] N.t_float64 w38 fun p41 w42 =>
         appM N.t_float64 1 8 #[.float .f64 0] s36.1.1 s36.1.2.1 s36.1.2.2 (some p41) 1 w42 fun s43a s43l s43c w44 =>
         X37 ((s43a, s43l, s43c), (IntKind.i64.wrap (s36.2.1 + 1)), ()) w44)
        (J33 ((s36.1.1, s36.1.2.1, s36.1.2.2), ()) w38))
       (((some p28), 1, 1), 0, ()) w29)
      (fun s34 w35 =>
       CallsX P N.f_sums_DotExact #[.slice s34.1.1 s34.1.2.1 s34.1.2.2, .slice s17a s17l s17c, .int .i8 0] w35 fun v46 w45 =>
       ∃ x47, ∃ n48, v46 = (.tuple #[.float .f64 x47, .int .i64 n48]) ∧
       newM #[.float .f64 x47] N.t_float64 w45 fun p49 w50 =>
       appM N.t_float64 1 8 #[.float .f64 0] s23.1.1 s23.1.2.1 s23.1.2.2 (some p49) 1 w50 fun s51a s51l s51c w52 =>
       X24 ((s51a, s51l, s51c), (IntKind.i64.wrap (s23.2.1 + 1)), ()) w52))
     (J20 ((s23.1.1, s23.1.2.1, s23.1.2.2), ()) w25))
    ((none, 0, 0), 0, ()) w18)
   (fun s21 w22 =>
    newM #[.slice s21.1.1 s21.1.2.1 s21.1.2.2] N.t_L_float64 w22 fun p53 w54 =>
    CallsX P N.f_refine_finite #[.slice (some p53) 1 1] w54 fun v56 w55 =>
    vB_ v56 fun b57 =>
    cond (!b57)
    (K (.tuple #[.slice none 0 0, .int .i64 6]) w55)
    (K (.tuple #[.slice s21.1.1 s21.1.2.1 s21.1.2.2, .int .i64 0]) w55))))
def S_r14_Left (N : Nums) (P : Program) (q0_0 : Int) (q0_1 : Int) (q0_2 : Option Addr) (q0_2l q0_2c : Nat) (q1 : Option Addr) (q1l q1c : Nat) (q2 : Option Addr) (q2l q2c : Nat) (w : World) (K : Value → World → Prop) : Prop :=
 newM #[.int .i64 q0_0, .int .i64 q0_1, .slice q0_2 q0_2l q0_2c] N.t_Matrix w fun p1 w2 =>
 cI_ w2 p1 fun n3 =>
 cI_ w2 (p1.add 1) fun n4 =>
 cS_ w2 (p1.add 2) fun s5a s5l s5c =>
 CallsX P N.f_r14_fit #[.agg #[.int .i64 n3, .int .i64 n4, .slice s5a s5l s5c], .slice q1 q1l q1c, .slice q2 q2l q2c] w2 fun v7 w6 =>
 vB_ v7 fun b8 =>
 cond (!b8)
 (K (.tuple #[.slice none 0 0, .int .i64 4]) w6)
 (cutM (σ := Bool × Unit) (fun J9 =>
   cS_ w6 (p1.add 2) fun s12a s12l s12c =>
   CallsX P N.f_r14_finite #[.slice s12a s12l s12c] w6 fun v14 w13 =>
   vB_ v14 fun b15 =>
   cond (!(!b15))
   (CallsX P N.f_r14_finite #[.slice q1 q1l q1c] w13 fun v17 w16 =>
    vB_ v17 fun b18 =>
    cond (!(!b18))
    (CallsX P N.f_r14_finite #[.slice q2 q2l q2c] w16 fun v20 w19 =>
     vB_ v20 fun b21 =>
     J9 ((!b21), ()) w19)
    (J9 (true, ()) w16))
   (J9 (true, ()) w13))
  (fun s10 w11 =>
   cond s10.1
   (K (.tuple #[.slice none 0 0, .int .i64 5]) w11)
   (cutM (σ := (Option Addr × Nat × Nat) × Unit) (fun J22 =>
     loopM (σ := (Option Addr × Nat × Nat) × Int × Unit) (fun s25 X26 w27 =>
      cI_ w27 p1 fun n28 =>
      cond (decide (s25.2.1 < n28))
      ((0 : Int) ≤ s25.2.1 ∧ s25.2.1 < (q2l : Nat) ∧
       optM q2 fun a29 =>
       cF_ w27 (a29.add (s25.2.1.toNat * 1)) fun x30 =>
       CallsX P N.f_r02_Float #[.float .f64 x30] w27 fun v32 w31 =>
       ∃ b33, ∃ s34a s34l s34c, ∃ n35, v32 = (.agg #[.bool b33, .slice s34a s34l s34c, .int .i64 n35]) ∧
       newM #[.bool false, .slice none 0 0, .int .i64 0] N.t_r02_Num w31 fun p36 w37 =>
       stM p36 (.bool b33) w37 fun w38 =>
       stM (p36.add 1) (.slice s34a s34l s34c) w38 fun w39 =>
       stM (p36.add 2) (.int .i64 n35) w39 fun w40 =>
       cutM (σ := Unit) (fun J41 =>
        loopM (σ := Int × Unit) (fun s44 X45 w46 =>
         cI_ w46 (p1.add 1) fun n47 =>
         cond (decide (s44.1 < n47))
         (cutM (σ := (Option Addr) × Unit) (fun J48 =>
           cS_ w46 (p1.add 2) fun s51a s51l s51c =>
           cI_ w46 (p1.add 1) fun n52 =>
           (0 : Int) ≤ (IntKind.i64.wrap ((IntKind.i64.wrap (s25.2.1 * n52)) + s44.1)) ∧ (IntKind.i64.wrap ((IntKind.i64.wrap (s25.2.1 * n52)) + s44.1)) < (s51l : Nat) ∧
           optM s51a fun a53 =>
           ∃ x54, w46.cell? (a53.add ((IntKind.i64.wrap ((IntKind.i64.wrap (s25.2.1 * n52)) + s44.1)).toNat * 1)) = some (.float .f64 x54) ∧
           (0 : Int) ≤ s44.1 ∧ s44.1 < (q1l : Nat) ∧
           optM q1 fun a55 =>
           cF_ w46 (a55.add (s44.1.toNat * 1)) fun x56 =>
           (drM w46 fun w57 =>
            CallsX P N.f_r02_Float #[.float .f64 x54] w57 fun v59 w58 =>
            ∃ b60, ∃ s61a s61l s61c, ∃ n62, v59 = (.agg #[.bool b60, .slice s61a s61l s61c, .int .i64 n62]) ∧
            w58.cell? (a55.add (s44.1.toNat * 1)) = some (.float .f64 x56) ∧
            (drM w58 fun w63 =>
             CallsX P N.f_r02_Float #[.float .f64 x56] w63 fun v65 w64 =>
             ∃ b66, ∃ s67a s67l s67c, ∃ n68, v65 = (.agg #[.bool b66, .slice s67a s67l s67c, .int .i64 n68]) ∧
             (drM w64 fun w69 =>
             CallsX P N.f_r02_Times #[.agg #[.bool b60, .slice s61a s61l s61c, .int .i64 n62], .agg #[.bool b66, .slice s67a s67l s67c, .int .i64 n68]] w69 fun v71 w70 =>
             ∃ b72, ∃ s73a s73l s73c, ∃ n74, v71 = (.agg #[.bool b72, .slice s73a s73l s73c, .int .i64 n74]) ∧
             drM w70 fun w75 =>
             newM #[.bool false, .slice none 0 0, .int .i64 0] N.t_r02_Num w75 fun p76 w77 =>
             drM w77 fun w78 =>
             stM p76 (.bool b72) w78 fun w79 =>
             stM (p76.add 1) (.slice s73a s73l s73c) w79 fun w80 =>
             stM (p76.add 2) (.int .i64 n74) w80 fun w81 =>
             drM w81 fun w82 =>
             J48 ((some p76), ()) w82) ∧
             (drM w64 fun w83 =>
             newM #[.bool false, .slice none 0 0, .int .i64 0] N.t_r02_Num w83 fun p84 w85 =>
             drM w85 fun w86 =>
             CallsX P N.f_r02_Times #[.agg #[.bool b60, .slice s61a s61l s61c, .int .i64 n62], .agg #[.bool b66, .slice s67a s67l s67c, .int .i64 n68]] w86 fun v88 w87 =>
             ∃ b89, ∃ s90a s90l s90c, ∃ n91, v88 = (.agg #[.bool b89, .slice s90a s90l s90c, .int .i64 n91]) ∧
             drM w87 fun w92 =>
             stM p84 (.bool b89) w92 fun w93 =>
             stM (p84.add 1) (.slice s90a s90l s90c) w93 fun w94 =>
             stM (p84.add 2) (.int .i64 n91) w94 fun w95 =>
             drM w95 fun w96 =>
             J48 ((some p84), ()) w96)) ∧
            (drM w58 fun w97 =>
             newM #[.bool false, .slice none 0 0, .int .i64 0] N.t_r02_Num w97 fun p98 w99 =>
             w99.cell? (a55.add (s44.1.toNat * 1)) = some (.float .f64 x56) ∧
             drM w99 fun w100 =>
             CallsX P N.f_r02_Float #[.float .f64 x56] w100 fun v102 w101 =>
             ∃ b103, ∃ s104a s104l s104c, ∃ n105, v102 = (.agg #[.bool b103, .slice s104a s104l s104c, .int .i64 n105]) ∧
             drM w101 fun w106 =>
             CallsX P N.f_r02_Times #[.agg #[.bool b60, .slice s61a s61l s61c, .int .i64 n62], .agg #[.bool b103, .slice s104a s104l s104c, .int .i64 n105]] w106 fun v108 w107 =>
             ∃ b109, ∃ s110a s110l s110c, ∃ n111, v108 = (.agg #[.bool b109, .slice s110a s110l s110c, .int .i64 n111]) ∧
             drM w107 fun w112 =>
             stM p98 (.bool b109) w112 fun w113 =>
             stM (p98.add 1) (.slice s110a s110l s110c) w113 fun w114 =>
             stM (p98.add 2) (.int .i64 n111) w114 fun w115 =>
             drM w115 fun w116 =>
             J48 ((some p98), ()) w116)) ∧
           (drM w46 fun w117 =>
            newM #[.bool false, .slice none 0 0, .int .i64 0] N.t_r02_Num w117 fun p118 w119 =>
            w119.cell? (a55.add (s44.1.toNat * 1)) = some (.float .f64 x56) ∧
            w119.cell? (a53.add ((IntKind.i64.wrap ((IntKind.i64.wrap (s25.2.1 * n52)) + s44.1)).toNat * 1)) = some (.float .f64 x54) ∧
            w119.cell? (p1.add 1) = some (.int .i64 n52) ∧
            w119.cell? (p1.add 2) = some (.slice s51a s51l s51c) ∧
            drM w119 fun w120 =>
            CallsX P N.f_r02_Float #[.float .f64 x54] w120 fun v122 w121 =>
            ∃ b123, ∃ s124a s124l s124c, ∃ n125, v122 = (.agg #[.bool b123, .slice s124a s124l s124c, .int .i64 n125]) ∧
            w121.cell? (a55.add (s44.1.toNat * 1)) = some (.float .f64 x56) ∧
            drM w121 fun w126 =>
            CallsX P N.f_r02_Float #[.float .f64 x56] w126 fun v128 w127 =>
            ∃ b129, ∃ s130a s130l s130c, ∃ n131, v128 = (.agg #[.bool b129, .slice s130a s130l s130c, .int .i64 n131]) ∧
            drM w127 fun w132 =>
            CallsX P N.f_r02_Times #[.agg #[.bool b123, .slice s124a s124l s124c, .int .i64 n125], .agg #[.bool b129, .slice s130a s130l s130c, .int .i64 n131]] w132 fun v134 w133 =>
            ∃ b135, ∃ s136a s136l s136c, ∃ n137, v134 = (.agg #[.bool b135, .slice s136a s136l s136c, .int .i64 n137]) ∧
            drM w133 fun w138 =>
            stM p118 (.bool b135) w138 fun w139 =>
            stM (p118.add 1) (.slice s136a s136l s136c) w139 fun w140 =>
            stM (p118.add 2) (.int .i64 n137) w140 fun w141 =>
            drM w141 fun w142 =>
            J48 ((some p118), ()) w142))
          (fun s49 w50 =>
           cB_ w50 p36 fun b143 =>
           cS_ w50 (p36.add 1) fun s144a s144l s144c =>
           cI_ w50 (p36.add 2) fun n145 =>
           optM s49.1 fun a146 =>
           cB_ w50 a146 fun b147 =>
           cS_ w50 (a146.add 1) fun s148a s148l s148c =>
           cI_ w50 (a146.add 2) fun n149 =>
           drM w50 fun w150 =>
           CallsX P N.f_r02_Minus #[.agg #[.bool b147, .slice s148a s148l s148c, .int .i64 n149]] w150 fun v152 w151 =>
           ∃ b153, ∃ s154a s154l s154c, ∃ n155, v152 = (.agg #[.bool b153, .slice s154a s154l s154c, .int .i64 n155]) ∧
           w151.cell? p36 = some (.bool b143) ∧
           w151.cell? (p36.add 1) = some (.slice s144a s144l s144c) ∧
           w151.cell? (p36.add 2) = some (.int .i64 n145) ∧
           drM w151 fun w156 =>
           CallsX P N.f_r02_Plus #[.agg #[.bool b143, .slice s144a s144l s144c, .int .i64 n145], .agg #[.bool b153, .slice s154a s154l s154c, .int .i64 n155]] w156 fun v158 w157 =>
           ∃ b159, ∃ s160a s160l s160c, ∃ n161, v158 = (.agg #[.bool b159, .slice s160a s160l s160c, .int .i64 n161]) ∧
           drM w157 fun w162 =>
           stM p36 (.bool b159) w162 fun w163 =>
           stM (p36.add 1) (.slice s160a s160l s160c) w163 fun w164 =>
           stM (p36.add 2) (.int .i64 n161) w164 fun w165 =>
           drM w165 fun w166 =>
           X45 ((IntKind.i64.wrap (s44.1 + 1)), ()) w166))
         (J41 (()) w46))
        (0, ()) w40)
       (fun s42 w43 =>
        cB_ w43 p36 fun b167 =>
        cS_ w43 (p36.add 1) fun s168a s168l s168c =>
        cI_ w43 (p36.add 2) fun n169 =>
        CallsX P N.f_r02_Rounded #[.agg #[.bool b167, .slice s168a s168l s168c, .int .i64 n169], .int .i8 0] w43 fun v171 w170 =>
        ∃ x172, v171 = (.float .f64 x172) ∧
        newM #[.float .f64 x172] N.t_float64 w170 fun p173 w174 =>
        appM N.t_float64 1 8 #[.float .f64 0] s25.1.1 s25.1.2.1 s25.1.2.2 (some p173) 1 w174 fun s175a s175l s175c w176 =>
        X26 ((s175a, s175l, s175c), (IntKind.i64.wrap (s25.2.1 + 1)), ()) w176))
      (J22 ((s25.1.1, s25.1.2.1, s25.1.2.2), ()) w27))
     ((none, 0, 0), 0, ()) w11)
    (fun s23 w24 =>
     CallsX P N.f_r14_finite #[.slice s23.1.1 s23.1.2.1 s23.1.2.2] w24 fun v178 w177 =>
     vB_ v178 fun b179 =>
     cond (!b179)
     (K (.tuple #[.slice none 0 0, .int .i64 6]) w177)
     (K (.tuple #[.slice s23.1.1 s23.1.2.1 s23.1.2.2, .int .i64 0]) w177)))))
def S_k_SameReals (N : Nums) (P : Program) (q0 : Option Addr) (q0l q0c : Nat) (q1 : Option Addr) (q1l q1c : Nat) (w : World) (K : Value → World → Prop) : Prop :=
 cond (((q0l : Nat) : Int) != ((q1l : Nat) : Int))
 (K (.bool false) w)
 (cutM (σ := Unit) (fun J1 =>
   loopM (σ := Int × Unit) (fun s4 X5 w6 =>
    cond (decide (s4.1 < ((q0l : Nat) : Int)))
    ((0 : Int) ≤ s4.1 ∧ s4.1 < (q0l : Nat) ∧
     optM q0 fun a7 =>
     cF_ w6 (a7.add (s4.1.toNat * 1)) fun x8 =>
     (0 : Int) ≤ s4.1 ∧ s4.1 < (q1l : Nat) ∧
     optM q1 fun a9 =>
     cF_ w6 (a9.add (s4.1.toNat * 1)) fun x10 =>
     drM w6 fun w11 =>
     CallsX P N.f_k_SameFloat #[.float .f64 x8, .float .f64 x10] w11 fun v13 w12 =>
     vB_ v13 fun b14 =>
     drM w12 fun w15 =>
     cond (!b14)
     (K (.bool false) w15)
     (X5 ((IntKind.i64.wrap (s4.1 + 1)), ()) w15))
    (J1 (()) w6))
   (0, ()) w)
  (fun s2 w3 =>
   K (.bool true) w3))
def S_k_KeptMatrix (N : Nums) (P : Program) (q0_0 : Int) (q0_1 : Int) (q0_2 : Option Addr) (q0_2l q0_2c : Nat) (q1_0 : Int) (q1_1 : Int) (q1_2 : Option Addr) (q1_2l q1_2c : Nat) (w : World) (K : Value → World → Prop) : Prop :=
 newM #[.int .i64 q0_0, .int .i64 q0_1, .slice q0_2 q0_2l q0_2c] N.t_Matrix w fun p1 w2 =>
 newM #[.int .i64 q1_0, .int .i64 q1_1, .slice q1_2 q1_2l q1_2c] N.t_Matrix w2 fun p3 w4 =>
 cI_ w4 p1 fun n5 =>
 cI_ w4 (p1.add 1) fun n6 =>
 cS_ w4 (p1.add 2) fun s7a s7l s7c =>
 cI_ w4 p3 fun n8 =>
 cI_ w4 (p3.add 1) fun n9 =>
 cS_ w4 (p3.add 2) fun s10a s10l s10c =>
 CallsX P N.f_k_SameMatrix #[.agg #[.int .i64 n5, .int .i64 n6, .slice s7a s7l s7c], .agg #[.int .i64 n8, .int .i64 n9, .slice s10a s10l s10c]] w4 fun v12 w11 =>
 vB_ v12 fun b13 =>
 cond b13
 (cS_ w11 (p1.add 2) fun s14a s14l s14c =>
  cS_ w11 (p3.add 2) fun s15a s15l s15c =>
  CallsX P N.f_k_KeptReals #[.slice s14a s14l s14c, .slice s15a s15l s15c] w11 fun v17 w16 =>
  vB_ v17 fun b18 =>
  K (.bool b18) w16)
 (K (.bool false) w11)
def S_k_KeptReals (N : Nums) (P : Program) (q0 : Option Addr) (q0l q0c : Nat) (q1 : Option Addr) (q1l q1c : Nat) (w : World) (K : Value → World → Prop) : Prop :=
 cond (((q0l : Nat) : Int) != ((q1l : Nat) : Int))
 (K (.bool false) w)
 ((0 : Int) ≤ (IntKind.i64.wrap (((q1l : Nat) : Int) + 12)) ∧ (IntKind.i64.wrap (((q1l : Nat) : Int) + 12)) ≤ (q0c : Nat) ∧
  cutM (σ := Unit) (fun J1 =>
   loopM (σ := Int × Unit) (fun s4 X5 w6 =>
    cond (decide (s4.1 < (((IntKind.i64.wrap (((q1l : Nat) : Int) + 12)).toNat : Nat) : Int)))
    (cond (decide (s4.1 < ((q1l : Nat) : Int)))
     ((0 : Int) ≤ s4.1 ∧ s4.1 < ((IntKind.i64.wrap (((q1l : Nat) : Int) + 12)).toNat : Nat) ∧
      optM (slBase q0 0 q0c 1) fun a7 =>
      cF_ w6 (a7.add (s4.1.toNat * 1)) fun x8 =>
      (0 : Int) ≤ s4.1 ∧ s4.1 < (q1l : Nat) ∧
      optM q1 fun a9 =>
      cF_ w6 (a9.add (s4.1.toNat * 1)) fun x10 =>
      drM w6 fun w11 =>
      CallsX P N.f_k_SameFloat #[.float .f64 x8, .float .f64 x10] w11 fun v13 w12 =>
      vB_ v13 fun b14 =>
      cond (!(!b14))
      (cond (decide (s4.1 ≥ ((q1l : Nat) : Int)))
       ((0 : Int) ≤ s4.1 ∧ s4.1 < ((IntKind.i64.wrap (((q1l : Nat) : Int) + 12)).toNat : Nat) ∧
        optM (slBase q0 0 q0c 1) fun a15 =>
        cF_ w12 (a15.add (s4.1.toNat * 1)) fun x16 =>
        drM w12 fun w17 =>
        CallsX P N.f_k_mark #[.int .i64 1, .int .i64 (IntKind.i64.wrap (s4.1 - ((q1l : Nat) : Int)))] w17 fun v19 w18 =>
        ∃ n20, v19 = (.int .i64 n20) ∧
        w18.cell? (a15.add (s4.1.toNat * 1)) = some (.float .f64 x16) ∧
        drM w18 fun w21 =>
        cond (!(feq x16 (FloatKind.f64.nearest n20)))
        (K (.bool false) w21)
        (X5 ((IntKind.i64.wrap (s4.1 + 1)), ()) w21))
       (drM w12 fun w22 =>
        drM w22 fun w23 =>
        X5 ((IntKind.i64.wrap (s4.1 + 1)), ()) w23))
      (drM w12 fun w24 =>
       drM w24 fun w25 =>
       K (.bool false) w25))
     (drM w6 fun w26 =>
      cond (decide (s4.1 ≥ ((q1l : Nat) : Int)))
      ((0 : Int) ≤ s4.1 ∧ s4.1 < ((IntKind.i64.wrap (((q1l : Nat) : Int) + 12)).toNat : Nat) ∧
       optM (slBase q0 0 q0c 1) fun a27 =>
       cF_ w26 (a27.add (s4.1.toNat * 1)) fun x28 =>
       drM w26 fun w29 =>
       CallsX P N.f_k_mark #[.int .i64 1, .int .i64 (IntKind.i64.wrap (s4.1 - ((q1l : Nat) : Int)))] w29 fun v31 w30 =>
       ∃ n32, v31 = (.int .i64 n32) ∧
       w30.cell? (a27.add (s4.1.toNat * 1)) = some (.float .f64 x28) ∧
       drM w30 fun w33 =>
       cond (!(feq x28 (FloatKind.f64.nearest n32)))
       (K (.bool false) w33)
       (X5 ((IntKind.i64.wrap (s4.1 + 1)), ()) w33))
      (drM w26 fun w34 =>
       drM w34 fun w35 =>
       X5 ((IntKind.i64.wrap (s4.1 + 1)), ()) w35)))
    (J1 (()) w6))
   (0, ()) w)
  (fun s2 w3 =>
   K (.bool true) w3))
def S_refine_Step (N : Nums) (P : Program) (q0_0 : Int) (q0_1 : Int) (q0_2 : Option Addr) (q0_2l q0_2c : Nat) (q1_0 : Int) (q1_1 : Option Addr) (q1_1l q1_1c : Nat) (q1_2 : Option Addr) (q1_2l q1_2c : Nat) (q2 : Option Addr) (q2l q2c : Nat) (q3 : Option Addr) (q3l q3c : Nat) (w : World) (K : Value → World → Prop) : Prop :=
 newM #[.int .i64 q0_0, .int .i64 q0_1, .slice q0_2 q0_2l q0_2c] N.t_Matrix w fun p1 w2 =>
 newM #[.int .i64 q1_0, .slice q1_1 q1_1l q1_1c, .slice q1_2 q1_2l q1_2c] N.t_Factor w2 fun p3 w4 =>
 cutM (σ := Bool × Unit) (fun J5 =>
  cI_ w4 p1 fun n8 =>
  cI_ w4 (p1.add 1) fun n9 =>
  cS_ w4 (p1.add 2) fun s10a s10l s10c =>
  CallsX P N.f_refine_fit #[.agg #[.int .i64 n8, .int .i64 n9, .slice s10a s10l s10c], .slice q2 q2l q2c, .slice q3 q3l q3c] w4 fun v12 w11 =>
  vB_ v12 fun b13 =>
  cond (!(!b13))
  (cI_ w11 p1 fun n14 =>
   cI_ w11 (p1.add 1) fun n15 =>
   cS_ w11 (p1.add 2) fun s16a s16l s16c =>
   cI_ w11 p3 fun n17 =>
   cS_ w11 (p3.add 1) fun s18a s18l s18c =>
   cS_ w11 (p3.add 2) fun s19a s19l s19c =>
   CallsX P N.f_refine_fits #[.agg #[.int .i64 n14, .int .i64 n15, .slice s16a s16l s16c], .agg #[.int .i64 n17, .slice s18a s18l s18c, .slice s19a s19l s19c]] w11 fun v21 w20 =>
   vB_ v21 fun b22 =>
   J5 ((!b22), ()) w20)
  (J5 (true, ()) w11))
 (fun s6 w7 =>
  cond s6.1
  (K (.tuple #[.slice none 0 0, .int .i64 4]) w7)
  (cI_ w7 p1 fun n23 =>
   cI_ w7 (p1.add 1) fun n24 =>
   cS_ w7 (p1.add 2) fun s25a s25l s25c =>
   CallsX P N.f_refine_Left #[.agg #[.int .i64 n23, .int .i64 n24, .slice s25a s25l s25c], .slice q2 q2l q2c, .slice q3 q3l q3c] w7 fun v27 w26 =>
   ∃ s28a s28l s28c, ∃ n29, v27 = (.tuple #[.slice s28a s28l s28c, .int .i64 n29]) ∧
   cond (n29 != 0)
   (K (.tuple #[.slice none 0 0, .int .i64 n29]) w26)
   (cI_ w26 p3 fun n30 =>
    cS_ w26 (p3.add 1) fun s31a s31l s31c =>
    cS_ w26 (p3.add 2) fun s32a s32l s32c =>
    CallsX P N.f_solve_Solve #[.agg #[.int .i64 n30, .slice s31a s31l s31c, .slice s32a s32l s32c], .slice s28a s28l s28c] w26 fun v34 w33 =>
    ∃ s35a s35l s35c, ∃ n36, v34 = (.tuple #[.slice s35a s35l s35c, .int .i64 n36]) ∧
    cond (n36 != 0)
    (K (.tuple #[.slice none 0 0, .int .i64 n36]) w33)
    (CallsX P N.f_vector_Add #[.slice q2 q2l q2c, .slice s35a s35l s35c] w33 fun v38 w37 =>
     ∃ s39a s39l s39c, ∃ n40, v38 = (.tuple #[.slice s39a s39l s39c, .int .i64 n40]) ∧
     newM #[.slice s39a s39l s39c] N.t_L_float64 w37 fun p41 w42 =>
     CallsX P N.f_refine_finite #[.slice (some p41) 1 1] w42 fun v44 w43 =>
     vB_ v44 fun b45 =>
     cond (!b45)
     (K (.tuple #[.slice none 0 0, .int .i64 6]) w43)
     (K (.tuple #[.slice s39a s39l s39c, .int .i64 0]) w43)))))
def S_refine_Until (N : Nums) (P : Program) (q0_0 : Int) (q0_1 : Int) (q0_2 : Option Addr) (q0_2l q0_2c : Nat) (q1_0 : Int) (q1_1 : Option Addr) (q1_1l q1_1c : Nat) (q1_2 : Option Addr) (q1_2l q1_2c : Nat) (q2 : Option Addr) (q2l q2c : Nat) (q3 : Int) (w : World) (K : Value → World → Prop) : Prop :=
 newM #[.int .i64 q0_0, .int .i64 q0_1, .slice q0_2 q0_2l q0_2c] N.t_Matrix w fun p1 w2 =>
 newM #[.int .i64 q1_0, .slice q1_1 q1_1l q1_1c, .slice q1_2 q1_2l q1_2c] N.t_Factor w2 fun p3 w4 =>
 cutM (σ := Bool × Unit) (fun J5 =>
  cond (!(decide (q3 < 0)))
  (J5 ((decide (q3 > 64)), ()) w4)
  (J5 (true, ()) w4))
 (fun s6 w7 =>
  cond s6.1
  (K (.tuple #[.slice none 0 0, .int .i64 0, .int .i64 2]) w7)
  (cutM (σ := Bool × Unit) (fun J8 =>
    cI_ w7 p1 fun n11 =>
    cI_ w7 (p1.add 1) fun n12 =>
    cS_ w7 (p1.add 2) fun s13a s13l s13c =>
    cI_ w7 p3 fun n14 =>
    cS_ w7 (p3.add 1) fun s15a s15l s15c =>
    cS_ w7 (p3.add 2) fun s16a s16l s16c =>
    CallsX P N.f_refine_fits #[.agg #[.int .i64 n11, .int .i64 n12, .slice s13a s13l s13c], .agg #[.int .i64 n14, .slice s15a s15l s15c, .slice s16a s16l s16c]] w7 fun v18 w17 =>
    vB_ v18 fun b19 =>
    cond (!(!b19))
    (cI_ w17 p1 fun n20 =>
     J8 ((((q2l : Nat) : Int) != n20), ()) w17)
    (J8 (true, ()) w17))
   (fun s9 w10 =>
    cond s9.1
    (K (.tuple #[.slice none 0 0, .int .i64 0, .int .i64 4]) w10)
    (cS_ w10 (p1.add 2) fun s21a s21l s21c =>
     newM #[.slice s21a s21l s21c, .slice q2 q2l q2c] N.t_L_float64 w10 fun p22 w23 =>
     CallsX P N.f_refine_finite #[.slice (some p22) 2 2] w23 fun v25 w24 =>
     vB_ v25 fun b26 =>
     cond (!b26)
     (K (.tuple #[.slice none 0 0, .int .i64 0, .int .i64 5]) w24)
     (cI_ w24 p3 fun n27 =>
      cS_ w24 (p3.add 1) fun s28a s28l s28c =>
      cS_ w24 (p3.add 2) fun s29a s29l s29c =>
      CallsX P N.f_solve_Solve #[.agg #[.int .i64 n27, .slice s28a s28l s28c, .slice s29a s29l s29c], .slice q2 q2l q2c] w24 fun v31 w30 =>
      ∃ s32a s32l s32c, ∃ n33, v31 = (.tuple #[.slice s32a s32l s32c, .int .i64 n33]) ∧
      cond (n33 != 0)
      (K (.tuple #[.slice none 0 0, .int .i64 0, .int .i64 n33]) w30)
      (newM #[.slice s32a s32l s32c] N.t_L_float64 w30 fun p34 w35 =>
       CallsX P N.f_refine_finite #[.slice (some p34) 1 1] w35 fun v37 w36 =>
       vB_ v37 fun b38 =>
       cond (!b38)
       (K (.tuple #[.slice none 0 0, .int .i64 0, .int .i64 6]) w36)
       (cI_ w36 p1 fun n39 =>
        cI_ w36 (p1.add 1) fun n40 =>
        cS_ w36 (p1.add 2) fun s41a s41l s41c =>
        CallsX P N.f_refine_Left #[.agg #[.int .i64 n39, .int .i64 n40, .slice s41a s41l s41c], .slice s32a s32l s32c, .slice q2 q2l q2c] w36 fun v43 w42 =>
        ∃ s44a s44l s44c, ∃ n45, v43 = (.tuple #[.slice s44a s44l s44c, .int .i64 n45]) ∧
        cond (n45 != 0)
        (K (.tuple #[.slice none 0 0, .int .i64 0, .int .i64 n45]) w42)
        (CallsX P N.f_vector_Norm #[.slice s44a s44l s44c] w42 fun v47 w46 =>
         ∃ x48, v47 = (.float .f64 x48) ∧
         cutM (σ := (Option Addr × Nat × Nat) × Unit) (fun J49 =>
          loopM (σ := (Option Addr × Nat × Nat) × Nat × Int × Unit) (fun s52 X53 w54 =>
           cond (decide (s52.2.2.1 < q3))
           (cI_ w54 p1 fun n55 =>
            cI_ w54 (p1.add 1) fun n56 =>
            cS_ w54 (p1.add 2) fun s57a s57l s57c =>
            cI_ w54 p3 fun n58 =>
            cS_ w54 (p3.add 1) fun s59a s59l s59c =>
            cS_ w54 (p3.add 2) fun s60a s60l s60c =>
            CallsX P N.f_refine_Step #[.agg #[.int .i64 n55, .int .i64 n56, .slice s57a s57l s57c], .agg #[.int .i64 n58, .slice s59a s59l s59c, .slice s60a s60l s60c], .slice s52.1.1 s52.1.2.1 s52.1.2.2, .slice q2 q2l q2c] w54 fun v62 w61 =>
            ∃ s63a s63l s63c, ∃ n64, v62 = (.tuple #[.slice s63a s63l s63c, .int .i64 n64]) ∧
            cond (n64 != 0)
            (K (.tuple #[.slice s52.1.1 s52.1.2.1 s52.1.2.2, .int .i64 s52.2.2.1, .int .i64 0]) w61)
            (cI_ w61 p1 fun n65 =>
             cI_ w61 (p1.add 1) fun n66 =>
             cS_ w61 (p1.add 2) fun s67a s67l s67c =>
             CallsX P N.f_refine_Left #[.agg #[.int .i64 n65, .int .i64 n66, .slice s67a s67l s67c], .slice s63a s63l s63c, .slice q2 q2l q2c] w61 fun v69 w68 =>
             ∃ s70a s70l s70c, ∃ n71, v69 = (.tuple #[.slice s70a s70l s70c, .int .i64 n71]) ∧
             cond (!(n71 != 0))
             (CallsX P N.f_vector_Norm #[.slice s70a s70l s70c] w68 fun v73 w72 =>
             ∃ x74, v73 = (.float .f64 x74) ∧
             cond (fgt x74 s52.2.1 || feq x74 s52.2.1)
             (K (.tuple #[.slice s52.1.1 s52.1.2.1 s52.1.2.2, .int .i64 s52.2.2.1, .int .i64 0]) w72)
             (CallsX P N.f_vector_Norm #[.slice s70a s70l s70c] w72 fun v76 w75 =>
             ∃ x77, v76 = (.float .f64 x77) ∧
             X53 ((s63a, s63l, s63c), x77, (IntKind.i64.wrap (s52.2.2.1 + 1)), ()) w75))
             (K (.tuple #[.slice s52.1.1 s52.1.2.1 s52.1.2.2, .int .i64 s52.2.2.1, .int .i64 0]) w68)))
           (J49 ((s52.1.1, s52.1.2.1, s52.1.2.2), ()) w54))
          ((s32a, s32l, s32c), x48, 0, ()) w46)
         (fun s50 w51 =>
          K (.tuple #[.slice s50.1.1 s50.1.2.1 s50.1.2.2, .int .i64 q3, .int .i64 0]) w51)))))))))
def S_solve_Solve (N : Nums) (P : Program) (q0_0 : Int) (q0_1 : Option Addr) (q0_1l q0_1c : Nat) (q0_2 : Option Addr) (q0_2l q0_2c : Nat) (q1 : Option Addr) (q1l q1c : Nat) (w : World) (K : Value → World → Prop) : Prop :=
 newM #[.int .i64 q0_0, .slice q0_1 q0_1l q0_1c, .slice q0_2 q0_2l q0_2c] N.t_Factor w fun p1 w2 =>
 cI_ w2 p1 fun n3 =>
 cS_ w2 (p1.add 1) fun s4a s4l s4c =>
 cS_ w2 (p1.add 2) fun s5a s5l s5c =>
 CallsX P N.f_solve_Forward #[.agg #[.int .i64 n3, .slice s4a s4l s4c, .slice s5a s5l s5c], .slice q1 q1l q1c] w2 fun v7 w6 =>
 ∃ s8a s8l s8c, ∃ n9, v7 = (.tuple #[.slice s8a s8l s8c, .int .i64 n9]) ∧
 cond (n9 != 0)
 (K (.tuple #[.slice none 0 0, .int .i64 n9]) w6)
 (cI_ w6 p1 fun n10 =>
  cS_ w6 (p1.add 1) fun s11a s11l s11c =>
  cS_ w6 (p1.add 2) fun s12a s12l s12c =>
  CallsX P N.f_solve_Back #[.agg #[.int .i64 n10, .slice s11a s11l s11c, .slice s12a s12l s12c], .slice s8a s8l s8c] w6 fun v14 w13 =>
  ∃ s15a s15l s15c, ∃ n16, v14 = (.tuple #[.slice s15a s15l s15c, .int .i64 n16]) ∧
  K (.tuple #[.slice s15a s15l s15c, .int .i64 n16]) w13)
def S_k_LikeReals (N : Nums) (P : Program) (q0 : Option Addr) (q0l q0c : Nat) (q1 : Option Addr) (q1l q1c : Nat) (w : World) (K : Value → World → Prop) : Prop :=
 cond (((q0l : Nat) : Int) != ((q1l : Nat) : Int))
 (K (.bool false) w)
 (cutM (σ := Unit) (fun J1 =>
   loopM (σ := Int × Unit) (fun s4 X5 w6 =>
    cond (decide (s4.1 < ((q0l : Nat) : Int)))
    ((0 : Int) ≤ s4.1 ∧ s4.1 < (q0l : Nat) ∧
     optM q0 fun a7 =>
     cF_ w6 (a7.add (s4.1.toNat * 1)) fun x8 =>
     (0 : Int) ≤ s4.1 ∧ s4.1 < (q1l : Nat) ∧
     optM q1 fun a9 =>
     cF_ w6 (a9.add (s4.1.toNat * 1)) fun x10 =>
     drM w6 fun w11 =>
     CallsX P N.f_k_Like #[.float .f64 x8, .float .f64 x10] w11 fun v13 w12 =>
     vB_ v13 fun b14 =>
     drM w12 fun w15 =>
     cond (!b14)
     (K (.bool false) w15)
     (X5 ((IntKind.i64.wrap (s4.1 + 1)), ()) w15))
    (J1 (()) w6))
   (0, ()) w)
  (fun s2 w3 =>
   K (.bool true) w3))
def S_w14_two (N : Nums) (P : Program)  (w : World) (K : Value → World → Prop) : Prop :=
 newM #[.int .i64 0, .int .i64 0, .slice none 0 0] N.t_Matrix w fun p1 w2 =>
 newM #[.int .i64 0, .slice none 0 0, .slice none 0 0] N.t_Factor w2 fun p3 w4 =>
 newM #[.float .f64 4616189618054758400, .float .f64 4607182418800017408, .float .f64 4607182418800017408, .float .f64 4613937818241073152] N.t_float64 w4 fun p5 w6 =>
 newM #[.float .f64 4598175219545276416] N.t_float64 w6 fun p7 w8 =>
 newM #[.float .f64 4616189618054758400, .float .f64 4613374868287651840] N.t_float64 w8 fun p9 w10 =>
 stM p1 (.int .i64 2) w10 fun w11 =>
 stM (p1.add 1) (.int .i64 2) w11 fun w12 =>
 stM (p1.add 2) (.slice (some p5) 4 4) w12 fun w13 =>
 stM p3 (.int .i64 2) w13 fun w14 =>
 stM (p3.add 1) (.slice (some p7) 1 1) w14 fun w15 =>
 stM (p3.add 2) (.slice (some p9) 2 2) w15 fun w16 =>
 cI_ w16 p1 fun n17 =>
 cI_ w16 (p1.add 1) fun n18 =>
 cS_ w16 (p1.add 2) fun s19a s19l s19c =>
 cI_ w16 p3 fun n20 =>
 cS_ w16 (p3.add 1) fun s21a s21l s21c =>
 cS_ w16 (p3.add 2) fun s22a s22l s22c =>
 K (.tuple #[.agg #[.int .i64 n17, .int .i64 n18, .slice s19a s19l s19c], .agg #[.int .i64 n20, .slice s21a s21l s21c, .slice s22a s22l s22c]]) w16
def S_k_mark (N : Nums) (P : Program) (q0 : Int) (q1 : Int) (w : World) (K : Value → World → Prop) : Prop :=
 K (.int .i64 (IntKind.i64.wrap ((IntKind.i64.wrap (1000003 * (IntKind.i64.wrap (q0 + 7)))) + q1))) w
def S_refine_fit (N : Nums) (P : Program) (q0_0 : Int) (q0_1 : Int) (q0_2 : Option Addr) (q0_2l q0_2c : Nat) (q1 : Option Addr) (q1l q1c : Nat) (q2 : Option Addr) (q2l q2c : Nat) (w : World) (K : Value → World → Prop) : Prop :=
 newM #[.int .i64 q0_0, .int .i64 q0_1, .slice q0_2 q0_2l q0_2c] N.t_Matrix w fun p1 w2 =>
 cI_ w2 p1 fun n3 =>
 cI_ w2 (p1.add 1) fun n4 =>
 cS_ w2 (p1.add 2) fun s5a s5l s5c =>
 CallsX P N.f_matrix_Right #[.agg #[.int .i64 n3, .int .i64 n4, .slice s5a s5l s5c]] w2 fun v7 w6 =>
 vB_ v7 fun b8 =>
 cond b8
 (cI_ w6 (p1.add 1) fun n9 =>
  cond (((q1l : Nat) : Int) == n9)
  (cI_ w6 p1 fun n10 =>
   K (.bool (((q2l : Nat) : Int) == n10)) w6)
  (K (.bool false) w6))
 (K (.bool false) w6)
def S_refine_finite (N : Nums) (P : Program) (q0 : Option Addr) (q0l q0c : Nat) (w : World) (K : Value → World → Prop) : Prop :=
 cutM (σ := Unit) (fun J1 =>
  loopM (σ := Int × Unit) (fun s4 X5 w6 =>
   cond (decide (s4.1 < ((q0l : Nat) : Int)))
   ((0 : Int) ≤ s4.1 ∧ s4.1 < (q0l : Nat) ∧
    optM q0 fun a7 =>
    cS_ w6 (a7.add (s4.1.toNat * 1)) fun s8a s8l s8c =>
    cutM (σ := Unit) (fun J9 =>
     loopM (σ := Int × Unit) (fun s12 X13 w14 =>
      cond (decide (s12.1 < ((s8l : Nat) : Int)))
      ((0 : Int) ≤ s12.1 ∧ s12.1 < (s8l : Nat) ∧
       optM s8a fun a15 =>
       cF_ w14 (a15.add (s12.1.toNat * 1)) fun x16 =>
       fresM (fsub x16 x16) w14 fun x17 w18 =>
       cond (!feq x17 0)
       (K (.bool false) w18)
       (X13 ((IntKind.i64.wrap (s12.1 + 1)), ()) w18))
      (J9 (()) w14))
     (0, ()) w6)
    (fun s10 w11 =>
     X5 ((IntKind.i64.wrap (s4.1 + 1)), ()) w11))
   (J1 (()) w6))
  (0, ()) w)
 (fun s2 w3 =>
  K (.bool true) w3)
def S_sums_DotExact (N : Nums) (P : Program) (q0 : Option Addr) (q0l q0c : Nat) (q1 : Option Addr) (q1l q1c : Nat) (q2 : Int) (w : World) (K : Value → World → Prop) : Prop :=
 newM #[.slice q0 q0l q0c] N.t_L_float64 w fun p1 w2 =>
 newM #[.slice q1 q1l q1c] N.t_L_float64 w2 fun p3 w4 =>
 cS_ w4 p1 fun s5a s5l s5c =>
 cS_ w4 p3 fun s6a s6l s6c =>
 cond (((s5l : Nat) : Int) != ((s6l : Nat) : Int))
 (K (.tuple #[.float .f64 0, .int .i64 4]) w4)
 (cS_ w4 p1 fun s7a s7l s7c =>
  CallsX P N.f_sums_finite #[.slice s7a s7l s7c] w4 fun v9 w8 =>
  vB_ v9 fun b10 =>
  cond (!(!b10))
  (cS_ w8 p3 fun s11a s11l s11c =>
   CallsX P N.f_sums_finite #[.slice s11a s11l s11c] w8 fun v13 w12 =>
   vB_ v13 fun b14 =>
   cond (!b14)
   (K (.tuple #[.float .f64 0, .int .i64 5]) w12)
   (cS_ w12 p1 fun s15a s15l s15c =>
    CallsX P N.f_sums_total #[.int .i64 ((s15l : Nat) : Int), .func (.func N.f_sums_DotExact_1) #[] #[.pointer (some p1), .pointer (some p3)]] w12 fun v17 w16 =>
    ∃ b18, ∃ s19a s19l s19c, ∃ n20, v17 = (.agg #[.bool b18, .slice s19a s19l s19c, .int .i64 n20]) ∧
    newM #[.bool false, .slice none 0 0, .int .i64 0] N.t_Dyad w16 fun p21 w22 =>
    stM p21 (.bool b18) w22 fun w23 =>
    stM (p21.add 1) (.slice s19a s19l s19c) w23 fun w24 =>
    stM (p21.add 2) (.int .i64 n20) w24 fun w25 =>
    cB_ w25 p21 fun b26 =>
    cS_ w25 (p21.add 1) fun s27a s27l s27c =>
    cI_ w25 (p21.add 2) fun n28 =>
    CallsX P N.f_dyad_Round #[.agg #[.bool b26, .slice s27a s27l s27c, .int .i64 n28], .int .i8 q2] w25 fun v30 w29 =>
    ∃ x31, ∃ n32, v30 = (.tuple #[.float .f64 x31, .int .i64 n32]) ∧
    K (.tuple #[.float .f64 x31, .int .i64 n32]) w29))
  (K (.tuple #[.float .f64 0, .int .i64 5]) w8))
def S_r14_fit (N : Nums) (P : Program) (q0_0 : Int) (q0_1 : Int) (q0_2 : Option Addr) (q0_2l q0_2c : Nat) (q1 : Option Addr) (q1l q1c : Nat) (q2 : Option Addr) (q2l q2c : Nat) (w : World) (K : Value → World → Prop) : Prop :=
 newM #[.int .i64 q0_0, .int .i64 q0_1, .slice q0_2 q0_2l q0_2c] N.t_Matrix w fun p1 w2 =>
 cI_ w2 p1 fun n3 =>
 cI_ w2 (p1.add 1) fun n4 =>
 cS_ w2 (p1.add 2) fun s5a s5l s5c =>
 CallsX P N.f_r10_Right #[.agg #[.int .i64 n3, .int .i64 n4, .slice s5a s5l s5c]] w2 fun v7 w6 =>
 vB_ v7 fun b8 =>
 cond b8
 (cI_ w6 (p1.add 1) fun n9 =>
  cond (((q1l : Nat) : Int) == n9)
  (cI_ w6 p1 fun n10 =>
   K (.bool (((q2l : Nat) : Int) == n10)) w6)
  (K (.bool false) w6))
 (K (.bool false) w6)
def S_r14_finite (N : Nums) (P : Program) (q0 : Option Addr) (q0l q0c : Nat) (w : World) (K : Value → World → Prop) : Prop :=
 cutM (σ := Unit) (fun J1 =>
  loopM (σ := Int × Unit) (fun s4 X5 w6 =>
   cond (decide (s4.1 < ((q0l : Nat) : Int)))
   ((0 : Int) ≤ s4.1 ∧ s4.1 < (q0l : Nat) ∧
    optM q0 fun a7 =>
    cF_ w6 (a7.add (s4.1.toNat * 1)) fun x8 =>
    (0 : Int) ≤ s4.1 ∧ s4.1 < (q0l : Nat) ∧
    optM q0 fun a9 =>
    cF_ w6 (a9.add (s4.1.toNat * 1)) fun x10 =>
    fresM (fsub x8 x10) w6 fun x11 w12 =>
    drM w6 fun w13 =>
    cond (!feq x11 0)
    (K (.bool false) w13)
    (X5 ((IntKind.i64.wrap (s4.1 + 1)), ()) w13))
   (J1 (()) w6))
  (0, ()) w)
 (fun s2 w3 =>
  K (.bool true) w3)
def S_r02_Float (N : Nums) (P : Program) (q0 : Nat) (w : World) (K : Value → World → Prop) : Prop :=
 newM #[.bool false, .slice none 0 0, .int .i64 0] N.t_r02_Num w fun p1 w2 =>
 CallsX P N.f_r01_Split #[.float .f64 q0] w2 fun v4 w3 =>
 ∃ b5, ∃ n6, ∃ n7, ∃ b8, v4 = (.tuple #[.agg #[.bool b5, .int .u64 n6, .int .i64 n7], .bool b8]) ∧
 newM #[.bool false, .int .u64 0, .int .i64 0] N.t_Parts w3 fun p9 w10 =>
 stM p9 (.bool b5) w10 fun w11 =>
 stM (p9.add 1) (.int .u64 n6) w11 fun w12 =>
 stM (p9.add 2) (.int .i64 n7) w12 fun w13 =>
 cB_ w13 p9 fun b14 =>
 cU_ w13 (p9.add 1) fun n15 =>
 cI_ w13 (p9.add 2) fun n16 =>
 drM w13 fun w17 =>
 CallsX P N.f_r02_NatOf #[.int .u64 n15] w17 fun v19 w18 =>
 vS_ v19 fun s20a s20l s20c =>
 w18.cell? (p9.add 2) = some (.int .i64 n16) ∧
 w18.cell? p9 = some (.bool b14) ∧
 drM w18 fun w21 =>
 stM p1 (.bool b14) w21 fun w22 =>
 stM (p1.add 1) (.slice s20a s20l s20c) w22 fun w23 =>
 stM (p1.add 2) (.int .i64 n16) w23 fun w24 =>
 drM w24 fun w25 =>
 cB_ w25 p1 fun b26 =>
 cS_ w25 (p1.add 1) fun s27a s27l s27c =>
 cI_ w25 (p1.add 2) fun n28 =>
 K (.agg #[.bool b26, .slice s27a s27l s27c, .int .i64 n28]) w25
def S_r02_Times (N : Nums) (P : Program) (q0_0 : Bool) (q0_1 : Option Addr) (q0_1l q0_1c : Nat) (q0_2 : Int) (q1_0 : Bool) (q1_1 : Option Addr) (q1_1l q1_1c : Nat) (q1_2 : Int) (w : World) (K : Value → World → Prop) : Prop :=
 newM #[.bool q0_0, .slice q0_1 q0_1l q0_1c, .int .i64 q0_2] N.t_r02_Num w fun p1 w2 =>
 newM #[.bool q1_0, .slice q1_1 q1_1l q1_1c, .int .i64 q1_2] N.t_r02_Num w2 fun p3 w4 =>
 newM #[.bool false, .slice none 0 0, .int .i64 0] N.t_r02_Num w4 fun p5 w6 =>
 cB_ w6 p1 fun b7 =>
 cB_ w6 p3 fun b8 =>
 cS_ w6 (p1.add 1) fun s9a s9l s9c =>
 cS_ w6 (p3.add 1) fun s10a s10l s10c =>
 cI_ w6 (p1.add 2) fun n11 =>
 cI_ w6 (p3.add 2) fun n12 =>
 drM w6 fun w13 =>
 CallsX P N.f_r02_NatMul #[.slice s9a s9l s9c, .slice s10a s10l s10c] w13 fun v15 w14 =>
 vS_ v15 fun s16a s16l s16c =>
 w14.cell? (p3.add 2) = some (.int .i64 n12) ∧
 w14.cell? (p1.add 2) = some (.int .i64 n11) ∧
 w14.cell? p3 = some (.bool b8) ∧
 w14.cell? p1 = some (.bool b7) ∧
 drM w14 fun w17 =>
 stM p5 (.bool (!(b7 == b8))) w17 fun w18 =>
 stM (p5.add 1) (.slice s16a s16l s16c) w18 fun w19 =>
 stM (p5.add 2) (.int .i64 (IntKind.i64.wrap (n11 + n12))) w19 fun w20 =>
 drM w20 fun w21 =>
 cB_ w21 p5 fun b22 =>
 cS_ w21 (p5.add 1) fun s23a s23l s23c =>
 cI_ w21 (p5.add 2) fun n24 =>
 K (.agg #[.bool b22, .slice s23a s23l s23c, .int .i64 n24]) w21
def S_r02_Plus (N : Nums) (P : Program) (q0_0 : Bool) (q0_1 : Option Addr) (q0_1l q0_1c : Nat) (q0_2 : Int) (q1_0 : Bool) (q1_1 : Option Addr) (q1_1l q1_1c : Nat) (q1_2 : Int) (w : World) (K : Value → World → Prop) : Prop :=
 newM #[.bool q0_0, .slice q0_1 q0_1l q0_1c, .int .i64 q0_2] N.t_r02_Num w fun p1 w2 =>
 newM #[.bool q1_0, .slice q1_1 q1_1l q1_1c, .int .i64 q1_2] N.t_r02_Num w2 fun p3 w4 =>
 newM #[.bool false, .slice none 0 0, .int .i64 0] N.t_r02_Num w4 fun p5 w6 =>
 cB_ w6 p1 fun b7 =>
 cS_ w6 (p1.add 1) fun s8a s8l s8c =>
 cI_ w6 (p1.add 2) fun n9 =>
 CallsX P N.f_r02_Num_Zero #[.agg #[.bool b7, .slice s8a s8l s8c, .int .i64 n9]] w6 fun v11 w10 =>
 vB_ v11 fun b12 =>
 cond b12
 (cB_ w10 p3 fun b13 =>
  cS_ w10 (p3.add 1) fun s14a s14l s14c =>
  cI_ w10 (p3.add 2) fun n15 =>
  stM p5 (.bool b13) w10 fun w16 =>
  stM (p5.add 1) (.slice s14a s14l s14c) w16 fun w17 =>
  stM (p5.add 2) (.int .i64 n15) w17 fun w18 =>
  cB_ w18 p5 fun b19 =>
  cS_ w18 (p5.add 1) fun s20a s20l s20c =>
  cI_ w18 (p5.add 2) fun n21 =>
  K (.agg #[.bool b19, .slice s20a s20l s20c, .int .i64 n21]) w18)
 (cB_ w10 p3 fun b22 =>
  cS_ w10 (p3.add 1) fun s23a s23l s23c =>
  cI_ w10 (p3.add 2) fun n24 =>
  CallsX P N.f_r02_Num_Zero #[.agg #[.bool b22, .slice s23a s23l s23c, .int .i64 n24]] w10 fun v26 w25 =>
  vB_ v26 fun b27 =>
  cond b27
  (cB_ w25 p1 fun b28 =>
   cS_ w25 (p1.add 1) fun s29a s29l s29c =>
   cI_ w25 (p1.add 2) fun n30 =>
   stM p5 (.bool b28) w25 fun w31 =>
   stM (p5.add 1) (.slice s29a s29l s29c) w31 fun w32 =>
   stM (p5.add 2) (.int .i64 n30) w32 fun w33 =>
   cB_ w33 p5 fun b34 =>
   cS_ w33 (p5.add 1) fun s35a s35l s35c =>
   cI_ w33 (p5.add 2) fun n36 =>
   K (.agg #[.bool b34, .slice s35a s35l s35c, .int .i64 n36]) w33)
  (cI_ w25 (p1.add 2) fun n37 =>
   cI_ w25 (p3.add 2) fun n38 =>
   cond (decide (n37 > n38))
   (cB_ w25 p3 fun b39 =>
    cS_ w25 (p3.add 1) fun s40a s40l s40c =>
    cI_ w25 (p3.add 2) fun n41 =>
    cB_ w25 p1 fun b42 =>
    cS_ w25 (p1.add 1) fun s43a s43l s43c =>
    cI_ w25 (p1.add 2) fun n44 =>
    CallsX P N.f_r02_Plus #[.agg #[.bool b39, .slice s40a s40l s40c, .int .i64 n41], .agg #[.bool b42, .slice s43a s43l s43c, .int .i64 n44]] w25 fun v46 w45 =>
    ∃ b47, ∃ s48a s48l s48c, ∃ n49, v46 = (.agg #[.bool b47, .slice s48a s48l s48c, .int .i64 n49]) ∧
    stM p5 (.bool b47) w45 fun w50 =>
    stM (p5.add 1) (.slice s48a s48l s48c) w50 fun w51 =>
    stM (p5.add 2) (.int .i64 n49) w51 fun w52 =>
    cB_ w52 p5 fun b53 =>
    cS_ w52 (p5.add 1) fun s54a s54l s54c =>
    cI_ w52 (p5.add 2) fun n55 =>
    K (.agg #[.bool b53, .slice s54a s54l s54c, .int .i64 n55]) w52)
   (cS_ w25 (p1.add 1) fun s56a s56l s56c =>
    cS_ w25 (p3.add 1) fun s57a s57l s57c =>
    cI_ w25 (p3.add 2) fun n58 =>
    cI_ w25 (p1.add 2) fun n59 =>
    CallsX P N.f_r02_NatUp #[.slice s57a s57l s57c, .int .i64 (IntKind.i64.wrap (n58 - n59))] w25 fun v61 w60 =>
    vS_ v61 fun s62a s62l s62c =>
    cB_ w60 p1 fun b63 =>
    cB_ w60 p3 fun b64 =>
    cond (b63 == b64)
    (cB_ w60 p1 fun b65 =>
     cI_ w60 (p1.add 2) fun n66 =>
     drM w60 fun w67 =>
     CallsX P N.f_r02_NatAdd #[.slice s56a s56l s56c, .slice s62a s62l s62c] w67 fun v69 w68 =>
     vS_ v69 fun s70a s70l s70c =>
     w68.cell? (p1.add 2) = some (.int .i64 n66) ∧
     w68.cell? p1 = some (.bool b65) ∧
     drM w68 fun w71 =>
     stM p5 (.bool b65) w71 fun w72 =>
     stM (p5.add 1) (.slice s70a s70l s70c) w72 fun w73 =>
     stM (p5.add 2) (.int .i64 n66) w73 fun w74 =>
     drM w74 fun w75 =>
     cB_ w75 p5 fun b76 =>
     cS_ w75 (p5.add 1) fun s77a s77l s77c =>
     cI_ w75 (p5.add 2) fun n78 =>
     K (.agg #[.bool b76, .slice s77a s77l s77c, .int .i64 n78]) w75)
    (CallsX P N.f_r02_NatCmp #[.slice s56a s56l s56c, .slice s62a s62l s62c] w60 fun v80 w79 =>
     ∃ n81, v80 = (.int .i64 n81) ∧
     cond (decide (n81 ≥ 0))
     (cB_ w79 p1 fun b82 =>
      cI_ w79 (p1.add 2) fun n83 =>
      drM w79 fun w84 =>
      CallsX P N.f_r02_NatSub #[.slice s56a s56l s56c, .slice s62a s62l s62c] w84 fun v86 w85 =>
      vS_ v86 fun s87a s87l s87c =>
      w85.cell? (p1.add 2) = some (.int .i64 n83) ∧
      w85.cell? p1 = some (.bool b82) ∧
      drM w85 fun w88 =>
      stM p5 (.bool b82) w88 fun w89 =>
      stM (p5.add 1) (.slice s87a s87l s87c) w89 fun w90 =>
      stM (p5.add 2) (.int .i64 n83) w90 fun w91 =>
      drM w91 fun w92 =>
      cB_ w92 p5 fun b93 =>
      cS_ w92 (p5.add 1) fun s94a s94l s94c =>
      cI_ w92 (p5.add 2) fun n95 =>
      K (.agg #[.bool b93, .slice s94a s94l s94c, .int .i64 n95]) w92)
     (cB_ w79 p3 fun b96 =>
      cI_ w79 (p1.add 2) fun n97 =>
      drM w79 fun w98 =>
      CallsX P N.f_r02_NatSub #[.slice s62a s62l s62c, .slice s56a s56l s56c] w98 fun v100 w99 =>
      vS_ v100 fun s101a s101l s101c =>
      w99.cell? (p1.add 2) = some (.int .i64 n97) ∧
      w99.cell? p3 = some (.bool b96) ∧
      drM w99 fun w102 =>
      stM p5 (.bool b96) w102 fun w103 =>
      stM (p5.add 1) (.slice s101a s101l s101c) w103 fun w104 =>
      stM (p5.add 2) (.int .i64 n97) w104 fun w105 =>
      drM w105 fun w106 =>
      cB_ w106 p5 fun b107 =>
      cS_ w106 (p5.add 1) fun s108a s108l s108c =>
      cI_ w106 (p5.add 2) fun n109 =>
      K (.agg #[.bool b107, .slice s108a s108l s108c, .int .i64 n109]) w106)))))
def S_r02_Minus (N : Nums) (P : Program) (q0_0 : Bool) (q0_1 : Option Addr) (q0_1l q0_1c : Nat) (q0_2 : Int) (w : World) (K : Value → World → Prop) : Prop :=
 newM #[.bool q0_0, .slice q0_1 q0_1l q0_1c, .int .i64 q0_2] N.t_r02_Num w fun p1 w2 =>
 newM #[.bool false, .slice none 0 0, .int .i64 0] N.t_r02_Num w2 fun p3 w4 =>
 cB_ w4 p1 fun b5 =>
 cS_ w4 (p1.add 1) fun s6a s6l s6c =>
 cI_ w4 (p1.add 2) fun n7 =>
 stM p3 (.bool (!b5)) w4 fun w8 =>
 stM (p3.add 1) (.slice s6a s6l s6c) w8 fun w9 =>
 stM (p3.add 2) (.int .i64 n7) w9 fun w10 =>
 cB_ w10 p3 fun b11 =>
 cS_ w10 (p3.add 1) fun s12a s12l s12c =>
 cI_ w10 (p3.add 2) fun n13 =>
 K (.agg #[.bool b11, .slice s12a s12l s12c, .int .i64 n13]) w10
def S_r02_Rounded (N : Nums) (P : Program) (q0_0 : Bool) (q0_1 : Option Addr) (q0_1l q0_1c : Nat) (q0_2 : Int) (q1 : Int) (w : World) (K : Value → World → Prop) : Prop :=
 newM #[.bool q0_0, .slice q0_1 q0_1l q0_1c, .int .i64 q0_2] N.t_r02_Num w fun p1 w2 =>
 cB_ w2 p1 fun b3 =>
 cS_ w2 (p1.add 1) fun s4a s4l s4c =>
 cI_ w2 (p1.add 2) fun n5 =>
 CallsX P N.f_r02_Num_Zero #[.agg #[.bool b3, .slice s4a s4l s4c, .int .i64 n5]] w2 fun v7 w6 =>
 vB_ v7 fun b8 =>
 cond b8
 (K (.float .f64 0) w6)
 (cB_ w6 p1 fun b9 =>
  cS_ w6 (p1.add 1) fun s10a s10l s10c =>
  cI_ w6 (p1.add 2) fun n11 =>
  CallsX P N.f_r02_Num_top #[.agg #[.bool b9, .slice s10a s10l s10c, .int .i64 n11]] w6 fun v13 w12 =>
  ∃ n14, v13 = (.int .i64 n14) ∧
  cI_ w12 (p1.add 2) fun n15 =>
  cutM (σ := (Option Addr × Nat × Nat) × Unit) (fun J16 =>
   cond (decide (n15 ≥ (if (-1074) > (IntKind.i64.wrap (n14 - 53)) then (-1074) else (IntKind.i64.wrap (n14 - 53)))))
   (cS_ w12 (p1.add 1) fun s19a s19l s19c =>
    cI_ w12 (p1.add 2) fun n20 =>
    CallsX P N.f_r02_NatUp #[.slice s19a s19l s19c, .int .i64 (IntKind.i64.wrap (n20 - (if (-1074) > (IntKind.i64.wrap (n14 - 53)) then (-1074) else (IntKind.i64.wrap (n14 - 53)))))] w12 fun v22 w21 =>
    vS_ v22 fun s23a s23l s23c =>
    J16 ((s23a, s23l, s23c), ()) w21)
   (cI_ w12 (p1.add 2) fun n24 =>
    cS_ w12 (p1.add 1) fun s25a s25l s25c =>
    CallsX P N.f_r02_NatDown #[.slice s25a s25l s25c, .int .i64 (IntKind.i64.wrap ((if (-1074) > (IntKind.i64.wrap (n14 - 53)) then (-1074) else (IntKind.i64.wrap (n14 - 53))) - n24))] w12 fun v27 w26 =>
    ∃ s28a s28l s28c, ∃ b29, v27 = (.tuple #[.slice s28a s28l s28c, .bool b29]) ∧
    cutM (σ := (Option Addr × Nat × Nat) × Unit) (fun J30 =>
     cond b29
     (cS_ w26 (p1.add 1) fun s33a s33l s33c =>
      CallsX P N.f_r02_NatDown #[.slice s33a s33l s33c, .int .i64 (IntKind.i64.wrap ((IntKind.i64.wrap ((if (-1074) > (IntKind.i64.wrap (n14 - 53)) then (-1074) else (IntKind.i64.wrap (n14 - 53))) - n24)) - 1))] w26 fun v35 w34 =>
      ∃ s36a s36l s36c, ∃ b37, v35 = (.tuple #[.slice s36a s36l s36c, .bool b37]) ∧
      cutM (σ := Bool × Unit) (fun J38 =>
       cond (decide (((s36l : Nat) : Int) > 0))
       ((0 : Int) ≤ (0 : Int) ∧ (0 : Int) < (s36l : Nat) ∧
        optM s36a fun a41 =>
        cU_ w34 (a41.add ((0 : Int).toNat * 1)) fun n42 =>
        (2 : Int) ≠ 0 ∧
        J38 (((n42.tmod 2) == 1), ()) w34)
       (J38 (false, ()) w34))
      (fun s39 w40 =>
       cutM (σ := Int × Unit) (fun J43 =>
        cond s39.1
        (cutM (σ := Int × Unit) (fun J46 =>
          cond b37
          (J46 (1, ()) w40)
          (J46 (0, ()) w40))
         (fun s47 w48 =>
          J43 (s47.1, ()) w48))
        (J43 ((-1), ()) w40))
       (fun s44 w45 =>
        cB_ w45 p1 fun b49 =>
        cond (decide (((s28l : Nat) : Int) > 0))
        ((0 : Int) ≤ (0 : Int) ∧ (0 : Int) < (s28l : Nat) ∧
         optM s28a fun a50 =>
         cU_ w45 (a50.add ((0 : Int).toNat * 1)) fun n51 =>
         (2 : Int) ≠ 0 ∧
         drM w45 fun w52 =>
         CallsX P N.f_r02_up #[.int .i8 q1, .bool b49, .int .i64 s44.1, .bool ((n51.tmod 2) == 1)] w52 fun v54 w53 =>
         vB_ v54 fun b55 =>
         drM w53 fun w56 =>
         cutM (σ := (Option Addr × Nat × Nat) × Unit) (fun J57 =>
          cond b55
          (CallsX P N.f_r02_NatOf #[.int .u64 1] w56 fun v61 w60 =>
           vS_ v61 fun s62a s62l s62c =>
           CallsX P N.f_r02_NatAdd #[.slice s28a s28l s28c, .slice s62a s62l s62c] w60 fun v64 w63 =>
           vS_ v64 fun s65a s65l s65c =>
           J57 ((s65a, s65l, s65c), ()) w63)
          (J57 ((s28a, s28l, s28c), ()) w56))
         (fun s58 w59 =>
          J30 ((s58.1.1, s58.1.2.1, s58.1.2.2), ()) w59))
        (drM w45 fun w66 =>
         CallsX P N.f_r02_up #[.int .i8 q1, .bool b49, .int .i64 s44.1, .bool false] w66 fun v68 w67 =>
         vB_ v68 fun b69 =>
         drM w67 fun w70 =>
         cutM (σ := (Option Addr × Nat × Nat) × Unit) (fun J71 =>
          cond b69
          (CallsX P N.f_r02_NatOf #[.int .u64 1] w70 fun v75 w74 =>
           vS_ v75 fun s76a s76l s76c =>
           CallsX P N.f_r02_NatAdd #[.slice s28a s28l s28c, .slice s76a s76l s76c] w74 fun v78 w77 =>
           vS_ v78 fun s79a s79l s79c =>
           J71 ((s79a, s79l, s79c), ()) w77)
          (J71 ((s28a, s28l, s28c), ()) w70))
         (fun s72 w73 =>
          J30 ((s72.1.1, s72.1.2.1, s72.1.2.2), ()) w73)))))
     (J30 ((s28a, s28l, s28c), ()) w26))
    (fun s31 w32 =>
     J16 ((s31.1.1, s31.1.2.1, s31.1.2.2), ()) w32)))
  (fun s17 w18 =>
   CallsX P N.f_r02_NatBits #[.slice s17.1.1 s17.1.2.1 s17.1.2.2] w18 fun v81 w80 =>
   ∃ n82, v81 = (.int .i64 n82) ∧
   cond (decide ((IntKind.i64.wrap (n82 + (if (-1074) > (IntKind.i64.wrap (n14 - 53)) then (-1074) else (IntKind.i64.wrap (n14 - 53))))) > 1024))
   (cB_ w80 p1 fun b83 =>
    CallsX P N.f_r02_huge #[.int .i8 q1, .bool b83] w80 fun v85 w84 =>
    ∃ x86, v85 = (.float .f64 x86) ∧
    K (.float .f64 x86) w84)
   (cutM (σ := Int × Unit) (fun J87 =>
     cond (decide (((s17.1.2.1 : Nat) : Int) > 0))
     ((0 : Int) ≤ (0 : Int) ∧ (0 : Int) < (s17.1.2.1 : Nat) ∧
      optM s17.1.1 fun a90 =>
      cU_ w80 (a90.add ((0 : Int).toNat * 1)) fun n91 =>
      J87 (n91, ()) w80)
     (J87 (0, ()) w80))
    (fun s88 w89 =>
     cB_ w89 p1 fun b92 =>
     CallsX P N.f_r02_float #[.bool b92, .int .u64 s88.1, .int .i64 (if (-1074) > (IntKind.i64.wrap (n14 - 53)) then (-1074) else (IntKind.i64.wrap (n14 - 53)))] w89 fun v94 w93 =>
     ∃ x95, v94 = (.float .f64 x95) ∧
     K (.float .f64 x95) w93))))
def S_k_SameFloat (N : Nums) (P : Program) (q0 : Nat) (q1 : Nat) (w : World) (K : Value → World → Prop) : Prop :=
 CallsX P N.f_math_Float64bits #[.float .f64 q0] w fun v2 w1 =>
 ∃ n3, v2 = (.int .u64 n3) ∧
 CallsX P N.f_math_Float64bits #[.float .f64 q1] w1 fun v5 w4 =>
 ∃ n6, v5 = (.int .u64 n6) ∧
 cond (!(n3 == n6))
 (cond (!feq q0 q0)
  (K (.bool (!feq q1 q1)) w4)
  (K (.bool false) w4))
 (K (.bool true) w4)
def S_k_SameMatrix (N : Nums) (P : Program) (q0_0 : Int) (q0_1 : Int) (q0_2 : Option Addr) (q0_2l q0_2c : Nat) (q1_0 : Int) (q1_1 : Int) (q1_2 : Option Addr) (q1_2l q1_2c : Nat) (w : World) (K : Value → World → Prop) : Prop :=
 newM #[.int .i64 q0_0, .int .i64 q0_1, .slice q0_2 q0_2l q0_2c] N.t_Matrix w fun p1 w2 =>
 newM #[.int .i64 q1_0, .int .i64 q1_1, .slice q1_2 q1_2l q1_2c] N.t_Matrix w2 fun p3 w4 =>
 cI_ w4 p1 fun n5 =>
 cI_ w4 p3 fun n6 =>
 cond (n5 == n6)
 (cI_ w4 (p1.add 1) fun n7 =>
  cI_ w4 (p3.add 1) fun n8 =>
  cond (n7 == n8)
  (cS_ w4 (p1.add 2) fun s9a s9l s9c =>
   cS_ w4 (p3.add 2) fun s10a s10l s10c =>
   CallsX P N.f_k_SameReals #[.slice s9a s9l s9c, .slice s10a s10l s10c] w4 fun v12 w11 =>
   vB_ v12 fun b13 =>
   K (.bool b13) w11)
  (K (.bool false) w4))
 (K (.bool false) w4)
def S_refine_fits (N : Nums) (P : Program) (q0_0 : Int) (q0_1 : Int) (q0_2 : Option Addr) (q0_2l q0_2c : Nat) (q1_0 : Int) (q1_1 : Option Addr) (q1_1l q1_1c : Nat) (q1_2 : Option Addr) (q1_2l q1_2c : Nat) (w : World) (K : Value → World → Prop) : Prop :=
 newM #[.int .i64 q0_0, .int .i64 q0_1, .slice q0_2 q0_2l q0_2c] N.t_Matrix w fun p1 w2 =>
 newM #[.int .i64 q1_0, .slice q1_1 q1_1l q1_1c, .slice q1_2 q1_2l q1_2c] N.t_Factor w2 fun p3 w4 =>
 cI_ w4 p1 fun n5 =>
 cI_ w4 (p1.add 1) fun n6 =>
 cS_ w4 (p1.add 2) fun s7a s7l s7c =>
 CallsX P N.f_matrix_Right #[.agg #[.int .i64 n5, .int .i64 n6, .slice s7a s7l s7c]] w4 fun v9 w8 =>
 vB_ v9 fun b10 =>
 cond b10
 (cI_ w8 p3 fun n11 =>
  cS_ w8 (p3.add 1) fun s12a s12l s12c =>
  cS_ w8 (p3.add 2) fun s13a s13l s13c =>
  CallsX P N.f_lower_Right #[.agg #[.int .i64 n11, .slice s12a s12l s12c, .slice s13a s13l s13c]] w8 fun v15 w14 =>
  vB_ v15 fun b16 =>
  cond b16
  (cI_ w14 p1 fun n17 =>
   cI_ w14 p3 fun n18 =>
   cond (n17 == n18)
   (cI_ w14 (p1.add 1) fun n19 =>
    cI_ w14 p3 fun n20 =>
    K (.bool (n19 == n20)) w14)
   (K (.bool false) w14))
  (K (.bool false) w14))
 (K (.bool false) w8)
def S_vector_Add (N : Nums) (P : Program) (q0 : Option Addr) (q0l q0c : Nat) (q1 : Option Addr) (q1l q1c : Nat) (w : World) (K : Value → World → Prop) : Prop :=
 CallsX P N.f_vector_each #[.slice q0 q0l q0c, .slice q1 q1l q1c, .func (.func N.f_vector_Add_1) #[] #[]] w fun v2 w1 =>
 ∃ s3a s3l s3c, ∃ n4, v2 = (.tuple #[.slice s3a s3l s3c, .int .i64 n4]) ∧
 K (.tuple #[.slice s3a s3l s3c, .int .i64 n4]) w1
def S_vector_Norm (N : Nums) (P : Program) (q0 : Option Addr) (q0l q0c : Nat) (w : World) (K : Value → World → Prop) : Prop :=
 cutM (σ := Nat × Unit) (fun J1 =>
  loopM (σ := Nat × Int × Unit) (fun s4 X5 w6 =>
   cond (decide (s4.2.1 < ((q0l : Nat) : Int)))
   ((0 : Int) ≤ s4.2.1 ∧ s4.2.1 < (q0l : Nat) ∧
    optM q0 fun a7 =>
    cF_ w6 (a7.add (s4.2.1.toNat * 1)) fun x8 =>
    CallsX P N.f_math_Abs #[.float .f64 x8] w6 fun v10 w9 =>
    ∃ x11, v10 = (.float .f64 x11) ∧
    CallsX P N.f_round_Add #[.float .f64 s4.1, .float .f64 x11, .int .i8 2] w9 fun v13 w12 =>
    ∃ x14, v13 = (.float .f64 x14) ∧
    X5 (x14, (IntKind.i64.wrap (s4.2.1 + 1)), ()) w12)
   (J1 (s4.1, ()) w6))
  (0, 0, ()) w)
 (fun s2 w3 =>
  K (.float .f64 s2.1) w3)
def S_solve_Forward (N : Nums) (P : Program) (q0_0 : Int) (q0_1 : Option Addr) (q0_1l q0_1c : Nat) (q0_2 : Option Addr) (q0_2l q0_2c : Nat) (q1 : Option Addr) (q1l q1c : Nat) (w : World) (K : Value → World → Prop) : Prop :=
 newM #[.int .i64 q0_0, .slice q0_1 q0_1l q0_1c, .slice q0_2 q0_2l q0_2c] N.t_Factor w fun p1 w2 =>
 cI_ w2 p1 fun n3 =>
 cS_ w2 (p1.add 1) fun s4a s4l s4c =>
 cS_ w2 (p1.add 2) fun s5a s5l s5c =>
 CallsX P N.f_solve_fits #[.agg #[.int .i64 n3, .slice s4a s4l s4c, .slice s5a s5l s5c], .int .i64 ((q1l : Nat) : Int)] w2 fun v7 w6 =>
 ∃ n8, v7 = (.int .i64 n8) ∧
 cond (n8 != 0)
 (K (.tuple #[.slice none 0 0, .int .i64 n8]) w6)
 (CallsX P N.f_slices_Clone___float64_float64 #[.slice q1 q1l q1c] w6 fun v10 w9 =>
  vS_ v10 fun s11a s11l s11c =>
  cutM (σ := Unit) (fun J12 =>
   loopM (σ := Int × Unit) (fun s15 X16 w17 =>
    cond (decide (s15.1 < ((s11l : Nat) : Int)))
    (cutM (σ := Unit) (fun J18 =>
      loopM (σ := Int × Unit) (fun s21 X22 w23 =>
       cond (decide (s21.1 < s15.1))
       ((0 : Int) ≤ s15.1 ∧ s15.1 < (s11l : Nat) ∧
        optM s11a fun a24 =>
        cF_ w23 (a24.add (s15.1.toNat * 1)) fun x25 =>
        cI_ w23 p1 fun n26 =>
        cS_ w23 (p1.add 1) fun s27a s27l s27c =>
        cS_ w23 (p1.add 2) fun s28a s28l s28c =>
        (0 : Int) ≤ s21.1 ∧ s21.1 < (s11l : Nat) ∧
        optM s11a fun a29 =>
        cF_ w23 (a29.add (s21.1.toNat * 1)) fun x30 =>
        drM w23 fun w31 =>
        CallsX P N.f_solve_below #[.agg #[.int .i64 n26, .slice s27a s27l s27c, .slice s28a s28l s28c], .int .i64 s15.1, .int .i64 s21.1] w31 fun v33 w32 =>
        ∃ x34, v33 = (.float .f64 x34) ∧
        w32.cell? (a29.add (s21.1.toNat * 1)) = some (.float .f64 x30) ∧
        w32.cell? (a24.add (s15.1.toNat * 1)) = some (.float .f64 x25) ∧
        fresM (fmul x34 x30) w32 fun x35 w36 =>
        fresM (fsub x25 x35) w32 fun x37 w38 =>
        (0 : Int) ≤ s15.1 ∧ s15.1 < (s11l : Nat) ∧
        optM s11a fun a39 =>
        drM w32 fun w40 =>
        stM (a39.add (s15.1.toNat * 1)) (.float .f64 x37) w40 fun w41 =>
        drM w41 fun w42 =>
        X22 ((IntKind.i64.wrap (s21.1 + 1)), ()) w42)
       (J18 (()) w23))
      (0, ()) w17)
     (fun s19 w20 =>
      X16 ((IntKind.i64.wrap (s15.1 + 1)), ()) w20))
    (J12 (()) w17))
   (0, ()) w9)
  (fun s13 w14 =>
   K (.tuple #[.slice s11a s11l s11c, .int .i64 0]) w14))
def S_solve_Back (N : Nums) (P : Program) (q0_0 : Int) (q0_1 : Option Addr) (q0_1l q0_1c : Nat) (q0_2 : Option Addr) (q0_2l q0_2c : Nat) (q1 : Option Addr) (q1l q1c : Nat) (w : World) (K : Value → World → Prop) : Prop :=
 newM #[.int .i64 q0_0, .slice q0_1 q0_1l q0_1c, .slice q0_2 q0_2l q0_2c] N.t_Factor w fun p1 w2 =>
 cI_ w2 p1 fun n3 =>
 cS_ w2 (p1.add 1) fun s4a s4l s4c =>
 cS_ w2 (p1.add 2) fun s5a s5l s5c =>
 CallsX P N.f_solve_fits #[.agg #[.int .i64 n3, .slice s4a s4l s4c, .slice s5a s5l s5c], .int .i64 ((q1l : Nat) : Int)] w2 fun v7 w6 =>
 ∃ n8, v7 = (.int .i64 n8) ∧
 cond (n8 != 0)
 (K (.tuple #[.slice none 0 0, .int .i64 n8]) w6)
 (cS_ w6 (p1.add 2) fun s9a s9l s9c =>
  CallsX P N.f_slices_Contains___float64_float64 #[.slice s9a s9l s9c, .float .f64 0] w6 fun v11 w10 =>
  vB_ v11 fun b12 =>
  cond b12
  (K (.tuple #[.slice none 0 0, .int .i64 7]) w10)
  (CallsX P N.f_slices_Clone___float64_float64 #[.slice q1 q1l q1c] w10 fun v14 w13 =>
   vS_ v14 fun s15a s15l s15c =>
   cS_ w13 (p1.add 2) fun s16a s16l s16c =>
   cutM (σ := Unit) (fun J17 =>
    loopM (σ := Int × Unit) (fun s20 X21 w22 =>
     cond (decide (s20.1 < ((s16l : Nat) : Int)))
     ((0 : Int) ≤ s20.1 ∧ s20.1 < (s16l : Nat) ∧
      optM s16a fun a23 =>
      cF_ w22 (a23.add (s20.1.toNat * 1)) fun x24 =>
      (0 : Int) ≤ s20.1 ∧ s20.1 < (s15l : Nat) ∧
      optM s15a fun a25 =>
      cF_ w22 (a25.add (s20.1.toNat * 1)) fun x26 =>
      fresM (fdiv x26 x24) w22 fun x27 w28 =>
      (0 : Int) ≤ s20.1 ∧ s20.1 < (s15l : Nat) ∧
      optM s15a fun a29 =>
      stM (a29.add (s20.1.toNat * 1)) (.float .f64 x27) w28 fun w30 =>
      X21 ((IntKind.i64.wrap (s20.1 + 1)), ()) w30)
     (J17 (()) w22))
    (0, ()) w13)
   (fun s18 w19 =>
    cutM (σ := Unit) (fun J31 =>
     loopM (σ := Int × Unit) (fun s34 X35 w36 =>
      cond (decide (s34.1 < ((s15l : Nat) : Int)))
      (cutM (σ := Unit) (fun J37 =>
        loopM (σ := Int × Unit) (fun s40 X41 w42 =>
         cond (decide (s40.1 < ((s15l : Nat) : Int)))
         ((0 : Int) ≤ (IntKind.i64.wrap ((IntKind.i64.wrap (((s15l : Nat) : Int) - 1)) - s34.1)) ∧ (IntKind.i64.wrap ((IntKind.i64.wrap (((s15l : Nat) : Int) - 1)) - s34.1)) < (s15l : Nat) ∧
          optM s15a fun a43 =>
          ∃ x44, w42.cell? (a43.add ((IntKind.i64.wrap ((IntKind.i64.wrap (((s15l : Nat) : Int) - 1)) - s34.1)).toNat * 1)) = some (.float .f64 x44) ∧
          cI_ w42 p1 fun n45 =>
          cS_ w42 (p1.add 1) fun s46a s46l s46c =>
          cS_ w42 (p1.add 2) fun s47a s47l s47c =>
          (0 : Int) ≤ s40.1 ∧ s40.1 < (s15l : Nat) ∧
          optM s15a fun a48 =>
          cF_ w42 (a48.add (s40.1.toNat * 1)) fun x49 =>
          drM w42 fun w50 =>
          CallsX P N.f_solve_below #[.agg #[.int .i64 n45, .slice s46a s46l s46c, .slice s47a s47l s47c], .int .i64 s40.1, .int .i64 (IntKind.i64.wrap ((IntKind.i64.wrap (((s15l : Nat) : Int) - 1)) - s34.1))] w50 fun v52 w51 =>
          ∃ x53, v52 = (.float .f64 x53) ∧
          w51.cell? (a48.add (s40.1.toNat * 1)) = some (.float .f64 x49) ∧
          w51.cell? (a43.add ((IntKind.i64.wrap ((IntKind.i64.wrap (((s15l : Nat) : Int) - 1)) - s34.1)).toNat * 1)) = some (.float .f64 x44) ∧
          fresM (fmul x53 x49) w51 fun x54 w55 =>
          fresM (fsub x44 x54) w51 fun x56 w57 =>
          (0 : Int) ≤ (IntKind.i64.wrap ((IntKind.i64.wrap (((s15l : Nat) : Int) - 1)) - s34.1)) ∧ (IntKind.i64.wrap ((IntKind.i64.wrap (((s15l : Nat) : Int) - 1)) - s34.1)) < (s15l : Nat) ∧
          optM s15a fun a58 =>
          drM w51 fun w59 =>
          stM (a58.add ((IntKind.i64.wrap ((IntKind.i64.wrap (((s15l : Nat) : Int) - 1)) - s34.1)).toNat * 1)) (.float .f64 x56) w59 fun w60 =>
          drM w60 fun w61 =>
          X41 ((IntKind.i64.wrap (s40.1 + 1)), ()) w61)
         (J37 (()) w42))
        ((IntKind.i64.wrap ((IntKind.i64.wrap ((IntKind.i64.wrap (((s15l : Nat) : Int) - 1)) - s34.1)) + 1)), ()) w36)
       (fun s38 w39 =>
        X35 ((IntKind.i64.wrap (s34.1 + 1)), ()) w39))
      (J31 (()) w36))
     (0, ()) w19)
    (fun s32 w33 =>
     K (.tuple #[.slice s15a s15l s15c, .int .i64 0]) w33))))
def S_k_Like (N : Nums) (P : Program) (q0 : Nat) (q1 : Nat) (w : World) (K : Value → World → Prop) : Prop :=
 cond (!(feq q0 q1))
 (cond (!feq q0 q0)
  (K (.bool (!feq q1 q1)) w)
  (K (.bool false) w))
 (K (.bool true) w)
def S_matrix_Right (N : Nums) (P : Program) (q0_0 : Int) (q0_1 : Int) (q0_2 : Option Addr) (q0_2l q0_2c : Nat) (w : World) (K : Value → World → Prop) : Prop :=
 newM #[.int .i64 q0_0, .int .i64 q0_1, .slice q0_2 q0_2l q0_2c] N.t_Matrix w fun p1 w2 =>
 cI_ w2 p1 fun n3 =>
 CallsX P N.f_matrix_fits #[.int .i64 n3] w2 fun v5 w4 =>
 vB_ v5 fun b6 =>
 cond b6
 (cI_ w4 (p1.add 1) fun n7 =>
  CallsX P N.f_matrix_fits #[.int .i64 n7] w4 fun v9 w8 =>
  vB_ v9 fun b10 =>
  cond b10
  (cS_ w8 (p1.add 2) fun s11a s11l s11c =>
   cI_ w8 p1 fun n12 =>
   cI_ w8 (p1.add 1) fun n13 =>
   K (.bool (((s11l : Nat) : Int) == (IntKind.i64.wrap (n12 * n13)))) w8)
  (K (.bool false) w8))
 (K (.bool false) w4)
def S_sums_finite (N : Nums) (P : Program) (q0 : Option Addr) (q0l q0c : Nat) (w : World) (K : Value → World → Prop) : Prop :=
 cutM (σ := Unit) (fun J1 =>
  loopM (σ := Int × Unit) (fun s4 X5 w6 =>
   cond (decide (s4.1 < ((q0l : Nat) : Int)))
   ((0 : Int) ≤ s4.1 ∧ s4.1 < (q0l : Nat) ∧
    optM q0 fun a7 =>
    cF_ w6 (a7.add (s4.1.toNat * 1)) fun x8 =>
    CallsX P N.f_math_IsNaN #[.float .f64 x8] w6 fun v10 w9 =>
    vB_ v10 fun b11 =>
    cond (!b11)
    (CallsX P N.f_math_IsInf #[.float .f64 x8, .int .i64 0] w9 fun v13 w12 =>
     vB_ v13 fun b14 =>
     cond b14
     (K (.bool false) w12)
     (X5 ((IntKind.i64.wrap (s4.1 + 1)), ()) w12))
    (K (.bool false) w9))
   (J1 (()) w6))
  (0, ()) w)
 (fun s2 w3 =>
  K (.bool true) w3)
def S_sums_total (N : Nums) (P : Program) (q0 : Int) (q1 : Value) (w : World) (K : Value → World → Prop) : Prop :=
 newM #[.bool false, .slice none 0 0, .int .i64 0] N.t_Dyad w fun p1 w2 =>
 CallsX P N.f_dyad_Int #[.int .i64 0] w2 fun v4 w3 =>
 ∃ b5, ∃ s6a s6l s6c, ∃ n7, v4 = (.agg #[.bool b5, .slice s6a s6l s6c, .int .i64 n7]) ∧
 newM #[.bool false, .slice none 0 0, .int .i64 0] N.t_Dyad w3 fun p8 w9 =>
 stM p8 (.bool b5) w9 fun w10 =>
 stM (p8.add 1) (.slice s6a s6l s6c) w10 fun w11 =>
 stM (p8.add 2) (.int .i64 n7) w11 fun w12 =>
 cutM (σ := Unit) (fun J13 =>
  loopM (σ := Int × Unit) (fun s16 X17 w18 =>
   cond (decide (s16.1 < q0))
   (cB_ w18 p8 fun b19 =>
    cS_ w18 (p8.add 1) fun s20a s20l s20c =>
    cI_ w18 (p8.add 2) fun n21 =>
    drM w18 fun w22 =>
    fnM q1 fun f25 f25p f25q => CallsX P f25 (f25p.toList ++ (([.int .i64 s16.1] : List Value) ++ f25q.toList)).toArray w22 fun v24 w23 =>
    ∃ b26, ∃ s27a s27l s27c, ∃ n28, v24 = (.agg #[.bool b26, .slice s27a s27l s27c, .int .i64 n28]) ∧
    w23.cell? p8 = some (.bool b19) ∧
    w23.cell? (p8.add 1) = some (.slice s20a s20l s20c) ∧
    w23.cell? (p8.add 2) = some (.int .i64 n21) ∧
    drM w23 fun w29 =>
    CallsX P N.f_dyad_Add #[.agg #[.bool b19, .slice s20a s20l s20c, .int .i64 n21], .agg #[.bool b26, .slice s27a s27l s27c, .int .i64 n28]] w29 fun v31 w30 =>
    ∃ b32, ∃ s33a s33l s33c, ∃ n34, ∃ n35, v31 = (.tuple #[.agg #[.bool b32, .slice s33a s33l s33c, .int .i64 n34], .int .i64 n35]) ∧
    drM w30 fun w36 =>
    stM p8 (.bool b32) w36 fun w37 =>
    stM (p8.add 1) (.slice s33a s33l s33c) w37 fun w38 =>
    stM (p8.add 2) (.int .i64 n34) w38 fun w39 =>
    drM w39 fun w40 =>
    X17 ((IntKind.i64.wrap (s16.1 + 1)), ()) w40)
   (J13 (()) w18))
  (0, ()) w12)
 (fun s14 w15 =>
  cB_ w15 p8 fun b41 =>
  cS_ w15 (p8.add 1) fun s42a s42l s42c =>
  cI_ w15 (p8.add 2) fun n43 =>
  stM p1 (.bool b41) w15 fun w44 =>
  stM (p1.add 1) (.slice s42a s42l s42c) w44 fun w45 =>
  stM (p1.add 2) (.int .i64 n43) w45 fun w46 =>
  cB_ w46 p1 fun b47 =>
  cS_ w46 (p1.add 1) fun s48a s48l s48c =>
  cI_ w46 (p1.add 2) fun n49 =>
  K (.agg #[.bool b47, .slice s48a s48l s48c, .int .i64 n49]) w46)
def S_sums_DotExact_1 (N : Nums) (P : Program) (q0 : Int) (q1 : Option Addr) (q2 : Option Addr) (w : World) (K : Value → World → Prop) : Prop :=
 newM #[.bool false, .slice none 0 0, .int .i64 0] N.t_Dyad w fun p1 w2 =>
 optM q1 fun a3 =>
 cS_ w2 a3 fun s4a s4l s4c =>
 (0 : Int) ≤ q0 ∧ q0 < (s4l : Nat) ∧
 optM s4a fun a5 =>
 cF_ w2 (a5.add (q0.toNat * 1)) fun x6 =>
 CallsX P N.f_dyad_Of #[.float .f64 x6] w2 fun v8 w7 =>
 ∃ b9, ∃ s10a s10l s10c, ∃ n11, ∃ n12, v8 = (.tuple #[.agg #[.bool b9, .slice s10a s10l s10c, .int .i64 n11], .int .i64 n12]) ∧
 newM #[.bool false, .slice none 0 0, .int .i64 0] N.t_Dyad w7 fun p13 w14 =>
 stM p13 (.bool b9) w14 fun w15 =>
 stM (p13.add 1) (.slice s10a s10l s10c) w15 fun w16 =>
 stM (p13.add 2) (.int .i64 n11) w16 fun w17 =>
 optM q2 fun a18 =>
 cS_ w17 a18 fun s19a s19l s19c =>
 (0 : Int) ≤ q0 ∧ q0 < (s19l : Nat) ∧
 optM s19a fun a20 =>
 cF_ w17 (a20.add (q0.toNat * 1)) fun x21 =>
 CallsX P N.f_dyad_Of #[.float .f64 x21] w17 fun v23 w22 =>
 ∃ b24, ∃ s25a s25l s25c, ∃ n26, ∃ n27, v23 = (.tuple #[.agg #[.bool b24, .slice s25a s25l s25c, .int .i64 n26], .int .i64 n27]) ∧
 newM #[.bool false, .slice none 0 0, .int .i64 0] N.t_Dyad w22 fun p28 w29 =>
 stM p28 (.bool b24) w29 fun w30 =>
 stM (p28.add 1) (.slice s25a s25l s25c) w30 fun w31 =>
 stM (p28.add 2) (.int .i64 n26) w31 fun w32 =>
 cB_ w32 p13 fun b33 =>
 cS_ w32 (p13.add 1) fun s34a s34l s34c =>
 cI_ w32 (p13.add 2) fun n35 =>
 cB_ w32 p28 fun b36 =>
 cS_ w32 (p28.add 1) fun s37a s37l s37c =>
 cI_ w32 (p28.add 2) fun n38 =>
 CallsX P N.f_dyad_Mul #[.agg #[.bool b33, .slice s34a s34l s34c, .int .i64 n35], .agg #[.bool b36, .slice s37a s37l s37c, .int .i64 n38]] w32 fun v40 w39 =>
 ∃ b41, ∃ s42a s42l s42c, ∃ n43, ∃ n44, v40 = (.tuple #[.agg #[.bool b41, .slice s42a s42l s42c, .int .i64 n43], .int .i64 n44]) ∧
 newM #[.bool false, .slice none 0 0, .int .i64 0] N.t_Dyad w39 fun p45 w46 =>
 stM p45 (.bool b41) w46 fun w47 =>
 stM (p45.add 1) (.slice s42a s42l s42c) w47 fun w48 =>
 stM (p45.add 2) (.int .i64 n43) w48 fun w49 =>
 cB_ w49 p45 fun b50 =>
 cS_ w49 (p45.add 1) fun s51a s51l s51c =>
 cI_ w49 (p45.add 2) fun n52 =>
 stM p1 (.bool b50) w49 fun w53 =>
 stM (p1.add 1) (.slice s51a s51l s51c) w53 fun w54 =>
 stM (p1.add 2) (.int .i64 n52) w54 fun w55 =>
 cB_ w55 p1 fun b56 =>
 cS_ w55 (p1.add 1) fun s57a s57l s57c =>
 cI_ w55 (p1.add 2) fun n58 =>
 K (.agg #[.bool b56, .slice s57a s57l s57c, .int .i64 n58]) w55
def S_dyad_Of (N : Nums) (P : Program) (q0 : Nat) (w : World) (K : Value → World → Prop) : Prop :=
 newM #[.bool false, .slice none 0 0, .int .i64 0] N.t_Dyad w fun p1 w2 =>
 CallsX P N.f_bits_Split #[.float .f64 q0] w2 fun v4 w3 =>
 ∃ b5, ∃ n6, ∃ n7, ∃ b8, v4 = (.tuple #[.agg #[.bool b5, .int .u64 n6, .int .i64 n7], .bool b8]) ∧
 newM #[.bool false, .int .u64 0, .int .i64 0] N.t_Parts w3 fun p9 w10 =>
 stM p9 (.bool b5) w10 fun w11 =>
 stM (p9.add 1) (.int .u64 n6) w11 fun w12 =>
 stM (p9.add 2) (.int .i64 n7) w12 fun w13 =>
 cond (!b8)
 (stM p1 (.bool false) w13 fun w14 =>
  stM (p1.add 1) (.slice none 0 0) w14 fun w15 =>
  stM (p1.add 2) (.int .i64 0) w15 fun w16 =>
  cB_ w16 p1 fun b17 =>
  cS_ w16 (p1.add 1) fun s18a s18l s18c =>
  cI_ w16 (p1.add 2) fun n19 =>
  K (.tuple #[.agg #[.bool b17, .slice s18a s18l s18c, .int .i64 n19], .int .i64 5]) w16)
 (cU_ w13 (p9.add 1) fun n20 =>
  cond (n20 == 0)
  (stM p1 (.bool false) w13 fun w21 =>
   stM (p1.add 1) (.slice none 0 0) w21 fun w22 =>
   stM (p1.add 2) (.int .i64 0) w22 fun w23 =>
   cB_ w23 p1 fun b24 =>
   cS_ w23 (p1.add 1) fun s25a s25l s25c =>
   cI_ w23 (p1.add 2) fun n26 =>
   K (.tuple #[.agg #[.bool b24, .slice s25a s25l s25c, .int .i64 n26], .int .i64 0]) w23)
  (cB_ w13 p9 fun b27 =>
   cU_ w13 (p9.add 1) fun n28 =>
   newM #[.int .u64 n28] N.t_uint64 w13 fun p29 w30 =>
   cI_ w30 (p9.add 2) fun n31 =>
   stM p1 (.bool b27) w30 fun w32 =>
   stM (p1.add 1) (.slice (some p29) 1 1) w32 fun w33 =>
   stM (p1.add 2) (.int .i64 n31) w33 fun w34 =>
   cB_ w34 p1 fun b35 =>
   cS_ w34 (p1.add 1) fun s36a s36l s36c =>
   cI_ w34 (p1.add 2) fun n37 =>
   K (.tuple #[.agg #[.bool b35, .slice s36a s36l s36c, .int .i64 n37], .int .i64 0]) w34))
def S_dyad_Mul (N : Nums) (P : Program) (q0_0 : Bool) (q0_1 : Option Addr) (q0_1l q0_1c : Nat) (q0_2 : Int) (q1_0 : Bool) (q1_1 : Option Addr) (q1_1l q1_1c : Nat) (q1_2 : Int) (w : World) (K : Value → World → Prop) : Prop :=
 newM #[.bool q0_0, .slice q0_1 q0_1l q0_1c, .int .i64 q0_2] N.t_Dyad w fun p1 w2 =>
 newM #[.bool q1_0, .slice q1_1 q1_1l q1_1c, .int .i64 q1_2] N.t_Dyad w2 fun p3 w4 =>
 newM #[.bool false, .slice none 0 0, .int .i64 0] N.t_Dyad w4 fun p5 w6 =>
 cB_ w6 p1 fun b7 =>
 cS_ w6 (p1.add 1) fun s8a s8l s8c =>
 cI_ w6 (p1.add 2) fun n9 =>
 cB_ w6 p3 fun b10 =>
 cS_ w6 (p3.add 1) fun s11a s11l s11c =>
 cI_ w6 (p3.add 2) fun n12 =>
 CallsX P N.f_dyad_both #[.agg #[.bool b7, .slice s8a s8l s8c, .int .i64 n9], .agg #[.bool b10, .slice s11a s11l s11c, .int .i64 n12]] w6 fun v14 w13 =>
 vB_ v14 fun b15 =>
 cond (!b15)
 (stM p5 (.bool false) w13 fun w16 =>
  stM (p5.add 1) (.slice none 0 0) w16 fun w17 =>
  stM (p5.add 2) (.int .i64 0) w17 fun w18 =>
  cB_ w18 p5 fun b19 =>
  cS_ w18 (p5.add 1) fun s20a s20l s20c =>
  cI_ w18 (p5.add 2) fun n21 =>
  K (.tuple #[.agg #[.bool b19, .slice s20a s20l s20c, .int .i64 n21], .int .i64 2]) w18)
 (cB_ w13 p1 fun b22 =>
  cS_ w13 (p1.add 1) fun s23a s23l s23c =>
  cI_ w13 (p1.add 2) fun n24 =>
  CallsX P N.f_dyad_whole #[.agg #[.bool b22, .slice s23a s23l s23c, .int .i64 n24]] w13 fun v26 w25 =>
  ∃ p27 : (Option Addr), v26 = (.pointer p27) ∧
  cB_ w25 p3 fun b28 =>
  cS_ w25 (p3.add 1) fun s29a s29l s29c =>
  cI_ w25 (p3.add 2) fun n30 =>
  cI_ w25 (p1.add 2) fun n31 =>
  cI_ w25 (p3.add 2) fun n32 =>
  drM w25 fun w33 =>
  CallsX P N.f_dyad_whole #[.agg #[.bool b28, .slice s29a s29l s29c, .int .i64 n30]] w33 fun v35 w34 =>
  ∃ p36 : (Option Addr), v35 = (.pointer p36) ∧
  w34.cell? (p3.add 2) = some (.int .i64 n32) ∧
  w34.cell? (p1.add 2) = some (.int .i64 n31) ∧
  drM w34 fun w37 =>
  CallsX P N.f_bI_Mul #[.pointer p27, .pointer p27, .pointer p36] w37 fun v39 w38 =>
  ∃ p40 : (Option Addr), v39 = (.pointer p40) ∧
  w38.cell? (p3.add 2) = some (.int .i64 n32) ∧
  w38.cell? (p1.add 2) = some (.int .i64 n31) ∧
  drM w38 fun w41 =>
  CallsX P N.f_dyad_made #[.pointer p40, .int .i64 (IntKind.i64.wrap (n31 + n32))] w41 fun v43 w42 =>
  ∃ b44, ∃ s45a s45l s45c, ∃ n46, ∃ n47, v43 = (.tuple #[.agg #[.bool b44, .slice s45a s45l s45c, .int .i64 n46], .int .i64 n47]) ∧
  drM w42 fun w48 =>
  stM p5 (.bool b44) w48 fun w49 =>
  stM (p5.add 1) (.slice s45a s45l s45c) w49 fun w50 =>
  stM (p5.add 2) (.int .i64 n46) w50 fun w51 =>
  drM w51 fun w52 =>
  cB_ w52 p5 fun b53 =>
  cS_ w52 (p5.add 1) fun s54a s54l s54c =>
  cI_ w52 (p5.add 2) fun n55 =>
  K (.tuple #[.agg #[.bool b53, .slice s54a s54l s54c, .int .i64 n55], .int .i64 n47]) w52)
def S_dyad_Round (N : Nums) (P : Program) (q0_0 : Bool) (q0_1 : Option Addr) (q0_1l q0_1c : Nat) (q0_2 : Int) (q1 : Int) (w : World) (K : Value → World → Prop) : Prop :=
 newM #[.bool q0_0, .slice q0_1 q0_1l q0_1c, .int .i64 q0_2] N.t_Dyad w fun p1 w2 =>
 cB_ w2 p1 fun b3 =>
 cS_ w2 (p1.add 1) fun s4a s4l s4c =>
 cI_ w2 (p1.add 2) fun n5 =>
 CallsX P N.f_dyad_Right #[.agg #[.bool b3, .slice s4a s4l s4c, .int .i64 n5]] w2 fun v7 w6 =>
 vB_ v7 fun b8 =>
 cond (!b8)
 (K (.tuple #[.float .f64 0, .int .i64 2]) w6)
 (cS_ w6 (p1.add 1) fun s9a s9l s9c =>
  cond (((s9l : Nat) : Int) == 0)
  (K (.tuple #[.float .f64 0, .int .i64 0]) w6)
  (cB_ w6 p1 fun b10 =>
   cS_ w6 (p1.add 1) fun s11a s11l s11c =>
   cI_ w6 (p1.add 2) fun n12 =>
   CallsX P N.f_dyad_whole #[.agg #[.bool b10, .slice s11a s11l s11c, .int .i64 n12]] w6 fun v14 w13 =>
   ∃ p15 : (Option Addr), v14 = (.pointer p15) ∧
   CallsX P N.f_bI_Abs #[.pointer p15, .pointer p15] w13 fun v17 w16 =>
   ∃ p18 : (Option Addr), v17 = (.pointer p18) ∧
   cB_ w16 p1 fun b19 =>
   cS_ w16 (p1.add 1) fun s20a s20l s20c =>
   cI_ w16 (p1.add 2) fun n21 =>
   CallsX P N.f_dyad_top #[.agg #[.bool b19, .slice s20a s20l s20c, .int .i64 n21]] w16 fun v23 w22 =>
   ∃ n24, v23 = (.int .i64 n24) ∧
   cI_ w22 (p1.add 2) fun n25 =>
   cutM (σ := Int × Unit) (fun J26 =>
    cond (decide ((IntKind.i64.wrap ((if (-1074) > (IntKind.i64.wrap (n24 - 53)) then (-1074) else (IntKind.i64.wrap (n24 - 53))) - n25)) ≤ 0))
    (newM #[.bool false, .slice none 0 0] N.t_bn_Int w22 fun p29 w30 =>
     CallsX P N.f_bI_Lsh #[.pointer (some p29), .pointer p15, .int .u64 (IntKind.u64.wrap (IntKind.i64.wrap (0 - (IntKind.i64.wrap ((if (-1074) > (IntKind.i64.wrap (n24 - 53)) then (-1074) else (IntKind.i64.wrap (n24 - 53))) - n25)))))] w30 fun v32 w31 =>
     ∃ p33 : (Option Addr), v32 = (.pointer p33) ∧
     CallsX P N.f_bI_Uint64 #[.pointer p33] w31 fun v35 w34 =>
     ∃ n36, v35 = (.int .u64 n36) ∧
     J26 (n36, ()) w34)
    (newM #[.bool false, .slice none 0 0] N.t_bn_Int w22 fun p37 w38 =>
     CallsX P N.f_bI_Rsh #[.pointer (some p37), .pointer p15, .int .u64 (IntKind.u64.wrap (IntKind.i64.wrap ((if (-1074) > (IntKind.i64.wrap (n24 - 53)) then (-1074) else (IntKind.i64.wrap (n24 - 53))) - n25)))] w38 fun v40 w39 =>
     ∃ p41 : (Option Addr), v40 = (.pointer p41) ∧
     CallsX P N.f_bI_Uint64 #[.pointer p41] w39 fun v43 w42 =>
     ∃ n44, v43 = (.int .u64 n44) ∧
     CallsX P N.f_bI_Lsh #[.pointer p41, .pointer p41, .int .u64 (IntKind.u64.wrap (IntKind.i64.wrap ((if (-1074) > (IntKind.i64.wrap (n24 - 53)) then (-1074) else (IntKind.i64.wrap (n24 - 53))) - n25)))] w42 fun v46 w45 =>
     ∃ p47 : (Option Addr), v46 = (.pointer p47) ∧
     CallsX P N.f_bI_Sub #[.pointer p15, .pointer p15, .pointer p47] w45 fun v49 w48 =>
     ∃ p50 : (Option Addr), v49 = (.pointer p50) ∧
     newM #[.bool false, .slice none 0 0] N.t_bn_Int w48 fun p51 w52 =>
     CallsX P N.f_bn_NewInt #[.int .i64 1] w52 fun v54 w53 =>
     ∃ p55 : (Option Addr), v54 = (.pointer p55) ∧
     CallsX P N.f_bI_Lsh #[.pointer (some p51), .pointer p55, .int .u64 (IntKind.u64.wrap (IntKind.i64.wrap ((IntKind.i64.wrap ((if (-1074) > (IntKind.i64.wrap (n24 - 53)) then (-1074) else (IntKind.i64.wrap (n24 - 53))) - n25)) - 1)))] w53 fun v57 w56 =>
     ∃ p58 : (Option Addr), v57 = (.pointer p58) ∧
     CallsX P N.f_bI_Cmp #[.pointer p50, .pointer p58] w56 fun v60 w59 =>
     ∃ n61, v60 = (.int .i64 n61) ∧
     CallsX P N.f_bI_Sign #[.pointer p50] w59 fun v63 w62 =>
     ∃ n64, v63 = (.int .i64 n64) ∧
     cond (decide (n64 > 0))
     (cB_ w62 p1 fun b65 =>
      CallsX P N.f_dyad_away #[.int .i8 q1, .bool b65, .int .i64 n61, .bool ((IntKind.u64.wrap (BitVec.ofInt IntKind.u64.bits n44 &&& BitVec.ofInt IntKind.u64.bits 1).toNat) == 1)] w62 fun v67 w66 =>
      vB_ v67 fun b68 =>
      cutM (σ := Int × Unit) (fun J69 =>
       cond b68
       (J69 ((IntKind.u64.wrap (n44 + 1)), ()) w66)
       (J69 (n44, ()) w66))
      (fun s70 w71 =>
       J26 (s70.1, ()) w71))
     (cutM (σ := Int × Unit) (fun J72 =>
       J72 (n44, ()) w62)
      (fun s73 w74 =>
       J26 (s73.1, ()) w74))))
   (fun s27 w28 =>
    cB_ w28 p1 fun b75 =>
    CallsX P N.f_dyad_float #[.bool b75, .int .u64 s27.1, .int .i64 (if (-1074) > (IntKind.i64.wrap (n24 - 53)) then (-1074) else (IntKind.i64.wrap (n24 - 53))), .int .i8 q1] w28 fun v77 w76 =>
    ∃ x78, v77 = (.float .f64 x78) ∧
    K (.tuple #[.float .f64 x78, .int .i64 0]) w76)))
def S_r10_Right (N : Nums) (P : Program) (q0_0 : Int) (q0_1 : Int) (q0_2 : Option Addr) (q0_2l q0_2c : Nat) (w : World) (K : Value → World → Prop) : Prop :=
 newM #[.int .i64 q0_0, .int .i64 q0_1, .slice q0_2 q0_2l q0_2c] N.t_Matrix w fun p1 w2 =>
 cI_ w2 p1 fun n3 =>
 CallsX P N.f_r10_may #[.int .i64 n3] w2 fun v5 w4 =>
 vB_ v5 fun b6 =>
 cond b6
 (cI_ w4 (p1.add 1) fun n7 =>
  CallsX P N.f_r10_may #[.int .i64 n7] w4 fun v9 w8 =>
  vB_ v9 fun b10 =>
  cond b10
  (cS_ w8 (p1.add 2) fun s11a s11l s11c =>
   cI_ w8 p1 fun n12 =>
   cI_ w8 (p1.add 1) fun n13 =>
   K (.bool (((s11l : Nat) : Int) == (IntKind.i64.wrap (n12 * n13)))) w8)
  (K (.bool false) w8))
 (K (.bool false) w4)
def S_r01_Split (N : Nums) (P : Program) (q0 : Nat) (w : World) (K : Value → World → Prop) : Prop :=
 newM #[.bool false, .int .u64 0, .int .i64 0] N.t_Parts w fun p1 w2 =>
 CallsX P N.f_r01_Finite #[.float .f64 q0] w2 fun v4 w3 =>
 vB_ v4 fun b5 =>
 cond (!b5)
 (stM p1 (.bool false) w3 fun w6 =>
  stM (p1.add 1) (.int .u64 0) w6 fun w7 =>
  stM (p1.add 2) (.int .i64 0) w7 fun w8 =>
  cB_ w8 p1 fun b9 =>
  cU_ w8 (p1.add 1) fun n10 =>
  cI_ w8 (p1.add 2) fun n11 =>
  K (.tuple #[.agg #[.bool b9, .int .u64 n10, .int .i64 n11], .bool false]) w8)
 (CallsX P N.f_r01_fields #[.float .f64 q0] w3 fun v13 w12 =>
  ∃ b14, ∃ n15, ∃ n16, v13 = (.tuple #[.bool b14, .int .i64 n15, .int .u64 n16]) ∧
  newM #[.bool false, .int .u64 0, .int .i64 0] N.t_Parts w12 fun p17 w18 =>
  stM p17 (.bool b14) w18 fun w19 =>
  stM (p17.add 1) (.int .u64 n16) w19 fun w20 =>
  stM (p17.add 2) (.int .i64 (-1074)) w20 fun w21 =>
  cutM (σ := Unit) (fun J22 =>
   cond (decide (n15 > 0))
   (stM (p17.add 1) (.int .u64 (IntKind.u64.wrap (n16 + 4503599627370496))) w21 fun w25 =>
    stM (p17.add 2) (.int .i64 (IntKind.i64.wrap (n15 - 1075))) w25 fun w26 =>
    J22 (()) w26)
   (J22 (()) w21))
  (fun s23 w24 =>
   cU_ w24 (p17.add 1) fun n27 =>
   cutM (σ := Unit) (fun J28 =>
    cond (n27 == 0)
    (stM (p17.add 2) (.int .i64 0) w24 fun w31 =>
     J28 (()) w31)
    (J28 (()) w24))
   (fun s29 w30 =>
    cutM (σ := Unit) (fun J32 =>
     loopM (σ := Unit) (fun s35 X36 w37 =>
      cU_ w37 (p17.add 1) fun n38 =>
      cond (n38 != 0)
      (cU_ w37 (p17.add 1) fun n39 =>
       (2 : Int) ≠ 0 ∧
       cond ((n39.tmod 2) == 0)
       (cU_ w37 (p17.add 1) fun n40 =>
        (2 : Int) ≠ 0 ∧
        stM (p17.add 1) (.int .u64 (IntKind.u64.wrap (n40.tdiv 2))) w37 fun w41 =>
        cI_ w41 (p17.add 2) fun n42 =>
        stM (p17.add 2) (.int .i64 (IntKind.i64.wrap (n42 + 1))) w41 fun w43 =>
        X36 (()) w43)
       (J32 (()) w37))
      (J32 (()) w37))
     (()) w30)
    (fun s33 w34 =>
     cB_ w34 p17 fun b44 =>
     cU_ w34 (p17.add 1) fun n45 =>
     cI_ w34 (p17.add 2) fun n46 =>
     stM p1 (.bool b44) w34 fun w47 =>
     stM (p1.add 1) (.int .u64 n45) w47 fun w48 =>
     stM (p1.add 2) (.int .i64 n46) w48 fun w49 =>
     cB_ w49 p1 fun b50 =>
     cU_ w49 (p1.add 1) fun n51 =>
     cI_ w49 (p1.add 2) fun n52 =>
     K (.tuple #[.agg #[.bool b50, .int .u64 n51, .int .i64 n52], .bool true]) w49))))
def S_r02_NatOf (N : Nums) (P : Program) (q0 : Int) (w : World) (K : Value → World → Prop) : Prop :=
 newM #[.int .u64 q0] N.t_uint64 w fun p1 w2 =>
 CallsX P N.f_r02_NatTrim #[.slice (some p1) 1 1] w2 fun v4 w3 =>
 vS_ v4 fun s5a s5l s5c =>
 K (.slice s5a s5l s5c) w3
def S_r02_NatMul (N : Nums) (P : Program) (q0 : Option Addr) (q0l q0c : Nat) (q1 : Option Addr) (q1l q1c : Nat) (w : World) (K : Value → World → Prop) : Prop :=
 CallsX P N.f_r02_halves #[.slice q0 q0l q0c] w fun v2 w1 =>
 vS_ v2 fun s3a s3l s3c =>
 CallsX P N.f_r02_halves #[.slice q1 q1l q1c] w1 fun v5 w4 =>
 vS_ v5 fun s6a s6l s6c =>
 CallsX P N.f_r02_product #[.slice s3a s3l s3c, .slice s6a s6l s6c] w4 fun v8 w7 =>
 vS_ v8 fun s9a s9l s9c =>
 CallsX P N.f_r02_limbs #[.slice s9a s9l s9c] w7 fun v11 w10 =>
 vS_ v11 fun s12a s12l s12c =>
 K (.slice s12a s12l s12c) w10
def S_r02_Num_Zero (N : Nums) (P : Program) (q0_0 : Bool) (q0_1 : Option Addr) (q0_1l q0_1c : Nat) (q0_2 : Int) (w : World) (K : Value → World → Prop) : Prop :=
 newM #[.bool q0_0, .slice q0_1 q0_1l q0_1c, .int .i64 q0_2] N.t_r02_Num w fun p1 w2 =>
 cS_ w2 (p1.add 1) fun s3a s3l s3c =>
 CallsX P N.f_r02_NatBits #[.slice s3a s3l s3c] w2 fun v5 w4 =>
 ∃ n6, v5 = (.int .i64 n6) ∧
 K (.bool (n6 == 0)) w4
def S_r02_NatUp (N : Nums) (P : Program) (q0 : Option Addr) (q0l q0c : Nat) (q1 : Int) (w : World) (K : Value → World → Prop) : Prop :=
 CallsX P N.f_r02_halves #[.slice q0 q0l q0c] w fun v2 w1 =>
 vS_ v2 fun s3a s3l s3c =>
 cond (((s3l : Nat) : Int) == 0)
 (K (.slice none 0 0) w1)
 ((32 : Int) ≠ 0 ∧
  mkM N.t_uint64 1 8 #[.int .u64 0] (IntKind.i64.wrap (q1.tdiv 32)) (IntKind.i64.wrap (q1.tdiv 32)) w1 fun p4 w5 =>
  cutM (σ := Int × Unit) (fun J6 =>
   loopM (σ := Int × Int × Unit) (fun s9 X10 w11 =>
    (32 : Int) ≠ 0 ∧
    cond (decide (s9.2.1 < (q1.tmod 32)))
    (X10 ((IntKind.u64.wrap (2 * s9.1)), (IntKind.i64.wrap (s9.2.1 + 1)), ()) w11)
    (J6 (s9.1, ()) w11))
   (1, 0, ()) w5)
  (fun s7 w8 =>
   cutM (σ := (Option Addr × Nat × Nat) × Int × Unit) (fun J12 =>
    loopM (σ := (Option Addr × Nat × Nat) × Int × Int × Unit) (fun s15 X16 w17 =>
     cond (decide (s15.2.2.1 < ((s3l : Nat) : Int)))
     ((0 : Int) ≤ s15.2.2.1 ∧ s15.2.2.1 < (s3l : Nat) ∧
      optM s3a fun a18 =>
      cU_ w17 (a18.add (s15.2.2.1.toNat * 1)) fun n19 =>
      (4294967296 : Int) ≠ 0 ∧
      newM #[.int .u64 ((IntKind.u64.wrap ((IntKind.u64.wrap (n19 * s7.1)) + s15.2.1)).tmod 4294967296)] N.t_uint64 w17 fun p20 w21 =>
      appM N.t_uint64 1 8 #[.int .u64 0] s15.1.1 s15.1.2.1 s15.1.2.2 (some p20) 1 w21 fun s22a s22l s22c w23 =>
      (4294967296 : Int) ≠ 0 ∧
      X16 ((s22a, s22l, s22c), (IntKind.u64.wrap ((IntKind.u64.wrap ((IntKind.u64.wrap (n19 * s7.1)) + s15.2.1)).tdiv 4294967296)), (IntKind.i64.wrap (s15.2.2.1 + 1)), ()) w23)
     (J12 ((s15.1.1, s15.1.2.1, s15.1.2.2), s15.2.1, ()) w17))
    (((some p4), (IntKind.i64.wrap (q1.tdiv 32)).toNat, (IntKind.i64.wrap (q1.tdiv 32)).toNat), 0, 0, ()) w8)
   (fun s13 w14 =>
    newM #[.int .u64 s13.2.1] N.t_uint64 w14 fun p24 w25 =>
    appM N.t_uint64 1 8 #[.int .u64 0] s13.1.1 s13.1.2.1 s13.1.2.2 (some p24) 1 w25 fun s26a s26l s26c w27 =>
    CallsX P N.f_r02_limbs #[.slice s26a s26l s26c] w27 fun v29 w28 =>
    vS_ v29 fun s30a s30l s30c =>
    K (.slice s30a s30l s30c) w28)))
def S_r02_NatAdd (N : Nums) (P : Program) (q0 : Option Addr) (q0l q0c : Nat) (q1 : Option Addr) (q1l q1c : Nat) (w : World) (K : Value → World → Prop) : Prop :=
 CallsX P N.f_r02_halves #[.slice q0 q0l q0c] w fun v2 w1 =>
 vS_ v2 fun s3a s3l s3c =>
 CallsX P N.f_r02_halves #[.slice q1 q1l q1c] w1 fun v5 w4 =>
 vS_ v5 fun s6a s6l s6c =>
 cutM (σ := (Option Addr × Nat × Nat) × Unit) (fun J7 =>
  loopM (σ := (Option Addr × Nat × Nat) × Int × Int × Unit) (fun s10 X11 w12 =>
   cutM (σ := Bool × Unit) (fun J13 =>
    cond (!(decide (s10.2.2.1 < ((s3l : Nat) : Int))))
    (cond (!(decide (s10.2.2.1 < ((s6l : Nat) : Int))))
     (J13 ((decide (s10.2.1 > 0)), ()) w12)
     (J13 (true, ()) w12))
    (J13 (true, ()) w12))
   (fun s14 w15 =>
    cond s14.1
    (CallsX P N.f_r02_digit #[.slice s3a s3l s3c, .int .i64 s10.2.2.1] w15 fun v17 w16 =>
     ∃ n18, v17 = (.int .u64 n18) ∧
     CallsX P N.f_r02_digit #[.slice s6a s6l s6c, .int .i64 s10.2.2.1] w16 fun v20 w19 =>
     ∃ n21, v20 = (.int .u64 n21) ∧
     (4294967296 : Int) ≠ 0 ∧
     newM #[.int .u64 ((IntKind.u64.wrap ((IntKind.u64.wrap (n18 + n21)) + s10.2.1)).tmod 4294967296)] N.t_uint64 w19 fun p22 w23 =>
     appM N.t_uint64 1 8 #[.int .u64 0] s10.1.1 s10.1.2.1 s10.1.2.2 (some p22) 1 w23 fun s24a s24l s24c w25 =>
     (4294967296 : Int) ≠ 0 ∧
     X11 ((s24a, s24l, s24c), (IntKind.u64.wrap ((IntKind.u64.wrap ((IntKind.u64.wrap (n18 + n21)) + s10.2.1)).tdiv 4294967296)), (IntKind.i64.wrap (s10.2.2.1 + 1)), ()) w25)
    (J7 ((s10.1.1, s10.1.2.1, s10.1.2.2), ()) w15)))
  ((none, 0, 0), 0, 0, ()) w4)
 (fun s8 w9 =>
  CallsX P N.f_r02_limbs #[.slice s8.1.1 s8.1.2.1 s8.1.2.2] w9 fun v27 w26 =>
  vS_ v27 fun s28a s28l s28c =>
  K (.slice s28a s28l s28c) w26)
def S_r02_NatCmp (N : Nums) (P : Program) (q0 : Option Addr) (q0l q0c : Nat) (q1 : Option Addr) (q1l q1c : Nat) (w : World) (K : Value → World → Prop) : Prop :=
 CallsX P N.f_r02_NatTrim #[.slice q0 q0l q0c] w fun v2 w1 =>
 vS_ v2 fun s3a s3l s3c =>
 CallsX P N.f_r02_NatTrim #[.slice q1 q1l q1c] w1 fun v5 w4 =>
 vS_ v5 fun s6a s6l s6c =>
 cond (((s3l : Nat) : Int) != ((s6l : Nat) : Int))
 (cond (decide (((s3l : Nat) : Int) < ((s6l : Nat) : Int)))
  (K (.int .i64 (-1)) w4)
  (K (.int .i64 1) w4))
 (cutM (σ := Unit) (fun J7 =>
   loopM (σ := Int × Unit) (fun s10 X11 w12 =>
    cond (decide (s10.1 ≥ 0))
    ((0 : Int) ≤ s10.1 ∧ s10.1 < (s3l : Nat) ∧
     optM s3a fun a13 =>
     cU_ w12 (a13.add (s10.1.toNat * 1)) fun n14 =>
     (0 : Int) ≤ s10.1 ∧ s10.1 < (s6l : Nat) ∧
     optM s6a fun a15 =>
     cU_ w12 (a15.add (s10.1.toNat * 1)) fun n16 =>
     drM w12 fun w17 =>
     cond (decide (n14 < n16))
     (K (.int .i64 (-1)) w17)
     ((0 : Int) ≤ s10.1 ∧ s10.1 < (s3l : Nat) ∧
      optM s3a fun a18 =>
      cU_ w17 (a18.add (s10.1.toNat * 1)) fun n19 =>
      (0 : Int) ≤ s10.1 ∧ s10.1 < (s6l : Nat) ∧
      optM s6a fun a20 =>
      cU_ w17 (a20.add (s10.1.toNat * 1)) fun n21 =>
      drM w17 fun w22 =>
      cond (decide (n19 > n21))
      (K (.int .i64 1) w22)
      (X11 ((IntKind.i64.wrap (s10.1 - 1)), ()) w22)))
    (J7 (()) w12))
   ((IntKind.i64.wrap (((s3l : Nat) : Int) - 1)), ()) w4)
  (fun s8 w9 =>
   K (.int .i64 0) w9))
def S_r02_NatSub (N : Nums) (P : Program) (q0 : Option Addr) (q0l q0c : Nat) (q1 : Option Addr) (q1l q1c : Nat) (w : World) (K : Value → World → Prop) : Prop :=
 CallsX P N.f_r02_halves #[.slice q0 q0l q0c] w fun v2 w1 =>
 vS_ v2 fun s3a s3l s3c =>
 CallsX P N.f_r02_halves #[.slice q1 q1l q1c] w1 fun v5 w4 =>
 vS_ v5 fun s6a s6l s6c =>
 cutM (σ := (Option Addr × Nat × Nat) × Unit) (fun J7 =>
  loopM (σ := (Option Addr × Nat × Nat) × Int × Int × Unit) (fun s10 X11 w12 =>
   cond (decide (s10.2.2.1 < ((s3l : Nat) : Int)))
   ((0 : Int) ≤ s10.2.2.1 ∧ s10.2.2.1 < (s3l : Nat) ∧
    optM s3a fun a13 =>
    cU_ w12 (a13.add (s10.2.2.1.toNat * 1)) fun n14 =>
    drM w12 fun w15 =>
    CallsX P N.f_r02_digit #[.slice s6a s6l s6c, .int .i64 s10.2.2.1] w15 fun v17 w16 =>
    ∃ n18, v17 = (.int .u64 n18) ∧
    w16.cell? (a13.add (s10.2.2.1.toNat * 1)) = some (.int .u64 n14) ∧
    drM w16 fun w19 =>
    (4294967296 : Int) ≠ 0 ∧
    newM #[.int .u64 ((IntKind.u64.wrap ((IntKind.u64.wrap ((IntKind.u64.wrap (4294967296 + n14)) - n18)) - s10.2.1)).tmod 4294967296)] N.t_uint64 w19 fun p20 w21 =>
    appM N.t_uint64 1 8 #[.int .u64 0] s10.1.1 s10.1.2.1 s10.1.2.2 (some p20) 1 w21 fun s22a s22l s22c w23 =>
    (4294967296 : Int) ≠ 0 ∧
    X11 ((s22a, s22l, s22c), (IntKind.u64.wrap (1 - (IntKind.u64.wrap ((IntKind.u64.wrap ((IntKind.u64.wrap ((IntKind.u64.wrap (4294967296 + n14)) - n18)) - s10.2.1)).tdiv 4294967296)))), (IntKind.i64.wrap (s10.2.2.1 + 1)), ()) w23)
   (J7 ((s10.1.1, s10.1.2.1, s10.1.2.2), ()) w12))
  ((none, 0, 0), 0, 0, ()) w4)
 (fun s8 w9 =>
  CallsX P N.f_r02_limbs #[.slice s8.1.1 s8.1.2.1 s8.1.2.2] w9 fun v25 w24 =>
  vS_ v25 fun s26a s26l s26c =>
  K (.slice s26a s26l s26c) w24)
def S_r02_Num_top (N : Nums) (P : Program) (q0_0 : Bool) (q0_1 : Option Addr) (q0_1l q0_1c : Nat) (q0_2 : Int) (w : World) (K : Value → World → Prop) : Prop :=
 newM #[.bool q0_0, .slice q0_1 q0_1l q0_1c, .int .i64 q0_2] N.t_r02_Num w fun p1 w2 =>
 cI_ w2 (p1.add 2) fun n3 =>
 cS_ w2 (p1.add 1) fun s4a s4l s4c =>
 drM w2 fun w5 =>
 CallsX P N.f_r02_NatBits #[.slice s4a s4l s4c] w5 fun v7 w6 =>
 ∃ n8, v7 = (.int .i64 n8) ∧
 w6.cell? (p1.add 2) = some (.int .i64 n3) ∧
 drM w6 fun w9 =>
 K (.int .i64 (IntKind.i64.wrap (n3 + n8))) w9
def S_r02_NatDown (N : Nums) (P : Program) (q0 : Option Addr) (q0l q0c : Nat) (q1 : Int) (w : World) (K : Value → World → Prop) : Prop :=
 CallsX P N.f_r02_halves #[.slice q0 q0l q0c] w fun v2 w1 =>
 vS_ v2 fun s3a s3l s3c =>
 cutM (σ := Bool × Unit) (fun J4 =>
  loopM (σ := Bool × Int × Unit) (fun s7 X8 w9 =>
   (32 : Int) ≠ 0 ∧
   cond (decide (s7.2.1 < (IntKind.i64.wrap (q1.tdiv 32))))
   (cond (decide (s7.2.1 < ((s3l : Nat) : Int)))
    (cond (!s7.1)
     ((0 : Int) ≤ s7.2.1 ∧ s7.2.1 < (s3l : Nat) ∧
      optM s3a fun a10 =>
      cU_ w9 (a10.add (s7.2.1.toNat * 1)) fun n11 =>
      X8 ((n11 != 0), (IntKind.i64.wrap (s7.2.1 + 1)), ()) w9)
     (X8 (true, (IntKind.i64.wrap (s7.2.1 + 1)), ()) w9))
    (J4 (s7.1, ()) w9))
   (J4 (s7.1, ()) w9))
  (false, 0, ()) w1)
 (fun s5 w6 =>
  (32 : Int) ≠ 0 ∧
  cond (decide ((IntKind.i64.wrap (q1.tdiv 32)) ≥ ((s3l : Nat) : Int)))
  (K (.tuple #[.slice none 0 0, .bool s5.1]) w6)
  (cutM (σ := Int × Unit) (fun J12 =>
    loopM (σ := Int × Int × Unit) (fun s15 X16 w17 =>
     (32 : Int) ≠ 0 ∧
     cond (decide (s15.2.1 < (q1.tmod 32)))
     (X16 ((IntKind.u64.wrap (2 * s15.1)), (IntKind.i64.wrap (s15.2.1 + 1)), ()) w17)
     (J12 (s15.1, ()) w17))
    (1, 0, ()) w6)
   (fun s13 w14 =>
    (32 : Int) ≠ 0 ∧
    (0 : Int) ≤ (IntKind.i64.wrap (q1.tdiv 32)) ∧ (IntKind.i64.wrap (q1.tdiv 32)) ≤ (s3l : Nat) ∧
    CallsX P N.f_r02_short #[.slice (slBase s3a ((IntKind.i64.wrap (q1.tdiv 32)).toNat) s3c 1) (s3l - (IntKind.i64.wrap (q1.tdiv 32)).toNat) (s3c - (IntKind.i64.wrap (q1.tdiv 32)).toNat), .int .u64 s13.1] w14 fun v19 w18 =>
    ∃ s20a s20l s20c, ∃ n21, v19 = (.tuple #[.slice s20a s20l s20c, .int .u64 n21]) ∧
    CallsX P N.f_r02_limbs #[.slice s20a s20l s20c] w18 fun v23 w22 =>
    vS_ v23 fun s24a s24l s24c =>
    cond (!s5.1)
    (K (.tuple #[.slice s24a s24l s24c, .bool (n21 != 0)]) w22)
    (K (.tuple #[.slice s24a s24l s24c, .bool true]) w22))))
def S_r02_up (N : Nums) (P : Program) (q0 : Int) (q1 : Bool) (q2 : Int) (q3 : Bool) (w : World) (K : Value → World → Prop) : Prop :=
 cond (q0 == 1)
 (K (.bool q1) w)
 (cond (q0 == 2)
  (K (.bool (!q1)) w)
  (cond (q0 == 3)
   (K (.bool false) w)
   (cond (!(decide (q2 > 0)))
    (cond (q2 == 0)
     (K (.bool q3) w)
     (K (.bool false) w))
    (K (.bool true) w))))
def S_r02_NatBits (N : Nums) (P : Program) (q0 : Option Addr) (q0l q0c : Nat) (w : World) (K : Value → World → Prop) : Prop :=
 CallsX P N.f_r02_NatTrim #[.slice q0 q0l q0c] w fun v2 w1 =>
 vS_ v2 fun s3a s3l s3c =>
 cond (((s3l : Nat) : Int) == 0)
 (K (.int .i64 0) w1)
 ((0 : Int) ≤ (IntKind.i64.wrap (((s3l : Nat) : Int) - 1)) ∧ (IntKind.i64.wrap (((s3l : Nat) : Int) - 1)) < (s3l : Nat) ∧
  optM s3a fun a4 =>
  ∃ n5, w1.cell? (a4.add ((IntKind.i64.wrap (((s3l : Nat) : Int) - 1)).toNat * 1)) = some (.int .u64 n5) ∧
  cutM (σ := Int × Unit) (fun J6 =>
   loopM (σ := Int × Int × Unit) (fun s9 X10 w11 =>
    cond (decide (s9.2.1 > 0))
    ((2 : Int) ≠ 0 ∧
     X10 ((IntKind.i64.wrap (s9.1 + 1)), (IntKind.u64.wrap (s9.2.1.tdiv 2)), ()) w11)
    (J6 (s9.1, ()) w11))
   ((IntKind.i64.wrap (64 * (IntKind.i64.wrap (((s3l : Nat) : Int) - 1)))), n5, ()) w1)
  (fun s7 w8 =>
   K (.int .i64 s7.1) w8))
def S_r02_huge (N : Nums) (P : Program) (q0 : Int) (q1 : Bool) (w : World) (K : Value → World → Prop) : Prop :=
 CallsX P N.f_r01_Join #[.agg #[.bool q1, .int .u64 9007199254740991, .int .i64 971]] w fun v2 w1 =>
 ∃ x3, ∃ b4, v2 = (.tuple #[.float .f64 x3, .bool b4]) ∧
 cutM (σ := Nat × Unit) (fun J5 =>
  cond q1
  (J5 (13830554455654793216, ()) w1)
  (J5 (4607182418800017408, ()) w1))
 (fun s6 w7 =>
  cond (!(q0 == 3))
  (cond (q0 == 1)
   (cond (!(!q1))
    (cond (q0 == 2)
     (cond q1
      (K (.float .f64 x3) w7)
      (fresM (fdiv s6.1 0) w7 fun x8 w9 =>
       K (.float .f64 x8) w9))
     (fresM (fdiv s6.1 0) w7 fun x10 w11 =>
      K (.float .f64 x10) w11))
    (K (.float .f64 x3) w7))
   (cond (q0 == 2)
    (cond q1
     (K (.float .f64 x3) w7)
     (fresM (fdiv s6.1 0) w7 fun x12 w13 =>
      K (.float .f64 x12) w13))
    (fresM (fdiv s6.1 0) w7 fun x14 w15 =>
     K (.float .f64 x14) w15)))
  (K (.float .f64 x3) w7))
def S_r02_float (N : Nums) (P : Program) (q0 : Bool) (q1 : Int) (q2 : Int) (w : World) (K : Value → World → Prop) : Prop :=
 cutM (σ := Int × Unit) (fun J1 =>
  cond (q1 == 0)
  (J1 (0, ()) w)
  (J1 (q2, ()) w))
 (fun s2 w3 =>
  cutM (σ := Int × Int × Unit) (fun J4 =>
   loopM (σ := Int × Int × Unit) (fun s7 X8 w9 =>
    cond (decide (s7.1 > 0))
    ((2 : Int) ≠ 0 ∧
     cond ((s7.1.tmod 2) == 0)
     ((2 : Int) ≠ 0 ∧
      X8 ((IntKind.u64.wrap (s7.1.tdiv 2)), (IntKind.i64.wrap (s7.2.1 + 1)), ()) w9)
     (J4 (s7.1, s7.2.1, ()) w9))
    (J4 (s7.1, s7.2.1, ()) w9))
   (q1, s2.1, ()) w3)
  (fun s5 w6 =>
   CallsX P N.f_r01_Join #[.agg #[.bool q0, .int .u64 s5.1, .int .i64 s5.2.1]] w6 fun v11 w10 =>
   ∃ x12, ∃ b13, v11 = (.tuple #[.float .f64 x12, .bool b13]) ∧
   K (.float .f64 x12) w10))
def S_lower_Right (N : Nums) (P : Program) (q0_0 : Int) (q0_1 : Option Addr) (q0_1l q0_1c : Nat) (q0_2 : Option Addr) (q0_2l q0_2c : Nat) (w : World) (K : Value → World → Prop) : Prop :=
 newM #[.int .i64 q0_0, .slice q0_1 q0_1l q0_1c, .slice q0_2 q0_2l q0_2c] N.t_Factor w fun p1 w2 =>
 cI_ w2 p1 fun n3 =>
 cond (decide (n3 ≥ 0))
 (cI_ w2 p1 fun n4 =>
  cond (decide (n4 ≤ 48))
  (cS_ w2 (p1.add 1) fun s5a s5l s5c =>
   cI_ w2 p1 fun n6 =>
   cI_ w2 p1 fun n7 =>
   (2 : Int) ≠ 0 ∧
   cond (((s5l : Nat) : Int) == (IntKind.i64.wrap ((IntKind.i64.wrap (n6 * (IntKind.i64.wrap (n7 - 1)))).tdiv 2)))
   (cS_ w2 (p1.add 2) fun s8a s8l s8c =>
    cI_ w2 p1 fun n9 =>
    K (.bool (((s8l : Nat) : Int) == n9)) w2)
   (K (.bool false) w2))
  (K (.bool false) w2))
 (K (.bool false) w2)
def S_vector_each (N : Nums) (P : Program) (q0 : Option Addr) (q0l q0c : Nat) (q1 : Option Addr) (q1l q1c : Nat) (q2 : Value) (w : World) (K : Value → World → Prop) : Prop :=
 CallsX P N.f_vector_fit #[.slice q0 q0l q0c, .slice q1 q1l q1c] w fun v2 w1 =>
 ∃ n3, v2 = (.int .i64 n3) ∧
 cond (n3 != 0)
 (K (.tuple #[.slice none 0 0, .int .i64 n3]) w1)
 (mkM N.t_float64 1 8 #[.float .f64 0] ((q0l : Nat) : Int) ((q0l : Nat) : Int) w1 fun p4 w5 =>
  cutM (σ := Unit) (fun J6 =>
   loopM (σ := Int × Unit) (fun s9 X10 w11 =>
    cond (decide (s9.1 < ((q0l : Nat) : Int)))
    ((0 : Int) ≤ s9.1 ∧ s9.1 < (q0l : Nat) ∧
     optM q0 fun a12 =>
     cF_ w11 (a12.add (s9.1.toNat * 1)) fun x13 =>
     (0 : Int) ≤ s9.1 ∧ s9.1 < (q1l : Nat) ∧
     optM q1 fun a14 =>
     cF_ w11 (a14.add (s9.1.toNat * 1)) fun x15 =>
     drM w11 fun w16 =>
     fnM q2 fun f19 f19p f19q => CallsX P f19 (f19p.toList ++ (([.float .f64 x13, .float .f64 x15] : List Value) ++ f19q.toList)).toArray w16 fun v18 w17 =>
     ∃ x20, v18 = (.float .f64 x20) ∧
     (0 : Int) ≤ s9.1 ∧ s9.1 < (((q0l : Nat) : Int).toNat : Nat) ∧
     drM w17 fun w21 =>
     stM (p4.add (s9.1.toNat * 1)) (.float .f64 x20) w21 fun w22 =>
     drM w22 fun w23 =>
     X10 ((IntKind.i64.wrap (s9.1 + 1)), ()) w23)
    (J6 (()) w11))
   (0, ()) w5)
  (fun s7 w8 =>
   K (.tuple #[.slice (some p4) (((q0l : Nat) : Int).toNat) (((q0l : Nat) : Int).toNat), .int .i64 0]) w8))
def S_vector_Add_1 (N : Nums) (P : Program) (q0 : Nat) (q1 : Nat) (w : World) (K : Value → World → Prop) : Prop :=
 fresM (fadd q0 q1) w fun x1 w2 =>
 K (.float .f64 x1) w2
def S_round_Add (N : Nums) (P : Program) (q0 : Nat) (q1 : Nat) (q2 : Int) (w : World) (K : Value → World → Prop) : Prop :=
 CallsX P N.f_round_way #[.int .i8 q2] w fun v2 w1 =>
 ∃ n3, v2 = (.int .i8 n3) ∧
 fresM (fadd q0 q1) w1 fun x4 w5 =>
 newM #[.float .f64 q0, .float .f64 q1] N.t_float64 w5 fun p6 w7 =>
 CallsX P N.f_round_finite #[.slice (some p6) 2 2] w7 fun v9 w8 =>
 vB_ v9 fun b10 =>
 cond (!b10)
 (K (.float .f64 x4) w8)
 (cutM (σ := Bool × Unit) (fun J11 =>
   cond (feq x4 0)
   (cond (!(!feq q0 0))
    (cond (feq x4 0)
     (CallsX P N.f_math_Signbit #[.float .f64 q0] w8 fun v15 w14 =>
      vB_ v15 fun b16 =>
      CallsX P N.f_math_Signbit #[.float .f64 q1] w14 fun v18 w17 =>
      vB_ v18 fun b19 =>
      J11 ((!(b16 == b19)), ()) w17)
     (J11 (false, ()) w8))
    (J11 (true, ()) w8))
   (cond (feq x4 0)
    (CallsX P N.f_math_Signbit #[.float .f64 q0] w8 fun v21 w20 =>
     vB_ v21 fun b22 =>
     CallsX P N.f_math_Signbit #[.float .f64 q1] w20 fun v24 w23 =>
     vB_ v24 fun b25 =>
     J11 ((!(b22 == b25)), ()) w23)
    (J11 (false, ()) w8)))
  (fun s12 w13 =>
   cond s12.1
   (CallsX P N.f_round_none #[.int .i8 n3] w13 fun v27 w26 =>
    ∃ x28, v27 = (.float .f64 x28) ∧
    K (.float .f64 x28) w26)
   (cond (feq x4 0)
    (K (.float .f64 x4) w13)
    (CallsX P N.f_math_IsInf #[.float .f64 x4, .int .i64 0] w13 fun v30 w29 =>
     vB_ v30 fun b31 =>
     cond b31
     (CallsX P N.f_round_settle #[.float .f64 x4, .int .i64 0, .int .i8 n3] w29 fun v33 w32 =>
      ∃ x34, v33 = (.float .f64 x34) ∧
      K (.float .f64 x34) w32)
     (CallsX P N.f_math_Abs #[.float .f64 q0] w29 fun v36 w35 =>
      ∃ x37, v36 = (.float .f64 x37) ∧
      CallsX P N.f_math_Abs #[.float .f64 q1] w35 fun v39 w38 =>
      ∃ x40, v39 = (.float .f64 x40) ∧
      cutM (σ := Nat × Nat × Unit) (fun J41 =>
       cond (flt x37 x40)
       (J41 (q1, q0, ()) w38)
       (J41 (q0, q1, ()) w38))
      (fun s42 w43 =>
       fresM (fsub x4 s42.1) w43 fun x44 w45 =>
       fresM (fsub s42.2.1 x44) w45 fun x46 w47 =>
       CallsX P N.f_round_sign #[.float .f64 x46] w47 fun v49 w48 =>
       ∃ n50, v49 = (.int .i64 n50) ∧
       CallsX P N.f_round_settle #[.float .f64 x4, .int .i64 n50, .int .i8 n3] w48 fun v52 w51 =>
       ∃ x53, v52 = (.float .f64 x53) ∧
       K (.float .f64 x53) w51))))))
def S_math_Abs (N : Nums) (P : Program) (q0 : Nat) (w : World) (K : Value → World → Prop) : Prop :=
 CallsX P N.f_math_Float64bits #[.float .f64 q0] w fun v2 w1 =>
 ∃ n3, v2 = (.int .u64 n3) ∧
 CallsX P N.f_math_Float64frombits #[.int .u64 (IntKind.u64.wrap (BitVec.ofInt IntKind.u64.bits n3 &&& ~~~BitVec.ofInt IntKind.u64.bits 9223372036854775808).toNat)] w1 fun v5 w4 =>
 ∃ x6, v5 = (.float .f64 x6) ∧
 K (.float .f64 x6) w4
def S_solve_fits (N : Nums) (P : Program) (q0_0 : Int) (q0_1 : Option Addr) (q0_1l q0_1c : Nat) (q0_2 : Option Addr) (q0_2l q0_2c : Nat) (q1 : Int) (w : World) (K : Value → World → Prop) : Prop :=
 newM #[.int .i64 q0_0, .slice q0_1 q0_1l q0_1c, .slice q0_2 q0_2l q0_2c] N.t_Factor w fun p1 w2 =>
 cI_ w2 p1 fun n3 =>
 cS_ w2 (p1.add 1) fun s4a s4l s4c =>
 cS_ w2 (p1.add 2) fun s5a s5l s5c =>
 CallsX P N.f_lower_Right #[.agg #[.int .i64 n3, .slice s4a s4l s4c, .slice s5a s5l s5c]] w2 fun v7 w6 =>
 vB_ v7 fun b8 =>
 cond (!(!b8))
 (cI_ w6 p1 fun n9 =>
  cond (q1 != n9)
  (K (.int .i64 4) w6)
  (K (.int .i64 0) w6))
 (K (.int .i64 4) w6)
def S_slices_Clone___float64_float64 (N : Nums) (P : Program) (q0 : Option Addr) (q0l q0c : Nat) (w : World) (K : Value → World → Prop) : Prop :=
 cond (Option.isNone q0)
 (K (.slice none 0 0) w)
 (newM #[] N.t_float64 w fun p1 w2 =>
  appM N.t_float64 1 8 #[.float .f64 0] (some p1) 0 0 q0 q0l w2 fun s3a s3l s3c w4 =>
  K (.slice s3a s3l s3c) w4)
def S_solve_below (N : Nums) (P : Program) (q0_0 : Int) (q0_1 : Option Addr) (q0_1l q0_1c : Nat) (q0_2 : Option Addr) (q0_2l q0_2c : Nat) (q1 : Int) (q2 : Int) (w : World) (K : Value → World → Prop) : Prop :=
 newM #[.int .i64 q0_0, .slice q0_1 q0_1l q0_1c, .slice q0_2 q0_2l q0_2c] N.t_Factor w fun p1 w2 =>
 cS_ w2 (p1.add 1) fun s3a s3l s3c =>
 (2 : Int) ≠ 0 ∧
 (0 : Int) ≤ (IntKind.i64.wrap ((IntKind.i64.wrap ((IntKind.i64.wrap (q1 * (IntKind.i64.wrap (q1 - 1)))).tdiv 2)) + q2)) ∧ (IntKind.i64.wrap ((IntKind.i64.wrap ((IntKind.i64.wrap (q1 * (IntKind.i64.wrap (q1 - 1)))).tdiv 2)) + q2)) < (s3l : Nat) ∧
 optM s3a fun a4 =>
 ∃ x5, w2.cell? (a4.add ((IntKind.i64.wrap ((IntKind.i64.wrap ((IntKind.i64.wrap (q1 * (IntKind.i64.wrap (q1 - 1)))).tdiv 2)) + q2)).toNat * 1)) = some (.float .f64 x5) ∧
 K (.float .f64 x5) w2
def S_slices_Contains___float64_float64 (N : Nums) (P : Program) (q0 : Option Addr) (q0l q0c : Nat) (q1 : Nat) (w : World) (K : Value → World → Prop) : Prop :=
 CallsX P N.f_slices_Index___float64_float64 #[.slice q0 q0l q0c, .float .f64 q1] w fun v2 w1 =>
 ∃ n3, v2 = (.int .i64 n3) ∧
 K (.bool (decide (n3 ≥ 0))) w1
def S_matrix_fits (N : Nums) (P : Program) (q0 : Int) (w : World) (K : Value → World → Prop) : Prop :=
 cond (decide (q0 ≥ 0))
 (K (.bool (decide (q0 ≤ 48))) w)
 (K (.bool false) w)
def S_math_IsNaN (N : Nums) (P : Program) (q0 : Nat) (w : World) (K : Value → World → Prop) : Prop :=
 K (.bool (!feq q0 q0)) w
def S_math_IsInf (N : Nums) (P : Program) (q0 : Nat) (q1 : Int) (w : World) (K : Value → World → Prop) : Prop :=
 cutM (σ := Nat × Unit) (fun J1 =>
  cond (q1 == 0)
  (CallsX P N.f_math_Abs #[.float .f64 q0] w fun v5 w4 =>
   ∃ x6, v5 = (.float .f64 x6) ∧
   J1 (x6, ()) w4)
  (cutM (σ := Nat × Unit) (fun J7 =>
    cond (decide (q1 < 0))
    (J7 ((fneg q0), ()) w)
    (J7 (q0, ()) w))
   (fun s8 w9 =>
    J1 (s8.1, ()) w9)))
 (fun s2 w3 =>
  K (.bool (fgt s2.1 9218868437227405311)) w3)
def S_dyad_Int (N : Nums) (P : Program) (q0 : Int) (w : World) (K : Value → World → Prop) : Prop :=
 newM #[.bool false, .slice none 0 0, .int .i64 0] N.t_Dyad w fun p1 w2 =>
 CallsX P N.f_bn_NewInt #[.int .i64 q0] w2 fun v4 w3 =>
 ∃ p5 : (Option Addr), v4 = (.pointer p5) ∧
 CallsX P N.f_dyad_made #[.pointer p5, .int .i64 0] w3 fun v7 w6 =>
 ∃ b8, ∃ s9a s9l s9c, ∃ n10, ∃ n11, v7 = (.tuple #[.agg #[.bool b8, .slice s9a s9l s9c, .int .i64 n10], .int .i64 n11]) ∧
 newM #[.bool false, .slice none 0 0, .int .i64 0] N.t_Dyad w6 fun p12 w13 =>
 stM p12 (.bool b8) w13 fun w14 =>
 stM (p12.add 1) (.slice s9a s9l s9c) w14 fun w15 =>
 stM (p12.add 2) (.int .i64 n10) w15 fun w16 =>
 cB_ w16 p12 fun b17 =>
 cS_ w16 (p12.add 1) fun s18a s18l s18c =>
 cI_ w16 (p12.add 2) fun n19 =>
 stM p1 (.bool b17) w16 fun w20 =>
 stM (p1.add 1) (.slice s18a s18l s18c) w20 fun w21 =>
 stM (p1.add 2) (.int .i64 n19) w21 fun w22 =>
 cB_ w22 p1 fun b23 =>
 cS_ w22 (p1.add 1) fun s24a s24l s24c =>
 cI_ w22 (p1.add 2) fun n25 =>
 K (.agg #[.bool b23, .slice s24a s24l s24c, .int .i64 n25]) w22
def S_dyad_Add (N : Nums) (P : Program) (q0_0 : Bool) (q0_1 : Option Addr) (q0_1l q0_1c : Nat) (q0_2 : Int) (q1_0 : Bool) (q1_1 : Option Addr) (q1_1l q1_1c : Nat) (q1_2 : Int) (w : World) (K : Value → World → Prop) : Prop :=
 newM #[.bool q0_0, .slice q0_1 q0_1l q0_1c, .int .i64 q0_2] N.t_Dyad w fun p1 w2 =>
 newM #[.bool q1_0, .slice q1_1 q1_1l q1_1c, .int .i64 q1_2] N.t_Dyad w2 fun p3 w4 =>
 newM #[.bool false, .slice none 0 0, .int .i64 0] N.t_Dyad w4 fun p5 w6 =>
 cB_ w6 p1 fun b7 =>
 cS_ w6 (p1.add 1) fun s8a s8l s8c =>
 cI_ w6 (p1.add 2) fun n9 =>
 cB_ w6 p3 fun b10 =>
 cS_ w6 (p3.add 1) fun s11a s11l s11c =>
 cI_ w6 (p3.add 2) fun n12 =>
 CallsX P N.f_dyad_both #[.agg #[.bool b7, .slice s8a s8l s8c, .int .i64 n9], .agg #[.bool b10, .slice s11a s11l s11c, .int .i64 n12]] w6 fun v14 w13 =>
 vB_ v14 fun b15 =>
 cond (!b15)
 (stM p5 (.bool false) w13 fun w16 =>
  stM (p5.add 1) (.slice none 0 0) w16 fun w17 =>
  stM (p5.add 2) (.int .i64 0) w17 fun w18 =>
  cB_ w18 p5 fun b19 =>
  cS_ w18 (p5.add 1) fun s20a s20l s20c =>
  cI_ w18 (p5.add 2) fun n21 =>
  K (.tuple #[.agg #[.bool b19, .slice s20a s20l s20c, .int .i64 n21], .int .i64 2]) w18)
 (cB_ w13 p1 fun b22 =>
  cS_ w13 (p1.add 1) fun s23a s23l s23c =>
  cI_ w13 (p1.add 2) fun n24 =>
  cB_ w13 p3 fun b25 =>
  cS_ w13 (p3.add 1) fun s26a s26l s26c =>
  cI_ w13 (p3.add 2) fun n27 =>
  drM w13 fun w28 =>
  CallsX P N.f_dyad_whole #[.agg #[.bool b22, .slice s23a s23l s23c, .int .i64 n24]] w28 fun v30 w29 =>
  ∃ p31 : (Option Addr), v30 = (.pointer p31) ∧
  w29.cell? p3 = some (.bool b25) ∧
  w29.cell? (p3.add 1) = some (.slice s26a s26l s26c) ∧
  w29.cell? (p3.add 2) = some (.int .i64 n27) ∧
  drM w29 fun w32 =>
  CallsX P N.f_dyad_whole #[.agg #[.bool b25, .slice s26a s26l s26c, .int .i64 n27]] w32 fun v34 w33 =>
  ∃ p35 : (Option Addr), v34 = (.pointer p35) ∧
  drM w33 fun w36 =>
  cutM (σ := Bool × Unit) (fun J37 =>
   CallsX P N.f_bI_Sign #[.pointer p31] w36 fun v41 w40 =>
   ∃ n42, v41 = (.int .i64 n42) ∧
   cond (!(n42 == 0))
   (CallsX P N.f_bI_Sign #[.pointer p35] w40 fun v44 w43 =>
    ∃ n45, v44 = (.int .i64 n45) ∧
    J37 ((n45 == 0), ()) w43)
   (J37 (true, ()) w40))
  (fun s38 w39 =>
   cond s38.1
   (cI_ w39 (p1.add 2) fun n46 =>
    cI_ w39 (p3.add 2) fun n47 =>
    drM w39 fun w48 =>
    CallsX P N.f_bI_Add #[.pointer p31, .pointer p31, .pointer p35] w48 fun v50 w49 =>
    ∃ p51 : (Option Addr), v50 = (.pointer p51) ∧
    w49.cell? (p3.add 2) = some (.int .i64 n47) ∧
    w49.cell? (p1.add 2) = some (.int .i64 n46) ∧
    drM w49 fun w52 =>
    CallsX P N.f_dyad_made #[.pointer p51, .int .i64 (IntKind.i64.wrap (n46 + n47))] w52 fun v54 w53 =>
    ∃ b55, ∃ s56a s56l s56c, ∃ n57, ∃ n58, v54 = (.tuple #[.agg #[.bool b55, .slice s56a s56l s56c, .int .i64 n57], .int .i64 n58]) ∧
    drM w53 fun w59 =>
    stM p5 (.bool b55) w59 fun w60 =>
    stM (p5.add 1) (.slice s56a s56l s56c) w60 fun w61 =>
    stM (p5.add 2) (.int .i64 n57) w61 fun w62 =>
    drM w62 fun w63 =>
    cB_ w63 p5 fun b64 =>
    cS_ w63 (p5.add 1) fun s65a s65l s65c =>
    cI_ w63 (p5.add 2) fun n66 =>
    K (.tuple #[.agg #[.bool b64, .slice s65a s65l s65c, .int .i64 n66], .int .i64 n58]) w63)
   (cI_ w39 (p1.add 2) fun n67 =>
    cI_ w39 (p3.add 2) fun n68 =>
    cutM (σ := (Option Addr) × (Option Addr) × Unit) (fun J69 =>
     cond (decide (n67 < n68))
     (cB_ w39 p3 fun b72 =>
      cS_ w39 (p3.add 1) fun s73a s73l s73c =>
      cI_ w39 (p3.add 2) fun n74 =>
      cB_ w39 p1 fun b75 =>
      cS_ w39 (p1.add 1) fun s76a s76l s76c =>
      cI_ w39 (p1.add 2) fun n77 =>
      stM p1 (.bool b72) w39 fun w78 =>
      stM (p1.add 1) (.slice s73a s73l s73c) w78 fun w79 =>
      stM (p1.add 2) (.int .i64 n74) w79 fun w80 =>
      stM p3 (.bool b75) w80 fun w81 =>
      stM (p3.add 1) (.slice s76a s76l s76c) w81 fun w82 =>
      stM (p3.add 2) (.int .i64 n77) w82 fun w83 =>
      J69 (p35, p31, ()) w83)
     (J69 (p31, p35, ()) w39))
    (fun s70 w71 =>
     cI_ w71 (p1.add 2) fun n84 =>
     cI_ w71 (p3.add 2) fun n85 =>
     cond (decide ((IntKind.i64.wrap (n84 - n85)) > 16385))
     (stM p5 (.bool false) w71 fun w86 =>
      stM (p5.add 1) (.slice none 0 0) w86 fun w87 =>
      stM (p5.add 2) (.int .i64 0) w87 fun w88 =>
      cB_ w88 p5 fun b89 =>
      cS_ w88 (p5.add 1) fun s90a s90l s90c =>
      cI_ w88 (p5.add 2) fun n91 =>
      K (.tuple #[.agg #[.bool b89, .slice s90a s90l s90c, .int .i64 n91], .int .i64 3]) w88)
     (cI_ w71 (p3.add 2) fun n92 =>
      drM w71 fun w93 =>
      CallsX P N.f_bI_Lsh #[.pointer s70.1, .pointer s70.1, .int .u64 (IntKind.u64.wrap (IntKind.i64.wrap (n84 - n85)))] w93 fun v95 w94 =>
      ∃ p96 : (Option Addr), v95 = (.pointer p96) ∧
      w94.cell? (p3.add 2) = some (.int .i64 n92) ∧
      drM w94 fun w97 =>
      CallsX P N.f_bI_Add #[.pointer s70.1, .pointer p96, .pointer s70.2.1] w97 fun v99 w98 =>
      ∃ p100 : (Option Addr), v99 = (.pointer p100) ∧
      w98.cell? (p3.add 2) = some (.int .i64 n92) ∧
      drM w98 fun w101 =>
      CallsX P N.f_dyad_made #[.pointer p100, .int .i64 n92] w101 fun v103 w102 =>
      ∃ b104, ∃ s105a s105l s105c, ∃ n106, ∃ n107, v103 = (.tuple #[.agg #[.bool b104, .slice s105a s105l s105c, .int .i64 n106], .int .i64 n107]) ∧
      drM w102 fun w108 =>
      stM p5 (.bool b104) w108 fun w109 =>
      stM (p5.add 1) (.slice s105a s105l s105c) w109 fun w110 =>
      stM (p5.add 2) (.int .i64 n106) w110 fun w111 =>
      drM w111 fun w112 =>
      cB_ w112 p5 fun b113 =>
      cS_ w112 (p5.add 1) fun s114a s114l s114c =>
      cI_ w112 (p5.add 2) fun n115 =>
      K (.tuple #[.agg #[.bool b113, .slice s114a s114l s114c, .int .i64 n115], .int .i64 n107]) w112)))))
def S_bits_Split (N : Nums) (P : Program) (q0 : Nat) (w : World) (K : Value → World → Prop) : Prop :=
 newM #[.bool false, .int .u64 0, .int .i64 0] N.t_Parts w fun p1 w2 =>
 CallsX P N.f_bits_Kind #[.float .f64 q0] w2 fun v4 w3 =>
 ∃ n5, v4 = (.int .i64 n5) ∧
 cond (decide (n5 > 2))
 (stM p1 (.bool false) w3 fun w6 =>
  stM (p1.add 1) (.int .u64 0) w6 fun w7 =>
  stM (p1.add 2) (.int .i64 0) w7 fun w8 =>
  cB_ w8 p1 fun b9 =>
  cU_ w8 (p1.add 1) fun n10 =>
  cI_ w8 (p1.add 2) fun n11 =>
  K (.tuple #[.agg #[.bool b9, .int .u64 n10, .int .i64 n11], .bool false]) w8)
 (CallsX P N.f_math_Signbit #[.float .f64 q0] w3 fun v13 w12 =>
  vB_ v13 fun b14 =>
  newM #[.bool false, .int .u64 0, .int .i64 0] N.t_Parts w12 fun p15 w16 =>
  stM p15 (.bool b14) w16 fun w17 =>
  stM (p15.add 1) (.int .u64 0) w17 fun w18 =>
  stM (p15.add 2) (.int .i64 0) w18 fun w19 =>
  cond (feq q0 0)
  (cB_ w19 p15 fun b20 =>
   cU_ w19 (p15.add 1) fun n21 =>
   cI_ w19 (p15.add 2) fun n22 =>
   stM p1 (.bool b20) w19 fun w23 =>
   stM (p1.add 1) (.int .u64 n21) w23 fun w24 =>
   stM (p1.add 2) (.int .i64 n22) w24 fun w25 =>
   cB_ w25 p1 fun b26 =>
   cU_ w25 (p1.add 1) fun n27 =>
   cI_ w25 (p1.add 2) fun n28 =>
   K (.tuple #[.agg #[.bool b26, .int .u64 n27, .int .i64 n28], .bool true]) w25)
  (CallsX P N.f_math_Abs #[.float .f64 q0] w19 fun v30 w29 =>
   ∃ x31, v30 = (.float .f64 x31) ∧
   CallsX P N.f_math_Frexp #[.float .f64 x31] w29 fun v33 w32 =>
   ∃ x34, ∃ n35, v33 = (.tuple #[.float .f64 x34, .int .i64 n35]) ∧
   CallsX P N.f_math_Ldexp #[.float .f64 x34, .int .i64 53] w32 fun v37 w36 =>
   ∃ x38, v37 = (.float .f64 x38) ∧
   f2iM x38 .u64 w36 fun n39 w40 =>
   stM (p15.add 1) (.int .u64 n39) w40 fun w41 =>
   cU_ w41 (p15.add 1) fun n42 =>
   CallsX P N.f_math_bits_TrailingZeros64 #[.int .u64 n42] w41 fun v44 w43 =>
   ∃ n45, v44 = (.int .i64 n45) ∧
   cU_ w43 (p15.add 1) fun n46 =>
   (0 : Int) ≤ n45 ∧
   stM (p15.add 1) (.int .u64 (n46.fdiv (2 ^ (min n45.toNat IntKind.u64.bits)))) w43 fun w47 =>
   stM (p15.add 2) (.int .i64 (IntKind.i64.wrap ((IntKind.i64.wrap (n35 - 53)) + n45))) w47 fun w48 =>
   cB_ w48 p15 fun b49 =>
   cU_ w48 (p15.add 1) fun n50 =>
   cI_ w48 (p15.add 2) fun n51 =>
   stM p1 (.bool b49) w48 fun w52 =>
   stM (p1.add 1) (.int .u64 n50) w52 fun w53 =>
   stM (p1.add 2) (.int .i64 n51) w53 fun w54 =>
   cB_ w54 p1 fun b55 =>
   cU_ w54 (p1.add 1) fun n56 =>
   cI_ w54 (p1.add 2) fun n57 =>
   K (.tuple #[.agg #[.bool b55, .int .u64 n56, .int .i64 n57], .bool true]) w54))
def S_dyad_both (N : Nums) (P : Program) (q0_0 : Bool) (q0_1 : Option Addr) (q0_1l q0_1c : Nat) (q0_2 : Int) (q1_0 : Bool) (q1_1 : Option Addr) (q1_1l q1_1c : Nat) (q1_2 : Int) (w : World) (K : Value → World → Prop) : Prop :=
 newM #[.bool q0_0, .slice q0_1 q0_1l q0_1c, .int .i64 q0_2] N.t_Dyad w fun p1 w2 =>
 newM #[.bool q1_0, .slice q1_1 q1_1l q1_1c, .int .i64 q1_2] N.t_Dyad w2 fun p3 w4 =>
 cB_ w4 p1 fun b5 =>
 cS_ w4 (p1.add 1) fun s6a s6l s6c =>
 cI_ w4 (p1.add 2) fun n7 =>
 CallsX P N.f_dyad_Right #[.agg #[.bool b5, .slice s6a s6l s6c, .int .i64 n7]] w4 fun v9 w8 =>
 vB_ v9 fun b10 =>
 cond b10
 (cB_ w8 p3 fun b11 =>
  cS_ w8 (p3.add 1) fun s12a s12l s12c =>
  cI_ w8 (p3.add 2) fun n13 =>
  CallsX P N.f_dyad_Right #[.agg #[.bool b11, .slice s12a s12l s12c, .int .i64 n13]] w8 fun v15 w14 =>
  vB_ v15 fun b16 =>
  K (.bool b16) w14)
 (K (.bool false) w8)
def S_dyad_whole (N : Nums) (P : Program) (q0_0 : Bool) (q0_1 : Option Addr) (q0_1l q0_1c : Nat) (q0_2 : Int) (w : World) (K : Value → World → Prop) : Prop :=
 newM #[.bool q0_0, .slice q0_1 q0_1l q0_1c, .int .i64 q0_2] N.t_Dyad w fun p1 w2 =>
 newM #[.bool false, .slice none 0 0] N.t_bn_Int w2 fun p3 w4 =>
 cS_ w4 (p1.add 1) fun s5a s5l s5c =>
 cutM (σ := Unit) (fun J6 =>
  loopM (σ := Int × Unit) (fun s9 X10 w11 =>
   cond (decide (s9.1 < ((s5l : Nat) : Int)))
   (CallsX P N.f_bI_Lsh #[.pointer (some p3), .pointer (some p3), .int .u64 64] w11 fun v13 w12 =>
    ∃ p14 : (Option Addr), v13 = (.pointer p14) ∧
    newM #[.bool false, .slice none 0 0] N.t_bn_Int w12 fun p15 w16 =>
    cS_ w16 (p1.add 1) fun s17a s17l s17c =>
    cS_ w16 (p1.add 1) fun s18a s18l s18c =>
    (0 : Int) ≤ (IntKind.i64.wrap ((IntKind.i64.wrap (((s18l : Nat) : Int) - 1)) - s9.1)) ∧ (IntKind.i64.wrap ((IntKind.i64.wrap (((s18l : Nat) : Int) - 1)) - s9.1)) < (s17l : Nat) ∧
    optM s17a fun a19 =>
    ∃ n20, w16.cell? (a19.add ((IntKind.i64.wrap ((IntKind.i64.wrap (((s18l : Nat) : Int) - 1)) - s9.1)).toNat * 1)) = some (.int .u64 n20) ∧
    CallsX P N.f_bI_SetUint64 #[.pointer (some p15), .int .u64 n20] w16 fun v22 w21 =>
    ∃ p23 : (Option Addr), v22 = (.pointer p23) ∧
    CallsX P N.f_bI_Or #[.pointer (some p3), .pointer (some p3), .pointer p23] w21 fun v25 w24 =>
    ∃ p26 : (Option Addr), v25 = (.pointer p26) ∧
    X10 ((IntKind.i64.wrap (s9.1 + 1)), ()) w24)
   (J6 (()) w11))
  (0, ()) w4)
 (fun s7 w8 =>
  cB_ w8 p1 fun b27 =>
  cutM (σ := Unit) (fun J28 =>
   cond b27
   (CallsX P N.f_bI_Neg #[.pointer (some p3), .pointer (some p3)] w8 fun v32 w31 =>
    ∃ p33 : (Option Addr), v32 = (.pointer p33) ∧
    J28 (()) w31)
   (J28 (()) w8))
  (fun s29 w30 =>
   K (.pointer (some p3)) w30))
def S_dyad_made (N : Nums) (P : Program) (q0 : Option Addr) (q1 : Int) (w : World) (K : Value → World → Prop) : Prop :=
 newM #[.bool false, .slice none 0 0, .int .i64 0] N.t_Dyad w fun p1 w2 =>
 CallsX P N.f_bI_Sign #[.pointer q0] w2 fun v4 w3 =>
 ∃ n5, v4 = (.int .i64 n5) ∧
 cond (n5 == 0)
 (stM p1 (.bool false) w3 fun w6 =>
  stM (p1.add 1) (.slice none 0 0) w6 fun w7 =>
  stM (p1.add 2) (.int .i64 0) w7 fun w8 =>
  cB_ w8 p1 fun b9 =>
  cS_ w8 (p1.add 1) fun s10a s10l s10c =>
  cI_ w8 (p1.add 2) fun n11 =>
  K (.tuple #[.agg #[.bool b9, .slice s10a s10l s10c, .int .i64 n11], .int .i64 0]) w8)
 (CallsX P N.f_bI_TrailingZeroBits #[.pointer q0] w3 fun v13 w12 =>
  ∃ n14, v13 = (.int .u64 n14) ∧
  cond (decide (q1 > 65536))
  (stM p1 (.bool false) w12 fun w15 =>
   stM (p1.add 1) (.slice none 0 0) w15 fun w16 =>
   stM (p1.add 2) (.int .i64 0) w16 fun w17 =>
   cB_ w17 p1 fun b18 =>
   cS_ w17 (p1.add 1) fun s19a s19l s19c =>
   cI_ w17 (p1.add 2) fun n20 =>
   K (.tuple #[.agg #[.bool b18, .slice s19a s19l s19c, .int .i64 n20], .int .i64 3]) w17)
  (cond (decide (q1 < (IntKind.i64.wrap ((-65536) - (IntKind.i64.wrap n14)))))
   (stM p1 (.bool false) w12 fun w21 =>
    stM (p1.add 1) (.slice none 0 0) w21 fun w22 =>
    stM (p1.add 2) (.int .i64 0) w22 fun w23 =>
    cB_ w23 p1 fun b24 =>
    cS_ w23 (p1.add 1) fun s25a s25l s25c =>
    cI_ w23 (p1.add 2) fun n26 =>
    K (.tuple #[.agg #[.bool b24, .slice s25a s25l s25c, .int .i64 n26], .int .i64 3]) w23)
   (cond (decide ((IntKind.i64.wrap (q1 + (IntKind.i64.wrap n14))) > 65536))
    (stM p1 (.bool false) w12 fun w27 =>
     stM (p1.add 1) (.slice none 0 0) w27 fun w28 =>
     stM (p1.add 2) (.int .i64 0) w28 fun w29 =>
     cB_ w29 p1 fun b30 =>
     cS_ w29 (p1.add 1) fun s31a s31l s31c =>
     cI_ w29 (p1.add 2) fun n32 =>
     K (.tuple #[.agg #[.bool b30, .slice s31a s31l s31c, .int .i64 n32], .int .i64 3]) w29)
    (CallsX P N.f_bI_BitLen #[.pointer q0] w12 fun v34 w33 =>
     ∃ n35, v34 = (.int .i64 n35) ∧
     cond (decide ((IntKind.i64.wrap (n35 - (IntKind.i64.wrap n14))) > 16384))
     (stM p1 (.bool false) w33 fun w36 =>
      stM (p1.add 1) (.slice none 0 0) w36 fun w37 =>
      stM (p1.add 2) (.int .i64 0) w37 fun w38 =>
      cB_ w38 p1 fun b39 =>
      cS_ w38 (p1.add 1) fun s40a s40l s40c =>
      cI_ w38 (p1.add 2) fun n41 =>
      K (.tuple #[.agg #[.bool b39, .slice s40a s40l s40c, .int .i64 n41], .int .i64 3]) w38)
     (CallsX P N.f_bI_Sign #[.pointer q0] w33 fun v43 w42 =>
      ∃ n44, v43 = (.int .i64 n44) ∧
      newM #[.bool false, .slice none 0 0] N.t_bn_Int w42 fun p45 w46 =>
      newM #[.bool false, .slice none 0 0] N.t_bn_Int w46 fun p47 w48 =>
      CallsX P N.f_bI_Abs #[.pointer (some p47), .pointer q0] w48 fun v50 w49 =>
      ∃ p51 : (Option Addr), v50 = (.pointer p51) ∧
      CallsX P N.f_bI_Rsh #[.pointer (some p45), .pointer p51, .int .u64 (IntKind.u64.wrap (IntKind.i64.wrap n14))] w49 fun v53 w52 =>
      ∃ p54 : (Option Addr), v53 = (.pointer p54) ∧
      CallsX P N.f_dyad_limbs #[.pointer p54] w52 fun v56 w55 =>
      vS_ v56 fun s57a s57l s57c =>
      stM p1 (.bool (decide (n44 < 0))) w55 fun w58 =>
      stM (p1.add 1) (.slice s57a s57l s57c) w58 fun w59 =>
      stM (p1.add 2) (.int .i64 (IntKind.i64.wrap (q1 + (IntKind.i64.wrap n14)))) w59 fun w60 =>
      cB_ w60 p1 fun b61 =>
      cS_ w60 (p1.add 1) fun s62a s62l s62c =>
      cI_ w60 (p1.add 2) fun n63 =>
      K (.tuple #[.agg #[.bool b61, .slice s62a s62l s62c, .int .i64 n63], .int .i64 0]) w60)))))
def S_bI_Mul (N : Nums) (P : Program) (q0 : Option Addr) (q1 : Option Addr) (q2 : Option Addr) (w : World) (K : Value → World → Prop) : Prop :=
 optM q1 fun a1 =>
 cB_ w a1 fun b2 =>
 optM q2 fun a3 =>
 cB_ w a3 fun b4 =>
 optM q1 fun a5 =>
 cS_ w (a5.add 1) fun s6a s6l s6c =>
 optM q2 fun a7 =>
 cS_ w (a7.add 1) fun s8a s8l s8c =>
 drM w fun w9 =>
 CallsX P N.f_bn_mul #[.slice s6a s6l s6c, .slice s8a s8l s8c] w9 fun v11 w10 =>
 vS_ v11 fun s12a s12l s12c =>
 w10.cell? a3 = some (.bool b4) ∧
 w10.cell? a1 = some (.bool b2) ∧
 drM w10 fun w13 =>
 CallsX P N.f_bI_give #[.pointer q0, .bool (!(b2 == b4)), .slice s12a s12l s12c] w13 fun v15 w14 =>
 ∃ p16 : (Option Addr), v15 = (.pointer p16) ∧
 drM w14 fun w17 =>
 K (.pointer p16) w17
def S_dyad_Right (N : Nums) (P : Program) (q0_0 : Bool) (q0_1 : Option Addr) (q0_1l q0_1c : Nat) (q0_2 : Int) (w : World) (K : Value → World → Prop) : Prop :=
 newM #[.bool q0_0, .slice q0_1 q0_1l q0_1c, .int .i64 q0_2] N.t_Dyad w fun p1 w2 =>
 cS_ w2 (p1.add 1) fun s3a s3l s3c =>
 cond (((s3l : Nat) : Int) == 0)
 (cB_ w2 p1 fun b4 =>
  cond (!b4)
  (cI_ w2 (p1.add 2) fun n5 =>
   K (.bool (n5 == 0)) w2)
  (K (.bool false) w2))
 (cond (decide (((s3l : Nat) : Int) ≤ 256))
  (cS_ w2 (p1.add 1) fun s6a s6l s6c =>
   (0 : Int) ≤ (IntKind.i64.wrap (((s3l : Nat) : Int) - 1)) ∧ (IntKind.i64.wrap (((s3l : Nat) : Int) - 1)) < (s6l : Nat) ∧
   optM s6a fun a7 =>
   ∃ n8, w2.cell? (a7.add ((IntKind.i64.wrap (((s3l : Nat) : Int) - 1)).toNat * 1)) = some (.int .u64 n8) ∧
   cond (n8 != 0)
   (cS_ w2 (p1.add 1) fun s9a s9l s9c =>
    (0 : Int) ≤ (0 : Int) ∧ (0 : Int) < (s9l : Nat) ∧
    optM s9a fun a10 =>
    cU_ w2 (a10.add ((0 : Int).toNat * 1)) fun n11 =>
    cond ((IntKind.u64.wrap (BitVec.ofInt IntKind.u64.bits n11 &&& BitVec.ofInt IntKind.u64.bits 1).toNat) == 1)
    (cI_ w2 (p1.add 2) fun n12 =>
     cond (decide (((-65536) : Int) ≤ n12))
     (cI_ w2 (p1.add 2) fun n13 =>
      K (.bool (decide (n13 ≤ 65536))) w2)
     (K (.bool false) w2))
    (K (.bool false) w2))
   (K (.bool false) w2))
  (K (.bool false) w2))
def S_bI_Abs (N : Nums) (P : Program) (q0 : Option Addr) (q1 : Option Addr) (w : World) (K : Value → World → Prop) : Prop :=
 optM q1 fun a1 =>
 cS_ w (a1.add 1) fun s2a s2l s2c =>
 CallsX P N.f_bn_twin #[.slice s2a s2l s2c] w fun v4 w3 =>
 vS_ v4 fun s5a s5l s5c =>
 CallsX P N.f_bI_give #[.pointer q0, .bool false, .slice s5a s5l s5c] w3 fun v7 w6 =>
 ∃ p8 : (Option Addr), v7 = (.pointer p8) ∧
 K (.pointer p8) w6
def S_dyad_top (N : Nums) (P : Program) (q0_0 : Bool) (q0_1 : Option Addr) (q0_1l q0_1c : Nat) (q0_2 : Int) (w : World) (K : Value → World → Prop) : Prop :=
 newM #[.bool q0_0, .slice q0_1 q0_1l q0_1c, .int .i64 q0_2] N.t_Dyad w fun p1 w2 =>
 cS_ w2 (p1.add 1) fun s3a s3l s3c =>
 cI_ w2 (p1.add 2) fun n4 =>
 cS_ w2 (p1.add 1) fun s5a s5l s5c =>
 (0 : Int) ≤ (IntKind.i64.wrap (((s3l : Nat) : Int) - 1)) ∧ (IntKind.i64.wrap (((s3l : Nat) : Int) - 1)) < (s5l : Nat) ∧
 optM s5a fun a6 =>
 ∃ n7, w2.cell? (a6.add ((IntKind.i64.wrap (((s3l : Nat) : Int) - 1)).toNat * 1)) = some (.int .u64 n7) ∧
 drM w2 fun w8 =>
 CallsX P N.f_math_bits_Len64 #[.int .u64 n7] w8 fun v10 w9 =>
 ∃ n11, v10 = (.int .i64 n11) ∧
 w9.cell? (p1.add 2) = some (.int .i64 n4) ∧
 drM w9 fun w12 =>
 K (.int .i64 (IntKind.i64.wrap ((IntKind.i64.wrap (n4 + (IntKind.i64.wrap (64 * (IntKind.i64.wrap (((s3l : Nat) : Int) - 1)))))) + n11))) w12
def S_bI_Lsh (N : Nums) (P : Program) (q0 : Option Addr) (q1 : Option Addr) (q2 : Int) (w : World) (K : Value → World → Prop) : Prop :=
 optM q1 fun a1 =>
 cB_ w a1 fun b2 =>
 optM q1 fun a3 =>
 cS_ w (a3.add 1) fun s4a s4l s4c =>
 drM w fun w5 =>
 CallsX P N.f_bn_left #[.slice s4a s4l s4c, .int .u64 q2] w5 fun v7 w6 =>
 vS_ v7 fun s8a s8l s8c =>
 w6.cell? a1 = some (.bool b2) ∧
 drM w6 fun w9 =>
 CallsX P N.f_bI_give #[.pointer q0, .bool b2, .slice s8a s8l s8c] w9 fun v11 w10 =>
 ∃ p12 : (Option Addr), v11 = (.pointer p12) ∧
 drM w10 fun w13 =>
 K (.pointer p12) w13
def S_bI_Uint64 (N : Nums) (P : Program) (q0 : Option Addr) (w : World) (K : Value → World → Prop) : Prop :=
 optM q0 fun a1 =>
 cS_ w (a1.add 1) fun s2a s2l s2c =>
 cutM (σ := Int × Unit) (fun J3 =>
  cond (decide (((s2l : Nat) : Int) > 0))
  (optM q0 fun a6 =>
   cS_ w (a6.add 1) fun s7a s7l s7c =>
   (0 : Int) ≤ (0 : Int) ∧ (0 : Int) < (s7l : Nat) ∧
   optM s7a fun a8 =>
   cW_ w (a8.add ((0 : Int).toNat * 1)) fun n9 =>
   J3 ((IntKind.u64.wrap n9), ()) w)
  (J3 (0, ()) w))
 (fun s4 w5 =>
  optM q0 fun a10 =>
  cS_ w5 (a10.add 1) fun s11a s11l s11c =>
  cutM (σ := Int × Unit) (fun J12 =>
   cond (decide (((s11l : Nat) : Int) > 1))
   (optM q0 fun a15 =>
    cS_ w5 (a15.add 1) fun s16a s16l s16c =>
    (0 : Int) ≤ (1 : Int) ∧ (1 : Int) < (s16l : Nat) ∧
    optM s16a fun a17 =>
    cW_ w5 (a17.add ((1 : Int).toNat * 1)) fun n18 =>
    (0 : Int) ≤ 32 ∧
    J12 ((IntKind.u64.wrap (BitVec.ofInt IntKind.u64.bits s4.1 ||| BitVec.ofInt IntKind.u64.bits (IntKind.u64.wrap ((IntKind.u64.wrap n18) * 2 ^ (min (32 : Int).toNat IntKind.u64.bits)))).toNat), ()) w5)
   (J12 (s4.1, ()) w5))
  (fun s13 w14 =>
   K (.int .u64 s13.1) w14))
def S_bI_Rsh (N : Nums) (P : Program) (q0 : Option Addr) (q1 : Option Addr) (q2 : Int) (w : World) (K : Value → World → Prop) : Prop :=
 optM q1 fun a1 =>
 cB_ w a1 fun b2 =>
 cond b2
 (optM q1 fun a3 =>
  cS_ w (a3.add 1) fun s4a s4l s4c =>
  newM #[.int .u32 1] N.t_uint32 w fun p5 w6 =>
  CallsX P N.f_bn_sub #[.slice s4a s4l s4c, .slice (some p5) 1 1] w6 fun v8 w7 =>
  vS_ v8 fun s9a s9l s9c =>
  CallsX P N.f_bn_right #[.slice s9a s9l s9c, .int .u64 q2] w7 fun v11 w10 =>
  vS_ v11 fun s12a s12l s12c =>
  newM #[.int .u32 1] N.t_uint32 w10 fun p13 w14 =>
  CallsX P N.f_bn_add #[.slice s12a s12l s12c, .slice (some p13) 1 1] w14 fun v16 w15 =>
  vS_ v16 fun s17a s17l s17c =>
  CallsX P N.f_bI_give #[.pointer q0, .bool true, .slice s17a s17l s17c] w15 fun v19 w18 =>
  ∃ p20 : (Option Addr), v19 = (.pointer p20) ∧
  K (.pointer p20) w18)
 (optM q1 fun a21 =>
  cS_ w (a21.add 1) fun s22a s22l s22c =>
  CallsX P N.f_bn_right #[.slice s22a s22l s22c, .int .u64 q2] w fun v24 w23 =>
  vS_ v24 fun s25a s25l s25c =>
  CallsX P N.f_bI_give #[.pointer q0, .bool false, .slice s25a s25l s25c] w23 fun v27 w26 =>
  ∃ p28 : (Option Addr), v27 = (.pointer p28) ∧
  K (.pointer p28) w26)
def S_bI_Sub (N : Nums) (P : Program) (q0 : Option Addr) (q1 : Option Addr) (q2 : Option Addr) (w : World) (K : Value → World → Prop) : Prop :=
 optM q1 fun a1 =>
 cB_ w a1 fun b2 =>
 optM q1 fun a3 =>
 cS_ w (a3.add 1) fun s4a s4l s4c =>
 optM q2 fun a5 =>
 cB_ w a5 fun b6 =>
 optM q2 fun a7 =>
 cS_ w (a7.add 1) fun s8a s8l s8c =>
 drM w fun w9 =>
 CallsX P N.f_bn_sum #[.bool b2, .slice s4a s4l s4c, .bool (!b6), .slice s8a s8l s8c] w9 fun v11 w10 =>
 ∃ b12, ∃ s13a s13l s13c, v11 = (.tuple #[.bool b12, .slice s13a s13l s13c]) ∧
 drM w10 fun w14 =>
 CallsX P N.f_bI_give #[.pointer q0, .bool b12, .slice s13a s13l s13c] w14 fun v16 w15 =>
 ∃ p17 : (Option Addr), v16 = (.pointer p17) ∧
 drM w15 fun w18 =>
 K (.pointer p17) w18
def S_bI_Cmp (N : Nums) (P : Program) (q0 : Option Addr) (q1 : Option Addr) (w : World) (K : Value → World → Prop) : Prop :=
 optM q0 fun a1 =>
 cB_ w a1 fun b2 =>
 optM q1 fun a3 =>
 cB_ w a3 fun b4 =>
 drM w fun w5 =>
 cond (!(b2 == b4))
 (optM q0 fun a6 =>
  cB_ w5 a6 fun b7 =>
  cond b7
  (K (.int .i64 (-1)) w5)
  (K (.int .i64 1) w5))
 (optM q0 fun a8 =>
  cS_ w5 (a8.add 1) fun s9a s9l s9c =>
  optM q1 fun a10 =>
  cS_ w5 (a10.add 1) fun s11a s11l s11c =>
  drM w5 fun w12 =>
  CallsX P N.f_bn_cmp #[.slice s9a s9l s9c, .slice s11a s11l s11c] w12 fun v14 w13 =>
  ∃ n15, v14 = (.int .i64 n15) ∧
  drM w13 fun w16 =>
  optM q0 fun a17 =>
  cB_ w16 a17 fun b18 =>
  cond b18
  (K (.int .i64 (IntKind.i64.wrap (0 - n15))) w16)
  (K (.int .i64 n15) w16))
def S_bn_NewInt (N : Nums) (P : Program) (q0 : Int) (w : World) (K : Value → World → Prop) : Prop :=
 newM #[.bool false, .slice none 0 0] N.t_bn_Int w fun p1 w2 =>
 CallsX P N.f_bI_SetInt64 #[.pointer (some p1), .int .i64 q0] w2 fun v4 w3 =>
 ∃ p5 : (Option Addr), v4 = (.pointer p5) ∧
 K (.pointer p5) w3
def S_bI_Sign (N : Nums) (P : Program) (q0 : Option Addr) (w : World) (K : Value → World → Prop) : Prop :=
 optM q0 fun a1 =>
 cS_ w (a1.add 1) fun s2a s2l s2c =>
 cond (((s2l : Nat) : Int) == 0)
 (K (.int .i64 0) w)
 (optM q0 fun a3 =>
  cB_ w a3 fun b4 =>
  cond b4
  (K (.int .i64 (-1)) w)
  (K (.int .i64 1) w))
def S_dyad_away (N : Nums) (P : Program) (q0 : Int) (q1 : Bool) (q2 : Int) (q3 : Bool) (w : World) (K : Value → World → Prop) : Prop :=
 cond (q0 == 1)
 (K (.bool q1) w)
 (cond (q0 == 2)
  (K (.bool (!q1)) w)
  (cond (q0 == 3)
   (K (.bool false) w)
   (cond (!(decide (q2 > 0)))
    (cond (q2 == 0)
     (K (.bool q3) w)
     (K (.bool false) w))
    (K (.bool true) w))))
def S_dyad_float (N : Nums) (P : Program) (q0 : Bool) (q1 : Int) (q2 : Int) (q3 : Int) (w : World) (K : Value → World → Prop) : Prop :=
 newM #[.bool false, .int .u64 0, .int .i64 0] N.t_Parts w fun p1 w2 =>
 stM p1 (.bool q0) w2 fun w3 =>
 stM (p1.add 1) (.int .u64 0) w3 fun w4 =>
 stM (p1.add 2) (.int .i64 0) w4 fun w5 =>
 cutM (σ := Unit) (fun J6 =>
  cond (decide (q1 > 0))
  (CallsX P N.f_math_bits_TrailingZeros64 #[.int .u64 q1] w5 fun v10 w9 =>
   ∃ n11, v10 = (.int .i64 n11) ∧
   (0 : Int) ≤ n11 ∧
   stM (p1.add 1) (.int .u64 (q1.fdiv (2 ^ (min n11.toNat IntKind.u64.bits)))) w9 fun w12 =>
   stM (p1.add 2) (.int .i64 (IntKind.i64.wrap (q2 + n11))) w12 fun w13 =>
   J6 (()) w13)
  (J6 (()) w5))
 (fun s7 w8 =>
  cU_ w8 (p1.add 1) fun n14 =>
  cI_ w8 (p1.add 2) fun n15 =>
  drM w8 fun w16 =>
  CallsX P N.f_math_bits_Len64 #[.int .u64 n14] w16 fun v18 w17 =>
  ∃ n19, v18 = (.int .i64 n19) ∧
  w17.cell? (p1.add 2) = some (.int .i64 n15) ∧
  drM w17 fun w20 =>
  cond (decide ((IntKind.i64.wrap (n19 + n15)) > 1024))
  (stM (p1.add 1) (.int .u64 9007199254740991) w20 fun w21 =>
   stM (p1.add 2) (.int .i64 971) w21 fun w22 =>
   cB_ w22 p1 fun b23 =>
   cU_ w22 (p1.add 1) fun n24 =>
   cI_ w22 (p1.add 2) fun n25 =>
   CallsX P N.f_bits_Join #[.agg #[.bool b23, .int .u64 n24, .int .i64 n25]] w22 fun v27 w26 =>
   ∃ x28, ∃ b29, v27 = (.tuple #[.float .f64 x28, .bool b29]) ∧
   cond (!(q3 == 3))
   (cond (q3 == 1)
    (cond (!(!q0))
     (cond (q3 == 2)
      (cond q0
       (K (.float .f64 x28) w26)
       (CallsX P N.f_bits_Next #[.float .f64 x28, .bool (!q0)] w26 fun v31 w30 =>
        ∃ x32, v31 = (.float .f64 x32) ∧
        K (.float .f64 x32) w30))
      (CallsX P N.f_bits_Next #[.float .f64 x28, .bool (!q0)] w26 fun v34 w33 =>
       ∃ x35, v34 = (.float .f64 x35) ∧
       K (.float .f64 x35) w33))
     (K (.float .f64 x28) w26))
    (cond (q3 == 2)
     (cond q0
      (K (.float .f64 x28) w26)
      (CallsX P N.f_bits_Next #[.float .f64 x28, .bool (!q0)] w26 fun v37 w36 =>
       ∃ x38, v37 = (.float .f64 x38) ∧
       K (.float .f64 x38) w36))
     (CallsX P N.f_bits_Next #[.float .f64 x28, .bool (!q0)] w26 fun v40 w39 =>
      ∃ x41, v40 = (.float .f64 x41) ∧
      K (.float .f64 x41) w39)))
   (K (.float .f64 x28) w26))
  (cB_ w20 p1 fun b42 =>
   cU_ w20 (p1.add 1) fun n43 =>
   cI_ w20 (p1.add 2) fun n44 =>
   CallsX P N.f_bits_Join #[.agg #[.bool b42, .int .u64 n43, .int .i64 n44]] w20 fun v46 w45 =>
   ∃ x47, ∃ b48, v46 = (.tuple #[.float .f64 x47, .bool b48]) ∧
   K (.float .f64 x47) w45))
def S_r10_may (N : Nums) (P : Program) (q0 : Int) (w : World) (K : Value → World → Prop) : Prop :=
 cond (decide (q0 ≥ 0))
 (K (.bool (decide (q0 ≤ 48))) w)
 (K (.bool false) w)
def S_r01_Finite (N : Nums) (P : Program) (q0 : Nat) (w : World) (K : Value → World → Prop) : Prop :=
 CallsX P N.f_r01_Kind #[.float .f64 q0] w fun v2 w1 =>
 ∃ n3, v2 = (.int .i64 n3) ∧
 K (.bool (decide (n3 < 3))) w1
def S_r01_fields (N : Nums) (P : Program) (q0 : Nat) (w : World) (K : Value → World → Prop) : Prop :=
 CallsX P N.f_math_Float64bits #[.float .f64 q0] w fun v2 w1 =>
 ∃ n3, v2 = (.int .u64 n3) ∧
 (0 : Int) ≤ 63 ∧
 (4503599627370496 : Int) ≠ 0 ∧
 (2048 : Int) ≠ 0 ∧
 (4503599627370496 : Int) ≠ 0 ∧
 K (.tuple #[.bool ((n3.fdiv (2 ^ (min (63 : Int).toNat IntKind.u64.bits))) == 1), .int .i64 (IntKind.i64.wrap ((IntKind.u64.wrap (n3.tdiv 4503599627370496)).tmod 2048)), .int .u64 (n3.tmod 4503599627370496)]) w1
def S_r02_NatTrim (N : Nums) (P : Program) (q0 : Option Addr) (q0l q0c : Nat) (w : World) (K : Value → World → Prop) : Prop :=
 cutM (σ := Int × Unit) (fun J1 =>
  loopM (σ := Int × Unit) (fun s4 X5 w6 =>
   cond (decide (s4.1 > 0))
   ((0 : Int) ≤ (IntKind.i64.wrap (s4.1 - 1)) ∧ (IntKind.i64.wrap (s4.1 - 1)) < (q0l : Nat) ∧
    optM q0 fun a7 =>
    ∃ n8, w6.cell? (a7.add ((IntKind.i64.wrap (s4.1 - 1)).toNat * 1)) = some (.int .u64 n8) ∧
    cond (n8 == 0)
    (X5 ((IntKind.i64.wrap (s4.1 - 1)), ()) w6)
    (J1 (s4.1, ()) w6))
   (J1 (s4.1, ()) w6))
  (((q0l : Nat) : Int), ()) w)
 (fun s2 w3 =>
  (0 : Int) ≤ s2.1 ∧ s2.1 ≤ (q0c : Nat) ∧
  appM N.t_uint64 1 8 #[.int .u64 0] none 0 0 (slBase q0 0 q0c 1) s2.1.toNat w3 fun s9a s9l s9c w10 =>
  K (.slice s9a s9l s9c) w10)
def S_r02_limbs (N : Nums) (P : Program) (q0 : Option Addr) (q0l q0c : Nat) (w : World) (K : Value → World → Prop) : Prop :=
 cutM (σ := (Option Addr × Nat × Nat) × Unit) (fun J1 =>
  loopM (σ := (Option Addr × Nat × Nat) × Int × Unit) (fun s4 X5 w6 =>
   cond (decide (s4.2.1 < ((q0l : Nat) : Int)))
   ((0 : Int) ≤ s4.2.1 ∧ s4.2.1 < (q0l : Nat) ∧
    optM q0 fun a7 =>
    cU_ w6 (a7.add (s4.2.1.toNat * 1)) fun n8 =>
    cutM (σ := Int × Unit) (fun J9 =>
     cond (decide ((IntKind.i64.wrap (s4.2.1 + 1)) < ((q0l : Nat) : Int)))
     ((0 : Int) ≤ (IntKind.i64.wrap (s4.2.1 + 1)) ∧ (IntKind.i64.wrap (s4.2.1 + 1)) < (q0l : Nat) ∧
      optM q0 fun a12 =>
      ∃ n13, w6.cell? (a12.add ((IntKind.i64.wrap (s4.2.1 + 1)).toNat * 1)) = some (.int .u64 n13) ∧
      J9 ((IntKind.u64.wrap (n8 + (IntKind.u64.wrap (4294967296 * n13)))), ()) w6)
     (J9 (n8, ()) w6))
    (fun s10 w11 =>
     newM #[.int .u64 s10.1] N.t_uint64 w11 fun p14 w15 =>
     appM N.t_uint64 1 8 #[.int .u64 0] s4.1.1 s4.1.2.1 s4.1.2.2 (some p14) 1 w15 fun s16a s16l s16c w17 =>
     X5 ((s16a, s16l, s16c), (IntKind.i64.wrap (s4.2.1 + 2)), ()) w17))
   (J1 ((s4.1.1, s4.1.2.1, s4.1.2.2), ()) w6))
  ((none, 0, 0), 0, ()) w)
 (fun s2 w3 =>
  CallsX P N.f_r02_NatTrim #[.slice s2.1.1 s2.1.2.1 s2.1.2.2] w3 fun v19 w18 =>
  vS_ v19 fun s20a s20l s20c =>
  K (.slice s20a s20l s20c) w18)
def S_r02_product (N : Nums) (P : Program) (q0 : Option Addr) (q0l q0c : Nat) (q1 : Option Addr) (q1l q1c : Nat) (w : World) (K : Value → World → Prop) : Prop :=
 mkM N.t_uint64 1 8 #[.int .u64 0] (IntKind.i64.wrap (((q0l : Nat) : Int) + ((q1l : Nat) : Int))) (IntKind.i64.wrap (((q0l : Nat) : Int) + ((q1l : Nat) : Int))) w fun p1 w2 =>
 cutM (σ := Unit) (fun J3 =>
  loopM (σ := Int × Unit) (fun s6 X7 w8 =>
   cond (decide (s6.1 < ((q0l : Nat) : Int)))
   (cutM (σ := Int × Unit) (fun J9 =>
     loopM (σ := Int × Int × Unit) (fun s12 X13 w14 =>
      cond (decide (s12.2.1 < ((q1l : Nat) : Int)))
      ((0 : Int) ≤ s6.1 ∧ s6.1 < (q0l : Nat) ∧
       optM q0 fun a15 =>
       cU_ w14 (a15.add (s6.1.toNat * 1)) fun n16 =>
       (0 : Int) ≤ s12.2.1 ∧ s12.2.1 < (q1l : Nat) ∧
       optM q1 fun a17 =>
       cU_ w14 (a17.add (s12.2.1.toNat * 1)) fun n18 =>
       (0 : Int) ≤ (IntKind.i64.wrap (s6.1 + s12.2.1)) ∧ (IntKind.i64.wrap (s6.1 + s12.2.1)) < ((IntKind.i64.wrap (((q0l : Nat) : Int) + ((q1l : Nat) : Int))).toNat : Nat) ∧
       ∃ n19, w14.cell? (p1.add ((IntKind.i64.wrap (s6.1 + s12.2.1)).toNat * 1)) = some (.int .u64 n19) ∧
       drM w14 fun w20 =>
       (4294967296 : Int) ≠ 0 ∧
       (0 : Int) ≤ (IntKind.i64.wrap (s6.1 + s12.2.1)) ∧ (IntKind.i64.wrap (s6.1 + s12.2.1)) < ((IntKind.i64.wrap (((q0l : Nat) : Int) + ((q1l : Nat) : Int))).toNat : Nat) ∧
       stM (p1.add ((IntKind.i64.wrap (s6.1 + s12.2.1)).toNat * 1)) (.int .u64 ((IntKind.u64.wrap ((IntKind.u64.wrap ((IntKind.u64.wrap (n16 * n18)) + n19)) + s12.1)).tmod 4294967296)) w20 fun w21 =>
       (4294967296 : Int) ≠ 0 ∧
       X13 ((IntKind.u64.wrap ((IntKind.u64.wrap ((IntKind.u64.wrap ((IntKind.u64.wrap (n16 * n18)) + n19)) + s12.1)).tdiv 4294967296)), (IntKind.i64.wrap (s12.2.1 + 1)), ()) w21)
      (J9 (s12.1, ()) w14))
     (0, 0, ()) w8)
    (fun s10 w11 =>
     (0 : Int) ≤ (IntKind.i64.wrap (s6.1 + ((q1l : Nat) : Int))) ∧ (IntKind.i64.wrap (s6.1 + ((q1l : Nat) : Int))) < ((IntKind.i64.wrap (((q0l : Nat) : Int) + ((q1l : Nat) : Int))).toNat : Nat) ∧
     stM (p1.add ((IntKind.i64.wrap (s6.1 + ((q1l : Nat) : Int))).toNat * 1)) (.int .u64 s10.1) w11 fun w22 =>
     X7 ((IntKind.i64.wrap (s6.1 + 1)), ()) w22))
   (J3 (()) w8))
  (0, ()) w2)
 (fun s4 w5 =>
  CallsX P N.f_r02_low #[.slice (some p1) ((IntKind.i64.wrap (((q0l : Nat) : Int) + ((q1l : Nat) : Int))).toNat) ((IntKind.i64.wrap (((q0l : Nat) : Int) + ((q1l : Nat) : Int))).toNat)] w5 fun v24 w23 =>
  vS_ v24 fun s25a s25l s25c =>
  K (.slice s25a s25l s25c) w23)
def S_r02_halves (N : Nums) (P : Program) (q0 : Option Addr) (q0l q0c : Nat) (w : World) (K : Value → World → Prop) : Prop :=
 cutM (σ := (Option Addr × Nat × Nat) × Unit) (fun J1 =>
  loopM (σ := (Option Addr × Nat × Nat) × Int × Unit) (fun s4 X5 w6 =>
   cond (decide (s4.2.1 < ((q0l : Nat) : Int)))
   ((0 : Int) ≤ s4.2.1 ∧ s4.2.1 < (q0l : Nat) ∧
    optM q0 fun a7 =>
    cU_ w6 (a7.add (s4.2.1.toNat * 1)) fun n8 =>
    (4294967296 : Int) ≠ 0 ∧
    (0 : Int) ≤ s4.2.1 ∧ s4.2.1 < (q0l : Nat) ∧
    optM q0 fun a9 =>
    cU_ w6 (a9.add (s4.2.1.toNat * 1)) fun n10 =>
    (4294967296 : Int) ≠ 0 ∧
    drM w6 fun w11 =>
    newM #[.int .u64 (n8.tmod 4294967296), .int .u64 (IntKind.u64.wrap (n10.tdiv 4294967296))] N.t_uint64 w11 fun p12 w13 =>
    drM w13 fun w14 =>
    appM N.t_uint64 1 8 #[.int .u64 0] s4.1.1 s4.1.2.1 s4.1.2.2 (some p12) 2 w14 fun s15a s15l s15c w16 =>
    drM w16 fun w17 =>
    X5 ((s15a, s15l, s15c), (IntKind.i64.wrap (s4.2.1 + 1)), ()) w17)
   (J1 ((s4.1.1, s4.1.2.1, s4.1.2.2), ()) w6))
  ((none, 0, 0), 0, ()) w)
 (fun s2 w3 =>
  CallsX P N.f_r02_low #[.slice s2.1.1 s2.1.2.1 s2.1.2.2] w3 fun v19 w18 =>
  vS_ v19 fun s20a s20l s20c =>
  K (.slice s20a s20l s20c) w18)
def S_r02_digit (N : Nums) (P : Program) (q0 : Option Addr) (q0l q0c : Nat) (q1 : Int) (w : World) (K : Value → World → Prop) : Prop :=
 cond (decide (q1 < ((q0l : Nat) : Int)))
 ((0 : Int) ≤ q1 ∧ q1 < (q0l : Nat) ∧
  optM q0 fun a1 =>
  cU_ w (a1.add (q1.toNat * 1)) fun n2 =>
  K (.int .u64 n2) w)
 (K (.int .u64 0) w)
def S_r02_short (N : Nums) (P : Program) (q0 : Option Addr) (q0l q0c : Nat) (q1 : Int) (w : World) (K : Value → World → Prop) : Prop :=
 mkM N.t_uint64 1 8 #[.int .u64 0] ((q0l : Nat) : Int) ((q0l : Nat) : Int) w fun p1 w2 =>
 cutM (σ := Int × Unit) (fun J3 =>
  loopM (σ := Int × Int × Unit) (fun s6 X7 w8 =>
   cond (decide (s6.2.1 ≥ 0))
   ((0 : Int) ≤ s6.2.1 ∧ s6.2.1 < (q0l : Nat) ∧
    optM q0 fun a9 =>
    cU_ w8 (a9.add (s6.2.1.toNat * 1)) fun n10 =>
    (q1 : Int) ≠ 0 ∧
    (0 : Int) ≤ s6.2.1 ∧ s6.2.1 < (((q0l : Nat) : Int).toNat : Nat) ∧
    stM (p1.add (s6.2.1.toNat * 1)) (.int .u64 (IntKind.u64.wrap ((IntKind.u64.wrap ((IntKind.u64.wrap (s6.1 * 4294967296)) + n10)).tdiv q1))) w8 fun w11 =>
    (q1 : Int) ≠ 0 ∧
    X7 (((IntKind.u64.wrap ((IntKind.u64.wrap (s6.1 * 4294967296)) + n10)).tmod q1), (IntKind.i64.wrap (s6.2.1 - 1)), ()) w11)
   (J3 (s6.1, ()) w8))
  (0, (IntKind.i64.wrap (((q0l : Nat) : Int) - 1)), ()) w2)
 (fun s4 w5 =>
  CallsX P N.f_r02_low #[.slice (some p1) (((q0l : Nat) : Int).toNat) (((q0l : Nat) : Int).toNat)] w5 fun v13 w12 =>
  vS_ v13 fun s14a s14l s14c =>
  K (.tuple #[.slice s14a s14l s14c, .int .u64 s4.1]) w12)
def S_r01_Join (N : Nums) (P : Program) (q0_0 : Bool) (q0_1 : Int) (q0_2 : Int) (w : World) (K : Value → World → Prop) : Prop :=
 newM #[.bool q0_0, .int .u64 q0_1, .int .i64 q0_2] N.t_Parts w fun p1 w2 =>
 cutM (σ := Bool × Unit) (fun J3 =>
  cU_ w2 (p1.add 1) fun n6 =>
  cond (!(decide (n6 ≥ 9007199254740992)))
  (cI_ w2 (p1.add 2) fun n7 =>
   cond (!(decide (n7 < (-1074))))
   (cI_ w2 (p1.add 2) fun n8 =>
    cond (!(decide (n8 > 1023)))
    (cU_ w2 (p1.add 1) fun n9 =>
     cU_ w2 (p1.add 1) fun n10 =>
     (2 : Int) ≠ 0 ∧
     cond (!(!((n9 == 0) == ((n10.tmod 2) == 0))))
     (cU_ w2 (p1.add 1) fun n11 =>
      cond (n11 == 0)
      (cI_ w2 (p1.add 2) fun n12 =>
       J3 ((n12 != 0), ()) w2)
      (J3 (false, ()) w2))
     (J3 (true, ()) w2))
    (J3 (true, ()) w2))
   (J3 (true, ()) w2))
  (J3 (true, ()) w2))
 (fun s4 w5 =>
  cond s4.1
  (K (.tuple #[.float .f64 0, .bool false]) w5)
  (cU_ w5 (p1.add 1) fun n13 =>
   cI_ w5 (p1.add 2) fun n14 =>
   drM w5 fun w15 =>
   cutM (σ := Int × Int × Unit) (fun J16 =>
    loopM (σ := Int × Int × Unit) (fun s19 X20 w21 =>
     cond (s19.1 != 0)
     (cond (decide (s19.1 < 4503599627370496))
      (cond (decide (s19.2.1 > (-1074)))
       (X20 ((IntKind.u64.wrap (2 * s19.1)), (IntKind.i64.wrap (s19.2.1 - 1)), ()) w21)
       (J16 (s19.1, s19.2.1, ()) w21))
      (J16 (s19.1, s19.2.1, ()) w21))
     (J16 (s19.1, s19.2.1, ()) w21))
    (n13, n14, ()) w15)
   (fun s17 w18 =>
    cond (decide (s17.2.1 > 971))
    (K (.tuple #[.float .f64 0, .bool false]) w18)
    (cutM (σ := Int × Unit) (fun J22 =>
      cond (decide (s17.1 ≥ 4503599627370496))
      ((0 : Int) ≤ 52 ∧
       J22 ((IntKind.u64.wrap ((IntKind.u64.wrap (s17.1 - 4503599627370496)) + (IntKind.u64.wrap ((IntKind.u64.wrap (IntKind.i64.wrap (s17.2.1 + 1075))) * 2 ^ (min (52 : Int).toNat IntKind.u64.bits))))), ()) w18)
      (J22 (s17.1, ()) w18))
     (fun s23 w24 =>
      cB_ w24 p1 fun b25 =>
      cutM (σ := Int × Unit) (fun J26 =>
       cond b25
       (J26 ((IntKind.u64.wrap (s23.1 + 9223372036854775808)), ()) w24)
       (J26 (s23.1, ()) w24))
      (fun s27 w28 =>
       CallsX P N.f_math_Float64frombits #[.int .u64 s27.1] w28 fun v30 w29 =>
       ∃ x31, v30 = (.float .f64 x31) ∧
       K (.tuple #[.float .f64 x31, .bool true]) w29))))))
def S_vector_fit (N : Nums) (P : Program) (q0 : Option Addr) (q0l q0c : Nat) (q1 : Option Addr) (q1l q1c : Nat) (w : World) (K : Value → World → Prop) : Prop :=
 cond (((q0l : Nat) : Int) != ((q1l : Nat) : Int))
 (K (.int .i64 4) w)
 (cond (decide (((q0l : Nat) : Int) > 4096))
  (K (.int .i64 3) w)
  (K (.int .i64 0) w))
def S_round_way (N : Nums) (P : Program) (q0 : Int) (w : World) (K : Value → World → Prop) : Prop :=
 cond (!(decide (q0 < 0)))
 (cond (decide (q0 > 3))
  (K (.int .i8 0) w)
  (K (.int .i8 q0) w))
 (K (.int .i8 0) w)
def S_round_finite (N : Nums) (P : Program) (q0 : Option Addr) (q0l q0c : Nat) (w : World) (K : Value → World → Prop) : Prop :=
 cutM (σ := Unit) (fun J1 =>
  loopM (σ := Int × Unit) (fun s4 X5 w6 =>
   cond (decide (s4.1 < ((q0l : Nat) : Int)))
   ((0 : Int) ≤ s4.1 ∧ s4.1 < (q0l : Nat) ∧
    optM q0 fun a7 =>
    cF_ w6 (a7.add (s4.1.toNat * 1)) fun x8 =>
    CallsX P N.f_math_IsNaN #[.float .f64 x8] w6 fun v10 w9 =>
    vB_ v10 fun b11 =>
    cond (!b11)
    (CallsX P N.f_math_IsInf #[.float .f64 x8, .int .i64 0] w9 fun v13 w12 =>
     vB_ v13 fun b14 =>
     cond b14
     (K (.bool false) w12)
     (X5 ((IntKind.i64.wrap (s4.1 + 1)), ()) w12))
    (K (.bool false) w9))
   (J1 (()) w6))
  (0, ()) w)
 (fun s2 w3 =>
  K (.bool true) w3)
def S_math_Signbit (N : Nums) (P : Program) (q0 : Nat) (w : World) (K : Value → World → Prop) : Prop :=
 CallsX P N.f_math_Float64bits #[.float .f64 q0] w fun v2 w1 =>
 ∃ n3, v2 = (.int .u64 n3) ∧
 K (.bool (decide ((IntKind.i64.wrap n3) < 0))) w1
def S_round_none (N : Nums) (P : Program) (q0 : Int) (w : World) (K : Value → World → Prop) : Prop :=
 cond (q0 == 1)
 (CallsX P N.f_math_Copysign #[.float .f64 0, .float .f64 13830554455654793216] w fun v2 w1 =>
  ∃ x3, v2 = (.float .f64 x3) ∧
  K (.float .f64 x3) w1)
 (K (.float .f64 0) w)
def S_round_settle (N : Nums) (P : Program) (q0 : Nat) (q1 : Int) (q2 : Int) (w : World) (K : Value → World → Prop) : Prop :=
 cutM (σ := Int × Unit) (fun J1 =>
  cond (q2 == 3)
  (CallsX P N.f_math_Signbit #[.float .f64 q0] w fun v5 w4 =>
   vB_ v5 fun b6 =>
   cutM (σ := Int × Unit) (fun J7 =>
    cond b6
    (J7 (2, ()) w4)
    (J7 (1, ()) w4))
   (fun s8 w9 =>
    J1 (s8.1, ()) w9))
  (J1 (q2, ()) w))
 (fun s2 w3 =>
  CallsX P N.f_math_IsInf #[.float .f64 q0, .int .i64 0] w3 fun v11 w10 =>
  vB_ v11 fun b12 =>
  cond b12
  (cond (fgt q0 0)
   (cond (!(s2.1 == 1))
    (cond (flt q0 0)
     (cond (s2.1 == 2)
      (CallsX P N.f_math_Copysign #[.float .f64 9218868437227405311, .float .f64 q0] w10 fun v14 w13 =>
       ∃ x15, v14 = (.float .f64 x15) ∧
       K (.float .f64 x15) w13)
      (K (.float .f64 q0) w10))
     (K (.float .f64 q0) w10))
    (CallsX P N.f_math_Copysign #[.float .f64 9218868437227405311, .float .f64 q0] w10 fun v17 w16 =>
     ∃ x18, v17 = (.float .f64 x18) ∧
     K (.float .f64 x18) w16))
   (cond (flt q0 0)
    (cond (s2.1 == 2)
     (CallsX P N.f_math_Copysign #[.float .f64 9218868437227405311, .float .f64 q0] w10 fun v20 w19 =>
      ∃ x21, v20 = (.float .f64 x21) ∧
      K (.float .f64 x21) w19)
     (K (.float .f64 q0) w10))
    (K (.float .f64 q0) w10)))
  (cond (decide (q1 < 0))
   (cond (!(s2.1 == 1))
    (cond (decide (q1 > 0))
     (cond (s2.1 == 2)
      (CallsX P N.f_round_step #[.float .f64 q0, .bool (decide (q1 > 0))] w10 fun v23 w22 =>
       ∃ x24, v23 = (.float .f64 x24) ∧
       K (.float .f64 x24) w22)
      (K (.float .f64 q0) w10))
     (K (.float .f64 q0) w10))
    (CallsX P N.f_round_step #[.float .f64 q0, .bool (decide (q1 > 0))] w10 fun v26 w25 =>
     ∃ x27, v26 = (.float .f64 x27) ∧
     K (.float .f64 x27) w25))
   (cond (decide (q1 > 0))
    (cond (s2.1 == 2)
     (CallsX P N.f_round_step #[.float .f64 q0, .bool (decide (q1 > 0))] w10 fun v29 w28 =>
      ∃ x30, v29 = (.float .f64 x30) ∧
      K (.float .f64 x30) w28)
     (K (.float .f64 q0) w10))
    (K (.float .f64 q0) w10))))
def S_round_sign (N : Nums) (P : Program) (q0 : Nat) (w : World) (K : Value → World → Prop) : Prop :=
 cond (fgt q0 0)
 (K (.int .i64 1) w)
 (cond (flt q0 0)
  (K (.int .i64 (-1)) w)
  (K (.int .i64 0) w))
def S_slices_Index___float64_float64 (N : Nums) (P : Program) (q0 : Option Addr) (q0l q0c : Nat) (q1 : Nat) (w : World) (K : Value → World → Prop) : Prop :=
 cutM (σ := Unit) (fun J1 =>
  loopM (σ := Int × Unit) (fun s4 X5 w6 =>
   cond (decide (s4.1 < ((q0l : Nat) : Int)))
   ((0 : Int) ≤ s4.1 ∧ s4.1 < (q0l : Nat) ∧
    optM q0 fun a7 =>
    cF_ w6 (a7.add (s4.1.toNat * 1)) fun x8 =>
    cond (feq q1 x8)
    (K (.int .i64 s4.1) w6)
    (X5 ((IntKind.i64.wrap (s4.1 + 1)), ()) w6))
   (J1 (()) w6))
  (0, ()) w)
 (fun s2 w3 =>
  K (.int .i64 (-1)) w3)
def S_bI_Add (N : Nums) (P : Program) (q0 : Option Addr) (q1 : Option Addr) (q2 : Option Addr) (w : World) (K : Value → World → Prop) : Prop :=
 optM q1 fun a1 =>
 cB_ w a1 fun b2 =>
 optM q1 fun a3 =>
 cS_ w (a3.add 1) fun s4a s4l s4c =>
 optM q2 fun a5 =>
 cB_ w a5 fun b6 =>
 optM q2 fun a7 =>
 cS_ w (a7.add 1) fun s8a s8l s8c =>
 drM w fun w9 =>
 CallsX P N.f_bn_sum #[.bool b2, .slice s4a s4l s4c, .bool b6, .slice s8a s8l s8c] w9 fun v11 w10 =>
 ∃ b12, ∃ s13a s13l s13c, v11 = (.tuple #[.bool b12, .slice s13a s13l s13c]) ∧
 drM w10 fun w14 =>
 CallsX P N.f_bI_give #[.pointer q0, .bool b12, .slice s13a s13l s13c] w14 fun v16 w15 =>
 ∃ p17 : (Option Addr), v16 = (.pointer p17) ∧
 drM w15 fun w18 =>
 K (.pointer p17) w18
def S_bits_Kind (N : Nums) (P : Program) (q0 : Nat) (w : World) (K : Value → World → Prop) : Prop :=
 CallsX P N.f_math_Abs #[.float .f64 q0] w fun v2 w1 =>
 ∃ x3, v2 = (.float .f64 x3) ∧
 cond (!feq q0 q0)
 (K (.int .i64 4) w1)
 (CallsX P N.f_math_IsInf #[.float .f64 q0, .int .i64 0] w1 fun v5 w4 =>
  vB_ v5 fun b6 =>
  cond b6
  (K (.int .i64 3) w4)
  (cond (fgt x3 4503599627370496 || feq x3 4503599627370496)
   (K (.int .i64 2) w4)
   (cond (fgt x3 0)
    (K (.int .i64 1) w4)
    (K (.int .i64 0) w4))))
def S_math_Frexp (N : Nums) (P : Program) (q0 : Nat) (w : World) (K : Value → World → Prop) : Prop :=
 CallsX P N.f_math_frexp #[.float .f64 q0] w fun v2 w1 =>
 ∃ x3, ∃ n4, v2 = (.tuple #[.float .f64 x3, .int .i64 n4]) ∧
 K (.tuple #[.float .f64 x3, .int .i64 n4]) w1
def S_math_Ldexp (N : Nums) (P : Program) (q0 : Nat) (q1 : Int) (w : World) (K : Value → World → Prop) : Prop :=
 CallsX P N.f_math_ldexp #[.float .f64 q0, .int .i64 q1] w fun v2 w1 =>
 ∃ x3, v2 = (.float .f64 x3) ∧
 K (.float .f64 x3) w1
def S_math_bits_TrailingZeros64 (N : Nums) (P : Program) (q0 : Int) (w : World) (K : Value → World → Prop) : Prop :=
 cond (q0 == 0)
 (K (.int .i64 64) w)
 ((0 : Int) ≤ 58 ∧
  (0 : Int) ≤ ((IntKind.u64.wrap ((IntKind.u64.wrap (BitVec.ofInt IntKind.u64.bits q0 &&& BitVec.ofInt IntKind.u64.bits (IntKind.u64.wrap (0 - q0))).toNat) * 285870213051353865)).fdiv (2 ^ (min (58 : Int).toNat IntKind.u64.bits))) ∧ ((IntKind.u64.wrap ((IntKind.u64.wrap (BitVec.ofInt IntKind.u64.bits q0 &&& BitVec.ofInt IntKind.u64.bits (IntKind.u64.wrap (0 - q0))).toNat) * 285870213051353865)).fdiv (2 ^ (min (58 : Int).toNat IntKind.u64.bits))) < (64 : Nat) ∧
  ∃ n1, w.cell? ((⟨N.g_1, 0, none⟩ : Addr).add (((IntKind.u64.wrap ((IntKind.u64.wrap (BitVec.ofInt IntKind.u64.bits q0 &&& BitVec.ofInt IntKind.u64.bits (IntKind.u64.wrap (0 - q0))).toNat) * 285870213051353865)).fdiv (2 ^ (min (58 : Int).toNat IntKind.u64.bits))).toNat * 1)) = some (.int .u8 n1) ∧
  K (.int .i64 (IntKind.i64.wrap n1)) w)
end Go.Eng
