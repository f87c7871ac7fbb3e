/-
 Some of the functions as propositions in the manner of a weakest precondition, printed off the structured code by a program of the session. No condition.
-/
import Derived.Test.YtmecjaojkegamaaGreatDoorTbl
import Derived.Test.YtmecjaojkegamaaGreatDoorNm
set_option linter.unusedSimpArgs false
set_option linter.unnecessarySimpa false
set_option linter.unusedSectionVars false
set_option linter.unusedVariables false
set_option maxRecDepth 100000
namespace Go.Eng
open Go

/-- girder/girderlaw02.DyadNorms -/
def S_girderlaw02_DyadNorms (N : Nums) (P : Program) (q0_0 : Bool) (q0_1 : Option Addr) (q0_1l q0_1c : Nat) (q0_2 : Int) (w : World) (K : Value → World → Prop) : Prop :=
 newM #[.bool q0_0, .slice q0_1 q0_1l q0_1c, .int .i64 q0_2] N.t_Dyad w fun p1 w2 =>
 CallsX P N.f_girderlaw02_awake #[] w2 fun v4 w3 =>
 ∃ b5, v4 = (.bool b5) ∧
 cond (!b5)
 (K (.bool false) w3)
 (∃ b6, w3.cell? p1 = some (.bool b6) ∧
  ∃ s7a s7l s7c, w3.cell? (p1.add 1) = some (.slice s7a s7l s7c) ∧
  ∃ n8, w3.cell? (p1.add 2) = some (.int .i64 n8) ∧
  CallsX P N.f_girderkit_LentDyad #[.agg #[.bool b6, .slice s7a s7l s7c, .int .i64 n8]] w3 fun v10 w9 =>
  ∃ b11, ∃ s12a s12l s12c, ∃ n13, v10 = (.agg #[.bool b11, .slice s12a s12l s12c, .int .i64 n13]) ∧
  newM #[.bool false, .slice none 0 0, .int .i64 0] N.t_Dyad w9 fun p14 w15 =>
  stM p14 (.bool b11) w15 fun w16 =>
  stM (p14.add 1) (.slice s12a s12l s12c) w16 fun w17 =>
  stM (p14.add 2) (.int .i64 n13) w17 fun w18 =>
  ∃ b19, w18.cell? p14 = some (.bool b19) ∧
  ∃ s20a s20l s20c, w18.cell? (p14.add 1) = some (.slice s20a s20l s20c) ∧
  ∃ n21, w18.cell? (p14.add 2) = some (.int .i64 n21) ∧
  ∃ b22, w18.cell? p14 = some (.bool b22) ∧
  ∃ s23a s23l s23c, w18.cell? (p14.add 1) = some (.slice s23a s23l s23c) ∧
  ∃ n24, w18.cell? (p14.add 2) = some (.int .i64 n24) ∧
  drM w18 fun w25 =>
  CallsX P N.f_dyad_Right #[.agg #[.bool b19, .slice s20a s20l s20c, .int .i64 n21]] w25 fun v27 w26 =>
  ∃ b28, v27 = (.bool b28) ∧
  w26.cell? p14 = some (.bool b22) ∧
  w26.cell? (p14.add 1) = some (.slice s23a s23l s23c) ∧
  w26.cell? (p14.add 2) = some (.int .i64 n24) ∧
  drM w26 fun w29 =>
  CallsX P N.f_dyad_Fits #[.agg #[.bool b22, .slice s23a s23l s23c, .int .i64 n24]] w29 fun v31 w30 =>
  ∃ b32, v31 = (.bool b32) ∧
  drM w30 fun w33 =>
  ∃ b34, w33.cell? p14 = some (.bool b34) ∧
  ∃ s35a s35l s35c, w33.cell? (p14.add 1) = some (.slice s35a s35l s35c) ∧
  ∃ n36, w33.cell? (p14.add 2) = some (.int .i64 n36) ∧
  CallsX P N.f_dyad_Norm #[.agg #[.bool b34, .slice s35a s35l s35c, .int .i64 n36]] w33 fun v38 w37 =>
  ∃ b39, ∃ s40a s40l s40c, ∃ n41, ∃ n42, v38 = (.tuple #[.agg #[.bool b39, .slice s40a s40l s40c, .int .i64 n41], .int .i64 n42]) ∧
  newM #[.bool false, .slice none 0 0, .int .i64 0] N.t_Dyad w37 fun p43 w44 =>
  stM p43 (.bool b39) w44 fun w45 =>
  stM (p43.add 1) (.slice s40a s40l s40c) w45 fun w46 =>
  stM (p43.add 2) (.int .i64 n41) w46 fun w47 =>
  ∃ b48, w47.cell? p14 = some (.bool b48) ∧
  ∃ s49a s49l s49c, w47.cell? (p14.add 1) = some (.slice s49a s49l s49c) ∧
  ∃ n50, w47.cell? (p14.add 2) = some (.int .i64 n50) ∧
  ∃ b51, w47.cell? p1 = some (.bool b51) ∧
  ∃ s52a s52l s52c, w47.cell? (p1.add 1) = some (.slice s52a s52l s52c) ∧
  ∃ n53, w47.cell? (p1.add 2) = some (.int .i64 n53) ∧
  CallsX P N.f_girderkit_KeptDyad #[.agg #[.bool b48, .slice s49a s49l s49c, .int .i64 n50], .agg #[.bool b51, .slice s52a s52l s52c, .int .i64 n53]] w47 fun v55 w54 =>
  ∃ b56, v55 = (.bool b56) ∧
  ∃ b57, w54.cell? p14 = some (.bool b57) ∧
  ∃ s58a s58l s58c, w54.cell? (p14.add 1) = some (.slice s58a s58l s58c) ∧
  ∃ n59, w54.cell? (p14.add 2) = some (.int .i64 n59) ∧
  CallsX P N.f_girderkit_OverDyad #[.agg #[.bool b57, .slice s58a s58l s58c, .int .i64 n59]] w54 fun v61 w60 =>
  v61 = (.tuple #[]) ∧
  ∃ b62, w60.cell? p1 = some (.bool b62) ∧
  ∃ s63a s63l s63c, w60.cell? (p1.add 1) = some (.slice s63a s63l s63c) ∧
  ∃ n64, w60.cell? (p1.add 2) = some (.int .i64 n64) ∧
  CallsX P N.f_girderref02_Norm #[.agg #[.bool b62, .slice s63a s63l s63c, .int .i64 n64]] w60 fun v66 w65 =>
  ∃ b67, ∃ s68a s68l s68c, ∃ n69, ∃ n70, v66 = (.tuple #[.agg #[.bool b67, .slice s68a s68l s68c, .int .i64 n69], .int .i64 n70]) ∧
  newM #[.bool false, .slice none 0 0, .int .i64 0] N.t_Dyad w65 fun p71 w72 =>
  stM p71 (.bool b67) w72 fun w73 =>
  stM (p71.add 1) (.slice s68a s68l s68c) w73 fun w74 =>
  stM (p71.add 2) (.int .i64 n69) w74 fun w75 =>
  cond b56
  (∃ b76, w75.cell? p1 = some (.bool b76) ∧
   ∃ s77a s77l s77c, w75.cell? (p1.add 1) = some (.slice s77a s77l s77c) ∧
   ∃ n78, w75.cell? (p1.add 2) = some (.int .i64 n78) ∧
   CallsX P N.f_girderref02_Right #[.agg #[.bool b76, .slice s77a s77l s77c, .int .i64 n78]] w75 fun v80 w79 =>
   ∃ b81, v80 = (.bool b81) ∧
   cond (b28 == b81)
   (∃ b82, w79.cell? p1 = some (.bool b82) ∧
    ∃ s83a s83l s83c, w79.cell? (p1.add 1) = some (.slice s83a s83l s83c) ∧
    ∃ n84, w79.cell? (p1.add 2) = some (.int .i64 n84) ∧
    CallsX P N.f_girderref02_Fits #[.agg #[.bool b82, .slice s83a s83l s83c, .int .i64 n84]] w79 fun v86 w85 =>
    ∃ b87, v86 = (.bool b87) ∧
    cond (b32 == b87)
    (cond (n42 == n70)
     (∃ b88, w85.cell? p43 = some (.bool b88) ∧
      ∃ s89a s89l s89c, w85.cell? (p43.add 1) = some (.slice s89a s89l s89c) ∧
      ∃ n90, w85.cell? (p43.add 2) = some (.int .i64 n90) ∧
      ∃ b91, w85.cell? p71 = some (.bool b91) ∧
      ∃ s92a s92l s92c, w85.cell? (p71.add 1) = some (.slice s92a s92l s92c) ∧
      ∃ n93, w85.cell? (p71.add 2) = some (.int .i64 n93) ∧
      CallsX P N.f_girderkit_SameDyad #[.agg #[.bool b88, .slice s89a s89l s89c, .int .i64 n90], .agg #[.bool b91, .slice s92a s92l s92c, .int .i64 n93]] w85 fun v95 w94 =>
      ∃ b96, v95 = (.bool b96) ∧
      K (.bool b96) w94)
     (K (.bool false) w85))
    (K (.bool false) w85))
   (K (.bool false) w79))
  (K (.bool false) w75))

/-- girder/girderlaw02.awake -/
def S_girderlaw02_awake (N : Nums) (P : Program)  (w : World) (K : Value → World → Prop) : Prop :=
 CallsX P N.f_dyad_Of #[.float .f64 4604930618986332160] w fun v2 w1 =>
 ∃ b3, ∃ s4a s4l s4c, ∃ n5, ∃ n6, v2 = (.tuple #[.agg #[.bool b3, .slice s4a s4l s4c, .int .i64 n5], .int .i64 n6]) ∧
 newM #[.bool false, .slice none 0 0, .int .i64 0] N.t_Dyad w1 fun p7 w8 =>
 stM p7 (.bool b3) w8 fun w9 =>
 stM (p7.add 1) (.slice s4a s4l s4c) w9 fun w10 =>
 stM (p7.add 2) (.int .i64 n5) w10 fun w11 =>
 cutM (σ := (Option Addr) × Int × Unit) (fun J12 =>
  ∃ b15, w11.cell? p7 = some (.bool b15) ∧
  ∃ s16a s16l s16c, w11.cell? (p7.add 1) = some (.slice s16a s16l s16c) ∧
  ∃ n17, w11.cell? (p7.add 2) = some (.int .i64 n17) ∧
  (drM w11 fun w18 =>
   CallsX P N.f_dyad_Int #[.int .i64 1] w18 fun v20 w19 =>
   ∃ b21, ∃ s22a s22l s22c, ∃ n23, v20 = (.agg #[.bool b21, .slice s22a s22l s22c, .int .i64 n23]) ∧
   w19.cell? p7 = some (.bool b15) ∧
   w19.cell? (p7.add 1) = some (.slice s16a s16l s16c) ∧
   w19.cell? (p7.add 2) = some (.int .i64 n17) ∧
   (drM w19 fun w24 =>
    CallsX P N.f_dyad_Add #[.agg #[.bool b15, .slice s16a s16l s16c, .int .i64 n17], .agg #[.bool b21, .slice s22a s22l s22c, .int .i64 n23]] w24 fun v26 w25 =>
    ∃ b27, ∃ s28a s28l s28c, ∃ n29, ∃ n30, v26 = (.tuple #[.agg #[.bool b27, .slice s28a s28l s28c, .int .i64 n29], .int .i64 n30]) ∧
    drM w25 fun w31 =>
    newM #[.bool false, .slice none 0 0, .int .i64 0] N.t_Dyad w31 fun p32 w33 =>
    drM w33 fun w34 =>
    stM p32 (.bool b27) w34 fun w35 =>
    stM (p32.add 1) (.slice s28a s28l s28c) w35 fun w36 =>
    stM (p32.add 2) (.int .i64 n29) w36 fun w37 =>
    drM w37 fun w38 =>
    J12 ((some p32), n30, ()) w38) ∧
   (drM w19 fun w39 =>
    newM #[.bool false, .slice none 0 0, .int .i64 0] N.t_Dyad w39 fun p40 w41 =>
    w41.cell? p7 = some (.bool b15) ∧
    w41.cell? (p7.add 1) = some (.slice s16a s16l s16c) ∧
    w41.cell? (p7.add 2) = some (.int .i64 n17) ∧
    drM w41 fun w42 =>
    CallsX P N.f_dyad_Add #[.agg #[.bool b15, .slice s16a s16l s16c, .int .i64 n17], .agg #[.bool b21, .slice s22a s22l s22c, .int .i64 n23]] w42 fun v44 w43 =>
    ∃ b45, ∃ s46a s46l s46c, ∃ n47, ∃ n48, v44 = (.tuple #[.agg #[.bool b45, .slice s46a s46l s46c, .int .i64 n47], .int .i64 n48]) ∧
    drM w43 fun w49 =>
    stM p40 (.bool b45) w49 fun w50 =>
    stM (p40.add 1) (.slice s46a s46l s46c) w50 fun w51 =>
    stM (p40.add 2) (.int .i64 n47) w51 fun w52 =>
    drM w52 fun w53 =>
    J12 ((some p40), n48, ()) w53)) ∧
  (drM w11 fun w54 =>
   newM #[.bool false, .slice none 0 0, .int .i64 0] N.t_Dyad w54 fun p55 w56 =>
   w56.cell? p7 = some (.bool b15) ∧
   w56.cell? (p7.add 1) = some (.slice s16a s16l s16c) ∧
   w56.cell? (p7.add 2) = some (.int .i64 n17) ∧
   drM w56 fun w57 =>
   CallsX P N.f_dyad_Int #[.int .i64 1] w57 fun v59 w58 =>
   ∃ b60, ∃ s61a s61l s61c, ∃ n62, v59 = (.agg #[.bool b60, .slice s61a s61l s61c, .int .i64 n62]) ∧
   w58.cell? p7 = some (.bool b15) ∧
   w58.cell? (p7.add 1) = some (.slice s16a s16l s16c) ∧
   w58.cell? (p7.add 2) = some (.int .i64 n17) ∧
   drM w58 fun w63 =>
   CallsX P N.f_dyad_Add #[.agg #[.bool b15, .slice s16a s16l s16c, .int .i64 n17], .agg #[.bool b60, .slice s61a s61l s61c, .int .i64 n62]] w63 fun v65 w64 =>
   ∃ b66, ∃ s67a s67l s67c, ∃ n68, ∃ n69, v65 = (.tuple #[.agg #[.bool b66, .slice s67a s67l s67c, .int .i64 n68], .int .i64 n69]) ∧
   drM w64 fun w70 =>
   stM p55 (.bool b66) w70 fun w71 =>
   stM (p55.add 1) (.slice s67a s67l s67c) w71 fun w72 =>
   stM (p55.add 2) (.int .i64 n68) w72 fun w73 =>
   drM w73 fun w74 =>
   J12 ((some p55), n69, ()) w74))
 (fun s13 w14 =>
  cutM (σ := (Option Addr) × Int × Unit) (fun J75 =>
   optM s13.1 fun a78 =>
   ∃ b79, w14.cell? a78 = some (.bool b79) ∧
   ∃ s80a s80l s80c, w14.cell? (a78.add 1) = some (.slice s80a s80l s80c) ∧
   ∃ n81, w14.cell? (a78.add 2) = some (.int .i64 n81) ∧
   (drM w14 fun w82 =>
    CallsX P N.f_dyad_Int #[.int .i64 (-2)] w82 fun v84 w83 =>
    ∃ b85, ∃ s86a s86l s86c, ∃ n87, v84 = (.agg #[.bool b85, .slice s86a s86l s86c, .int .i64 n87]) ∧
    w83.cell? a78 = some (.bool b79) ∧
    w83.cell? (a78.add 1) = some (.slice s80a s80l s80c) ∧
    w83.cell? (a78.add 2) = some (.int .i64 n81) ∧
    (drM w83 fun w88 =>
     CallsX P N.f_dyad_Mul #[.agg #[.bool b79, .slice s80a s80l s80c, .int .i64 n81], .agg #[.bool b85, .slice s86a s86l s86c, .int .i64 n87]] w88 fun v90 w89 =>
     ∃ b91, ∃ s92a s92l s92c, ∃ n93, ∃ n94, v90 = (.tuple #[.agg #[.bool b91, .slice s92a s92l s92c, .int .i64 n93], .int .i64 n94]) ∧
     drM w89 fun w95 =>
     newM #[.bool false, .slice none 0 0, .int .i64 0] N.t_Dyad w95 fun p96 w97 =>
     drM w97 fun w98 =>
     stM p96 (.bool b91) w98 fun w99 =>
     stM (p96.add 1) (.slice s92a s92l s92c) w99 fun w100 =>
     stM (p96.add 2) (.int .i64 n93) w100 fun w101 =>
     drM w101 fun w102 =>
     J75 ((some p96), n94, ()) w102) ∧
    (drM w83 fun w103 =>
     newM #[.bool false, .slice none 0 0, .int .i64 0] N.t_Dyad w103 fun p104 w105 =>
     w105.cell? a78 = some (.bool b79) ∧
     w105.cell? (a78.add 1) = some (.slice s80a s80l s80c) ∧
     w105.cell? (a78.add 2) = some (.int .i64 n81) ∧
     drM w105 fun w106 =>
     CallsX P N.f_dyad_Mul #[.agg #[.bool b79, .slice s80a s80l s80c, .int .i64 n81], .agg #[.bool b85, .slice s86a s86l s86c, .int .i64 n87]] w106 fun v108 w107 =>
     ∃ b109, ∃ s110a s110l s110c, ∃ n111, ∃ n112, v108 = (.tuple #[.agg #[.bool b109, .slice s110a s110l s110c, .int .i64 n111], .int .i64 n112]) ∧
     drM w107 fun w113 =>
     stM p104 (.bool b109) w113 fun w114 =>
     stM (p104.add 1) (.slice s110a s110l s110c) w114 fun w115 =>
     stM (p104.add 2) (.int .i64 n111) w115 fun w116 =>
     drM w116 fun w117 =>
     J75 ((some p104), n112, ()) w117)) ∧
   (drM w14 fun w118 =>
    newM #[.bool false, .slice none 0 0, .int .i64 0] N.t_Dyad w118 fun p119 w120 =>
    w120.cell? a78 = some (.bool b79) ∧
    w120.cell? (a78.add 1) = some (.slice s80a s80l s80c) ∧
    w120.cell? (a78.add 2) = some (.int .i64 n81) ∧
    drM w120 fun w121 =>
    CallsX P N.f_dyad_Int #[.int .i64 (-2)] w121 fun v123 w122 =>
    ∃ b124, ∃ s125a s125l s125c, ∃ n126, v123 = (.agg #[.bool b124, .slice s125a s125l s125c, .int .i64 n126]) ∧
    w122.cell? a78 = some (.bool b79) ∧
    w122.cell? (a78.add 1) = some (.slice s80a s80l s80c) ∧
    w122.cell? (a78.add 2) = some (.int .i64 n81) ∧
    drM w122 fun w127 =>
    CallsX P N.f_dyad_Mul #[.agg #[.bool b79, .slice s80a s80l s80c, .int .i64 n81], .agg #[.bool b124, .slice s125a s125l s125c, .int .i64 n126]] w127 fun v129 w128 =>
    ∃ b130, ∃ s131a s131l s131c, ∃ n132, ∃ n133, v129 = (.tuple #[.agg #[.bool b130, .slice s131a s131l s131c, .int .i64 n132], .int .i64 n133]) ∧
    drM w128 fun w134 =>
    stM p119 (.bool b130) w134 fun w135 =>
    stM (p119.add 1) (.slice s131a s131l s131c) w135 fun w136 =>
    stM (p119.add 2) (.int .i64 n132) w136 fun w137 =>
    drM w137 fun w138 =>
    J75 ((some p119), n133, ()) w138))
  (fun s76 w77 =>
   optM s76.1 fun a139 =>
   ∃ b140, w77.cell? a139 = some (.bool b140) ∧
   ∃ s141a s141l s141c, w77.cell? (a139.add 1) = some (.slice s141a s141l s141c) ∧
   ∃ n142, w77.cell? (a139.add 2) = some (.int .i64 n142) ∧
   CallsX P N.f_dyad_Round #[.agg #[.bool b140, .slice s141a s141l s141c, .int .i64 n142], .int .i8 0] w77 fun v144 w143 =>
   ∃ x145, ∃ n146, v144 = (.tuple #[.float .f64 x145, .int .i64 n146]) ∧
   newM #[.int .u64 1] N.t_uint64 w143 fun p147 w148 =>
   CallsX P N.f_dyad_Round #[.agg #[.bool false, .slice (some p147) 1 1, .int .i64 (-1075)], .int .i8 2] w148 fun v150 w149 =>
   ∃ x151, ∃ n152, v150 = (.tuple #[.float .f64 x151, .int .i64 n152]) ∧
   cond (n6 == 0)
   (cond (s13.2.1 == 0)
    (cond (s76.2.1 == 0)
     (cond (n146 == 0)
      (cond (n152 == 0)
       (cond (feq x145 13838435755002691584)
        (cond (fgt x151 0)
         (K (.bool (flt x151 118622047889322841)) w149)
         (K (.bool false) w149))
        (K (.bool false) w149))
       (K (.bool false) w149))
      (K (.bool false) w149))
     (K (.bool false) w149))
    (K (.bool false) w149))
   (K (.bool false) w149)))

/-- girder/girderkit.LentDyad -/
def S_girderkit_LentDyad (N : Nums) (P : Program) (q0_0 : Bool) (q0_1 : Option Addr) (q0_1l q0_1c : Nat) (q0_2 : Int) (w : World) (K : Value → World → Prop) : Prop :=
 newM #[.bool q0_0, .slice q0_1 q0_1l q0_1c, .int .i64 q0_2] N.t_Dyad w fun p1 w2 =>
 newM #[.bool false, .slice none 0 0, .int .i64 0] N.t_Dyad w2 fun p3 w4 =>
 ∃ s5a s5l s5c, w4.cell? (p1.add 1) = some (.slice s5a s5l s5c) ∧
 CallsX P N.f_girderkit_LentLimbs #[.slice s5a s5l s5c] w4 fun v7 w6 =>
 ∃ s8a s8l s8c, v7 = (.slice s8a s8l s8c) ∧
 stM (p1.add 1) (.slice s8a s8l s8c) w6 fun w9 =>
 ∃ b10, w9.cell? p1 = some (.bool b10) ∧
 ∃ s11a s11l s11c, w9.cell? (p1.add 1) = some (.slice s11a s11l s11c) ∧
 ∃ n12, w9.cell? (p1.add 2) = some (.int .i64 n12) ∧
 stM p3 (.bool b10) w9 fun w13 =>
 stM (p3.add 1) (.slice s11a s11l s11c) w13 fun w14 =>
 stM (p3.add 2) (.int .i64 n12) w14 fun w15 =>
 ∃ b16, w15.cell? p3 = some (.bool b16) ∧
 ∃ s17a s17l s17c, w15.cell? (p3.add 1) = some (.slice s17a s17l s17c) ∧
 ∃ n18, w15.cell? (p3.add 2) = some (.int .i64 n18) ∧
 K (.agg #[.bool b16, .slice s17a s17l s17c, .int .i64 n18]) w15

/-- girder/dyad.Round -/
def S_dyad_Round (N : Nums) (P : Program) (q0_0 : Bool) (q0_1 : Option Addr) (q0_1l q0_1c : Nat) (q0_2 : Int) (q1 : Int) (w : World) (K : Value → World → Prop) : Prop :=
 newM #[.bool q0_0, .slice q0_1 q0_1l q0_1c, .int .i64 q0_2] N.t_Dyad w fun p1 w2 =>
 ∃ b3, w2.cell? p1 = some (.bool b3) ∧
 ∃ s4a s4l s4c, w2.cell? (p1.add 1) = some (.slice s4a s4l s4c) ∧
 ∃ n5, w2.cell? (p1.add 2) = some (.int .i64 n5) ∧
 CallsX P N.f_dyad_Right #[.agg #[.bool b3, .slice s4a s4l s4c, .int .i64 n5]] w2 fun v7 w6 =>
 ∃ b8, v7 = (.bool b8) ∧
 cond (!b8)
 (K (.tuple #[.float .f64 0, .int .i64 2]) w6)
 (∃ s9a s9l s9c, w6.cell? (p1.add 1) = some (.slice s9a s9l s9c) ∧
  cond (((s9l : Nat) : Int) == 0)
  (K (.tuple #[.float .f64 0, .int .i64 0]) w6)
  (∃ b10, w6.cell? p1 = some (.bool b10) ∧
   ∃ s11a s11l s11c, w6.cell? (p1.add 1) = some (.slice s11a s11l s11c) ∧
   ∃ n12, w6.cell? (p1.add 2) = some (.int .i64 n12) ∧
   CallsX P N.f_dyad_whole #[.agg #[.bool b10, .slice s11a s11l s11c, .int .i64 n12]] w6 fun v14 w13 =>
   ∃ p15 : (Option Addr), v14 = (.pointer p15) ∧
   CallsX P N.f_p_bignum_Int_Abs #[.pointer p15, .pointer p15] w13 fun v17 w16 =>
   ∃ p18 : (Option Addr), v17 = (.pointer p18) ∧
   ∃ b19, w16.cell? p1 = some (.bool b19) ∧
   ∃ s20a s20l s20c, w16.cell? (p1.add 1) = some (.slice s20a s20l s20c) ∧
   ∃ n21, w16.cell? (p1.add 2) = some (.int .i64 n21) ∧
   CallsX P N.f_dyad_top #[.agg #[.bool b19, .slice s20a s20l s20c, .int .i64 n21]] w16 fun v23 w22 =>
   ∃ n24, v23 = (.int .i64 n24) ∧
   ∃ n25, w22.cell? (p1.add 2) = some (.int .i64 n25) ∧
   cutM (σ := Int × Unit) (fun J26 =>
    cond (decide ((IntKind.i64.wrap ((if (-1074) > (IntKind.i64.wrap (n24 - 53)) then (-1074) else (IntKind.i64.wrap (n24 - 53))) - n25)) ≤ 0))
    (newM #[.bool false, .slice none 0 0] N.t_bignum_Int w22 fun p29 w30 =>
     CallsX P N.f_p_bignum_Int_Lsh #[.pointer (some p29), .pointer p15, .int .u64 (IntKind.u64.wrap (IntKind.i64.wrap (0 - (IntKind.i64.wrap ((if (-1074) > (IntKind.i64.wrap (n24 - 53)) then (-1074) else (IntKind.i64.wrap (n24 - 53))) - n25)))))] w30 fun v32 w31 =>
     ∃ p33 : (Option Addr), v32 = (.pointer p33) ∧
     CallsX P N.f_p_bignum_Int_Uint64 #[.pointer p33] w31 fun v35 w34 =>
     ∃ n36, v35 = (.int .u64 n36) ∧
     J26 (n36, ()) w34)
    (newM #[.bool false, .slice none 0 0] N.t_bignum_Int w22 fun p37 w38 =>
     CallsX P N.f_p_bignum_Int_Rsh #[.pointer (some p37), .pointer p15, .int .u64 (IntKind.u64.wrap (IntKind.i64.wrap ((if (-1074) > (IntKind.i64.wrap (n24 - 53)) then (-1074) else (IntKind.i64.wrap (n24 - 53))) - n25)))] w38 fun v40 w39 =>
     ∃ p41 : (Option Addr), v40 = (.pointer p41) ∧
     CallsX P N.f_p_bignum_Int_Uint64 #[.pointer p41] w39 fun v43 w42 =>
     ∃ n44, v43 = (.int .u64 n44) ∧
     CallsX P N.f_p_bignum_Int_Lsh #[.pointer p41, .pointer p41, .int .u64 (IntKind.u64.wrap (IntKind.i64.wrap ((if (-1074) > (IntKind.i64.wrap (n24 - 53)) then (-1074) else (IntKind.i64.wrap (n24 - 53))) - n25)))] w42 fun v46 w45 =>
     ∃ p47 : (Option Addr), v46 = (.pointer p47) ∧
     CallsX P N.f_p_bignum_Int_Sub #[.pointer p15, .pointer p15, .pointer p47] w45 fun v49 w48 =>
     ∃ p50 : (Option Addr), v49 = (.pointer p50) ∧
     newM #[.bool false, .slice none 0 0] N.t_bignum_Int w48 fun p51 w52 =>
     CallsX P N.f_bignum_NewInt #[.int .i64 1] w52 fun v54 w53 =>
     ∃ p55 : (Option Addr), v54 = (.pointer p55) ∧
     CallsX P N.f_p_bignum_Int_Lsh #[.pointer (some p51), .pointer p55, .int .u64 (IntKind.u64.wrap (IntKind.i64.wrap ((IntKind.i64.wrap ((if (-1074) > (IntKind.i64.wrap (n24 - 53)) then (-1074) else (IntKind.i64.wrap (n24 - 53))) - n25)) - 1)))] w53 fun v57 w56 =>
     ∃ p58 : (Option Addr), v57 = (.pointer p58) ∧
     CallsX P N.f_p_bignum_Int_Cmp #[.pointer p50, .pointer p58] w56 fun v60 w59 =>
     ∃ n61, v60 = (.int .i64 n61) ∧
     CallsX P N.f_p_bignum_Int_Sign #[.pointer p50] w59 fun v63 w62 =>
     ∃ n64, v63 = (.int .i64 n64) ∧
     cond (decide (n64 > 0))
     (∃ b65, w62.cell? p1 = some (.bool b65) ∧
      CallsX P N.f_dyad_away #[.int .i8 q1, .bool b65, .int .i64 n61, .bool ((IntKind.u64.wrap (BitVec.ofInt IntKind.u64.bits n44 &&& BitVec.ofInt IntKind.u64.bits 1).toNat) == 1)] w62 fun v67 w66 =>
      ∃ b68, v67 = (.bool b68) ∧
      cutM (σ := Int × Unit) (fun J69 =>
       cond b68
       (J69 ((IntKind.u64.wrap (n44 + 1)), ()) w66)
       (J69 (n44, ()) w66))
      (fun s70 w71 =>
       J26 (s70.1, ()) w71))
     (cutM (σ := Int × Unit) (fun J72 =>
       J72 (n44, ()) w62)
      (fun s73 w74 =>
       J26 (s73.1, ()) w74))))
   (fun s27 w28 =>
    ∃ b75, w28.cell? p1 = some (.bool b75) ∧
    CallsX P N.f_dyad_float #[.bool b75, .int .u64 s27.1, .int .i64 (if (-1074) > (IntKind.i64.wrap (n24 - 53)) then (-1074) else (IntKind.i64.wrap (n24 - 53))), .int .i8 q1] w28 fun v77 w76 =>
    ∃ x78, v77 = (.float .f64 x78) ∧
    K (.tuple #[.float .f64 x78, .int .i64 0]) w76)))

/-- girder/girderkit.KeptDyad -/
def S_girderkit_KeptDyad (N : Nums) (P : Program) (q0_0 : Bool) (q0_1 : Option Addr) (q0_1l q0_1c : Nat) (q0_2 : Int) (q1_0 : Bool) (q1_1 : Option Addr) (q1_1l q1_1c : Nat) (q1_2 : Int) (w : World) (K : Value → World → Prop) : Prop :=
 newM #[.bool q0_0, .slice q0_1 q0_1l q0_1c, .int .i64 q0_2] N.t_Dyad w fun p1 w2 =>
 newM #[.bool q1_0, .slice q1_1 q1_1l q1_1c, .int .i64 q1_2] N.t_Dyad w2 fun p3 w4 =>
 ∃ b5, w4.cell? p1 = some (.bool b5) ∧
 ∃ s6a s6l s6c, w4.cell? (p1.add 1) = some (.slice s6a s6l s6c) ∧
 ∃ n7, w4.cell? (p1.add 2) = some (.int .i64 n7) ∧
 ∃ b8, w4.cell? p3 = some (.bool b8) ∧
 ∃ s9a s9l s9c, w4.cell? (p3.add 1) = some (.slice s9a s9l s9c) ∧
 ∃ n10, w4.cell? (p3.add 2) = some (.int .i64 n10) ∧
 CallsX P N.f_girderkit_SameDyad #[.agg #[.bool b5, .slice s6a s6l s6c, .int .i64 n7], .agg #[.bool b8, .slice s9a s9l s9c, .int .i64 n10]] w4 fun v12 w11 =>
 ∃ b13, v12 = (.bool b13) ∧
 cond b13
 (∃ s14a s14l s14c, w11.cell? (p1.add 1) = some (.slice s14a s14l s14c) ∧
  ∃ s15a s15l s15c, w11.cell? (p3.add 1) = some (.slice s15a s15l s15c) ∧
  CallsX P N.f_girderkit_KeptLimbs #[.slice s14a s14l s14c, .slice s15a s15l s15c] w11 fun v17 w16 =>
  ∃ b18, v17 = (.bool b18) ∧
  K (.bool b18) w16)
 (K (.bool false) w11)

/-- girder/dyad.Right -/
def S_dyad_Right (N : Nums) (P : Program) (q0_0 : Bool) (q0_1 : Option Addr) (q0_1l q0_1c : Nat) (q0_2 : Int) (w : World) (K : Value → World → Prop) : Prop :=
 newM #[.bool q0_0, .slice q0_1 q0_1l q0_1c, .int .i64 q0_2] N.t_Dyad w fun p1 w2 =>
 ∃ s3a s3l s3c, w2.cell? (p1.add 1) = some (.slice s3a s3l s3c) ∧
 cond (((s3l : Nat) : Int) == 0)
 (∃ b4, w2.cell? p1 = some (.bool b4) ∧
  cond (!b4)
  (∃ n5, w2.cell? (p1.add 2) = some (.int .i64 n5) ∧
   K (.bool (n5 == 0)) w2)
  (K (.bool false) w2))
 (cond (decide (((s3l : Nat) : Int) ≤ 256))
  (∃ s6a s6l s6c, w2.cell? (p1.add 1) = some (.slice s6a s6l s6c) ∧
   (0 : Int) ≤ (IntKind.i64.wrap (((s3l : Nat) : Int) - 1)) ∧ (IntKind.i64.wrap (((s3l : Nat) : Int) - 1)) < (s6l : Nat) ∧
   optM s6a fun a7 =>
   ∃ n8, w2.cell? (a7.add ((IntKind.i64.wrap (((s3l : Nat) : Int) - 1)).toNat * 1)) = some (.int .u64 n8) ∧
   cond (n8 != 0)
   (∃ s9a s9l s9c, w2.cell? (p1.add 1) = some (.slice s9a s9l s9c) ∧
    (0 : Int) ≤ (0 : Int) ∧ (0 : Int) < (s9l : Nat) ∧
    optM s9a fun a10 =>
    ∃ n11, w2.cell? (a10.add ((0 : Int).toNat * 1)) = some (.int .u64 n11) ∧
    cond ((IntKind.u64.wrap (BitVec.ofInt IntKind.u64.bits n11 &&& BitVec.ofInt IntKind.u64.bits 1).toNat) == 1)
    (∃ n12, w2.cell? (p1.add 2) = some (.int .i64 n12) ∧
     cond (decide (((-65536) : Int) ≤ n12))
     (∃ n13, w2.cell? (p1.add 2) = some (.int .i64 n13) ∧
      K (.bool (decide (n13 ≤ 65536))) w2)
     (K (.bool false) w2))
    (K (.bool false) w2))
   (K (.bool false) w2))
  (K (.bool false) w2))

/-- girder/dyad.Fits -/
def S_dyad_Fits (N : Nums) (P : Program) (q0_0 : Bool) (q0_1 : Option Addr) (q0_1l q0_1c : Nat) (q0_2 : Int) (w : World) (K : Value → World → Prop) : Prop :=
 newM #[.bool q0_0, .slice q0_1 q0_1l q0_1c, .int .i64 q0_2] N.t_Dyad w fun p1 w2 =>
 ∃ b3, w2.cell? p1 = some (.bool b3) ∧
 ∃ s4a s4l s4c, w2.cell? (p1.add 1) = some (.slice s4a s4l s4c) ∧
 ∃ n5, w2.cell? (p1.add 2) = some (.int .i64 n5) ∧
 CallsX P N.f_dyad_Right #[.agg #[.bool b3, .slice s4a s4l s4c, .int .i64 n5]] w2 fun v7 w6 =>
 ∃ b8, v7 = (.bool b8) ∧
 cond (!b8)
 (K (.bool false) w6)
 (∃ s9a s9l s9c, w6.cell? (p1.add 1) = some (.slice s9a s9l s9c) ∧
  cond (((s9l : Nat) : Int) == 0)
  (K (.bool true) w6)
  (∃ n10, w6.cell? (p1.add 2) = some (.int .i64 n10) ∧
   cond (decide (n10 ≥ (-1074)))
   (∃ b11, w6.cell? p1 = some (.bool b11) ∧
    ∃ s12a s12l s12c, w6.cell? (p1.add 1) = some (.slice s12a s12l s12c) ∧
    ∃ n13, w6.cell? (p1.add 2) = some (.int .i64 n13) ∧
    CallsX P N.f_dyad_top #[.agg #[.bool b11, .slice s12a s12l s12c, .int .i64 n13]] w6 fun v15 w14 =>
    ∃ n16, v15 = (.int .i64 n16) ∧
    cond (decide (n16 ≤ 1024))
    (∃ s17a s17l s17c, w14.cell? (p1.add 1) = some (.slice s17a s17l s17c) ∧
     cond (((s17l : Nat) : Int) == 1)
     (∃ s18a s18l s18c, w14.cell? (p1.add 1) = some (.slice s18a s18l s18c) ∧
      (0 : Int) ≤ (0 : Int) ∧ (0 : Int) < (s18l : Nat) ∧
      optM s18a fun a19 =>
      ∃ n20, w14.cell? (a19.add ((0 : Int).toNat * 1)) = some (.int .u64 n20) ∧
      CallsX P N.f_math_bits_Len64 #[.int .u64 n20] w14 fun v22 w21 =>
      ∃ n23, v22 = (.int .i64 n23) ∧
      K (.bool (decide (n23 ≤ 53))) w21)
     (K (.bool false) w14))
    (K (.bool false) w14))
   (K (.bool false) w6)))

/-- girder/dyad.Norm -/
def S_dyad_Norm (N : Nums) (P : Program) (q0_0 : Bool) (q0_1 : Option Addr) (q0_1l q0_1c : Nat) (q0_2 : Int) (w : World) (K : Value → World → Prop) : Prop :=
 newM #[.bool q0_0, .slice q0_1 q0_1l q0_1c, .int .i64 q0_2] N.t_Dyad w fun p1 w2 =>
 newM #[.bool false, .slice none 0 0, .int .i64 0] N.t_Dyad w2 fun p3 w4 =>
 ∃ b5, w4.cell? p1 = some (.bool b5) ∧
 ∃ s6a s6l s6c, w4.cell? (p1.add 1) = some (.slice s6a s6l s6c) ∧
 ∃ n7, w4.cell? (p1.add 2) = some (.int .i64 n7) ∧
 ∃ n8, w4.cell? (p1.add 2) = some (.int .i64 n8) ∧
 drM w4 fun w9 =>
 CallsX P N.f_dyad_whole #[.agg #[.bool b5, .slice s6a s6l s6c, .int .i64 n7]] w9 fun v11 w10 =>
 ∃ p12 : (Option Addr), v11 = (.pointer p12) ∧
 w10.cell? (p1.add 2) = some (.int .i64 n8) ∧
 drM w10 fun w13 =>
 CallsX P N.f_dyad_made #[.pointer p12, .int .i64 n8] w13 fun v15 w14 =>
 ∃ b16, ∃ s17a s17l s17c, ∃ n18, ∃ n19, v15 = (.tuple #[.agg #[.bool b16, .slice s17a s17l s17c, .int .i64 n18], .int .i64 n19]) ∧
 drM w14 fun w20 =>
 stM p3 (.bool b16) w20 fun w21 =>
 stM (p3.add 1) (.slice s17a s17l s17c) w21 fun w22 =>
 stM (p3.add 2) (.int .i64 n18) w22 fun w23 =>
 drM w23 fun w24 =>
 ∃ b25, w24.cell? p3 = some (.bool b25) ∧
 ∃ s26a s26l s26c, w24.cell? (p3.add 1) = some (.slice s26a s26l s26c) ∧
 ∃ n27, w24.cell? (p3.add 2) = some (.int .i64 n27) ∧
 K (.tuple #[.agg #[.bool b25, .slice s26a s26l s26c, .int .i64 n27], .int .i64 n19]) w24

/-- girder/girderkit.OverDyad -/
def S_girderkit_OverDyad (N : Nums) (P : Program) (q0_0 : Bool) (q0_1 : Option Addr) (q0_1l q0_1c : Nat) (q0_2 : Int) (w : World) (K : Value → World → Prop) : Prop :=
 newM #[.bool q0_0, .slice q0_1 q0_1l q0_1c, .int .i64 q0_2] N.t_Dyad w fun p1 w2 =>
 ∃ s3a s3l s3c, w2.cell? (p1.add 1) = some (.slice s3a s3l s3c) ∧
 CallsX P N.f_girderkit_OverLimbs #[.slice s3a s3l s3c] w2 fun v5 w4 =>
 v5 = (.tuple #[]) ∧
 K (.tuple #[]) w4

/-- girder/girderref02.Norm -/
def S_girderref02_Norm (N : Nums) (P : Program) (q0_0 : Bool) (q0_1 : Option Addr) (q0_1l q0_1c : Nat) (q0_2 : Int) (w : World) (K : Value → World → Prop) : Prop :=
 newM #[.bool q0_0, .slice q0_1 q0_1l q0_1c, .int .i64 q0_2] N.t_Dyad w fun p1 w2 =>
 newM #[.bool false, .slice none 0 0, .int .i64 0] N.t_Dyad w2 fun p3 w4 =>
 ∃ s5a s5l s5c, w4.cell? (p1.add 1) = some (.slice s5a s5l s5c) ∧
 CallsX P N.f_girderref02_NatTrim #[.slice s5a s5l s5c] w4 fun v7 w6 =>
 ∃ s8a s8l s8c, v7 = (.slice s8a s8l s8c) ∧
 cond (((s8l : Nat) : Int) == 0)
 (stM p3 (.bool false) w6 fun w9 =>
  stM (p3.add 1) (.slice none 0 0) w9 fun w10 =>
  stM (p3.add 2) (.int .i64 0) w10 fun w11 =>
  ∃ b12, w11.cell? p3 = some (.bool b12) ∧
  ∃ s13a s13l s13c, w11.cell? (p3.add 1) = some (.slice s13a s13l s13c) ∧
  ∃ n14, w11.cell? (p3.add 2) = some (.int .i64 n14) ∧
  K (.tuple #[.agg #[.bool b12, .slice s13a s13l s13c, .int .i64 n14], .int .i64 0]) w11)
 (cutM (σ := Int × Unit) (fun J15 =>
   loopM (σ := Int × Unit) (fun s18 X19 w20 =>
    (64 : Int) ≠ 0 ∧
    (0 : Int) ≤ (IntKind.i64.wrap (s18.1.tdiv 64)) ∧ (IntKind.i64.wrap (s18.1.tdiv 64)) < (s8l : Nat) ∧
    optM s8a fun a21 =>
    ∃ n22, w20.cell? (a21.add ((IntKind.i64.wrap (s18.1.tdiv 64)).toNat * 1)) = some (.int .u64 n22) ∧
    (64 : Int) ≠ 0 ∧
    (0 : Int) ≤ (IntKind.u64.wrap (s18.1.tmod 64)) ∧
    (2 : Int) ≠ 0 ∧
    cond (((n22.fdiv (2 ^ (min (IntKind.u64.wrap (s18.1.tmod 64)).toNat IntKind.u64.bits))).tmod 2) == 0)
    (X19 ((IntKind.i64.wrap (s18.1 + 1)), ()) w20)
    (J15 (s18.1, ()) w20))
   (0, ()) w6)
  (fun s16 w17 =>
   CallsX P N.f_girderref02_NatDown #[.slice s8a s8l s8c, .int .i64 s16.1] w17 fun v24 w23 =>
   ∃ s25a s25l s25c, ∃ b26, v24 = (.tuple #[.slice s25a s25l s25c, .bool b26]) ∧
   cutM (σ := Bool × Unit) (fun J27 =>
    cond (!(decide (((s25l : Nat) : Int) > 256)))
    (∃ n30, w23.cell? (p1.add 2) = some (.int .i64 n30) ∧
     cond (!(decide (n30 > 65536)))
     (∃ n31, w23.cell? (p1.add 2) = some (.int .i64 n31) ∧
      cond (!(decide (n31 < (IntKind.i64.wrap ((-65536) - s16.1)))))
      (∃ n32, w23.cell? (p1.add 2) = some (.int .i64 n32) ∧
       J27 ((decide ((IntKind.i64.wrap (n32 + s16.1)) > 65536)), ()) w23)
      (J27 (true, ()) w23))
     (J27 (true, ()) w23))
    (J27 (true, ()) w23))
   (fun s28 w29 =>
    cond s28.1
    (stM p3 (.bool false) w29 fun w33 =>
     stM (p3.add 1) (.slice none 0 0) w33 fun w34 =>
     stM (p3.add 2) (.int .i64 0) w34 fun w35 =>
     ∃ b36, w35.cell? p3 = some (.bool b36) ∧
     ∃ s37a s37l s37c, w35.cell? (p3.add 1) = some (.slice s37a s37l s37c) ∧
     ∃ n38, w35.cell? (p3.add 2) = some (.int .i64 n38) ∧
     K (.tuple #[.agg #[.bool b36, .slice s37a s37l s37c, .int .i64 n38], .int .i64 3]) w35)
    (∃ b39, w29.cell? p1 = some (.bool b39) ∧
     ∃ n40, w29.cell? (p1.add 2) = some (.int .i64 n40) ∧
     stM p3 (.bool b39) w29 fun w41 =>
     stM (p3.add 1) (.slice s25a s25l s25c) w41 fun w42 =>
     stM (p3.add 2) (.int .i64 (IntKind.i64.wrap (n40 + s16.1))) w42 fun w43 =>
     ∃ b44, w43.cell? p3 = some (.bool b44) ∧
     ∃ s45a s45l s45c, w43.cell? (p3.add 1) = some (.slice s45a s45l s45c) ∧
     ∃ n46, w43.cell? (p3.add 2) = some (.int .i64 n46) ∧
     K (.tuple #[.agg #[.bool b44, .slice s45a s45l s45c, .int .i64 n46], .int .i64 0]) w43))))

/-- girder/girderref02.Right -/
def S_girderref02_Right (N : Nums) (P : Program) (q0_0 : Bool) (q0_1 : Option Addr) (q0_1l q0_1c : Nat) (q0_2 : Int) (w : World) (K : Value → World → Prop) : Prop :=
 newM #[.bool q0_0, .slice q0_1 q0_1l q0_1c, .int .i64 q0_2] N.t_Dyad w fun p1 w2 =>
 ∃ s3a s3l s3c, w2.cell? (p1.add 1) = some (.slice s3a s3l s3c) ∧
 cond (((s3l : Nat) : Int) == 0)
 (∃ b4, w2.cell? p1 = some (.bool b4) ∧
  cond (!b4)
  (∃ n5, w2.cell? (p1.add 2) = some (.int .i64 n5) ∧
   K (.bool (n5 == 0)) w2)
  (K (.bool false) w2))
 (∃ s6a s6l s6c, w2.cell? (p1.add 1) = some (.slice s6a s6l s6c) ∧
  cond (decide (((s6l : Nat) : Int) ≤ 256))
  (∃ s7a s7l s7c, w2.cell? (p1.add 1) = some (.slice s7a s7l s7c) ∧
   ∃ s8a s8l s8c, w2.cell? (p1.add 1) = some (.slice s8a s8l s8c) ∧
   (0 : Int) ≤ (IntKind.i64.wrap (((s8l : Nat) : Int) - 1)) ∧ (IntKind.i64.wrap (((s8l : Nat) : Int) - 1)) < (s7l : Nat) ∧
   optM s7a fun a9 =>
   ∃ n10, w2.cell? (a9.add ((IntKind.i64.wrap (((s8l : Nat) : Int) - 1)).toNat * 1)) = some (.int .u64 n10) ∧
   cond (n10 != 0)
   (∃ s11a s11l s11c, w2.cell? (p1.add 1) = some (.slice s11a s11l s11c) ∧
    (0 : Int) ≤ (0 : Int) ∧ (0 : Int) < (s11l : Nat) ∧
    optM s11a fun a12 =>
    ∃ n13, w2.cell? (a12.add ((0 : Int).toNat * 1)) = some (.int .u64 n13) ∧
    (2 : Int) ≠ 0 ∧
    cond ((n13.tmod 2) == 1)
    (∃ n14, w2.cell? (p1.add 2) = some (.int .i64 n14) ∧
     cond (decide (n14 ≥ (-65536)))
     (∃ n15, w2.cell? (p1.add 2) = some (.int .i64 n15) ∧
      K (.bool (decide (n15 ≤ 65536))) w2)
     (K (.bool false) w2))
    (K (.bool false) w2))
   (K (.bool false) w2))
  (K (.bool false) w2))

/-- girder/girderref02.Fits -/
def S_girderref02_Fits (N : Nums) (P : Program) (q0_0 : Bool) (q0_1 : Option Addr) (q0_1l q0_1c : Nat) (q0_2 : Int) (w : World) (K : Value → World → Prop) : Prop :=
 newM #[.bool q0_0, .slice q0_1 q0_1l q0_1c, .int .i64 q0_2] N.t_Dyad w fun p1 w2 =>
 ∃ b3, w2.cell? p1 = some (.bool b3) ∧
 ∃ s4a s4l s4c, w2.cell? (p1.add 1) = some (.slice s4a s4l s4c) ∧
 ∃ n5, w2.cell? (p1.add 2) = some (.int .i64 n5) ∧
 CallsX P N.f_girderref02_Right #[.agg #[.bool b3, .slice s4a s4l s4c, .int .i64 n5]] w2 fun v7 w6 =>
 ∃ b8, v7 = (.bool b8) ∧
 cond (!b8)
 (K (.bool false) w6)
 (∃ b9, w6.cell? p1 = some (.bool b9) ∧
  ∃ s10a s10l s10c, w6.cell? (p1.add 1) = some (.slice s10a s10l s10c) ∧
  ∃ n11, w6.cell? (p1.add 2) = some (.int .i64 n11) ∧
  CallsX P N.f_girderref02_Dyad #[.agg #[.bool b9, .slice s10a s10l s10c, .int .i64 n11]] w6 fun v13 w12 =>
  ∃ b14, ∃ s15a s15l s15c, ∃ n16, v13 = (.agg #[.bool b14, .slice s15a s15l s15c, .int .i64 n16]) ∧
  CallsX P N.f_girderref02_Rounded #[.agg #[.bool b14, .slice s15a s15l s15c, .int .i64 n16], .int .i8 0] w12 fun v18 w17 =>
  ∃ x19, v18 = (.float .f64 x19) ∧
  CallsX P N.f_girderref02_Of #[.float .f64 x19] w17 fun v21 w20 =>
  ∃ b22, ∃ s23a s23l s23c, ∃ n24, ∃ n25, v21 = (.tuple #[.agg #[.bool b22, .slice s23a s23l s23c, .int .i64 n24], .int .i64 n25]) ∧
  newM #[.bool false, .slice none 0 0, .int .i64 0] N.t_Dyad w20 fun p26 w27 =>
  stM p26 (.bool b22) w27 fun w28 =>
  stM (p26.add 1) (.slice s23a s23l s23c) w28 fun w29 =>
  stM (p26.add 2) (.int .i64 n24) w29 fun w30 =>
  cond (n25 == 0)
  (∃ b31, w30.cell? p1 = some (.bool b31) ∧
   ∃ s32a s32l s32c, w30.cell? (p1.add 1) = some (.slice s32a s32l s32c) ∧
   ∃ n33, w30.cell? (p1.add 2) = some (.int .i64 n33) ∧
   ∃ b34, w30.cell? p26 = some (.bool b34) ∧
   ∃ s35a s35l s35c, w30.cell? (p26.add 1) = some (.slice s35a s35l s35c) ∧
   ∃ n36, w30.cell? (p26.add 2) = some (.int .i64 n36) ∧
   drM w30 fun w37 =>
   CallsX P N.f_girderref02_Dyad #[.agg #[.bool b31, .slice s32a s32l s32c, .int .i64 n33]] w37 fun v39 w38 =>
   ∃ b40, ∃ s41a s41l s41c, ∃ n42, v39 = (.agg #[.bool b40, .slice s41a s41l s41c, .int .i64 n42]) ∧
   w38.cell? p26 = some (.bool b34) ∧
   w38.cell? (p26.add 1) = some (.slice s35a s35l s35c) ∧
   w38.cell? (p26.add 2) = some (.int .i64 n36) ∧
   drM w38 fun w43 =>
   CallsX P N.f_girderref02_Dyad #[.agg #[.bool b34, .slice s35a s35l s35c, .int .i64 n36]] w43 fun v45 w44 =>
   ∃ b46, ∃ s47a s47l s47c, ∃ n48, v45 = (.agg #[.bool b46, .slice s47a s47l s47c, .int .i64 n48]) ∧
   drM w44 fun w49 =>
   CallsX P N.f_girderref02_Compare #[.agg #[.bool b40, .slice s41a s41l s41c, .int .i64 n42], .agg #[.bool b46, .slice s47a s47l s47c, .int .i64 n48]] w49 fun v51 w50 =>
   ∃ n52, v51 = (.int .i64 n52) ∧
   drM w50 fun w53 =>
   K (.bool (n52 == 0)) w53)
  (drM w30 fun w54 =>
   drM w54 fun w55 =>
   drM w55 fun w56 =>
   drM w56 fun w57 =>
   K (.bool false) w57))

/-- girder/girderkit.SameDyad -/
def S_girderkit_SameDyad (N : Nums) (P : Program) (q0_0 : Bool) (q0_1 : Option Addr) (q0_1l q0_1c : Nat) (q0_2 : Int) (q1_0 : Bool) (q1_1 : Option Addr) (q1_1l q1_1c : Nat) (q1_2 : Int) (w : World) (K : Value → World → Prop) : Prop :=
 newM #[.bool q0_0, .slice q0_1 q0_1l q0_1c, .int .i64 q0_2] N.t_Dyad w fun p1 w2 =>
 newM #[.bool q1_0, .slice q1_1 q1_1l q1_1c, .int .i64 q1_2] N.t_Dyad w2 fun p3 w4 =>
 ∃ b5, w4.cell? p1 = some (.bool b5) ∧
 ∃ b6, w4.cell? p3 = some (.bool b6) ∧
 cond (b5 == b6)
 (∃ s7a s7l s7c, w4.cell? (p1.add 1) = some (.slice s7a s7l s7c) ∧
  ∃ s8a s8l s8c, w4.cell? (p3.add 1) = some (.slice s8a s8l s8c) ∧
  CallsX P N.f_girderkit_SameLimbs #[.slice s7a s7l s7c, .slice s8a s8l s8c] w4 fun v10 w9 =>
  ∃ b11, v10 = (.bool b11) ∧
  cond b11
  (∃ n12, w9.cell? (p1.add 2) = some (.int .i64 n12) ∧
   ∃ n13, w9.cell? (p3.add 2) = some (.int .i64 n13) ∧
   K (.bool (n12 == n13)) w9)
  (K (.bool false) w9))
 (K (.bool false) w4)

/-- girder/dyad.Add -/
def S_dyad_Add (N : Nums) (P : Program) (q0_0 : Bool) (q0_1 : Option Addr) (q0_1l q0_1c : Nat) (q0_2 : Int) (q1_0 : Bool) (q1_1 : Option Addr) (q1_1l q1_1c : Nat) (q1_2 : Int) (w : World) (K : Value → World → Prop) : Prop :=
 newM #[.bool q0_0, .slice q0_1 q0_1l q0_1c, .int .i64 q0_2] N.t_Dyad w fun p1 w2 =>
 newM #[.bool q1_0, .slice q1_1 q1_1l q1_1c, .int .i64 q1_2] N.t_Dyad w2 fun p3 w4 =>
 newM #[.bool false, .slice none 0 0, .int .i64 0] N.t_Dyad w4 fun p5 w6 =>
 ∃ b7, w6.cell? p1 = some (.bool b7) ∧
 ∃ s8a s8l s8c, w6.cell? (p1.add 1) = some (.slice s8a s8l s8c) ∧
 ∃ n9, w6.cell? (p1.add 2) = some (.int .i64 n9) ∧
 ∃ b10, w6.cell? p3 = some (.bool b10) ∧
 ∃ s11a s11l s11c, w6.cell? (p3.add 1) = some (.slice s11a s11l s11c) ∧
 ∃ n12, w6.cell? (p3.add 2) = some (.int .i64 n12) ∧
 CallsX P N.f_dyad_both #[.agg #[.bool b7, .slice s8a s8l s8c, .int .i64 n9], .agg #[.bool b10, .slice s11a s11l s11c, .int .i64 n12]] w6 fun v14 w13 =>
 ∃ b15, v14 = (.bool b15) ∧
 cond (!b15)
 (stM p5 (.bool false) w13 fun w16 =>
  stM (p5.add 1) (.slice none 0 0) w16 fun w17 =>
  stM (p5.add 2) (.int .i64 0) w17 fun w18 =>
  ∃ b19, w18.cell? p5 = some (.bool b19) ∧
  ∃ s20a s20l s20c, w18.cell? (p5.add 1) = some (.slice s20a s20l s20c) ∧
  ∃ n21, w18.cell? (p5.add 2) = some (.int .i64 n21) ∧
  K (.tuple #[.agg #[.bool b19, .slice s20a s20l s20c, .int .i64 n21], .int .i64 2]) w18)
 (∃ b22, w13.cell? p1 = some (.bool b22) ∧
  ∃ s23a s23l s23c, w13.cell? (p1.add 1) = some (.slice s23a s23l s23c) ∧
  ∃ n24, w13.cell? (p1.add 2) = some (.int .i64 n24) ∧
  ∃ b25, w13.cell? p3 = some (.bool b25) ∧
  ∃ s26a s26l s26c, w13.cell? (p3.add 1) = some (.slice s26a s26l s26c) ∧
  ∃ n27, w13.cell? (p3.add 2) = some (.int .i64 n27) ∧
  drM w13 fun w28 =>
  CallsX P N.f_dyad_whole #[.agg #[.bool b22, .slice s23a s23l s23c, .int .i64 n24]] w28 fun v30 w29 =>
  ∃ p31 : (Option Addr), v30 = (.pointer p31) ∧
  w29.cell? p3 = some (.bool b25) ∧
  w29.cell? (p3.add 1) = some (.slice s26a s26l s26c) ∧
  w29.cell? (p3.add 2) = some (.int .i64 n27) ∧
  drM w29 fun w32 =>
  CallsX P N.f_dyad_whole #[.agg #[.bool b25, .slice s26a s26l s26c, .int .i64 n27]] w32 fun v34 w33 =>
  ∃ p35 : (Option Addr), v34 = (.pointer p35) ∧
  drM w33 fun w36 =>
  cutM (σ := Bool × Unit) (fun J37 =>
   CallsX P N.f_p_bignum_Int_Sign #[.pointer p31] w36 fun v41 w40 =>
   ∃ n42, v41 = (.int .i64 n42) ∧
   cond (!(n42 == 0))
   (CallsX P N.f_p_bignum_Int_Sign #[.pointer p35] w40 fun v44 w43 =>
    ∃ n45, v44 = (.int .i64 n45) ∧
    J37 ((n45 == 0), ()) w43)
   (J37 (true, ()) w40))
  (fun s38 w39 =>
   cond s38.1
   (∃ n46, w39.cell? (p1.add 2) = some (.int .i64 n46) ∧
    ∃ n47, w39.cell? (p3.add 2) = some (.int .i64 n47) ∧
    drM w39 fun w48 =>
    CallsX P N.f_p_bignum_Int_Add #[.pointer p31, .pointer p31, .pointer p35] w48 fun v50 w49 =>
    ∃ p51 : (Option Addr), v50 = (.pointer p51) ∧
    w49.cell? (p3.add 2) = some (.int .i64 n47) ∧
    w49.cell? (p1.add 2) = some (.int .i64 n46) ∧
    drM w49 fun w52 =>
    CallsX P N.f_dyad_made #[.pointer p51, .int .i64 (IntKind.i64.wrap (n46 + n47))] w52 fun v54 w53 =>
    ∃ b55, ∃ s56a s56l s56c, ∃ n57, ∃ n58, v54 = (.tuple #[.agg #[.bool b55, .slice s56a s56l s56c, .int .i64 n57], .int .i64 n58]) ∧
    drM w53 fun w59 =>
    stM p5 (.bool b55) w59 fun w60 =>
    stM (p5.add 1) (.slice s56a s56l s56c) w60 fun w61 =>
    stM (p5.add 2) (.int .i64 n57) w61 fun w62 =>
    drM w62 fun w63 =>
    ∃ b64, w63.cell? p5 = some (.bool b64) ∧
    ∃ s65a s65l s65c, w63.cell? (p5.add 1) = some (.slice s65a s65l s65c) ∧
    ∃ n66, w63.cell? (p5.add 2) = some (.int .i64 n66) ∧
    K (.tuple #[.agg #[.bool b64, .slice s65a s65l s65c, .int .i64 n66], .int .i64 n58]) w63)
   (∃ n67, w39.cell? (p1.add 2) = some (.int .i64 n67) ∧
    ∃ n68, w39.cell? (p3.add 2) = some (.int .i64 n68) ∧
    cutM (σ := (Option Addr) × (Option Addr) × Unit) (fun J69 =>
     cond (decide (n67 < n68))
     (∃ b72, w39.cell? p3 = some (.bool b72) ∧
      ∃ s73a s73l s73c, w39.cell? (p3.add 1) = some (.slice s73a s73l s73c) ∧
      ∃ n74, w39.cell? (p3.add 2) = some (.int .i64 n74) ∧
      ∃ b75, w39.cell? p1 = some (.bool b75) ∧
      ∃ s76a s76l s76c, w39.cell? (p1.add 1) = some (.slice s76a s76l s76c) ∧
      ∃ n77, w39.cell? (p1.add 2) = some (.int .i64 n77) ∧
      stM p1 (.bool b72) w39 fun w78 =>
      stM (p1.add 1) (.slice s73a s73l s73c) w78 fun w79 =>
      stM (p1.add 2) (.int .i64 n74) w79 fun w80 =>
      stM p3 (.bool b75) w80 fun w81 =>
      stM (p3.add 1) (.slice s76a s76l s76c) w81 fun w82 =>
      stM (p3.add 2) (.int .i64 n77) w82 fun w83 =>
      J69 (p35, p31, ()) w83)
     (J69 (p31, p35, ()) w39))
    (fun s70 w71 =>
     ∃ n84, w71.cell? (p1.add 2) = some (.int .i64 n84) ∧
     ∃ n85, w71.cell? (p3.add 2) = some (.int .i64 n85) ∧
     cond (decide ((IntKind.i64.wrap (n84 - n85)) > 16385))
     (stM p5 (.bool false) w71 fun w86 =>
      stM (p5.add 1) (.slice none 0 0) w86 fun w87 =>
      stM (p5.add 2) (.int .i64 0) w87 fun w88 =>
      ∃ b89, w88.cell? p5 = some (.bool b89) ∧
      ∃ s90a s90l s90c, w88.cell? (p5.add 1) = some (.slice s90a s90l s90c) ∧
      ∃ n91, w88.cell? (p5.add 2) = some (.int .i64 n91) ∧
      K (.tuple #[.agg #[.bool b89, .slice s90a s90l s90c, .int .i64 n91], .int .i64 3]) w88)
     (∃ n92, w71.cell? (p3.add 2) = some (.int .i64 n92) ∧
      drM w71 fun w93 =>
      CallsX P N.f_p_bignum_Int_Lsh #[.pointer s70.1, .pointer s70.1, .int .u64 (IntKind.u64.wrap (IntKind.i64.wrap (n84 - n85)))] w93 fun v95 w94 =>
      ∃ p96 : (Option Addr), v95 = (.pointer p96) ∧
      w94.cell? (p3.add 2) = some (.int .i64 n92) ∧
      drM w94 fun w97 =>
      CallsX P N.f_p_bignum_Int_Add #[.pointer s70.1, .pointer p96, .pointer s70.2.1] w97 fun v99 w98 =>
      ∃ p100 : (Option Addr), v99 = (.pointer p100) ∧
      w98.cell? (p3.add 2) = some (.int .i64 n92) ∧
      drM w98 fun w101 =>
      CallsX P N.f_dyad_made #[.pointer p100, .int .i64 n92] w101 fun v103 w102 =>
      ∃ b104, ∃ s105a s105l s105c, ∃ n106, ∃ n107, v103 = (.tuple #[.agg #[.bool b104, .slice s105a s105l s105c, .int .i64 n106], .int .i64 n107]) ∧
      drM w102 fun w108 =>
      stM p5 (.bool b104) w108 fun w109 =>
      stM (p5.add 1) (.slice s105a s105l s105c) w109 fun w110 =>
      stM (p5.add 2) (.int .i64 n106) w110 fun w111 =>
      drM w111 fun w112 =>
      ∃ b113, w112.cell? p5 = some (.bool b113) ∧
      ∃ s114a s114l s114c, w112.cell? (p5.add 1) = some (.slice s114a s114l s114c) ∧
      ∃ n115, w112.cell? (p5.add 2) = some (.int .i64 n115) ∧
      K (.tuple #[.agg #[.bool b113, .slice s114a s114l s114c, .int .i64 n115], .int .i64 n107]) w112)))))

/-- girder/dyad.Mul -/
def S_dyad_Mul (N : Nums) (P : Program) (q0_0 : Bool) (q0_1 : Option Addr) (q0_1l q0_1c : Nat) (q0_2 : Int) (q1_0 : Bool) (q1_1 : Option Addr) (q1_1l q1_1c : Nat) (q1_2 : Int) (w : World) (K : Value → World → Prop) : Prop :=
 newM #[.bool q0_0, .slice q0_1 q0_1l q0_1c, .int .i64 q0_2] N.t_Dyad w fun p1 w2 =>
 newM #[.bool q1_0, .slice q1_1 q1_1l q1_1c, .int .i64 q1_2] N.t_Dyad w2 fun p3 w4 =>
 newM #[.bool false, .slice none 0 0, .int .i64 0] N.t_Dyad w4 fun p5 w6 =>
 ∃ b7, w6.cell? p1 = some (.bool b7) ∧
 ∃ s8a s8l s8c, w6.cell? (p1.add 1) = some (.slice s8a s8l s8c) ∧
 ∃ n9, w6.cell? (p1.add 2) = some (.int .i64 n9) ∧
 ∃ b10, w6.cell? p3 = some (.bool b10) ∧
 ∃ s11a s11l s11c, w6.cell? (p3.add 1) = some (.slice s11a s11l s11c) ∧
 ∃ n12, w6.cell? (p3.add 2) = some (.int .i64 n12) ∧
 CallsX P N.f_dyad_both #[.agg #[.bool b7, .slice s8a s8l s8c, .int .i64 n9], .agg #[.bool b10, .slice s11a s11l s11c, .int .i64 n12]] w6 fun v14 w13 =>
 ∃ b15, v14 = (.bool b15) ∧
 cond (!b15)
 (stM p5 (.bool false) w13 fun w16 =>
  stM (p5.add 1) (.slice none 0 0) w16 fun w17 =>
  stM (p5.add 2) (.int .i64 0) w17 fun w18 =>
  ∃ b19, w18.cell? p5 = some (.bool b19) ∧
  ∃ s20a s20l s20c, w18.cell? (p5.add 1) = some (.slice s20a s20l s20c) ∧
  ∃ n21, w18.cell? (p5.add 2) = some (.int .i64 n21) ∧
  K (.tuple #[.agg #[.bool b19, .slice s20a s20l s20c, .int .i64 n21], .int .i64 2]) w18)
 (∃ b22, w13.cell? p1 = some (.bool b22) ∧
  ∃ s23a s23l s23c, w13.cell? (p1.add 1) = some (.slice s23a s23l s23c) ∧
  ∃ n24, w13.cell? (p1.add 2) = some (.int .i64 n24) ∧
  CallsX P N.f_dyad_whole #[.agg #[.bool b22, .slice s23a s23l s23c, .int .i64 n24]] w13 fun v26 w25 =>
  ∃ p27 : (Option Addr), v26 = (.pointer p27) ∧
  ∃ b28, w25.cell? p3 = some (.bool b28) ∧
  ∃ s29a s29l s29c, w25.cell? (p3.add 1) = some (.slice s29a s29l s29c) ∧
  ∃ n30, w25.cell? (p3.add 2) = some (.int .i64 n30) ∧
  ∃ n31, w25.cell? (p1.add 2) = some (.int .i64 n31) ∧
  ∃ n32, w25.cell? (p3.add 2) = some (.int .i64 n32) ∧
  drM w25 fun w33 =>
  CallsX P N.f_dyad_whole #[.agg #[.bool b28, .slice s29a s29l s29c, .int .i64 n30]] w33 fun v35 w34 =>
  ∃ p36 : (Option Addr), v35 = (.pointer p36) ∧
  w34.cell? (p3.add 2) = some (.int .i64 n32) ∧
  w34.cell? (p1.add 2) = some (.int .i64 n31) ∧
  drM w34 fun w37 =>
  CallsX P N.f_p_bignum_Int_Mul #[.pointer p27, .pointer p27, .pointer p36] w37 fun v39 w38 =>
  ∃ p40 : (Option Addr), v39 = (.pointer p40) ∧
  w38.cell? (p3.add 2) = some (.int .i64 n32) ∧
  w38.cell? (p1.add 2) = some (.int .i64 n31) ∧
  drM w38 fun w41 =>
  CallsX P N.f_dyad_made #[.pointer p40, .int .i64 (IntKind.i64.wrap (n31 + n32))] w41 fun v43 w42 =>
  ∃ b44, ∃ s45a s45l s45c, ∃ n46, ∃ n47, v43 = (.tuple #[.agg #[.bool b44, .slice s45a s45l s45c, .int .i64 n46], .int .i64 n47]) ∧
  drM w42 fun w48 =>
  stM p5 (.bool b44) w48 fun w49 =>
  stM (p5.add 1) (.slice s45a s45l s45c) w49 fun w50 =>
  stM (p5.add 2) (.int .i64 n46) w50 fun w51 =>
  drM w51 fun w52 =>
  ∃ b53, w52.cell? p5 = some (.bool b53) ∧
  ∃ s54a s54l s54c, w52.cell? (p5.add 1) = some (.slice s54a s54l s54c) ∧
  ∃ n55, w52.cell? (p5.add 2) = some (.int .i64 n55) ∧
  K (.tuple #[.agg #[.bool b53, .slice s54a s54l s54c, .int .i64 n55], .int .i64 n47]) w52)

/-- girder/dyad.Of -/
def S_dyad_Of (N : Nums) (P : Program) (q0 : Nat) (w : World) (K : Value → World → Prop) : Prop :=
 newM #[.bool false, .slice none 0 0, .int .i64 0] N.t_Dyad w fun p1 w2 =>
 CallsX P N.f_bits_Split #[.float .f64 q0] w2 fun v4 w3 =>
 ∃ b5, ∃ n6, ∃ n7, ∃ b8, v4 = (.tuple #[.agg #[.bool b5, .int .u64 n6, .int .i64 n7], .bool b8]) ∧
 newM #[.bool false, .int .u64 0, .int .i64 0] N.t_Parts w3 fun p9 w10 =>
 stM p9 (.bool b5) w10 fun w11 =>
 stM (p9.add 1) (.int .u64 n6) w11 fun w12 =>
 stM (p9.add 2) (.int .i64 n7) w12 fun w13 =>
 cond (!b8)
 (stM p1 (.bool false) w13 fun w14 =>
  stM (p1.add 1) (.slice none 0 0) w14 fun w15 =>
  stM (p1.add 2) (.int .i64 0) w15 fun w16 =>
  ∃ b17, w16.cell? p1 = some (.bool b17) ∧
  ∃ s18a s18l s18c, w16.cell? (p1.add 1) = some (.slice s18a s18l s18c) ∧
  ∃ n19, w16.cell? (p1.add 2) = some (.int .i64 n19) ∧
  K (.tuple #[.agg #[.bool b17, .slice s18a s18l s18c, .int .i64 n19], .int .i64 5]) w16)
 (∃ n20, w13.cell? (p9.add 1) = some (.int .u64 n20) ∧
  cond (n20 == 0)
  (stM p1 (.bool false) w13 fun w21 =>
   stM (p1.add 1) (.slice none 0 0) w21 fun w22 =>
   stM (p1.add 2) (.int .i64 0) w22 fun w23 =>
   ∃ b24, w23.cell? p1 = some (.bool b24) ∧
   ∃ s25a s25l s25c, w23.cell? (p1.add 1) = some (.slice s25a s25l s25c) ∧
   ∃ n26, w23.cell? (p1.add 2) = some (.int .i64 n26) ∧
   K (.tuple #[.agg #[.bool b24, .slice s25a s25l s25c, .int .i64 n26], .int .i64 0]) w23)
  (∃ b27, w13.cell? p9 = some (.bool b27) ∧
   ∃ n28, w13.cell? (p9.add 1) = some (.int .u64 n28) ∧
   newM #[.int .u64 n28] N.t_uint64 w13 fun p29 w30 =>
   ∃ n31, w30.cell? (p9.add 2) = some (.int .i64 n31) ∧
   stM p1 (.bool b27) w30 fun w32 =>
   stM (p1.add 1) (.slice (some p29) 1 1) w32 fun w33 =>
   stM (p1.add 2) (.int .i64 n31) w33 fun w34 =>
   ∃ b35, w34.cell? p1 = some (.bool b35) ∧
   ∃ s36a s36l s36c, w34.cell? (p1.add 1) = some (.slice s36a s36l s36c) ∧
   ∃ n37, w34.cell? (p1.add 2) = some (.int .i64 n37) ∧
   K (.tuple #[.agg #[.bool b35, .slice s36a s36l s36c, .int .i64 n37], .int .i64 0]) w34))

/-- girder/dyad.Int -/
def S_dyad_Int (N : Nums) (P : Program) (q0 : Int) (w : World) (K : Value → World → Prop) : Prop :=
 newM #[.bool false, .slice none 0 0, .int .i64 0] N.t_Dyad w fun p1 w2 =>
 CallsX P N.f_bignum_NewInt #[.int .i64 q0] w2 fun v4 w3 =>
 ∃ p5 : (Option Addr), v4 = (.pointer p5) ∧
 CallsX P N.f_dyad_made #[.pointer p5, .int .i64 0] w3 fun v7 w6 =>
 ∃ b8, ∃ s9a s9l s9c, ∃ n10, ∃ n11, v7 = (.tuple #[.agg #[.bool b8, .slice s9a s9l s9c, .int .i64 n10], .int .i64 n11]) ∧
 newM #[.bool false, .slice none 0 0, .int .i64 0] N.t_Dyad w6 fun p12 w13 =>
 stM p12 (.bool b8) w13 fun w14 =>
 stM (p12.add 1) (.slice s9a s9l s9c) w14 fun w15 =>
 stM (p12.add 2) (.int .i64 n10) w15 fun w16 =>
 ∃ b17, w16.cell? p12 = some (.bool b17) ∧
 ∃ s18a s18l s18c, w16.cell? (p12.add 1) = some (.slice s18a s18l s18c) ∧
 ∃ n19, w16.cell? (p12.add 2) = some (.int .i64 n19) ∧
 stM p1 (.bool b17) w16 fun w20 =>
 stM (p1.add 1) (.slice s18a s18l s18c) w20 fun w21 =>
 stM (p1.add 2) (.int .i64 n19) w21 fun w22 =>
 ∃ b23, w22.cell? p1 = some (.bool b23) ∧
 ∃ s24a s24l s24c, w22.cell? (p1.add 1) = some (.slice s24a s24l s24c) ∧
 ∃ n25, w22.cell? (p1.add 2) = some (.int .i64 n25) ∧
 K (.agg #[.bool b23, .slice s24a s24l s24c, .int .i64 n25]) w22

/-- girder/girderkit.LentLimbs -/
def S_girderkit_LentLimbs (N : Nums) (P : Program) (q0 : Option Addr) (q0l q0c : Nat) (w : World) (K : Value → World → Prop) : Prop :=
 mkM N.t_uint64 1 8 #[.int .u64 0] 0 (IntKind.i64.wrap (((q0l : Nat) : Int) + 12)) w fun p1 w2 =>
 appM N.t_uint64 1 8 #[.int .u64 0] (some p1) ((0 : Int).toNat) ((IntKind.i64.wrap (((q0l : Nat) : Int) + 12)).toNat) q0 q0l w2 fun s3a s3l s3c w4 =>
 cutM (σ := (Option Addr × Nat × Nat) × Unit) (fun J5 =>
  loopM (σ := (Option Addr × Nat × Nat) × Int × Unit) (fun s8 X9 w10 =>
   cond (decide (s8.2.1 < 12))
   (CallsX P N.f_girderkit_mark #[.int .i64 1, .int .i64 s8.2.1] w10 fun v12 w11 =>
    ∃ n13, v12 = (.int .i64 n13) ∧
    newM #[.int .u64 (IntKind.u64.wrap n13)] N.t_uint64 w11 fun p14 w15 =>
    appM N.t_uint64 1 8 #[.int .u64 0] s8.1.1 s8.1.2.1 s8.1.2.2 (some p14) 1 w15 fun s16a s16l s16c w17 =>
    X9 ((s16a, s16l, s16c), (IntKind.i64.wrap (s8.2.1 + 1)), ()) w17)
   (J5 ((s8.1.1, s8.1.2.1, s8.1.2.2), ()) w10))
  ((s3a, s3l, s3c), 0, ()) w4)
 (fun s6 w7 =>
  (0 : Int) ≤ ((q0l : Nat) : Int) ∧ ((q0l : Nat) : Int) ≤ (s6.1.2.2 : Nat) ∧
  K (.slice (slBase s6.1.1 0 s6.1.2.2 1) (((q0l : Nat) : Int).toNat) s6.1.2.2) w7)

/-- girder/dyad.whole -/
def S_dyad_whole (N : Nums) (P : Program) (q0_0 : Bool) (q0_1 : Option Addr) (q0_1l q0_1c : Nat) (q0_2 : Int) (w : World) (K : Value → World → Prop) : Prop :=
 newM #[.bool q0_0, .slice q0_1 q0_1l q0_1c, .int .i64 q0_2] N.t_Dyad w fun p1 w2 =>
 newM #[.bool false, .slice none 0 0] N.t_bignum_Int w2 fun p3 w4 =>
 ∃ s5a s5l s5c, w4.cell? (p1.add 1) = some (.slice s5a s5l s5c) ∧
 cutM (σ := Unit) (fun J6 =>
  loopM (σ := Int × Unit) (fun s9 X10 w11 =>
   cond (decide (s9.1 < ((s5l : Nat) : Int)))
   (CallsX P N.f_p_bignum_Int_Lsh #[.pointer (some p3), .pointer (some p3), .int .u64 64] w11 fun v13 w12 =>
    ∃ p14 : (Option Addr), v13 = (.pointer p14) ∧
    newM #[.bool false, .slice none 0 0] N.t_bignum_Int w12 fun p15 w16 =>
    ∃ s17a s17l s17c, w16.cell? (p1.add 1) = some (.slice s17a s17l s17c) ∧
    ∃ s18a s18l s18c, w16.cell? (p1.add 1) = some (.slice s18a s18l s18c) ∧
    (0 : Int) ≤ (IntKind.i64.wrap ((IntKind.i64.wrap (((s18l : Nat) : Int) - 1)) - s9.1)) ∧ (IntKind.i64.wrap ((IntKind.i64.wrap (((s18l : Nat) : Int) - 1)) - s9.1)) < (s17l : Nat) ∧
    optM s17a fun a19 =>
    ∃ n20, w16.cell? (a19.add ((IntKind.i64.wrap ((IntKind.i64.wrap (((s18l : Nat) : Int) - 1)) - s9.1)).toNat * 1)) = some (.int .u64 n20) ∧
    CallsX P N.f_p_bignum_Int_SetUint64 #[.pointer (some p15), .int .u64 n20] w16 fun v22 w21 =>
    ∃ p23 : (Option Addr), v22 = (.pointer p23) ∧
    CallsX P N.f_p_bignum_Int_Or #[.pointer (some p3), .pointer (some p3), .pointer p23] w21 fun v25 w24 =>
    ∃ p26 : (Option Addr), v25 = (.pointer p26) ∧
    X10 ((IntKind.i64.wrap (s9.1 + 1)), ()) w24)
   (J6 (()) w11))
  (0, ()) w4)
 (fun s7 w8 =>
  ∃ b27, w8.cell? p1 = some (.bool b27) ∧
  cutM (σ := Unit) (fun J28 =>
   cond b27
   (CallsX P N.f_p_bignum_Int_Neg #[.pointer (some p3), .pointer (some p3)] w8 fun v32 w31 =>
    ∃ p33 : (Option Addr), v32 = (.pointer p33) ∧
    J28 (()) w31)
   (J28 (()) w8))
  (fun s29 w30 =>
   K (.pointer (some p3)) w30))

/-- (*girder/bignum.Int).Abs -/
def S_p_bignum_Int_Abs (N : Nums) (P : Program) (q0 : Option Addr) (q1 : Option Addr) (w : World) (K : Value → World → Prop) : Prop :=
 optM q1 fun a1 =>
 ∃ s2a s2l s2c, w.cell? (a1.add 1) = some (.slice s2a s2l s2c) ∧
 CallsX P N.f_bignum_twin #[.slice s2a s2l s2c] w fun v4 w3 =>
 ∃ s5a s5l s5c, v4 = (.slice s5a s5l s5c) ∧
 CallsX P N.f_p_bignum_Int_give #[.pointer q0, .bool false, .slice s5a s5l s5c] w3 fun v7 w6 =>
 ∃ p8 : (Option Addr), v7 = (.pointer p8) ∧
 K (.pointer p8) w6

/-- girder/dyad.top -/
def S_dyad_top (N : Nums) (P : Program) (q0_0 : Bool) (q0_1 : Option Addr) (q0_1l q0_1c : Nat) (q0_2 : Int) (w : World) (K : Value → World → Prop) : Prop :=
 newM #[.bool q0_0, .slice q0_1 q0_1l q0_1c, .int .i64 q0_2] N.t_Dyad w fun p1 w2 =>
 ∃ s3a s3l s3c, w2.cell? (p1.add 1) = some (.slice s3a s3l s3c) ∧
 ∃ n4, w2.cell? (p1.add 2) = some (.int .i64 n4) ∧
 ∃ s5a s5l s5c, w2.cell? (p1.add 1) = some (.slice s5a s5l s5c) ∧
 (0 : Int) ≤ (IntKind.i64.wrap (((s3l : Nat) : Int) - 1)) ∧ (IntKind.i64.wrap (((s3l : Nat) : Int) - 1)) < (s5l : Nat) ∧
 optM s5a fun a6 =>
 ∃ n7, w2.cell? (a6.add ((IntKind.i64.wrap (((s3l : Nat) : Int) - 1)).toNat * 1)) = some (.int .u64 n7) ∧
 drM w2 fun w8 =>
 CallsX P N.f_math_bits_Len64 #[.int .u64 n7] w8 fun v10 w9 =>
 ∃ n11, v10 = (.int .i64 n11) ∧
 w9.cell? (p1.add 2) = some (.int .i64 n4) ∧
 drM w9 fun w12 =>
 K (.int .i64 (IntKind.i64.wrap ((IntKind.i64.wrap (n4 + (IntKind.i64.wrap (64 * (IntKind.i64.wrap (((s3l : Nat) : Int) - 1)))))) + n11))) w12

/-- (*girder/bignum.Int).Lsh -/
def S_p_bignum_Int_Lsh (N : Nums) (P : Program) (q0 : Option Addr) (q1 : Option Addr) (q2 : Int) (w : World) (K : Value → World → Prop) : Prop :=
 optM q1 fun a1 =>
 ∃ b2, w.cell? a1 = some (.bool b2) ∧
 optM q1 fun a3 =>
 ∃ s4a s4l s4c, w.cell? (a3.add 1) = some (.slice s4a s4l s4c) ∧
 drM w fun w5 =>
 CallsX P N.f_bignum_left #[.slice s4a s4l s4c, .int .u64 q2] w5 fun v7 w6 =>
 ∃ s8a s8l s8c, v7 = (.slice s8a s8l s8c) ∧
 w6.cell? a1 = some (.bool b2) ∧
 drM w6 fun w9 =>
 CallsX P N.f_p_bignum_Int_give #[.pointer q0, .bool b2, .slice s8a s8l s8c] w9 fun v11 w10 =>
 ∃ p12 : (Option Addr), v11 = (.pointer p12) ∧
 drM w10 fun w13 =>
 K (.pointer p12) w13

/-- (*girder/bignum.Int).Uint64 -/
def S_p_bignum_Int_Uint64 (N : Nums) (P : Program) (q0 : Option Addr) (w : World) (K : Value → World → Prop) : Prop :=
 optM q0 fun a1 =>
 ∃ s2a s2l s2c, w.cell? (a1.add 1) = some (.slice s2a s2l s2c) ∧
 cutM (σ := Int × Unit) (fun J3 =>
  cond (decide (((s2l : Nat) : Int) > 0))
  (optM q0 fun a6 =>
   ∃ s7a s7l s7c, w.cell? (a6.add 1) = some (.slice s7a s7l s7c) ∧
   (0 : Int) ≤ (0 : Int) ∧ (0 : Int) < (s7l : Nat) ∧
   optM s7a fun a8 =>
   ∃ n9, w.cell? (a8.add ((0 : Int).toNat * 1)) = some (.int .u32 n9) ∧
   J3 ((IntKind.u64.wrap n9), ()) w)
  (J3 (0, ()) w))
 (fun s4 w5 =>
  optM q0 fun a10 =>
  ∃ s11a s11l s11c, w5.cell? (a10.add 1) = some (.slice s11a s11l s11c) ∧
  cutM (σ := Int × Unit) (fun J12 =>
   cond (decide (((s11l : Nat) : Int) > 1))
   (optM q0 fun a15 =>
    ∃ s16a s16l s16c, w5.cell? (a15.add 1) = some (.slice s16a s16l s16c) ∧
    (0 : Int) ≤ (1 : Int) ∧ (1 : Int) < (s16l : Nat) ∧
    optM s16a fun a17 =>
    ∃ n18, w5.cell? (a17.add ((1 : Int).toNat * 1)) = some (.int .u32 n18) ∧
    (0 : Int) ≤ 32 ∧
    J12 ((IntKind.u64.wrap (BitVec.ofInt IntKind.u64.bits s4.1 ||| BitVec.ofInt IntKind.u64.bits (IntKind.u64.wrap ((IntKind.u64.wrap n18) * 2 ^ (min (32 : Int).toNat IntKind.u64.bits)))).toNat), ()) w5)
   (J12 (s4.1, ()) w5))
  (fun s13 w14 =>
   K (.int .u64 s13.1) w14))

/-- (*girder/bignum.Int).Rsh -/
def S_p_bignum_Int_Rsh (N : Nums) (P : Program) (q0 : Option Addr) (q1 : Option Addr) (q2 : Int) (w : World) (K : Value → World → Prop) : Prop :=
 optM q1 fun a1 =>
 ∃ b2, w.cell? a1 = some (.bool b2) ∧
 cond b2
 (optM q1 fun a3 =>
  ∃ s4a s4l s4c, w.cell? (a3.add 1) = some (.slice s4a s4l s4c) ∧
  newM #[.int .u32 1] N.t_uint32 w fun p5 w6 =>
  CallsX P N.f_bignum_sub #[.slice s4a s4l s4c, .slice (some p5) 1 1] w6 fun v8 w7 =>
  ∃ s9a s9l s9c, v8 = (.slice s9a s9l s9c) ∧
  CallsX P N.f_bignum_right #[.slice s9a s9l s9c, .int .u64 q2] w7 fun v11 w10 =>
  ∃ s12a s12l s12c, v11 = (.slice s12a s12l s12c) ∧
  newM #[.int .u32 1] N.t_uint32 w10 fun p13 w14 =>
  CallsX P N.f_bignum_add #[.slice s12a s12l s12c, .slice (some p13) 1 1] w14 fun v16 w15 =>
  ∃ s17a s17l s17c, v16 = (.slice s17a s17l s17c) ∧
  CallsX P N.f_p_bignum_Int_give #[.pointer q0, .bool true, .slice s17a s17l s17c] w15 fun v19 w18 =>
  ∃ p20 : (Option Addr), v19 = (.pointer p20) ∧
  K (.pointer p20) w18)
 (optM q1 fun a21 =>
  ∃ s22a s22l s22c, w.cell? (a21.add 1) = some (.slice s22a s22l s22c) ∧
  CallsX P N.f_bignum_right #[.slice s22a s22l s22c, .int .u64 q2] w fun v24 w23 =>
  ∃ s25a s25l s25c, v24 = (.slice s25a s25l s25c) ∧
  CallsX P N.f_p_bignum_Int_give #[.pointer q0, .bool false, .slice s25a s25l s25c] w23 fun v27 w26 =>
  ∃ p28 : (Option Addr), v27 = (.pointer p28) ∧
  K (.pointer p28) w26)

/-- (*girder/bignum.Int).Sub -/
def S_p_bignum_Int_Sub (N : Nums) (P : Program) (q0 : Option Addr) (q1 : Option Addr) (q2 : Option Addr) (w : World) (K : Value → World → Prop) : Prop :=
 optM q1 fun a1 =>
 ∃ b2, w.cell? a1 = some (.bool b2) ∧
 optM q1 fun a3 =>
 ∃ s4a s4l s4c, w.cell? (a3.add 1) = some (.slice s4a s4l s4c) ∧
 optM q2 fun a5 =>
 ∃ b6, w.cell? a5 = some (.bool b6) ∧
 optM q2 fun a7 =>
 ∃ s8a s8l s8c, w.cell? (a7.add 1) = some (.slice s8a s8l s8c) ∧
 drM w fun w9 =>
 CallsX P N.f_bignum_sum #[.bool b2, .slice s4a s4l s4c, .bool (!b6), .slice s8a s8l s8c] w9 fun v11 w10 =>
 ∃ b12, ∃ s13a s13l s13c, v11 = (.tuple #[.bool b12, .slice s13a s13l s13c]) ∧
 drM w10 fun w14 =>
 CallsX P N.f_p_bignum_Int_give #[.pointer q0, .bool b12, .slice s13a s13l s13c] w14 fun v16 w15 =>
 ∃ p17 : (Option Addr), v16 = (.pointer p17) ∧
 drM w15 fun w18 =>
 K (.pointer p17) w18

/-- (*girder/bignum.Int).Cmp -/
def S_p_bignum_Int_Cmp (N : Nums) (P : Program) (q0 : Option Addr) (q1 : Option Addr) (w : World) (K : Value → World → Prop) : Prop :=
 optM q0 fun a1 =>
 ∃ b2, w.cell? a1 = some (.bool b2) ∧
 optM q1 fun a3 =>
 ∃ b4, w.cell? a3 = some (.bool b4) ∧
 drM w fun w5 =>
 cond (!(b2 == b4))
 (optM q0 fun a6 =>
  ∃ b7, w5.cell? a6 = some (.bool b7) ∧
  cond b7
  (K (.int .i64 (-1)) w5)
  (K (.int .i64 1) w5))
 (optM q0 fun a8 =>
  ∃ s9a s9l s9c, w5.cell? (a8.add 1) = some (.slice s9a s9l s9c) ∧
  optM q1 fun a10 =>
  ∃ s11a s11l s11c, w5.cell? (a10.add 1) = some (.slice s11a s11l s11c) ∧
  drM w5 fun w12 =>
  CallsX P N.f_bignum_cmp #[.slice s9a s9l s9c, .slice s11a s11l s11c] w12 fun v14 w13 =>
  ∃ n15, v14 = (.int .i64 n15) ∧
  drM w13 fun w16 =>
  optM q0 fun a17 =>
  ∃ b18, w16.cell? a17 = some (.bool b18) ∧
  cond b18
  (K (.int .i64 (IntKind.i64.wrap (0 - n15))) w16)
  (K (.int .i64 n15) w16))

/-- girder/bignum.NewInt -/
def S_bignum_NewInt (N : Nums) (P : Program) (q0 : Int) (w : World) (K : Value → World → Prop) : Prop :=
 newM #[.bool false, .slice none 0 0] N.t_bignum_Int w fun p1 w2 =>
 CallsX P N.f_p_bignum_Int_SetInt64 #[.pointer (some p1), .int .i64 q0] w2 fun v4 w3 =>
 ∃ p5 : (Option Addr), v4 = (.pointer p5) ∧
 K (.pointer p5) w3

/-- (*girder/bignum.Int).Sign -/
def S_p_bignum_Int_Sign (N : Nums) (P : Program) (q0 : Option Addr) (w : World) (K : Value → World → Prop) : Prop :=
 optM q0 fun a1 =>
 ∃ s2a s2l s2c, w.cell? (a1.add 1) = some (.slice s2a s2l s2c) ∧
 cond (((s2l : Nat) : Int) == 0)
 (K (.int .i64 0) w)
 (optM q0 fun a3 =>
  ∃ b4, w.cell? a3 = some (.bool b4) ∧
  cond b4
  (K (.int .i64 (-1)) w)
  (K (.int .i64 1) w))

/-- girder/dyad.away -/
def S_dyad_away (N : Nums) (P : Program) (q0 : Int) (q1 : Bool) (q2 : Int) (q3 : Bool) (w : World) (K : Value → World → Prop) : Prop :=
 cond (q0 == 1)
 (K (.bool q1) w)
 (cond (q0 == 2)
  (K (.bool (!q1)) w)
  (cond (q0 == 3)
   (K (.bool false) w)
   (cond (!(decide (q2 > 0)))
    (cond (q2 == 0)
     (K (.bool q3) w)
     (K (.bool false) w))
    (K (.bool true) w))))

/-- girder/dyad.float -/
def S_dyad_float (N : Nums) (P : Program) (q0 : Bool) (q1 : Int) (q2 : Int) (q3 : Int) (w : World) (K : Value → World → Prop) : Prop :=
 newM #[.bool false, .int .u64 0, .int .i64 0] N.t_Parts w fun p1 w2 =>
 stM p1 (.bool q0) w2 fun w3 =>
 stM (p1.add 1) (.int .u64 0) w3 fun w4 =>
 stM (p1.add 2) (.int .i64 0) w4 fun w5 =>
 cutM (σ := Unit) (fun J6 =>
  cond (decide (q1 > 0))
  (CallsX P N.f_math_bits_TrailingZeros64 #[.int .u64 q1] w5 fun v10 w9 =>
   ∃ n11, v10 = (.int .i64 n11) ∧
   (0 : Int) ≤ n11 ∧
   stM (p1.add 1) (.int .u64 (q1.fdiv (2 ^ (min n11.toNat IntKind.u64.bits)))) w9 fun w12 =>
   stM (p1.add 2) (.int .i64 (IntKind.i64.wrap (q2 + n11))) w12 fun w13 =>
   J6 (()) w13)
  (J6 (()) w5))
 (fun s7 w8 =>
  ∃ n14, w8.cell? (p1.add 1) = some (.int .u64 n14) ∧
  ∃ n15, w8.cell? (p1.add 2) = some (.int .i64 n15) ∧
  drM w8 fun w16 =>
  CallsX P N.f_math_bits_Len64 #[.int .u64 n14] w16 fun v18 w17 =>
  ∃ n19, v18 = (.int .i64 n19) ∧
  w17.cell? (p1.add 2) = some (.int .i64 n15) ∧
  drM w17 fun w20 =>
  cond (decide ((IntKind.i64.wrap (n19 + n15)) > 1024))
  (stM (p1.add 1) (.int .u64 9007199254740991) w20 fun w21 =>
   stM (p1.add 2) (.int .i64 971) w21 fun w22 =>
   ∃ b23, w22.cell? p1 = some (.bool b23) ∧
   ∃ n24, w22.cell? (p1.add 1) = some (.int .u64 n24) ∧
   ∃ n25, w22.cell? (p1.add 2) = some (.int .i64 n25) ∧
   CallsX P N.f_bits_Join #[.agg #[.bool b23, .int .u64 n24, .int .i64 n25]] w22 fun v27 w26 =>
   ∃ x28, ∃ b29, v27 = (.tuple #[.float .f64 x28, .bool b29]) ∧
   cond (!(q3 == 3))
   (cond (q3 == 1)
    (cond (!(!q0))
     (cond (q3 == 2)
      (cond q0
       (K (.float .f64 x28) w26)
       (CallsX P N.f_bits_Next #[.float .f64 x28, .bool (!q0)] w26 fun v31 w30 =>
        ∃ x32, v31 = (.float .f64 x32) ∧
        K (.float .f64 x32) w30))
      (CallsX P N.f_bits_Next #[.float .f64 x28, .bool (!q0)] w26 fun v34 w33 =>
       ∃ x35, v34 = (.float .f64 x35) ∧
       K (.float .f64 x35) w33))
     (K (.float .f64 x28) w26))
    (cond (q3 == 2)
     (cond q0
      (K (.float .f64 x28) w26)
      (CallsX P N.f_bits_Next #[.float .f64 x28, .bool (!q0)] w26 fun v37 w36 =>
       ∃ x38, v37 = (.float .f64 x38) ∧
       K (.float .f64 x38) w36))
     (CallsX P N.f_bits_Next #[.float .f64 x28, .bool (!q0)] w26 fun v40 w39 =>
      ∃ x41, v40 = (.float .f64 x41) ∧
      K (.float .f64 x41) w39)))
   (K (.float .f64 x28) w26))
  (∃ b42, w20.cell? p1 = some (.bool b42) ∧
   ∃ n43, w20.cell? (p1.add 1) = some (.int .u64 n43) ∧
   ∃ n44, w20.cell? (p1.add 2) = some (.int .i64 n44) ∧
   CallsX P N.f_bits_Join #[.agg #[.bool b42, .int .u64 n43, .int .i64 n44]] w20 fun v46 w45 =>
   ∃ x47, ∃ b48, v46 = (.tuple #[.float .f64 x47, .bool b48]) ∧
   K (.float .f64 x47) w45))

/-- girder/girderref02.Rounded -/
def S_girderref02_Rounded (N : Nums) (P : Program) (q0_0 : Bool) (q0_1 : Option Addr) (q0_1l q0_1c : Nat) (q0_2 : Int) (q1 : Int) (w : World) (K : Value → World → Prop) : Prop :=
 newM #[.bool q0_0, .slice q0_1 q0_1l q0_1c, .int .i64 q0_2] N.t_girderref02_Num w fun p1 w2 =>
 ∃ b3, w2.cell? p1 = some (.bool b3) ∧
 ∃ s4a s4l s4c, w2.cell? (p1.add 1) = some (.slice s4a s4l s4c) ∧
 ∃ n5, w2.cell? (p1.add 2) = some (.int .i64 n5) ∧
 CallsX P N.f_girderref02_Num_Zero #[.agg #[.bool b3, .slice s4a s4l s4c, .int .i64 n5]] w2 fun v7 w6 =>
 ∃ b8, v7 = (.bool b8) ∧
 cond b8
 (K (.float .f64 0) w6)
 (∃ b9, w6.cell? p1 = some (.bool b9) ∧
  ∃ s10a s10l s10c, w6.cell? (p1.add 1) = some (.slice s10a s10l s10c) ∧
  ∃ n11, w6.cell? (p1.add 2) = some (.int .i64 n11) ∧
  CallsX P N.f_girderref02_Num_top #[.agg #[.bool b9, .slice s10a s10l s10c, .int .i64 n11]] w6 fun v13 w12 =>
  ∃ n14, v13 = (.int .i64 n14) ∧
  ∃ n15, w12.cell? (p1.add 2) = some (.int .i64 n15) ∧
  cutM (σ := (Option Addr × Nat × Nat) × Unit) (fun J16 =>
   cond (decide (n15 ≥ (if (-1074) > (IntKind.i64.wrap (n14 - 53)) then (-1074) else (IntKind.i64.wrap (n14 - 53)))))
   (∃ s19a s19l s19c, w12.cell? (p1.add 1) = some (.slice s19a s19l s19c) ∧
    ∃ n20, w12.cell? (p1.add 2) = some (.int .i64 n20) ∧
    CallsX P N.f_girderref02_NatUp #[.slice s19a s19l s19c, .int .i64 (IntKind.i64.wrap (n20 - (if (-1074) > (IntKind.i64.wrap (n14 - 53)) then (-1074) else (IntKind.i64.wrap (n14 - 53)))))] w12 fun v22 w21 =>
    ∃ s23a s23l s23c, v22 = (.slice s23a s23l s23c) ∧
    J16 ((s23a, s23l, s23c), ()) w21)
   (∃ n24, w12.cell? (p1.add 2) = some (.int .i64 n24) ∧
    ∃ s25a s25l s25c, w12.cell? (p1.add 1) = some (.slice s25a s25l s25c) ∧
    CallsX P N.f_girderref02_NatDown #[.slice s25a s25l s25c, .int .i64 (IntKind.i64.wrap ((if (-1074) > (IntKind.i64.wrap (n14 - 53)) then (-1074) else (IntKind.i64.wrap (n14 - 53))) - n24))] w12 fun v27 w26 =>
    ∃ s28a s28l s28c, ∃ b29, v27 = (.tuple #[.slice s28a s28l s28c, .bool b29]) ∧
    cutM (σ := (Option Addr × Nat × Nat) × Unit) (fun J30 =>
     cond b29
     (∃ s33a s33l s33c, w26.cell? (p1.add 1) = some (.slice s33a s33l s33c) ∧
      CallsX P N.f_girderref02_NatDown #[.slice s33a s33l s33c, .int .i64 (IntKind.i64.wrap ((IntKind.i64.wrap ((if (-1074) > (IntKind.i64.wrap (n14 - 53)) then (-1074) else (IntKind.i64.wrap (n14 - 53))) - n24)) - 1))] w26 fun v35 w34 =>
      ∃ s36a s36l s36c, ∃ b37, v35 = (.tuple #[.slice s36a s36l s36c, .bool b37]) ∧
      cutM (σ := Bool × Unit) (fun J38 =>
       cond (decide (((s36l : Nat) : Int) > 0))
       ((0 : Int) ≤ (0 : Int) ∧ (0 : Int) < (s36l : Nat) ∧
        optM s36a fun a41 =>
        ∃ n42, w34.cell? (a41.add ((0 : Int).toNat * 1)) = some (.int .u64 n42) ∧
        (2 : Int) ≠ 0 ∧
        J38 (((n42.tmod 2) == 1), ()) w34)
       (J38 (false, ()) w34))
      (fun s39 w40 =>
       cutM (σ := Int × Unit) (fun J43 =>
        cond s39.1
        (cutM (σ := Int × Unit) (fun J46 =>
          cond b37
          (J46 (1, ()) w40)
          (J46 (0, ()) w40))
         (fun s47 w48 =>
          J43 (s47.1, ()) w48))
        (J43 ((-1), ()) w40))
       (fun s44 w45 =>
        ∃ b49, w45.cell? p1 = some (.bool b49) ∧
        cond (decide (((s28l : Nat) : Int) > 0))
        ((0 : Int) ≤ (0 : Int) ∧ (0 : Int) < (s28l : Nat) ∧
         optM s28a fun a50 =>
         ∃ n51, w45.cell? (a50.add ((0 : Int).toNat * 1)) = some (.int .u64 n51) ∧
         (2 : Int) ≠ 0 ∧
         drM w45 fun w52 =>
         CallsX P N.f_girderref02_up #[.int .i8 q1, .bool b49, .int .i64 s44.1, .bool ((n51.tmod 2) == 1)] w52 fun v54 w53 =>
         ∃ b55, v54 = (.bool b55) ∧
         drM w53 fun w56 =>
         cutM (σ := (Option Addr × Nat × Nat) × Unit) (fun J57 =>
          cond b55
          (CallsX P N.f_girderref02_NatOf #[.int .u64 1] w56 fun v61 w60 =>
           ∃ s62a s62l s62c, v61 = (.slice s62a s62l s62c) ∧
           CallsX P N.f_girderref02_NatAdd #[.slice s28a s28l s28c, .slice s62a s62l s62c] w60 fun v64 w63 =>
           ∃ s65a s65l s65c, v64 = (.slice s65a s65l s65c) ∧
           J57 ((s65a, s65l, s65c), ()) w63)
          (J57 ((s28a, s28l, s28c), ()) w56))
         (fun s58 w59 =>
          J30 ((s58.1.1, s58.1.2.1, s58.1.2.2), ()) w59))
        (drM w45 fun w66 =>
         CallsX P N.f_girderref02_up #[.int .i8 q1, .bool b49, .int .i64 s44.1, .bool false] w66 fun v68 w67 =>
         ∃ b69, v68 = (.bool b69) ∧
         drM w67 fun w70 =>
         cutM (σ := (Option Addr × Nat × Nat) × Unit) (fun J71 =>
          cond b69
          (CallsX P N.f_girderref02_NatOf #[.int .u64 1] w70 fun v75 w74 =>
           ∃ s76a s76l s76c, v75 = (.slice s76a s76l s76c) ∧
           CallsX P N.f_girderref02_NatAdd #[.slice s28a s28l s28c, .slice s76a s76l s76c] w74 fun v78 w77 =>
           ∃ s79a s79l s79c, v78 = (.slice s79a s79l s79c) ∧
           J71 ((s79a, s79l, s79c), ()) w77)
          (J71 ((s28a, s28l, s28c), ()) w70))
         (fun s72 w73 =>
          J30 ((s72.1.1, s72.1.2.1, s72.1.2.2), ()) w73)))))
     (J30 ((s28a, s28l, s28c), ()) w26))
    (fun s31 w32 =>
     J16 ((s31.1.1, s31.1.2.1, s31.1.2.2), ()) w32)))
  (fun s17 w18 =>
   CallsX P N.f_girderref02_NatBits #[.slice s17.1.1 s17.1.2.1 s17.1.2.2] w18 fun v81 w80 =>
   ∃ n82, v81 = (.int .i64 n82) ∧
   cond (decide ((IntKind.i64.wrap (n82 + (if (-1074) > (IntKind.i64.wrap (n14 - 53)) then (-1074) else (IntKind.i64.wrap (n14 - 53))))) > 1024))
   (∃ b83, w80.cell? p1 = some (.bool b83) ∧
    CallsX P N.f_girderref02_huge #[.int .i8 q1, .bool b83] w80 fun v85 w84 =>
    ∃ x86, v85 = (.float .f64 x86) ∧
    K (.float .f64 x86) w84)
   (cutM (σ := Int × Unit) (fun J87 =>
     cond (decide (((s17.1.2.1 : Nat) : Int) > 0))
     ((0 : Int) ≤ (0 : Int) ∧ (0 : Int) < (s17.1.2.1 : Nat) ∧
      optM s17.1.1 fun a90 =>
      ∃ n91, w80.cell? (a90.add ((0 : Int).toNat * 1)) = some (.int .u64 n91) ∧
      J87 (n91, ()) w80)
     (J87 (0, ()) w80))
    (fun s88 w89 =>
     ∃ b92, w89.cell? p1 = some (.bool b92) ∧
     CallsX P N.f_girderref02_float #[.bool b92, .int .u64 s88.1, .int .i64 (if (-1074) > (IntKind.i64.wrap (n14 - 53)) then (-1074) else (IntKind.i64.wrap (n14 - 53)))] w89 fun v94 w93 =>
     ∃ x95, v94 = (.float .f64 x95) ∧
     K (.float .f64 x95) w93))))

/-- girder/girderref02.Dyad -/
def S_girderref02_Dyad (N : Nums) (P : Program) (q0_0 : Bool) (q0_1 : Option Addr) (q0_1l q0_1c : Nat) (q0_2 : Int) (w : World) (K : Value → World → Prop) : Prop :=
 newM #[.bool q0_0, .slice q0_1 q0_1l q0_1c, .int .i64 q0_2] N.t_Dyad w fun p1 w2 =>
 newM #[.bool false, .slice none 0 0, .int .i64 0] N.t_girderref02_Num w2 fun p3 w4 =>
 ∃ b5, w4.cell? p1 = some (.bool b5) ∧
 ∃ s6a s6l s6c, w4.cell? (p1.add 1) = some (.slice s6a s6l s6c) ∧
 ∃ n7, w4.cell? (p1.add 2) = some (.int .i64 n7) ∧
 drM w4 fun w8 =>
 CallsX P N.f_girderref02_NatTrim #[.slice s6a s6l s6c] w8 fun v10 w9 =>
 ∃ s11a s11l s11c, v10 = (.slice s11a s11l s11c) ∧
 w9.cell? (p1.add 2) = some (.int .i64 n7) ∧
 w9.cell? p1 = some (.bool b5) ∧
 drM w9 fun w12 =>
 stM p3 (.bool b5) w12 fun w13 =>
 stM (p3.add 1) (.slice s11a s11l s11c) w13 fun w14 =>
 stM (p3.add 2) (.int .i64 n7) w14 fun w15 =>
 drM w15 fun w16 =>
 ∃ b17, w16.cell? p3 = some (.bool b17) ∧
 ∃ s18a s18l s18c, w16.cell? (p3.add 1) = some (.slice s18a s18l s18c) ∧
 ∃ n19, w16.cell? (p3.add 2) = some (.int .i64 n19) ∧
 K (.agg #[.bool b17, .slice s18a s18l s18c, .int .i64 n19]) w16

/-- girder/girderkit.KeptLimbs -/
def S_girderkit_KeptLimbs (N : Nums) (P : Program) (q0 : Option Addr) (q0l q0c : Nat) (q1 : Option Addr) (q1l q1c : Nat) (w : World) (K : Value → World → Prop) : Prop :=
 cond (((q0l : Nat) : Int) != ((q1l : Nat) : Int))
 (K (.bool false) w)
 ((0 : Int) ≤ (IntKind.i64.wrap (((q1l : Nat) : Int) + 12)) ∧ (IntKind.i64.wrap (((q1l : Nat) : Int) + 12)) ≤ (q0c : Nat) ∧
  cutM (σ := Unit) (fun J1 =>
   loopM (σ := Int × Unit) (fun s4 X5 w6 =>
    cond (decide (s4.1 < (((IntKind.i64.wrap (((q1l : Nat) : Int) + 12)).toNat : Nat) : Int)))
    (cond (decide (s4.1 < ((q1l : Nat) : Int)))
     ((0 : Int) ≤ s4.1 ∧ s4.1 < ((IntKind.i64.wrap (((q1l : Nat) : Int) + 12)).toNat : Nat) ∧
      optM (slBase q0 0 q0c 1) fun a7 =>
      ∃ n8, w6.cell? (a7.add (s4.1.toNat * 1)) = some (.int .u64 n8) ∧
      (0 : Int) ≤ s4.1 ∧ s4.1 < (q1l : Nat) ∧
      optM q1 fun a9 =>
      ∃ n10, w6.cell? (a9.add (s4.1.toNat * 1)) = some (.int .u64 n10) ∧
      cond (!(!(n8 == n10)))
      (cond (decide (s4.1 ≥ ((q1l : Nat) : Int)))
       ((0 : Int) ≤ s4.1 ∧ s4.1 < ((IntKind.i64.wrap (((q1l : Nat) : Int) + 12)).toNat : Nat) ∧
        optM (slBase q0 0 q0c 1) fun a11 =>
        ∃ n12, w6.cell? (a11.add (s4.1.toNat * 1)) = some (.int .u64 n12) ∧
        drM w6 fun w13 =>
        CallsX P N.f_girderkit_mark #[.int .i64 1, .int .i64 (IntKind.i64.wrap (s4.1 - ((q1l : Nat) : Int)))] w13 fun v15 w14 =>
        ∃ n16, v15 = (.int .i64 n16) ∧
        w14.cell? (a11.add (s4.1.toNat * 1)) = some (.int .u64 n12) ∧
        w14.cell? (a9.add (s4.1.toNat * 1)) = some (.int .u64 n10) ∧
        w14.cell? (a7.add (s4.1.toNat * 1)) = some (.int .u64 n8) ∧
        drM w14 fun w17 =>
        cond (!(n12 == (IntKind.u64.wrap n16)))
        (K (.bool false) w17)
        (X5 ((IntKind.i64.wrap (s4.1 + 1)), ()) w17))
       (drM w6 fun w18 =>
        w18.cell? (a9.add (s4.1.toNat * 1)) = some (.int .u64 n10) ∧
        w18.cell? (a7.add (s4.1.toNat * 1)) = some (.int .u64 n8) ∧
        drM w18 fun w19 =>
        X5 ((IntKind.i64.wrap (s4.1 + 1)), ()) w19))
      (drM w6 fun w20 =>
       w20.cell? (a9.add (s4.1.toNat * 1)) = some (.int .u64 n10) ∧
       w20.cell? (a7.add (s4.1.toNat * 1)) = some (.int .u64 n8) ∧
       drM w20 fun w21 =>
       K (.bool false) w21))
     (cond (decide (s4.1 ≥ ((q1l : Nat) : Int)))
      ((0 : Int) ≤ s4.1 ∧ s4.1 < ((IntKind.i64.wrap (((q1l : Nat) : Int) + 12)).toNat : Nat) ∧
       optM (slBase q0 0 q0c 1) fun a22 =>
       ∃ n23, w6.cell? (a22.add (s4.1.toNat * 1)) = some (.int .u64 n23) ∧
       drM w6 fun w24 =>
       CallsX P N.f_girderkit_mark #[.int .i64 1, .int .i64 (IntKind.i64.wrap (s4.1 - ((q1l : Nat) : Int)))] w24 fun v26 w25 =>
       ∃ n27, v26 = (.int .i64 n27) ∧
       w25.cell? (a22.add (s4.1.toNat * 1)) = some (.int .u64 n23) ∧
       drM w25 fun w28 =>
       cond (!(n23 == (IntKind.u64.wrap n27)))
       (K (.bool false) w28)
       (X5 ((IntKind.i64.wrap (s4.1 + 1)), ()) w28))
      (drM w6 fun w29 =>
       drM w29 fun w30 =>
       X5 ((IntKind.i64.wrap (s4.1 + 1)), ()) w30)))
    (J1 (()) w6))
   (0, ()) w)
  (fun s2 w3 =>
   K (.bool true) w3))

/-- girder/dyad.made -/
def S_dyad_made (N : Nums) (P : Program) (q0 : Option Addr) (q1 : Int) (w : World) (K : Value → World → Prop) : Prop :=
 newM #[.bool false, .slice none 0 0, .int .i64 0] N.t_Dyad w fun p1 w2 =>
 CallsX P N.f_p_bignum_Int_Sign #[.pointer q0] w2 fun v4 w3 =>
 ∃ n5, v4 = (.int .i64 n5) ∧
 cond (n5 == 0)
 (stM p1 (.bool false) w3 fun w6 =>
  stM (p1.add 1) (.slice none 0 0) w6 fun w7 =>
  stM (p1.add 2) (.int .i64 0) w7 fun w8 =>
  ∃ b9, w8.cell? p1 = some (.bool b9) ∧
  ∃ s10a s10l s10c, w8.cell? (p1.add 1) = some (.slice s10a s10l s10c) ∧
  ∃ n11, w8.cell? (p1.add 2) = some (.int .i64 n11) ∧
  K (.tuple #[.agg #[.bool b9, .slice s10a s10l s10c, .int .i64 n11], .int .i64 0]) w8)
 (CallsX P N.f_p_bignum_Int_TrailingZeroBits #[.pointer q0] w3 fun v13 w12 =>
  ∃ n14, v13 = (.int .u64 n14) ∧
  cond (decide (q1 > 65536))
  (stM p1 (.bool false) w12 fun w15 =>
   stM (p1.add 1) (.slice none 0 0) w15 fun w16 =>
   stM (p1.add 2) (.int .i64 0) w16 fun w17 =>
   ∃ b18, w17.cell? p1 = some (.bool b18) ∧
   ∃ s19a s19l s19c, w17.cell? (p1.add 1) = some (.slice s19a s19l s19c) ∧
   ∃ n20, w17.cell? (p1.add 2) = some (.int .i64 n20) ∧
   K (.tuple #[.agg #[.bool b18, .slice s19a s19l s19c, .int .i64 n20], .int .i64 3]) w17)
  (cond (decide (q1 < (IntKind.i64.wrap ((-65536) - (IntKind.i64.wrap n14)))))
   (stM p1 (.bool false) w12 fun w21 =>
    stM (p1.add 1) (.slice none 0 0) w21 fun w22 =>
    stM (p1.add 2) (.int .i64 0) w22 fun w23 =>
    ∃ b24, w23.cell? p1 = some (.bool b24) ∧
    ∃ s25a s25l s25c, w23.cell? (p1.add 1) = some (.slice s25a s25l s25c) ∧
    ∃ n26, w23.cell? (p1.add 2) = some (.int .i64 n26) ∧
    K (.tuple #[.agg #[.bool b24, .slice s25a s25l s25c, .int .i64 n26], .int .i64 3]) w23)
   (cond (decide ((IntKind.i64.wrap (q1 + (IntKind.i64.wrap n14))) > 65536))
    (stM p1 (.bool false) w12 fun w27 =>
     stM (p1.add 1) (.slice none 0 0) w27 fun w28 =>
     stM (p1.add 2) (.int .i64 0) w28 fun w29 =>
     ∃ b30, w29.cell? p1 = some (.bool b30) ∧
     ∃ s31a s31l s31c, w29.cell? (p1.add 1) = some (.slice s31a s31l s31c) ∧
     ∃ n32, w29.cell? (p1.add 2) = some (.int .i64 n32) ∧
     K (.tuple #[.agg #[.bool b30, .slice s31a s31l s31c, .int .i64 n32], .int .i64 3]) w29)
    (CallsX P N.f_p_bignum_Int_BitLen #[.pointer q0] w12 fun v34 w33 =>
     ∃ n35, v34 = (.int .i64 n35) ∧
     cond (decide ((IntKind.i64.wrap (n35 - (IntKind.i64.wrap n14))) > 16384))
     (stM p1 (.bool false) w33 fun w36 =>
      stM (p1.add 1) (.slice none 0 0) w36 fun w37 =>
      stM (p1.add 2) (.int .i64 0) w37 fun w38 =>
      ∃ b39, w38.cell? p1 = some (.bool b39) ∧
      ∃ s40a s40l s40c, w38.cell? (p1.add 1) = some (.slice s40a s40l s40c) ∧
      ∃ n41, w38.cell? (p1.add 2) = some (.int .i64 n41) ∧
      K (.tuple #[.agg #[.bool b39, .slice s40a s40l s40c, .int .i64 n41], .int .i64 3]) w38)
     (CallsX P N.f_p_bignum_Int_Sign #[.pointer q0] w33 fun v43 w42 =>
      ∃ n44, v43 = (.int .i64 n44) ∧
      newM #[.bool false, .slice none 0 0] N.t_bignum_Int w42 fun p45 w46 =>
      newM #[.bool false, .slice none 0 0] N.t_bignum_Int w46 fun p47 w48 =>
      CallsX P N.f_p_bignum_Int_Abs #[.pointer (some p47), .pointer q0] w48 fun v50 w49 =>
      ∃ p51 : (Option Addr), v50 = (.pointer p51) ∧
      CallsX P N.f_p_bignum_Int_Rsh #[.pointer (some p45), .pointer p51, .int .u64 (IntKind.u64.wrap (IntKind.i64.wrap n14))] w49 fun v53 w52 =>
      ∃ p54 : (Option Addr), v53 = (.pointer p54) ∧
      CallsX P N.f_dyad_limbs #[.pointer p54] w52 fun v56 w55 =>
      ∃ s57a s57l s57c, v56 = (.slice s57a s57l s57c) ∧
      stM p1 (.bool (decide (n44 < 0))) w55 fun w58 =>
      stM (p1.add 1) (.slice s57a s57l s57c) w58 fun w59 =>
      stM (p1.add 2) (.int .i64 (IntKind.i64.wrap (q1 + (IntKind.i64.wrap n14)))) w59 fun w60 =>
      ∃ b61, w60.cell? p1 = some (.bool b61) ∧
      ∃ s62a s62l s62c, w60.cell? (p1.add 1) = some (.slice s62a s62l s62c) ∧
      ∃ n63, w60.cell? (p1.add 2) = some (.int .i64 n63) ∧
      K (.tuple #[.agg #[.bool b61, .slice s62a s62l s62c, .int .i64 n63], .int .i64 0]) w60)))))

/-- girder/girderkit.OverLimbs -/
def S_girderkit_OverLimbs (N : Nums) (P : Program) (q0 : Option Addr) (q0l q0c : Nat) (w : World) (K : Value → World → Prop) : Prop :=
 (0 : Int) ≤ (IntKind.i64.wrap (((q0l : Nat) : Int) + 12)) ∧ (IntKind.i64.wrap (((q0l : Nat) : Int) + 12)) ≤ (q0c : Nat) ∧
 cutM (σ := Unit) (fun J1 =>
  loopM (σ := Int × Unit) (fun s4 X5 w6 =>
   cond (decide (s4.1 < (((IntKind.i64.wrap (((q0l : Nat) : Int) + 12)).toNat : Nat) : Int)))
   (CallsX P N.f_girderkit_mark #[.int .i64 2, .int .i64 s4.1] w6 fun v8 w7 =>
    ∃ n9, v8 = (.int .i64 n9) ∧
    (0 : Int) ≤ s4.1 ∧ s4.1 < ((IntKind.i64.wrap (((q0l : Nat) : Int) + 12)).toNat : Nat) ∧
    optM (slBase q0 0 q0c 1) fun a10 =>
    stM (a10.add (s4.1.toNat * 1)) (.int .u64 (IntKind.u64.wrap n9)) w7 fun w11 =>
    X5 ((IntKind.i64.wrap (s4.1 + 1)), ()) w11)
   (J1 (()) w6))
  (0, ()) w)
 (fun s2 w3 =>
  K (.tuple #[]) w3)

/-- girder/girderref02.NatTrim -/
def S_girderref02_NatTrim (N : Nums) (P : Program) (q0 : Option Addr) (q0l q0c : Nat) (w : World) (K : Value → World → Prop) : Prop :=
 cutM (σ := Int × Unit) (fun J1 =>
  loopM (σ := Int × Unit) (fun s4 X5 w6 =>
   cond (decide (s4.1 > 0))
   ((0 : Int) ≤ (IntKind.i64.wrap (s4.1 - 1)) ∧ (IntKind.i64.wrap (s4.1 - 1)) < (q0l : Nat) ∧
    optM q0 fun a7 =>
    ∃ n8, w6.cell? (a7.add ((IntKind.i64.wrap (s4.1 - 1)).toNat * 1)) = some (.int .u64 n8) ∧
    cond (n8 == 0)
    (X5 ((IntKind.i64.wrap (s4.1 - 1)), ()) w6)
    (J1 (s4.1, ()) w6))
   (J1 (s4.1, ()) w6))
  (((q0l : Nat) : Int), ()) w)
 (fun s2 w3 =>
  (0 : Int) ≤ s2.1 ∧ s2.1 ≤ (q0c : Nat) ∧
  appM N.t_uint64 1 8 #[.int .u64 0] none 0 0 (slBase q0 0 q0c 1) s2.1.toNat w3 fun s9a s9l s9c w10 =>
  K (.slice s9a s9l s9c) w10)

/-- girder/girderref02.NatDown -/
def S_girderref02_NatDown (N : Nums) (P : Program) (q0 : Option Addr) (q0l q0c : Nat) (q1 : Int) (w : World) (K : Value → World → Prop) : Prop :=
 CallsX P N.f_girderref02_halves #[.slice q0 q0l q0c] w fun v2 w1 =>
 ∃ s3a s3l s3c, v2 = (.slice s3a s3l s3c) ∧
 cutM (σ := Bool × Unit) (fun J4 =>
  loopM (σ := Bool × Int × Unit) (fun s7 X8 w9 =>
   (32 : Int) ≠ 0 ∧
   cond (decide (s7.2.1 < (IntKind.i64.wrap (q1.tdiv 32))))
   (cond (decide (s7.2.1 < ((s3l : Nat) : Int)))
    (cond (!s7.1)
     ((0 : Int) ≤ s7.2.1 ∧ s7.2.1 < (s3l : Nat) ∧
      optM s3a fun a10 =>
      ∃ n11, w9.cell? (a10.add (s7.2.1.toNat * 1)) = some (.int .u64 n11) ∧
      X8 ((n11 != 0), (IntKind.i64.wrap (s7.2.1 + 1)), ()) w9)
     (X8 (true, (IntKind.i64.wrap (s7.2.1 + 1)), ()) w9))
    (J4 (s7.1, ()) w9))
   (J4 (s7.1, ()) w9))
  (false, 0, ()) w1)
 (fun s5 w6 =>
  (32 : Int) ≠ 0 ∧
  cond (decide ((IntKind.i64.wrap (q1.tdiv 32)) ≥ ((s3l : Nat) : Int)))
  (K (.tuple #[.slice none 0 0, .bool s5.1]) w6)
  (cutM (σ := Int × Unit) (fun J12 =>
    loopM (σ := Int × Int × Unit) (fun s15 X16 w17 =>
     (32 : Int) ≠ 0 ∧
     cond (decide (s15.2.1 < (q1.tmod 32)))
     (X16 ((IntKind.u64.wrap (2 * s15.1)), (IntKind.i64.wrap (s15.2.1 + 1)), ()) w17)
     (J12 (s15.1, ()) w17))
    (1, 0, ()) w6)
   (fun s13 w14 =>
    (32 : Int) ≠ 0 ∧
    (0 : Int) ≤ (IntKind.i64.wrap (q1.tdiv 32)) ∧ (IntKind.i64.wrap (q1.tdiv 32)) ≤ (s3l : Nat) ∧
    CallsX P N.f_girderref02_short #[.slice (slBase s3a ((IntKind.i64.wrap (q1.tdiv 32)).toNat) s3c 1) (s3l - (IntKind.i64.wrap (q1.tdiv 32)).toNat) (s3c - (IntKind.i64.wrap (q1.tdiv 32)).toNat), .int .u64 s13.1] w14 fun v19 w18 =>
    ∃ s20a s20l s20c, ∃ n21, v19 = (.tuple #[.slice s20a s20l s20c, .int .u64 n21]) ∧
    CallsX P N.f_girderref02_limbs #[.slice s20a s20l s20c] w18 fun v23 w22 =>
    ∃ s24a s24l s24c, v23 = (.slice s24a s24l s24c) ∧
    cond (!s5.1)
    (K (.tuple #[.slice s24a s24l s24c, .bool (n21 != 0)]) w22)
    (K (.tuple #[.slice s24a s24l s24c, .bool true]) w22))))

/-- girder/girderref02.Of -/
def S_girderref02_Of (N : Nums) (P : Program) (q0 : Nat) (w : World) (K : Value → World → Prop) : Prop :=
 newM #[.bool false, .slice none 0 0, .int .i64 0] N.t_Dyad w fun p1 w2 =>
 CallsX P N.f_girderref01_Split #[.float .f64 q0] w2 fun v4 w3 =>
 ∃ b5, ∃ n6, ∃ n7, ∃ b8, v4 = (.tuple #[.agg #[.bool b5, .int .u64 n6, .int .i64 n7], .bool b8]) ∧
 newM #[.bool false, .int .u64 0, .int .i64 0] N.t_Parts w3 fun p9 w10 =>
 stM p9 (.bool b5) w10 fun w11 =>
 stM (p9.add 1) (.int .u64 n6) w11 fun w12 =>
 stM (p9.add 2) (.int .i64 n7) w12 fun w13 =>
 cond (!b8)
 (stM p1 (.bool false) w13 fun w14 =>
  stM (p1.add 1) (.slice none 0 0) w14 fun w15 =>
  stM (p1.add 2) (.int .i64 0) w15 fun w16 =>
  ∃ b17, w16.cell? p1 = some (.bool b17) ∧
  ∃ s18a s18l s18c, w16.cell? (p1.add 1) = some (.slice s18a s18l s18c) ∧
  ∃ n19, w16.cell? (p1.add 2) = some (.int .i64 n19) ∧
  K (.tuple #[.agg #[.bool b17, .slice s18a s18l s18c, .int .i64 n19], .int .i64 5]) w16)
 (∃ b20, w13.cell? p9 = some (.bool b20) ∧
  ∃ n21, w13.cell? (p9.add 1) = some (.int .u64 n21) ∧
  newM #[.int .u64 n21] N.t_uint64 w13 fun p22 w23 =>
  ∃ n24, w23.cell? (p9.add 2) = some (.int .i64 n24) ∧
  CallsX P N.f_girderref02_Norm #[.agg #[.bool b20, .slice (some p22) 1 1, .int .i64 n24]] w23 fun v26 w25 =>
  ∃ b27, ∃ s28a s28l s28c, ∃ n29, ∃ n30, v26 = (.tuple #[.agg #[.bool b27, .slice s28a s28l s28c, .int .i64 n29], .int .i64 n30]) ∧
  stM p1 (.bool b27) w25 fun w31 =>
  stM (p1.add 1) (.slice s28a s28l s28c) w31 fun w32 =>
  stM (p1.add 2) (.int .i64 n29) w32 fun w33 =>
  ∃ b34, w33.cell? p1 = some (.bool b34) ∧
  ∃ s35a s35l s35c, w33.cell? (p1.add 1) = some (.slice s35a s35l s35c) ∧
  ∃ n36, w33.cell? (p1.add 2) = some (.int .i64 n36) ∧
  K (.tuple #[.agg #[.bool b34, .slice s35a s35l s35c, .int .i64 n36], .int .i64 n30]) w33)

/-- girder/girderref02.Compare -/
def S_girderref02_Compare (N : Nums) (P : Program) (q0_0 : Bool) (q0_1 : Option Addr) (q0_1l q0_1c : Nat) (q0_2 : Int) (q1_0 : Bool) (q1_1 : Option Addr) (q1_1l q1_1c : Nat) (q1_2 : Int) (w : World) (K : Value → World → Prop) : Prop :=
 newM #[.bool q0_0, .slice q0_1 q0_1l q0_1c, .int .i64 q0_2] N.t_girderref02_Num w fun p1 w2 =>
 newM #[.bool q1_0, .slice q1_1 q1_1l q1_1c, .int .i64 q1_2] N.t_girderref02_Num w2 fun p3 w4 =>
 ∃ b5, w4.cell? p1 = some (.bool b5) ∧
 ∃ s6a s6l s6c, w4.cell? (p1.add 1) = some (.slice s6a s6l s6c) ∧
 ∃ n7, w4.cell? (p1.add 2) = some (.int .i64 n7) ∧
 ∃ b8, w4.cell? p3 = some (.bool b8) ∧
 ∃ s9a s9l s9c, w4.cell? (p3.add 1) = some (.slice s9a s9l s9c) ∧
 ∃ n10, w4.cell? (p3.add 2) = some (.int .i64 n10) ∧
 drM w4 fun w11 =>
 CallsX P N.f_girderref02_Num_Sign #[.agg #[.bool b5, .slice s6a s6l s6c, .int .i64 n7]] w11 fun v13 w12 =>
 ∃ n14, v13 = (.int .i64 n14) ∧
 w12.cell? p3 = some (.bool b8) ∧
 w12.cell? (p3.add 1) = some (.slice s9a s9l s9c) ∧
 w12.cell? (p3.add 2) = some (.int .i64 n10) ∧
 drM w12 fun w15 =>
 CallsX P N.f_girderref02_Num_Sign #[.agg #[.bool b8, .slice s9a s9l s9c, .int .i64 n10]] w15 fun v17 w16 =>
 ∃ n18, v17 = (.int .i64 n18) ∧
 drM w16 fun w19 =>
 cutM (σ := Bool × Unit) (fun J20 =>
  cond (!(n14 != n18))
  (J20 ((n14 == 0), ()) w19)
  (J20 (true, ()) w19))
 (fun s21 w22 =>
  cond s21.1
  (cond (decide (n14 < n18))
   (K (.int .i64 (-1)) w22)
   (cond (decide (n14 > n18))
    (K (.int .i64 1) w22)
    (K (.int .i64 0) w22)))
  (∃ b23, w22.cell? p1 = some (.bool b23) ∧
   ∃ s24a s24l s24c, w22.cell? (p1.add 1) = some (.slice s24a s24l s24c) ∧
   ∃ n25, w22.cell? (p1.add 2) = some (.int .i64 n25) ∧
   ∃ b26, w22.cell? p3 = some (.bool b26) ∧
   ∃ s27a s27l s27c, w22.cell? (p3.add 1) = some (.slice s27a s27l s27c) ∧
   ∃ n28, w22.cell? (p3.add 2) = some (.int .i64 n28) ∧
   drM w22 fun w29 =>
   CallsX P N.f_girderref02_Num_top #[.agg #[.bool b23, .slice s24a s24l s24c, .int .i64 n25]] w29 fun v31 w30 =>
   ∃ n32, v31 = (.int .i64 n32) ∧
   w30.cell? p3 = some (.bool b26) ∧
   w30.cell? (p3.add 1) = some (.slice s27a s27l s27c) ∧
   w30.cell? (p3.add 2) = some (.int .i64 n28) ∧
   drM w30 fun w33 =>
   CallsX P N.f_girderref02_Num_top #[.agg #[.bool b26, .slice s27a s27l s27c, .int .i64 n28]] w33 fun v35 w34 =>
   ∃ n36, v35 = (.int .i64 n36) ∧
   drM w34 fun w37 =>
   cond (n32 != n36)
   (∃ b38, w37.cell? p1 = some (.bool b38) ∧
    ∃ s39a s39l s39c, w37.cell? (p1.add 1) = some (.slice s39a s39l s39c) ∧
    ∃ n40, w37.cell? (p1.add 2) = some (.int .i64 n40) ∧
    ∃ b41, w37.cell? p3 = some (.bool b41) ∧
    ∃ s42a s42l s42c, w37.cell? (p3.add 1) = some (.slice s42a s42l s42c) ∧
    ∃ n43, w37.cell? (p3.add 2) = some (.int .i64 n43) ∧
    drM w37 fun w44 =>
    CallsX P N.f_girderref02_Num_top #[.agg #[.bool b38, .slice s39a s39l s39c, .int .i64 n40]] w44 fun v46 w45 =>
    ∃ n47, v46 = (.int .i64 n47) ∧
    w45.cell? p3 = some (.bool b41) ∧
    w45.cell? (p3.add 1) = some (.slice s42a s42l s42c) ∧
    w45.cell? (p3.add 2) = some (.int .i64 n43) ∧
    drM w45 fun w48 =>
    CallsX P N.f_girderref02_Num_top #[.agg #[.bool b41, .slice s42a s42l s42c, .int .i64 n43]] w48 fun v50 w49 =>
    ∃ n51, v50 = (.int .i64 n51) ∧
    drM w49 fun w52 =>
    cond (decide (n47 < n51))
    (K (.int .i64 (IntKind.i64.wrap (0 - n14))) w52)
    (K (.int .i64 n14) w52))
   (∃ b53, w37.cell? p1 = some (.bool b53) ∧
    ∃ s54a s54l s54c, w37.cell? (p1.add 1) = some (.slice s54a s54l s54c) ∧
    ∃ n55, w37.cell? (p1.add 2) = some (.int .i64 n55) ∧
    ∃ b56, w37.cell? p3 = some (.bool b56) ∧
    ∃ s57a s57l s57c, w37.cell? (p3.add 1) = some (.slice s57a s57l s57c) ∧
    ∃ n58, w37.cell? (p3.add 2) = some (.int .i64 n58) ∧
    drM w37 fun w59 =>
    CallsX P N.f_girderref02_Minus #[.agg #[.bool b56, .slice s57a s57l s57c, .int .i64 n58]] w59 fun v61 w60 =>
    ∃ b62, ∃ s63a s63l s63c, ∃ n64, v61 = (.agg #[.bool b62, .slice s63a s63l s63c, .int .i64 n64]) ∧
    w60.cell? p1 = some (.bool b53) ∧
    w60.cell? (p1.add 1) = some (.slice s54a s54l s54c) ∧
    w60.cell? (p1.add 2) = some (.int .i64 n55) ∧
    drM w60 fun w65 =>
    CallsX P N.f_girderref02_Plus #[.agg #[.bool b53, .slice s54a s54l s54c, .int .i64 n55], .agg #[.bool b62, .slice s63a s63l s63c, .int .i64 n64]] w65 fun v67 w66 =>
    ∃ b68, ∃ s69a s69l s69c, ∃ n70, v67 = (.agg #[.bool b68, .slice s69a s69l s69c, .int .i64 n70]) ∧
    drM w66 fun w71 =>
    CallsX P N.f_girderref02_Num_Sign #[.agg #[.bool b68, .slice s69a s69l s69c, .int .i64 n70]] w71 fun v73 w72 =>
    ∃ n74, v73 = (.int .i64 n74) ∧
    drM w72 fun w75 =>
    K (.int .i64 n74) w75)))

/-- girder/girderkit.SameLimbs -/
def S_girderkit_SameLimbs (N : Nums) (P : Program) (q0 : Option Addr) (q0l q0c : Nat) (q1 : Option Addr) (q1l q1c : Nat) (w : World) (K : Value → World → Prop) : Prop :=
 cond (((q0l : Nat) : Int) != ((q1l : Nat) : Int))
 (K (.bool false) w)
 (cutM (σ := Unit) (fun J1 =>
   loopM (σ := Int × Unit) (fun s4 X5 w6 =>
    cond (decide (s4.1 < ((q0l : Nat) : Int)))
    ((0 : Int) ≤ s4.1 ∧ s4.1 < (q0l : Nat) ∧
     optM q0 fun a7 =>
     ∃ n8, w6.cell? (a7.add (s4.1.toNat * 1)) = some (.int .u64 n8) ∧
     (0 : Int) ≤ s4.1 ∧ s4.1 < (q1l : Nat) ∧
     optM q1 fun a9 =>
     ∃ n10, w6.cell? (a9.add (s4.1.toNat * 1)) = some (.int .u64 n10) ∧
     drM w6 fun w11 =>
     cond (n8 != n10)
     (K (.bool false) w11)
     (X5 ((IntKind.i64.wrap (s4.1 + 1)), ()) w11))
    (J1 (()) w6))
   (0, ()) w)
  (fun s2 w3 =>
   K (.bool true) w3))

/-- girder/dyad.both -/
def S_dyad_both (N : Nums) (P : Program) (q0_0 : Bool) (q0_1 : Option Addr) (q0_1l q0_1c : Nat) (q0_2 : Int) (q1_0 : Bool) (q1_1 : Option Addr) (q1_1l q1_1c : Nat) (q1_2 : Int) (w : World) (K : Value → World → Prop) : Prop :=
 newM #[.bool q0_0, .slice q0_1 q0_1l q0_1c, .int .i64 q0_2] N.t_Dyad w fun p1 w2 =>
 newM #[.bool q1_0, .slice q1_1 q1_1l q1_1c, .int .i64 q1_2] N.t_Dyad w2 fun p3 w4 =>
 ∃ b5, w4.cell? p1 = some (.bool b5) ∧
 ∃ s6a s6l s6c, w4.cell? (p1.add 1) = some (.slice s6a s6l s6c) ∧
 ∃ n7, w4.cell? (p1.add 2) = some (.int .i64 n7) ∧
 CallsX P N.f_dyad_Right #[.agg #[.bool b5, .slice s6a s6l s6c, .int .i64 n7]] w4 fun v9 w8 =>
 ∃ b10, v9 = (.bool b10) ∧
 cond b10
 (∃ b11, w8.cell? p3 = some (.bool b11) ∧
  ∃ s12a s12l s12c, w8.cell? (p3.add 1) = some (.slice s12a s12l s12c) ∧
  ∃ n13, w8.cell? (p3.add 2) = some (.int .i64 n13) ∧
  CallsX P N.f_dyad_Right #[.agg #[.bool b11, .slice s12a s12l s12c, .int .i64 n13]] w8 fun v15 w14 =>
  ∃ b16, v15 = (.bool b16) ∧
  K (.bool b16) w14)
 (K (.bool false) w8)

/-- (*girder/bignum.Int).Add -/
def S_p_bignum_Int_Add (N : Nums) (P : Program) (q0 : Option Addr) (q1 : Option Addr) (q2 : Option Addr) (w : World) (K : Value → World → Prop) : Prop :=
 optM q1 fun a1 =>
 ∃ b2, w.cell? a1 = some (.bool b2) ∧
 optM q1 fun a3 =>
 ∃ s4a s4l s4c, w.cell? (a3.add 1) = some (.slice s4a s4l s4c) ∧
 optM q2 fun a5 =>
 ∃ b6, w.cell? a5 = some (.bool b6) ∧
 optM q2 fun a7 =>
 ∃ s8a s8l s8c, w.cell? (a7.add 1) = some (.slice s8a s8l s8c) ∧
 drM w fun w9 =>
 CallsX P N.f_bignum_sum #[.bool b2, .slice s4a s4l s4c, .bool b6, .slice s8a s8l s8c] w9 fun v11 w10 =>
 ∃ b12, ∃ s13a s13l s13c, v11 = (.tuple #[.bool b12, .slice s13a s13l s13c]) ∧
 drM w10 fun w14 =>
 CallsX P N.f_p_bignum_Int_give #[.pointer q0, .bool b12, .slice s13a s13l s13c] w14 fun v16 w15 =>
 ∃ p17 : (Option Addr), v16 = (.pointer p17) ∧
 drM w15 fun w18 =>
 K (.pointer p17) w18

/-- (*girder/bignum.Int).Mul -/
def S_p_bignum_Int_Mul (N : Nums) (P : Program) (q0 : Option Addr) (q1 : Option Addr) (q2 : Option Addr) (w : World) (K : Value → World → Prop) : Prop :=
 optM q1 fun a1 =>
 ∃ b2, w.cell? a1 = some (.bool b2) ∧
 optM q2 fun a3 =>
 ∃ b4, w.cell? a3 = some (.bool b4) ∧
 optM q1 fun a5 =>
 ∃ s6a s6l s6c, w.cell? (a5.add 1) = some (.slice s6a s6l s6c) ∧
 optM q2 fun a7 =>
 ∃ s8a s8l s8c, w.cell? (a7.add 1) = some (.slice s8a s8l s8c) ∧
 drM w fun w9 =>
 CallsX P N.f_bignum_mul #[.slice s6a s6l s6c, .slice s8a s8l s8c] w9 fun v11 w10 =>
 ∃ s12a s12l s12c, v11 = (.slice s12a s12l s12c) ∧
 w10.cell? a3 = some (.bool b4) ∧
 w10.cell? a1 = some (.bool b2) ∧
 drM w10 fun w13 =>
 CallsX P N.f_p_bignum_Int_give #[.pointer q0, .bool (!(b2 == b4)), .slice s12a s12l s12c] w13 fun v15 w14 =>
 ∃ p16 : (Option Addr), v15 = (.pointer p16) ∧
 drM w14 fun w17 =>
 K (.pointer p16) w17

/-- girder/girderref02.Plus -/
def S_girderref02_Plus (N : Nums) (P : Program) (q0_0 : Bool) (q0_1 : Option Addr) (q0_1l q0_1c : Nat) (q0_2 : Int) (q1_0 : Bool) (q1_1 : Option Addr) (q1_1l q1_1c : Nat) (q1_2 : Int) (w : World) (K : Value → World → Prop) : Prop :=
 newM #[.bool q0_0, .slice q0_1 q0_1l q0_1c, .int .i64 q0_2] N.t_girderref02_Num w fun p1 w2 =>
 newM #[.bool q1_0, .slice q1_1 q1_1l q1_1c, .int .i64 q1_2] N.t_girderref02_Num w2 fun p3 w4 =>
 newM #[.bool false, .slice none 0 0, .int .i64 0] N.t_girderref02_Num w4 fun p5 w6 =>
 ∃ b7, w6.cell? p1 = some (.bool b7) ∧
 ∃ s8a s8l s8c, w6.cell? (p1.add 1) = some (.slice s8a s8l s8c) ∧
 ∃ n9, w6.cell? (p1.add 2) = some (.int .i64 n9) ∧
 CallsX P N.f_girderref02_Num_Zero #[.agg #[.bool b7, .slice s8a s8l s8c, .int .i64 n9]] w6 fun v11 w10 =>
 ∃ b12, v11 = (.bool b12) ∧
 cond b12
 (∃ b13, w10.cell? p3 = some (.bool b13) ∧
  ∃ s14a s14l s14c, w10.cell? (p3.add 1) = some (.slice s14a s14l s14c) ∧
  ∃ n15, w10.cell? (p3.add 2) = some (.int .i64 n15) ∧
  stM p5 (.bool b13) w10 fun w16 =>
  stM (p5.add 1) (.slice s14a s14l s14c) w16 fun w17 =>
  stM (p5.add 2) (.int .i64 n15) w17 fun w18 =>
  ∃ b19, w18.cell? p5 = some (.bool b19) ∧
  ∃ s20a s20l s20c, w18.cell? (p5.add 1) = some (.slice s20a s20l s20c) ∧
  ∃ n21, w18.cell? (p5.add 2) = some (.int .i64 n21) ∧
  K (.agg #[.bool b19, .slice s20a s20l s20c, .int .i64 n21]) w18)
 (∃ b22, w10.cell? p3 = some (.bool b22) ∧
  ∃ s23a s23l s23c, w10.cell? (p3.add 1) = some (.slice s23a s23l s23c) ∧
  ∃ n24, w10.cell? (p3.add 2) = some (.int .i64 n24) ∧
  CallsX P N.f_girderref02_Num_Zero #[.agg #[.bool b22, .slice s23a s23l s23c, .int .i64 n24]] w10 fun v26 w25 =>
  ∃ b27, v26 = (.bool b27) ∧
  cond b27
  (∃ b28, w25.cell? p1 = some (.bool b28) ∧
   ∃ s29a s29l s29c, w25.cell? (p1.add 1) = some (.slice s29a s29l s29c) ∧
   ∃ n30, w25.cell? (p1.add 2) = some (.int .i64 n30) ∧
   stM p5 (.bool b28) w25 fun w31 =>
   stM (p5.add 1) (.slice s29a s29l s29c) w31 fun w32 =>
   stM (p5.add 2) (.int .i64 n30) w32 fun w33 =>
   ∃ b34, w33.cell? p5 = some (.bool b34) ∧
   ∃ s35a s35l s35c, w33.cell? (p5.add 1) = some (.slice s35a s35l s35c) ∧
   ∃ n36, w33.cell? (p5.add 2) = some (.int .i64 n36) ∧
   K (.agg #[.bool b34, .slice s35a s35l s35c, .int .i64 n36]) w33)
  (∃ n37, w25.cell? (p1.add 2) = some (.int .i64 n37) ∧
   ∃ n38, w25.cell? (p3.add 2) = some (.int .i64 n38) ∧
   cond (decide (n37 > n38))
   (∃ b39, w25.cell? p3 = some (.bool b39) ∧
    ∃ s40a s40l s40c, w25.cell? (p3.add 1) = some (.slice s40a s40l s40c) ∧
    ∃ n41, w25.cell? (p3.add 2) = some (.int .i64 n41) ∧
    ∃ b42, w25.cell? p1 = some (.bool b42) ∧
    ∃ s43a s43l s43c, w25.cell? (p1.add 1) = some (.slice s43a s43l s43c) ∧
    ∃ n44, w25.cell? (p1.add 2) = some (.int .i64 n44) ∧
    CallsX P N.f_girderref02_Plus #[.agg #[.bool b39, .slice s40a s40l s40c, .int .i64 n41], .agg #[.bool b42, .slice s43a s43l s43c, .int .i64 n44]] w25 fun v46 w45 =>
    ∃ b47, ∃ s48a s48l s48c, ∃ n49, v46 = (.agg #[.bool b47, .slice s48a s48l s48c, .int .i64 n49]) ∧
    stM p5 (.bool b47) w45 fun w50 =>
    stM (p5.add 1) (.slice s48a s48l s48c) w50 fun w51 =>
    stM (p5.add 2) (.int .i64 n49) w51 fun w52 =>
    ∃ b53, w52.cell? p5 = some (.bool b53) ∧
    ∃ s54a s54l s54c, w52.cell? (p5.add 1) = some (.slice s54a s54l s54c) ∧
    ∃ n55, w52.cell? (p5.add 2) = some (.int .i64 n55) ∧
    K (.agg #[.bool b53, .slice s54a s54l s54c, .int .i64 n55]) w52)
   (∃ s56a s56l s56c, w25.cell? (p1.add 1) = some (.slice s56a s56l s56c) ∧
    ∃ s57a s57l s57c, w25.cell? (p3.add 1) = some (.slice s57a s57l s57c) ∧
    ∃ n58, w25.cell? (p3.add 2) = some (.int .i64 n58) ∧
    ∃ n59, w25.cell? (p1.add 2) = some (.int .i64 n59) ∧
    CallsX P N.f_girderref02_NatUp #[.slice s57a s57l s57c, .int .i64 (IntKind.i64.wrap (n58 - n59))] w25 fun v61 w60 =>
    ∃ s62a s62l s62c, v61 = (.slice s62a s62l s62c) ∧
    ∃ b63, w60.cell? p1 = some (.bool b63) ∧
    ∃ b64, w60.cell? p3 = some (.bool b64) ∧
    cond (b63 == b64)
    (∃ b65, w60.cell? p1 = some (.bool b65) ∧
     ∃ n66, w60.cell? (p1.add 2) = some (.int .i64 n66) ∧
     drM w60 fun w67 =>
     CallsX P N.f_girderref02_NatAdd #[.slice s56a s56l s56c, .slice s62a s62l s62c] w67 fun v69 w68 =>
     ∃ s70a s70l s70c, v69 = (.slice s70a s70l s70c) ∧
     w68.cell? (p1.add 2) = some (.int .i64 n66) ∧
     w68.cell? p1 = some (.bool b65) ∧
     drM w68 fun w71 =>
     stM p5 (.bool b65) w71 fun w72 =>
     stM (p5.add 1) (.slice s70a s70l s70c) w72 fun w73 =>
     stM (p5.add 2) (.int .i64 n66) w73 fun w74 =>
     drM w74 fun w75 =>
     ∃ b76, w75.cell? p5 = some (.bool b76) ∧
     ∃ s77a s77l s77c, w75.cell? (p5.add 1) = some (.slice s77a s77l s77c) ∧
     ∃ n78, w75.cell? (p5.add 2) = some (.int .i64 n78) ∧
     K (.agg #[.bool b76, .slice s77a s77l s77c, .int .i64 n78]) w75)
    (CallsX P N.f_girderref02_NatCmp #[.slice s56a s56l s56c, .slice s62a s62l s62c] w60 fun v80 w79 =>
     ∃ n81, v80 = (.int .i64 n81) ∧
     cond (decide (n81 ≥ 0))
     (∃ b82, w79.cell? p1 = some (.bool b82) ∧
      ∃ n83, w79.cell? (p1.add 2) = some (.int .i64 n83) ∧
      drM w79 fun w84 =>
      CallsX P N.f_girderref02_NatSub #[.slice s56a s56l s56c, .slice s62a s62l s62c] w84 fun v86 w85 =>
      ∃ s87a s87l s87c, v86 = (.slice s87a s87l s87c) ∧
      w85.cell? (p1.add 2) = some (.int .i64 n83) ∧
      w85.cell? p1 = some (.bool b82) ∧
      drM w85 fun w88 =>
      stM p5 (.bool b82) w88 fun w89 =>
      stM (p5.add 1) (.slice s87a s87l s87c) w89 fun w90 =>
      stM (p5.add 2) (.int .i64 n83) w90 fun w91 =>
      drM w91 fun w92 =>
      ∃ b93, w92.cell? p5 = some (.bool b93) ∧
      ∃ s94a s94l s94c, w92.cell? (p5.add 1) = some (.slice s94a s94l s94c) ∧
      ∃ n95, w92.cell? (p5.add 2) = some (.int .i64 n95) ∧
      K (.agg #[.bool b93, .slice s94a s94l s94c, .int .i64 n95]) w92)
     (∃ b96, w79.cell? p3 = some (.bool b96) ∧
      ∃ n97, w79.cell? (p1.add 2) = some (.int .i64 n97) ∧
      drM w79 fun w98 =>
      CallsX P N.f_girderref02_NatSub #[.slice s62a s62l s62c, .slice s56a s56l s56c] w98 fun v100 w99 =>
      ∃ s101a s101l s101c, v100 = (.slice s101a s101l s101c) ∧
      w99.cell? (p1.add 2) = some (.int .i64 n97) ∧
      w99.cell? p3 = some (.bool b96) ∧
      drM w99 fun w102 =>
      stM p5 (.bool b96) w102 fun w103 =>
      stM (p5.add 1) (.slice s101a s101l s101c) w103 fun w104 =>
      stM (p5.add 2) (.int .i64 n97) w104 fun w105 =>
      drM w105 fun w106 =>
      ∃ b107, w106.cell? p5 = some (.bool b107) ∧
      ∃ s108a s108l s108c, w106.cell? (p5.add 1) = some (.slice s108a s108l s108c) ∧
      ∃ n109, w106.cell? (p5.add 2) = some (.int .i64 n109) ∧
      K (.agg #[.bool b107, .slice s108a s108l s108c, .int .i64 n109]) w106)))))

/-- girder/girderref02.Minus -/
def S_girderref02_Minus (N : Nums) (P : Program) (q0_0 : Bool) (q0_1 : Option Addr) (q0_1l q0_1c : Nat) (q0_2 : Int) (w : World) (K : Value → World → Prop) : Prop :=
 newM #[.bool q0_0, .slice q0_1 q0_1l q0_1c, .int .i64 q0_2] N.t_girderref02_Num w fun p1 w2 =>
 newM #[.bool false, .slice none 0 0, .int .i64 0] N.t_girderref02_Num w2 fun p3 w4 =>
 ∃ b5, w4.cell? p1 = some (.bool b5) ∧
 ∃ s6a s6l s6c, w4.cell? (p1.add 1) = some (.slice s6a s6l s6c) ∧
 ∃ n7, w4.cell? (p1.add 2) = some (.int .i64 n7) ∧
 stM p3 (.bool (!b5)) w4 fun w8 =>
 stM (p3.add 1) (.slice s6a s6l s6c) w8 fun w9 =>
 stM (p3.add 2) (.int .i64 n7) w9 fun w10 =>
 ∃ b11, w10.cell? p3 = some (.bool b11) ∧
 ∃ s12a s12l s12c, w10.cell? (p3.add 1) = some (.slice s12a s12l s12c) ∧
 ∃ n13, w10.cell? (p3.add 2) = some (.int .i64 n13) ∧
 K (.agg #[.bool b11, .slice s12a s12l s12c, .int .i64 n13]) w10

/-- (girder/girderref02.Num).Sign -/
def S_girderref02_Num_Sign (N : Nums) (P : Program) (q0_0 : Bool) (q0_1 : Option Addr) (q0_1l q0_1c : Nat) (q0_2 : Int) (w : World) (K : Value → World → Prop) : Prop :=
 newM #[.bool q0_0, .slice q0_1 q0_1l q0_1c, .int .i64 q0_2] N.t_girderref02_Num w fun p1 w2 =>
 ∃ b3, w2.cell? p1 = some (.bool b3) ∧
 ∃ s4a s4l s4c, w2.cell? (p1.add 1) = some (.slice s4a s4l s4c) ∧
 ∃ n5, w2.cell? (p1.add 2) = some (.int .i64 n5) ∧
 CallsX P N.f_girderref02_Num_Zero #[.agg #[.bool b3, .slice s4a s4l s4c, .int .i64 n5]] w2 fun v7 w6 =>
 ∃ b8, v7 = (.bool b8) ∧
 cond b8
 (K (.int .i64 0) w6)
 (∃ b9, w6.cell? p1 = some (.bool b9) ∧
  cond b9
  (K (.int .i64 (-1)) w6)
  (K (.int .i64 1) w6))

/-- girder/bits.Split -/
def S_bits_Split (N : Nums) (P : Program) (q0 : Nat) (w : World) (K : Value → World → Prop) : Prop :=
 newM #[.bool false, .int .u64 0, .int .i64 0] N.t_Parts w fun p1 w2 =>
 CallsX P N.f_bits_Kind #[.float .f64 q0] w2 fun v4 w3 =>
 ∃ n5, v4 = (.int .i64 n5) ∧
 cond (decide (n5 > 2))
 (stM p1 (.bool false) w3 fun w6 =>
  stM (p1.add 1) (.int .u64 0) w6 fun w7 =>
  stM (p1.add 2) (.int .i64 0) w7 fun w8 =>
  ∃ b9, w8.cell? p1 = some (.bool b9) ∧
  ∃ n10, w8.cell? (p1.add 1) = some (.int .u64 n10) ∧
  ∃ n11, w8.cell? (p1.add 2) = some (.int .i64 n11) ∧
  K (.tuple #[.agg #[.bool b9, .int .u64 n10, .int .i64 n11], .bool false]) w8)
 (CallsX P N.f_math_Signbit #[.float .f64 q0] w3 fun v13 w12 =>
  ∃ b14, v13 = (.bool b14) ∧
  newM #[.bool false, .int .u64 0, .int .i64 0] N.t_Parts w12 fun p15 w16 =>
  stM p15 (.bool b14) w16 fun w17 =>
  stM (p15.add 1) (.int .u64 0) w17 fun w18 =>
  stM (p15.add 2) (.int .i64 0) w18 fun w19 =>
  cond (feq q0 0)
  (∃ b20, w19.cell? p15 = some (.bool b20) ∧
   ∃ n21, w19.cell? (p15.add 1) = some (.int .u64 n21) ∧
   ∃ n22, w19.cell? (p15.add 2) = some (.int .i64 n22) ∧
   stM p1 (.bool b20) w19 fun w23 =>
   stM (p1.add 1) (.int .u64 n21) w23 fun w24 =>
   stM (p1.add 2) (.int .i64 n22) w24 fun w25 =>
   ∃ b26, w25.cell? p1 = some (.bool b26) ∧
   ∃ n27, w25.cell? (p1.add 1) = some (.int .u64 n27) ∧
   ∃ n28, w25.cell? (p1.add 2) = some (.int .i64 n28) ∧
   K (.tuple #[.agg #[.bool b26, .int .u64 n27, .int .i64 n28], .bool true]) w25)
  (CallsX P N.f_math_Abs #[.float .f64 q0] w19 fun v30 w29 =>
   ∃ x31, v30 = (.float .f64 x31) ∧
   CallsX P N.f_math_Frexp #[.float .f64 x31] w29 fun v33 w32 =>
   ∃ x34, ∃ n35, v33 = (.tuple #[.float .f64 x34, .int .i64 n35]) ∧
   CallsX P N.f_math_Ldexp #[.float .f64 x34, .int .i64 53] w32 fun v37 w36 =>
   ∃ x38, v37 = (.float .f64 x38) ∧
   f2iM x38 .u64 w36 fun n39 w40 =>
   stM (p15.add 1) (.int .u64 n39) w40 fun w41 =>
   ∃ n42, w41.cell? (p15.add 1) = some (.int .u64 n42) ∧
   CallsX P N.f_math_bits_TrailingZeros64 #[.int .u64 n42] w41 fun v44 w43 =>
   ∃ n45, v44 = (.int .i64 n45) ∧
   ∃ n46, w43.cell? (p15.add 1) = some (.int .u64 n46) ∧
   (0 : Int) ≤ n45 ∧
   stM (p15.add 1) (.int .u64 (n46.fdiv (2 ^ (min n45.toNat IntKind.u64.bits)))) w43 fun w47 =>
   stM (p15.add 2) (.int .i64 (IntKind.i64.wrap ((IntKind.i64.wrap (n35 - 53)) + n45))) w47 fun w48 =>
   ∃ b49, w48.cell? p15 = some (.bool b49) ∧
   ∃ n50, w48.cell? (p15.add 1) = some (.int .u64 n50) ∧
   ∃ n51, w48.cell? (p15.add 2) = some (.int .i64 n51) ∧
   stM p1 (.bool b49) w48 fun w52 =>
   stM (p1.add 1) (.int .u64 n50) w52 fun w53 =>
   stM (p1.add 2) (.int .i64 n51) w53 fun w54 =>
   ∃ b55, w54.cell? p1 = some (.bool b55) ∧
   ∃ n56, w54.cell? (p1.add 1) = some (.int .u64 n56) ∧
   ∃ n57, w54.cell? (p1.add 2) = some (.int .i64 n57) ∧
   K (.tuple #[.agg #[.bool b55, .int .u64 n56, .int .i64 n57], .bool true]) w54))

/-- girder/girderkit.mark -/
def S_girderkit_mark (N : Nums) (P : Program) (q0 : Int) (q1 : Int) (w : World) (K : Value → World → Prop) : Prop :=
 K (.int .i64 (IntKind.i64.wrap ((IntKind.i64.wrap (1000003 * (IntKind.i64.wrap (q0 + 7)))) + q1))) w

/-- (*girder/bignum.Int).Or -/
def S_p_bignum_Int_Or (N : Nums) (P : Program) (q0 : Option Addr) (q1 : Option Addr) (q2 : Option Addr) (w : World) (K : Value → World → Prop) : Prop :=
 optM q1 fun a1 =>
 ∃ s2a s2l s2c, w.cell? (a1.add 1) = some (.slice s2a s2l s2c) ∧
 optM q2 fun a3 =>
 ∃ s4a s4l s4c, w.cell? (a3.add 1) = some (.slice s4a s4l s4c) ∧
 drM w fun w5 =>
 CallsX P N.f_p_bignum_Int_low #[.pointer q1, .int .i64 (IntKind.i64.wrap ((if ((s4l : Nat) : Int) > ((s2l : Nat) : Int) then ((s4l : Nat) : Int) else ((s2l : Nat) : Int)) + 1))] w5 fun v7 w6 =>
 ∃ s8a s8l s8c, v7 = (.slice s8a s8l s8c) ∧
 CallsX P N.f_p_bignum_Int_low #[.pointer q2, .int .i64 (IntKind.i64.wrap ((if ((s4l : Nat) : Int) > ((s2l : Nat) : Int) then ((s4l : Nat) : Int) else ((s2l : Nat) : Int)) + 1))] w6 fun v10 w9 =>
 ∃ s11a s11l s11c, v10 = (.slice s11a s11l s11c) ∧
 cutM (σ := Unit) (fun J12 =>
  loopM (σ := Int × Unit) (fun s15 X16 w17 =>
   cond (decide (s15.1 < (IntKind.i64.wrap ((if ((s4l : Nat) : Int) > ((s2l : Nat) : Int) then ((s4l : Nat) : Int) else ((s2l : Nat) : Int)) + 1))))
   ((0 : Int) ≤ s15.1 ∧ s15.1 < (s8l : Nat) ∧
    optM s8a fun a18 =>
    ∃ n19, w17.cell? (a18.add (s15.1.toNat * 1)) = some (.int .u32 n19) ∧
    (0 : Int) ≤ s15.1 ∧ s15.1 < (s11l : Nat) ∧
    optM s11a fun a20 =>
    ∃ n21, w17.cell? (a20.add (s15.1.toNat * 1)) = some (.int .u32 n21) ∧
    (0 : Int) ≤ s15.1 ∧ s15.1 < (s8l : Nat) ∧
    optM s8a fun a22 =>
    drM w17 fun w23 =>
    stM (a22.add (s15.1.toNat * 1)) (.int .u32 (IntKind.u32.wrap (BitVec.ofInt IntKind.u32.bits n19 ||| BitVec.ofInt IntKind.u32.bits n21).toNat)) w23 fun w24 =>
    drM w24 fun w25 =>
    X16 ((IntKind.i64.wrap (s15.1 + 1)), ()) w25)
   (J12 (()) w17))
  (0, ()) w9)
 (fun s13 w14 =>
  CallsX P N.f_p_bignum_Int_of #[.pointer q0, .slice s8a s8l s8c] w14 fun v27 w26 =>
  ∃ p28 : (Option Addr), v27 = (.pointer p28) ∧
  K (.pointer p28) w26)

/-- (*girder/bignum.Int).SetUint64 -/
def S_p_bignum_Int_SetUint64 (N : Nums) (P : Program) (q0 : Option Addr) (q1 : Int) (w : World) (K : Value → World → Prop) : Prop :=
 CallsX P N.f_bignum_words #[.int .u64 q1] w fun v2 w1 =>
 ∃ s3a s3l s3c, v2 = (.slice s3a s3l s3c) ∧
 CallsX P N.f_p_bignum_Int_give #[.pointer q0, .bool false, .slice s3a s3l s3c] w1 fun v5 w4 =>
 ∃ p6 : (Option Addr), v5 = (.pointer p6) ∧
 K (.pointer p6) w4

/-- (*girder/bignum.Int).Neg -/
def S_p_bignum_Int_Neg (N : Nums) (P : Program) (q0 : Option Addr) (q1 : Option Addr) (w : World) (K : Value → World → Prop) : Prop :=
 optM q1 fun a1 =>
 ∃ b2, w.cell? a1 = some (.bool b2) ∧
 optM q1 fun a3 =>
 ∃ s4a s4l s4c, w.cell? (a3.add 1) = some (.slice s4a s4l s4c) ∧
 drM w fun w5 =>
 CallsX P N.f_bignum_twin #[.slice s4a s4l s4c] w5 fun v7 w6 =>
 ∃ s8a s8l s8c, v7 = (.slice s8a s8l s8c) ∧
 w6.cell? a1 = some (.bool b2) ∧
 drM w6 fun w9 =>
 CallsX P N.f_p_bignum_Int_give #[.pointer q0, .bool (!b2), .slice s8a s8l s8c] w9 fun v11 w10 =>
 ∃ p12 : (Option Addr), v11 = (.pointer p12) ∧
 drM w10 fun w13 =>
 K (.pointer p12) w13

/-- (*girder/bignum.Int).give -/
def S_p_bignum_Int_give (N : Nums) (P : Program) (q0 : Option Addr) (q1 : Bool) (q2 : Option Addr) (q2l q2c : Nat) (w : World) (K : Value → World → Prop) : Prop :=
 optM q0 fun a1 =>
 stM (a1.add 1) (.slice q2 q2l q2c) w fun w2 =>
 cond q1
 (optM q0 fun a3 =>
  stM a3 (.bool (decide (((q2l : Nat) : Int) > 0))) w2 fun w4 =>
  K (.pointer q0) w4)
 (optM q0 fun a5 =>
  stM a5 (.bool false) w2 fun w6 =>
  K (.pointer q0) w6)

/-- girder/bignum.twin -/
def S_bignum_twin (N : Nums) (P : Program) (q0 : Option Addr) (q0l q0c : Nat) (w : World) (K : Value → World → Prop) : Prop :=
 appM N.t_uint32 1 4 #[.int .u32 0] none 0 0 q0 q0l w fun s1a s1l s1c w2 =>
 K (.slice s1a s1l s1c) w2

/-- girder/bignum.left -/
def S_bignum_left (N : Nums) (P : Program) (q0 : Option Addr) (q0l q0c : Nat) (q1 : Int) (w : World) (K : Value → World → Prop) : Prop :=
 cond (((q0l : Nat) : Int) == 0)
 (K (.slice none 0 0) w)
 ((32 : Int) ≠ 0 ∧
  (32 : Int) ≠ 0 ∧
  mkM N.t_uint32 1 4 #[.int .u32 0] (IntKind.i64.wrap ((IntKind.i64.wrap (((q0l : Nat) : Int) + (IntKind.i64.wrap (IntKind.u64.wrap (q1.tdiv 32))))) + 1)) (IntKind.i64.wrap ((IntKind.i64.wrap (((q0l : Nat) : Int) + (IntKind.i64.wrap (IntKind.u64.wrap (q1.tdiv 32))))) + 1)) w fun p1 w2 =>
  cutM (σ := Unit) (fun J3 =>
   loopM (σ := Int × Unit) (fun s6 X7 w8 =>
    cond (decide (s6.1 < ((q0l : Nat) : Int)))
    ((0 : Int) ≤ s6.1 ∧ s6.1 < (q0l : Nat) ∧
     optM q0 fun a9 =>
     ∃ n10, w8.cell? (a9.add (s6.1.toNat * 1)) = some (.int .u32 n10) ∧
     (0 : Int) ≤ (q1.tmod 32) ∧
     (0 : Int) ≤ (IntKind.i64.wrap (s6.1 + (IntKind.i64.wrap (IntKind.u64.wrap (q1.tdiv 32))))) ∧ (IntKind.i64.wrap (s6.1 + (IntKind.i64.wrap (IntKind.u64.wrap (q1.tdiv 32))))) < ((IntKind.i64.wrap ((IntKind.i64.wrap (((q0l : Nat) : Int) + (IntKind.i64.wrap (IntKind.u64.wrap (q1.tdiv 32))))) + 1)).toNat : Nat) ∧
     ∃ n11, w8.cell? (p1.add ((IntKind.i64.wrap (s6.1 + (IntKind.i64.wrap (IntKind.u64.wrap (q1.tdiv 32))))).toNat * 1)) = some (.int .u32 n11) ∧
     (0 : Int) ≤ (IntKind.i64.wrap (s6.1 + (IntKind.i64.wrap (IntKind.u64.wrap (q1.tdiv 32))))) ∧ (IntKind.i64.wrap (s6.1 + (IntKind.i64.wrap (IntKind.u64.wrap (q1.tdiv 32))))) < ((IntKind.i64.wrap ((IntKind.i64.wrap (((q0l : Nat) : Int) + (IntKind.i64.wrap (IntKind.u64.wrap (q1.tdiv 32))))) + 1)).toNat : Nat) ∧
     stM (p1.add ((IntKind.i64.wrap (s6.1 + (IntKind.i64.wrap (IntKind.u64.wrap (q1.tdiv 32))))).toNat * 1)) (.int .u32 (IntKind.u32.wrap (BitVec.ofInt IntKind.u32.bits n11 ||| BitVec.ofInt IntKind.u32.bits (IntKind.u32.wrap (IntKind.u64.wrap ((IntKind.u64.wrap n10) * 2 ^ (min (q1.tmod 32).toNat IntKind.u64.bits))))).toNat)) w8 fun w12 =>
     (0 : Int) ≤ (IntKind.i64.wrap ((IntKind.i64.wrap (s6.1 + (IntKind.i64.wrap (IntKind.u64.wrap (q1.tdiv 32))))) + 1)) ∧ (IntKind.i64.wrap ((IntKind.i64.wrap (s6.1 + (IntKind.i64.wrap (IntKind.u64.wrap (q1.tdiv 32))))) + 1)) < ((IntKind.i64.wrap ((IntKind.i64.wrap (((q0l : Nat) : Int) + (IntKind.i64.wrap (IntKind.u64.wrap (q1.tdiv 32))))) + 1)).toNat : Nat) ∧
     ∃ n13, w12.cell? (p1.add ((IntKind.i64.wrap ((IntKind.i64.wrap (s6.1 + (IntKind.i64.wrap (IntKind.u64.wrap (q1.tdiv 32))))) + 1)).toNat * 1)) = some (.int .u32 n13) ∧
     (0 : Int) ≤ 32 ∧
     (0 : Int) ≤ (IntKind.i64.wrap ((IntKind.i64.wrap (s6.1 + (IntKind.i64.wrap (IntKind.u64.wrap (q1.tdiv 32))))) + 1)) ∧ (IntKind.i64.wrap ((IntKind.i64.wrap (s6.1 + (IntKind.i64.wrap (IntKind.u64.wrap (q1.tdiv 32))))) + 1)) < ((IntKind.i64.wrap ((IntKind.i64.wrap (((q0l : Nat) : Int) + (IntKind.i64.wrap (IntKind.u64.wrap (q1.tdiv 32))))) + 1)).toNat : Nat) ∧
     stM (p1.add ((IntKind.i64.wrap ((IntKind.i64.wrap (s6.1 + (IntKind.i64.wrap (IntKind.u64.wrap (q1.tdiv 32))))) + 1)).toNat * 1)) (.int .u32 (IntKind.u32.wrap (BitVec.ofInt IntKind.u32.bits n13 ||| BitVec.ofInt IntKind.u32.bits (IntKind.u32.wrap ((IntKind.u64.wrap ((IntKind.u64.wrap n10) * 2 ^ (min (q1.tmod 32).toNat IntKind.u64.bits))).fdiv (2 ^ (min (32 : Int).toNat IntKind.u64.bits))))).toNat)) w12 fun w14 =>
     X7 ((IntKind.i64.wrap (s6.1 + 1)), ()) w14)
    (J3 (()) w8))
   (0, ()) w2)
  (fun s4 w5 =>
   CallsX P N.f_bignum_trim #[.slice (some p1) ((IntKind.i64.wrap ((IntKind.i64.wrap (((q0l : Nat) : Int) + (IntKind.i64.wrap (IntKind.u64.wrap (q1.tdiv 32))))) + 1)).toNat) ((IntKind.i64.wrap ((IntKind.i64.wrap (((q0l : Nat) : Int) + (IntKind.i64.wrap (IntKind.u64.wrap (q1.tdiv 32))))) + 1)).toNat)] w5 fun v16 w15 =>
   ∃ s17a s17l s17c, v16 = (.slice s17a s17l s17c) ∧
   K (.slice s17a s17l s17c) w15))

/-- girder/bignum.add -/
def S_bignum_add (N : Nums) (P : Program) (q0 : Option Addr) (q0l q0c : Nat) (q1 : Option Addr) (q1l q1c : Nat) (w : World) (K : Value → World → Prop) : Prop :=
 cutM (σ := (Option Addr × Nat × Nat) × (Option Addr × Nat × Nat) × Unit) (fun J1 =>
  cond (decide (((q0l : Nat) : Int) < ((q1l : Nat) : Int)))
  (J1 ((q1, q1l, q1c), (q0, q0l, q0c), ()) w)
  (J1 ((q0, q0l, q0c), (q1, q1l, q1c), ()) w))
 (fun s2 w3 =>
  mkM N.t_uint32 1 4 #[.int .u32 0] (IntKind.i64.wrap (((s2.1.2.1 : Nat) : Int) + 1)) (IntKind.i64.wrap (((s2.1.2.1 : Nat) : Int) + 1)) w3 fun p4 w5 =>
  cutM (σ := Int × Unit) (fun J6 =>
   loopM (σ := Int × Int × Unit) (fun s9 X10 w11 =>
    cond (decide (s9.2.1 < ((s2.1.2.1 : Nat) : Int)))
    ((0 : Int) ≤ s9.2.1 ∧ s9.2.1 < (s2.1.2.1 : Nat) ∧
     optM s2.1.1 fun a12 =>
     ∃ n13, w11.cell? (a12.add (s9.2.1.toNat * 1)) = some (.int .u32 n13) ∧
     cutM (σ := Int × Unit) (fun J14 =>
      cond (decide (s9.2.1 < ((s2.2.1.2.1 : Nat) : Int)))
      ((0 : Int) ≤ s9.2.1 ∧ s9.2.1 < (s2.2.1.2.1 : Nat) ∧
       optM s2.2.1.1 fun a17 =>
       ∃ n18, w11.cell? (a17.add (s9.2.1.toNat * 1)) = some (.int .u32 n18) ∧
       J14 ((IntKind.u64.wrap ((IntKind.u64.wrap (s9.1 + (IntKind.u64.wrap n13))) + (IntKind.u64.wrap n18))), ()) w11)
      (J14 ((IntKind.u64.wrap (s9.1 + (IntKind.u64.wrap n13))), ()) w11))
     (fun s15 w16 =>
      (0 : Int) ≤ s9.2.1 ∧ s9.2.1 < ((IntKind.i64.wrap (((s2.1.2.1 : Nat) : Int) + 1)).toNat : Nat) ∧
      stM (p4.add (s9.2.1.toNat * 1)) (.int .u32 (IntKind.u32.wrap s15.1)) w16 fun w19 =>
      (0 : Int) ≤ 32 ∧
      X10 ((s15.1.fdiv (2 ^ (min (32 : Int).toNat IntKind.u64.bits))), (IntKind.i64.wrap (s9.2.1 + 1)), ()) w19))
    (J6 (s9.1, ()) w11))
   (0, 0, ()) w5)
  (fun s7 w8 =>
   (0 : Int) ≤ ((s2.1.2.1 : Nat) : Int) ∧ ((s2.1.2.1 : Nat) : Int) < ((IntKind.i64.wrap (((s2.1.2.1 : Nat) : Int) + 1)).toNat : Nat) ∧
   stM (p4.add (((s2.1.2.1 : Nat) : Int).toNat * 1)) (.int .u32 (IntKind.u32.wrap s7.1)) w8 fun w20 =>
   CallsX P N.f_bignum_trim #[.slice (some p4) ((IntKind.i64.wrap (((s2.1.2.1 : Nat) : Int) + 1)).toNat) ((IntKind.i64.wrap (((s2.1.2.1 : Nat) : Int) + 1)).toNat)] w20 fun v22 w21 =>
   ∃ s23a s23l s23c, v22 = (.slice s23a s23l s23c) ∧
   K (.slice s23a s23l s23c) w21))

/-- girder/bignum.right -/
def S_bignum_right (N : Nums) (P : Program) (q0 : Option Addr) (q0l q0c : Nat) (q1 : Int) (w : World) (K : Value → World → Prop) : Prop :=
 (32 : Int) ≠ 0 ∧
 (32 : Int) ≠ 0 ∧
 cond (decide ((IntKind.i64.wrap (IntKind.u64.wrap (q1.tdiv 32))) ≥ ((q0l : Nat) : Int)))
 (K (.slice none 0 0) w)
 (mkM N.t_uint32 1 4 #[.int .u32 0] (IntKind.i64.wrap (((q0l : Nat) : Int) - (IntKind.i64.wrap (IntKind.u64.wrap (q1.tdiv 32))))) (IntKind.i64.wrap (((q0l : Nat) : Int) - (IntKind.i64.wrap (IntKind.u64.wrap (q1.tdiv 32))))) w fun p1 w2 =>
  cutM (σ := Unit) (fun J3 =>
   loopM (σ := Int × Unit) (fun s6 X7 w8 =>
    cond (decide (s6.1 < (((IntKind.i64.wrap (((q0l : Nat) : Int) - (IntKind.i64.wrap (IntKind.u64.wrap (q1.tdiv 32))))).toNat : Nat) : Int)))
    ((0 : Int) ≤ (IntKind.i64.wrap (s6.1 + (IntKind.i64.wrap (IntKind.u64.wrap (q1.tdiv 32))))) ∧ (IntKind.i64.wrap (s6.1 + (IntKind.i64.wrap (IntKind.u64.wrap (q1.tdiv 32))))) < (q0l : Nat) ∧
     optM q0 fun a9 =>
     ∃ n10, w8.cell? (a9.add ((IntKind.i64.wrap (s6.1 + (IntKind.i64.wrap (IntKind.u64.wrap (q1.tdiv 32))))).toNat * 1)) = some (.int .u32 n10) ∧
     cutM (σ := Int × Unit) (fun J11 =>
      cond (decide ((IntKind.i64.wrap ((IntKind.i64.wrap (s6.1 + (IntKind.i64.wrap (IntKind.u64.wrap (q1.tdiv 32))))) + 1)) < ((q0l : Nat) : Int)))
      ((0 : Int) ≤ (IntKind.i64.wrap ((IntKind.i64.wrap (s6.1 + (IntKind.i64.wrap (IntKind.u64.wrap (q1.tdiv 32))))) + 1)) ∧ (IntKind.i64.wrap ((IntKind.i64.wrap (s6.1 + (IntKind.i64.wrap (IntKind.u64.wrap (q1.tdiv 32))))) + 1)) < (q0l : Nat) ∧
       optM q0 fun a14 =>
       ∃ n15, w8.cell? (a14.add ((IntKind.i64.wrap ((IntKind.i64.wrap (s6.1 + (IntKind.i64.wrap (IntKind.u64.wrap (q1.tdiv 32))))) + 1)).toNat * 1)) = some (.int .u32 n15) ∧
       (0 : Int) ≤ 32 ∧
       J11 ((IntKind.u64.wrap (BitVec.ofInt IntKind.u64.bits (IntKind.u64.wrap n10) ||| BitVec.ofInt IntKind.u64.bits (IntKind.u64.wrap ((IntKind.u64.wrap n15) * 2 ^ (min (32 : Int).toNat IntKind.u64.bits)))).toNat), ()) w8)
      (J11 ((IntKind.u64.wrap n10), ()) w8))
     (fun s12 w13 =>
      (0 : Int) ≤ (q1.tmod 32) ∧
      (0 : Int) ≤ s6.1 ∧ s6.1 < ((IntKind.i64.wrap (((q0l : Nat) : Int) - (IntKind.i64.wrap (IntKind.u64.wrap (q1.tdiv 32))))).toNat : Nat) ∧
      stM (p1.add (s6.1.toNat * 1)) (.int .u32 (IntKind.u32.wrap (s12.1.fdiv (2 ^ (min (q1.tmod 32).toNat IntKind.u64.bits))))) w13 fun w16 =>
      X7 ((IntKind.i64.wrap (s6.1 + 1)), ()) w16))
    (J3 (()) w8))
   (0, ()) w2)
  (fun s4 w5 =>
   CallsX P N.f_bignum_trim #[.slice (some p1) ((IntKind.i64.wrap (((q0l : Nat) : Int) - (IntKind.i64.wrap (IntKind.u64.wrap (q1.tdiv 32))))).toNat) ((IntKind.i64.wrap (((q0l : Nat) : Int) - (IntKind.i64.wrap (IntKind.u64.wrap (q1.tdiv 32))))).toNat)] w5 fun v18 w17 =>
   ∃ s19a s19l s19c, v18 = (.slice s19a s19l s19c) ∧
   K (.slice s19a s19l s19c) w17))

/-- girder/bignum.sub -/
def S_bignum_sub (N : Nums) (P : Program) (q0 : Option Addr) (q0l q0c : Nat) (q1 : Option Addr) (q1l q1c : Nat) (w : World) (K : Value → World → Prop) : Prop :=
 mkM N.t_uint32 1 4 #[.int .u32 0] ((q0l : Nat) : Int) ((q0l : Nat) : Int) w fun p1 w2 =>
 cutM (σ := Unit) (fun J3 =>
  loopM (σ := Int × Int × Unit) (fun s6 X7 w8 =>
   cond (decide (s6.2.1 < ((q0l : Nat) : Int)))
   ((0 : Int) ≤ s6.2.1 ∧ s6.2.1 < (q0l : Nat) ∧
    optM q0 fun a9 =>
    ∃ n10, w8.cell? (a9.add (s6.2.1.toNat * 1)) = some (.int .u32 n10) ∧
    cutM (σ := Int × Unit) (fun J11 =>
     cond (decide (s6.2.1 < ((q1l : Nat) : Int)))
     ((0 : Int) ≤ s6.2.1 ∧ s6.2.1 < (q1l : Nat) ∧
      optM q1 fun a14 =>
      ∃ n15, w8.cell? (a14.add (s6.2.1.toNat * 1)) = some (.int .u32 n15) ∧
      J11 ((IntKind.u64.wrap ((IntKind.u64.wrap ((IntKind.u64.wrap n10) - s6.1)) - (IntKind.u64.wrap n15))), ()) w8)
     (J11 ((IntKind.u64.wrap ((IntKind.u64.wrap n10) - s6.1)), ()) w8))
    (fun s12 w13 =>
     (0 : Int) ≤ s6.2.1 ∧ s6.2.1 < (((q0l : Nat) : Int).toNat : Nat) ∧
     stM (p1.add (s6.2.1.toNat * 1)) (.int .u32 (IntKind.u32.wrap s12.1)) w13 fun w16 =>
     (0 : Int) ≤ 63 ∧
     X7 ((s12.1.fdiv (2 ^ (min (63 : Int).toNat IntKind.u64.bits))), (IntKind.i64.wrap (s6.2.1 + 1)), ()) w16))
   (J3 (()) w8))
  (0, 0, ()) w2)
 (fun s4 w5 =>
  CallsX P N.f_bignum_trim #[.slice (some p1) (((q0l : Nat) : Int).toNat) (((q0l : Nat) : Int).toNat)] w5 fun v18 w17 =>
  ∃ s19a s19l s19c, v18 = (.slice s19a s19l s19c) ∧
  K (.slice s19a s19l s19c) w17)

/-- girder/bignum.sum -/
def S_bignum_sum (N : Nums) (P : Program) (q0 : Bool) (q1 : Option Addr) (q1l q1c : Nat) (q2 : Bool) (q3 : Option Addr) (q3l q3c : Nat) (w : World) (K : Value → World → Prop) : Prop :=
 cond (q0 == q2)
 (CallsX P N.f_bignum_add #[.slice q1 q1l q1c, .slice q3 q3l q3c] w fun v2 w1 =>
  ∃ s3a s3l s3c, v2 = (.slice s3a s3l s3c) ∧
  K (.tuple #[.bool q0, .slice s3a s3l s3c]) w1)
 (CallsX P N.f_bignum_cmp #[.slice q1 q1l q1c, .slice q3 q3l q3c] w fun v5 w4 =>
  ∃ n6, v5 = (.int .i64 n6) ∧
  cond (decide (n6 ≥ 0))
  (CallsX P N.f_bignum_sub #[.slice q1 q1l q1c, .slice q3 q3l q3c] w4 fun v8 w7 =>
   ∃ s9a s9l s9c, v8 = (.slice s9a s9l s9c) ∧
   K (.tuple #[.bool q0, .slice s9a s9l s9c]) w7)
  (CallsX P N.f_bignum_sub #[.slice q3 q3l q3c, .slice q1 q1l q1c] w4 fun v11 w10 =>
   ∃ s12a s12l s12c, v11 = (.slice s12a s12l s12c) ∧
   K (.tuple #[.bool q2, .slice s12a s12l s12c]) w10))

/-- girder/bignum.cmp -/
def S_bignum_cmp (N : Nums) (P : Program) (q0 : Option Addr) (q0l q0c : Nat) (q1 : Option Addr) (q1l q1c : Nat) (w : World) (K : Value → World → Prop) : Prop :=
 cond (((q0l : Nat) : Int) != ((q1l : Nat) : Int))
 (cond (decide (((q0l : Nat) : Int) < ((q1l : Nat) : Int)))
  (K (.int .i64 (-1)) w)
  (K (.int .i64 1) w))
 (cutM (σ := Unit) (fun J1 =>
   loopM (σ := Int × Unit) (fun s4 X5 w6 =>
    cond (decide (s4.1 ≥ 0))
    ((0 : Int) ≤ s4.1 ∧ s4.1 < (q0l : Nat) ∧
     optM q0 fun a7 =>
     ∃ n8, w6.cell? (a7.add (s4.1.toNat * 1)) = some (.int .u32 n8) ∧
     (0 : Int) ≤ s4.1 ∧ s4.1 < (q1l : Nat) ∧
     optM q1 fun a9 =>
     ∃ n10, w6.cell? (a9.add (s4.1.toNat * 1)) = some (.int .u32 n10) ∧
     drM w6 fun w11 =>
     cond (n8 != n10)
     ((0 : Int) ≤ s4.1 ∧ s4.1 < (q0l : Nat) ∧
      optM q0 fun a12 =>
      ∃ n13, w11.cell? (a12.add (s4.1.toNat * 1)) = some (.int .u32 n13) ∧
      (0 : Int) ≤ s4.1 ∧ s4.1 < (q1l : Nat) ∧
      optM q1 fun a14 =>
      ∃ n15, w11.cell? (a14.add (s4.1.toNat * 1)) = some (.int .u32 n15) ∧
      drM w11 fun w16 =>
      cond (decide (n13 < n15))
      (K (.int .i64 (-1)) w16)
      (K (.int .i64 1) w16))
     (X5 ((IntKind.i64.wrap (s4.1 - 1)), ()) w11))
    (J1 (()) w6))
   ((IntKind.i64.wrap (((q0l : Nat) : Int) - 1)), ()) w)
  (fun s2 w3 =>
   K (.int .i64 0) w3))

/-- (*girder/bignum.Int).SetInt64 -/
def S_p_bignum_Int_SetInt64 (N : Nums) (P : Program) (q0 : Option Addr) (q1 : Int) (w : World) (K : Value → World → Prop) : Prop :=
 cutM (σ := Int × Unit) (fun J1 =>
  cond (decide (q1 < 0))
  (J1 ((IntKind.u64.wrap (0 - (IntKind.u64.wrap q1))), ()) w)
  (J1 ((IntKind.u64.wrap q1), ()) w))
 (fun s2 w3 =>
  CallsX P N.f_bignum_words #[.int .u64 s2.1] w3 fun v5 w4 =>
  ∃ s6a s6l s6c, v5 = (.slice s6a s6l s6c) ∧
  CallsX P N.f_p_bignum_Int_give #[.pointer q0, .bool (decide (q1 < 0)), .slice s6a s6l s6c] w4 fun v8 w7 =>
  ∃ p9 : (Option Addr), v8 = (.pointer p9) ∧
  K (.pointer p9) w7)

/-- math/bits.TrailingZeros64 -/
def S_math_bits_TrailingZeros64 (N : Nums) (P : Program) (q0 : Int) (w : World) (K : Value → World → Prop) : Prop :=
 cond (q0 == 0)
 (K (.int .i64 64) w)
 ((0 : Int) ≤ 58 ∧
  (0 : Int) ≤ ((IntKind.u64.wrap ((IntKind.u64.wrap (BitVec.ofInt IntKind.u64.bits q0 &&& BitVec.ofInt IntKind.u64.bits (IntKind.u64.wrap (0 - q0))).toNat) * 285870213051353865)).fdiv (2 ^ (min (58 : Int).toNat IntKind.u64.bits))) ∧ ((IntKind.u64.wrap ((IntKind.u64.wrap (BitVec.ofInt IntKind.u64.bits q0 &&& BitVec.ofInt IntKind.u64.bits (IntKind.u64.wrap (0 - q0))).toNat) * 285870213051353865)).fdiv (2 ^ (min (58 : Int).toNat IntKind.u64.bits))) < (64 : Nat) ∧
  ∃ n1, w.cell? ((⟨N.g_1, 0, none⟩ : Addr).add (((IntKind.u64.wrap ((IntKind.u64.wrap (BitVec.ofInt IntKind.u64.bits q0 &&& BitVec.ofInt IntKind.u64.bits (IntKind.u64.wrap (0 - q0))).toNat) * 285870213051353865)).fdiv (2 ^ (min (58 : Int).toNat IntKind.u64.bits))).toNat * 1)) = some (.int .u8 n1) ∧
  K (.int .i64 (IntKind.i64.wrap n1)) w)

/-- girder/bits.Join -/
def S_bits_Join (N : Nums) (P : Program) (q0_0 : Bool) (q0_1 : Int) (q0_2 : Int) (w : World) (K : Value → World → Prop) : Prop :=
 newM #[.bool q0_0, .int .u64 q0_1, .int .i64 q0_2] N.t_Parts w fun p1 w2 =>
 ∃ n3, w2.cell? (p1.add 1) = some (.int .u64 n3) ∧
 CallsX P N.f_math_bits_Len64 #[.int .u64 n3] w2 fun v5 w4 =>
 ∃ n6, v5 = (.int .i64 n6) ∧
 cutM (σ := Bool × Unit) (fun J7 =>
  ∃ n10, w4.cell? (p1.add 1) = some (.int .u64 n10) ∧
  cond (n10 == 0)
  (∃ n11, w4.cell? (p1.add 2) = some (.int .i64 n11) ∧
   cond (!(n11 != 0))
   (∃ n12, w4.cell? (p1.add 1) = some (.int .u64 n12) ∧
    cond (n12 != 0)
    (∃ n13, w4.cell? (p1.add 1) = some (.int .u64 n13) ∧
     (2 : Int) ≠ 0 ∧
     J7 (((n13.tmod 2) == 0), ()) w4)
    (J7 (false, ()) w4))
   (J7 (true, ()) w4))
  (∃ n14, w4.cell? (p1.add 1) = some (.int .u64 n14) ∧
   cond (n14 != 0)
   (∃ n15, w4.cell? (p1.add 1) = some (.int .u64 n15) ∧
    (2 : Int) ≠ 0 ∧
    J7 (((n15.tmod 2) == 0), ()) w4)
   (J7 (false, ()) w4)))
 (fun s8 w9 =>
  cond s8.1
  (K (.tuple #[.float .f64 0, .bool false]) w9)
  (cutM (σ := Bool × Unit) (fun J16 =>
    cond (!(decide (n6 > 53)))
    (∃ n19, w9.cell? (p1.add 2) = some (.int .i64 n19) ∧
     cond (!(decide (n19 > 1024)))
     (∃ n20, w9.cell? (p1.add 2) = some (.int .i64 n20) ∧
      cond (!(decide (n20 < (-1074))))
      (∃ n21, w9.cell? (p1.add 1) = some (.int .u64 n21) ∧
       cond (n21 != 0)
       (∃ n22, w9.cell? (p1.add 2) = some (.int .i64 n22) ∧
        J16 ((decide ((IntKind.i64.wrap (n22 + n6)) > 1024)), ()) w9)
       (J16 (false, ()) w9))
      (J16 (true, ()) w9))
     (J16 (true, ()) w9))
    (J16 (true, ()) w9))
   (fun s17 w18 =>
    cond s17.1
    (K (.tuple #[.float .f64 0, .bool false]) w18)
    (∃ n23, w18.cell? (p1.add 1) = some (.int .u64 n23) ∧
     ∃ n24, w18.cell? (p1.add 2) = some (.int .i64 n24) ∧
     CallsX P N.f_math_Ldexp #[.float .f64 (FloatKind.f64.nearest n23), .int .i64 n24] w18 fun v26 w25 =>
     ∃ x27, v26 = (.float .f64 x27) ∧
     ∃ b28, w25.cell? p1 = some (.bool b28) ∧
     cutM (σ := Nat × Unit) (fun J29 =>
      cond b28
      (CallsX P N.f_math_Copysign #[.float .f64 x27, .float .f64 13830554455654793216] w25 fun v33 w32 =>
       ∃ x34, v33 = (.float .f64 x34) ∧
       J29 (x34, ()) w32)
      (J29 (x27, ()) w25))
     (fun s30 w31 =>
      K (.tuple #[.float .f64 s30.1, .bool true]) w31)))))

/-- girder/bits.Next -/
def S_bits_Next (N : Nums) (P : Program) (q0 : Nat) (q1 : Bool) (w : World) (K : Value → World → Prop) : Prop :=
 CallsX P N.f_bits_Place #[.float .f64 q0] w fun v2 w1 =>
 ∃ n3, ∃ b4, v2 = (.tuple #[.int .i64 n3, .bool b4]) ∧
 cond (!b4)
 (K (.float .f64 q0) w1)
 (cutM (σ := Int × Unit) (fun J5 =>
   cond q1
   (J5 ((if 9218868437227405312 < (IntKind.i64.wrap (n3 + 1)) then 9218868437227405312 else (IntKind.i64.wrap (n3 + 1))), ()) w1)
   (J5 ((if (-9218868437227405312) > (IntKind.i64.wrap (n3 - 1)) then (-9218868437227405312) else (IntKind.i64.wrap (n3 - 1))), ()) w1))
  (fun s6 w7 =>
   CallsX P N.f_bits_At #[.int .i64 s6.1] w7 fun v9 w8 =>
   ∃ x10, ∃ b11, v9 = (.tuple #[.float .f64 x10, .bool b11]) ∧
   K (.float .f64 x10) w8))

/-- (girder/girderref02.Num).Zero -/
def S_girderref02_Num_Zero (N : Nums) (P : Program) (q0_0 : Bool) (q0_1 : Option Addr) (q0_1l q0_1c : Nat) (q0_2 : Int) (w : World) (K : Value → World → Prop) : Prop :=
 newM #[.bool q0_0, .slice q0_1 q0_1l q0_1c, .int .i64 q0_2] N.t_girderref02_Num w fun p1 w2 =>
 ∃ s3a s3l s3c, w2.cell? (p1.add 1) = some (.slice s3a s3l s3c) ∧
 CallsX P N.f_girderref02_NatBits #[.slice s3a s3l s3c] w2 fun v5 w4 =>
 ∃ n6, v5 = (.int .i64 n6) ∧
 K (.bool (n6 == 0)) w4

/-- (girder/girderref02.Num).top -/
def S_girderref02_Num_top (N : Nums) (P : Program) (q0_0 : Bool) (q0_1 : Option Addr) (q0_1l q0_1c : Nat) (q0_2 : Int) (w : World) (K : Value → World → Prop) : Prop :=
 newM #[.bool q0_0, .slice q0_1 q0_1l q0_1c, .int .i64 q0_2] N.t_girderref02_Num w fun p1 w2 =>
 ∃ n3, w2.cell? (p1.add 2) = some (.int .i64 n3) ∧
 ∃ s4a s4l s4c, w2.cell? (p1.add 1) = some (.slice s4a s4l s4c) ∧
 drM w2 fun w5 =>
 CallsX P N.f_girderref02_NatBits #[.slice s4a s4l s4c] w5 fun v7 w6 =>
 ∃ n8, v7 = (.int .i64 n8) ∧
 w6.cell? (p1.add 2) = some (.int .i64 n3) ∧
 drM w6 fun w9 =>
 K (.int .i64 (IntKind.i64.wrap (n3 + n8))) w9

/-- girder/girderref02.NatUp -/
def S_girderref02_NatUp (N : Nums) (P : Program) (q0 : Option Addr) (q0l q0c : Nat) (q1 : Int) (w : World) (K : Value → World → Prop) : Prop :=
 CallsX P N.f_girderref02_halves #[.slice q0 q0l q0c] w fun v2 w1 =>
 ∃ s3a s3l s3c, v2 = (.slice s3a s3l s3c) ∧
 cond (((s3l : Nat) : Int) == 0)
 (K (.slice none 0 0) w1)
 ((32 : Int) ≠ 0 ∧
  mkM N.t_uint64 1 8 #[.int .u64 0] (IntKind.i64.wrap (q1.tdiv 32)) (IntKind.i64.wrap (q1.tdiv 32)) w1 fun p4 w5 =>
  cutM (σ := Int × Unit) (fun J6 =>
   loopM (σ := Int × Int × Unit) (fun s9 X10 w11 =>
    (32 : Int) ≠ 0 ∧
    cond (decide (s9.2.1 < (q1.tmod 32)))
    (X10 ((IntKind.u64.wrap (2 * s9.1)), (IntKind.i64.wrap (s9.2.1 + 1)), ()) w11)
    (J6 (s9.1, ()) w11))
   (1, 0, ()) w5)
  (fun s7 w8 =>
   cutM (σ := (Option Addr × Nat × Nat) × Int × Unit) (fun J12 =>
    loopM (σ := (Option Addr × Nat × Nat) × Int × Int × Unit) (fun s15 X16 w17 =>
     cond (decide (s15.2.2.1 < ((s3l : Nat) : Int)))
     ((0 : Int) ≤ s15.2.2.1 ∧ s15.2.2.1 < (s3l : Nat) ∧
      optM s3a fun a18 =>
      ∃ n19, w17.cell? (a18.add (s15.2.2.1.toNat * 1)) = some (.int .u64 n19) ∧
      (4294967296 : Int) ≠ 0 ∧
      newM #[.int .u64 ((IntKind.u64.wrap ((IntKind.u64.wrap (n19 * s7.1)) + s15.2.1)).tmod 4294967296)] N.t_uint64 w17 fun p20 w21 =>
      appM N.t_uint64 1 8 #[.int .u64 0] s15.1.1 s15.1.2.1 s15.1.2.2 (some p20) 1 w21 fun s22a s22l s22c w23 =>
      (4294967296 : Int) ≠ 0 ∧
      X16 ((s22a, s22l, s22c), (IntKind.u64.wrap ((IntKind.u64.wrap ((IntKind.u64.wrap (n19 * s7.1)) + s15.2.1)).tdiv 4294967296)), (IntKind.i64.wrap (s15.2.2.1 + 1)), ()) w23)
     (J12 ((s15.1.1, s15.1.2.1, s15.1.2.2), s15.2.1, ()) w17))
    (((some p4), (IntKind.i64.wrap (q1.tdiv 32)).toNat, (IntKind.i64.wrap (q1.tdiv 32)).toNat), 0, 0, ()) w8)
   (fun s13 w14 =>
    newM #[.int .u64 s13.2.1] N.t_uint64 w14 fun p24 w25 =>
    appM N.t_uint64 1 8 #[.int .u64 0] s13.1.1 s13.1.2.1 s13.1.2.2 (some p24) 1 w25 fun s26a s26l s26c w27 =>
    CallsX P N.f_girderref02_limbs #[.slice s26a s26l s26c] w27 fun v29 w28 =>
    ∃ s30a s30l s30c, v29 = (.slice s30a s30l s30c) ∧
    K (.slice s30a s30l s30c) w28)))

/-- girder/girderref02.up -/
def S_girderref02_up (N : Nums) (P : Program) (q0 : Int) (q1 : Bool) (q2 : Int) (q3 : Bool) (w : World) (K : Value → World → Prop) : Prop :=
 cond (q0 == 1)
 (K (.bool q1) w)
 (cond (q0 == 2)
  (K (.bool (!q1)) w)
  (cond (q0 == 3)
   (K (.bool false) w)
   (cond (!(decide (q2 > 0)))
    (cond (q2 == 0)
     (K (.bool q3) w)
     (K (.bool false) w))
    (K (.bool true) w))))

/-- girder/girderref02.NatAdd -/
def S_girderref02_NatAdd (N : Nums) (P : Program) (q0 : Option Addr) (q0l q0c : Nat) (q1 : Option Addr) (q1l q1c : Nat) (w : World) (K : Value → World → Prop) : Prop :=
 CallsX P N.f_girderref02_halves #[.slice q0 q0l q0c] w fun v2 w1 =>
 ∃ s3a s3l s3c, v2 = (.slice s3a s3l s3c) ∧
 CallsX P N.f_girderref02_halves #[.slice q1 q1l q1c] w1 fun v5 w4 =>
 ∃ s6a s6l s6c, v5 = (.slice s6a s6l s6c) ∧
 cutM (σ := (Option Addr × Nat × Nat) × Unit) (fun J7 =>
  loopM (σ := (Option Addr × Nat × Nat) × Int × Int × Unit) (fun s10 X11 w12 =>
   cutM (σ := Bool × Unit) (fun J13 =>
    cond (!(decide (s10.2.2.1 < ((s3l : Nat) : Int))))
    (cond (!(decide (s10.2.2.1 < ((s6l : Nat) : Int))))
     (J13 ((decide (s10.2.1 > 0)), ()) w12)
     (J13 (true, ()) w12))
    (J13 (true, ()) w12))
   (fun s14 w15 =>
    cond s14.1
    (CallsX P N.f_girderref02_digit #[.slice s3a s3l s3c, .int .i64 s10.2.2.1] w15 fun v17 w16 =>
     ∃ n18, v17 = (.int .u64 n18) ∧
     CallsX P N.f_girderref02_digit #[.slice s6a s6l s6c, .int .i64 s10.2.2.1] w16 fun v20 w19 =>
     ∃ n21, v20 = (.int .u64 n21) ∧
     (4294967296 : Int) ≠ 0 ∧
     newM #[.int .u64 ((IntKind.u64.wrap ((IntKind.u64.wrap (n18 + n21)) + s10.2.1)).tmod 4294967296)] N.t_uint64 w19 fun p22 w23 =>
     appM N.t_uint64 1 8 #[.int .u64 0] s10.1.1 s10.1.2.1 s10.1.2.2 (some p22) 1 w23 fun s24a s24l s24c w25 =>
     (4294967296 : Int) ≠ 0 ∧
     X11 ((s24a, s24l, s24c), (IntKind.u64.wrap ((IntKind.u64.wrap ((IntKind.u64.wrap (n18 + n21)) + s10.2.1)).tdiv 4294967296)), (IntKind.i64.wrap (s10.2.2.1 + 1)), ()) w25)
    (J7 ((s10.1.1, s10.1.2.1, s10.1.2.2), ()) w15)))
  ((none, 0, 0), 0, 0, ()) w4)
 (fun s8 w9 =>
  CallsX P N.f_girderref02_limbs #[.slice s8.1.1 s8.1.2.1 s8.1.2.2] w9 fun v27 w26 =>
  ∃ s28a s28l s28c, v27 = (.slice s28a s28l s28c) ∧
  K (.slice s28a s28l s28c) w26)

/-- girder/girderref02.NatOf -/
def S_girderref02_NatOf (N : Nums) (P : Program) (q0 : Int) (w : World) (K : Value → World → Prop) : Prop :=
 newM #[.int .u64 q0] N.t_uint64 w fun p1 w2 =>
 CallsX P N.f_girderref02_NatTrim #[.slice (some p1) 1 1] w2 fun v4 w3 =>
 ∃ s5a s5l s5c, v4 = (.slice s5a s5l s5c) ∧
 K (.slice s5a s5l s5c) w3

/-- girder/girderref02.NatBits -/
def S_girderref02_NatBits (N : Nums) (P : Program) (q0 : Option Addr) (q0l q0c : Nat) (w : World) (K : Value → World → Prop) : Prop :=
 CallsX P N.f_girderref02_NatTrim #[.slice q0 q0l q0c] w fun v2 w1 =>
 ∃ s3a s3l s3c, v2 = (.slice s3a s3l s3c) ∧
 cond (((s3l : Nat) : Int) == 0)
 (K (.int .i64 0) w1)
 ((0 : Int) ≤ (IntKind.i64.wrap (((s3l : Nat) : Int) - 1)) ∧ (IntKind.i64.wrap (((s3l : Nat) : Int) - 1)) < (s3l : Nat) ∧
  optM s3a fun a4 =>
  ∃ n5, w1.cell? (a4.add ((IntKind.i64.wrap (((s3l : Nat) : Int) - 1)).toNat * 1)) = some (.int .u64 n5) ∧
  cutM (σ := Int × Unit) (fun J6 =>
   loopM (σ := Int × Int × Unit) (fun s9 X10 w11 =>
    cond (decide (s9.2.1 > 0))
    ((2 : Int) ≠ 0 ∧
     X10 ((IntKind.i64.wrap (s9.1 + 1)), (IntKind.u64.wrap (s9.2.1.tdiv 2)), ()) w11)
    (J6 (s9.1, ()) w11))
   ((IntKind.i64.wrap (64 * (IntKind.i64.wrap (((s3l : Nat) : Int) - 1)))), n5, ()) w1)
  (fun s7 w8 =>
   K (.int .i64 s7.1) w8))

/-- girder/girderref02.huge -/
def S_girderref02_huge (N : Nums) (P : Program) (q0 : Int) (q1 : Bool) (w : World) (K : Value → World → Prop) : Prop :=
 CallsX P N.f_girderref01_Join #[.agg #[.bool q1, .int .u64 9007199254740991, .int .i64 971]] w fun v2 w1 =>
 ∃ x3, ∃ b4, v2 = (.tuple #[.float .f64 x3, .bool b4]) ∧
 cutM (σ := Nat × Unit) (fun J5 =>
  cond q1
  (J5 (13830554455654793216, ()) w1)
  (J5 (4607182418800017408, ()) w1))
 (fun s6 w7 =>
  cond (!(q0 == 3))
  (cond (q0 == 1)
   (cond (!(!q1))
    (cond (q0 == 2)
     (cond q1
      (K (.float .f64 x3) w7)
      (fresM (fdiv s6.1 0) w7 fun x8 w9 =>
       K (.float .f64 x8) w9))
     (fresM (fdiv s6.1 0) w7 fun x10 w11 =>
      K (.float .f64 x10) w11))
    (K (.float .f64 x3) w7))
   (cond (q0 == 2)
    (cond q1
     (K (.float .f64 x3) w7)
     (fresM (fdiv s6.1 0) w7 fun x12 w13 =>
      K (.float .f64 x12) w13))
    (fresM (fdiv s6.1 0) w7 fun x14 w15 =>
     K (.float .f64 x14) w15)))
  (K (.float .f64 x3) w7))

/-- girder/girderref02.float -/
def S_girderref02_float (N : Nums) (P : Program) (q0 : Bool) (q1 : Int) (q2 : Int) (w : World) (K : Value → World → Prop) : Prop :=
 cutM (σ := Int × Unit) (fun J1 =>
  cond (q1 == 0)
  (J1 (0, ()) w)
  (J1 (q2, ()) w))
 (fun s2 w3 =>
  cutM (σ := Int × Int × Unit) (fun J4 =>
   loopM (σ := Int × Int × Unit) (fun s7 X8 w9 =>
    cond (decide (s7.1 > 0))
    ((2 : Int) ≠ 0 ∧
     cond ((s7.1.tmod 2) == 0)
     ((2 : Int) ≠ 0 ∧
      X8 ((IntKind.u64.wrap (s7.1.tdiv 2)), (IntKind.i64.wrap (s7.2.1 + 1)), ()) w9)
     (J4 (s7.1, s7.2.1, ()) w9))
    (J4 (s7.1, s7.2.1, ()) w9))
   (q1, s2.1, ()) w3)
  (fun s5 w6 =>
   CallsX P N.f_girderref01_Join #[.agg #[.bool q0, .int .u64 s5.1, .int .i64 s5.2.1]] w6 fun v11 w10 =>
   ∃ x12, ∃ b13, v11 = (.tuple #[.float .f64 x12, .bool b13]) ∧
   K (.float .f64 x12) w10))

/-- (*girder/bignum.Int).TrailingZeroBits -/
def S_p_bignum_Int_TrailingZeroBits (N : Nums) (P : Program) (q0 : Option Addr) (w : World) (K : Value → World → Prop) : Prop :=
 optM q0 fun a1 =>
 ∃ s2a s2l s2c, w.cell? (a1.add 1) = some (.slice s2a s2l s2c) ∧
 cond (((s2l : Nat) : Int) == 0)
 (K (.int .u64 0) w)
 (cutM (σ := Int × Unit) (fun J3 =>
   loopM (σ := Int × Unit) (fun s6 X7 w8 =>
    optM q0 fun a9 =>
    ∃ s10a s10l s10c, w8.cell? (a9.add 1) = some (.slice s10a s10l s10c) ∧
    CallsX P N.f_bignum_bit #[.slice s10a s10l s10c, .int .i64 (IntKind.i64.wrap s6.1)] w8 fun v12 w11 =>
    ∃ n13, v12 = (.int .u64 n13) ∧
    cond (n13 == 0)
    (X7 ((IntKind.u64.wrap (s6.1 + 1)), ()) w11)
    (J3 (s6.1, ()) w11))
   (0, ()) w)
  (fun s4 w5 =>
   K (.int .u64 s4.1) w5))

/-- (*girder/bignum.Int).BitLen -/
def S_p_bignum_Int_BitLen (N : Nums) (P : Program) (q0 : Option Addr) (w : World) (K : Value → World → Prop) : Prop :=
 optM q0 fun a1 =>
 ∃ s2a s2l s2c, w.cell? (a1.add 1) = some (.slice s2a s2l s2c) ∧
 CallsX P N.f_bignum_length #[.slice s2a s2l s2c] w fun v4 w3 =>
 ∃ n5, v4 = (.int .i64 n5) ∧
 K (.int .i64 n5) w3

/-- girder/dyad.limbs -/
def S_dyad_limbs (N : Nums) (P : Program) (q0 : Option Addr) (w : World) (K : Value → World → Prop) : Prop :=
 newM #[.bool false, .slice none 0 0] N.t_bignum_Int w fun p1 w2 =>
 CallsX P N.f_p_bignum_Int_Abs #[.pointer (some p1), .pointer q0] w2 fun v4 w3 =>
 ∃ p5 : (Option Addr), v4 = (.pointer p5) ∧
 newM #[.bool false, .slice none 0 0] N.t_bignum_Int w3 fun p6 w7 =>
 newM #[.bool false, .slice none 0 0] N.t_bignum_Int w7 fun p8 w9 =>
 CallsX P N.f_p_bignum_Int_SetUint64 #[.pointer (some p8), .int .u64 18446744073709551615] w9 fun v11 w10 =>
 ∃ p12 : (Option Addr), v11 = (.pointer p12) ∧
 cutM (σ := (Option Addr × Nat × Nat) × Unit) (fun J13 =>
  loopM (σ := (Option Addr × Nat × Nat) × Unit) (fun s16 X17 w18 =>
   CallsX P N.f_p_bignum_Int_Sign #[.pointer p5] w18 fun v20 w19 =>
   ∃ n21, v20 = (.int .i64 n21) ∧
   cond (decide (n21 > 0))
   (CallsX P N.f_p_bignum_Int_And #[.pointer (some p6), .pointer p5, .pointer p12] w19 fun v23 w22 =>
    ∃ p24 : (Option Addr), v23 = (.pointer p24) ∧
    CallsX P N.f_p_bignum_Int_Uint64 #[.pointer p24] w22 fun v26 w25 =>
    ∃ n27, v26 = (.int .u64 n27) ∧
    newM #[.int .u64 n27] N.t_uint64 w25 fun p28 w29 =>
    appM N.t_uint64 1 8 #[.int .u64 0] s16.1.1 s16.1.2.1 s16.1.2.2 (some p28) 1 w29 fun s30a s30l s30c w31 =>
    CallsX P N.f_p_bignum_Int_Rsh #[.pointer p5, .pointer p5, .int .u64 64] w31 fun v33 w32 =>
    ∃ p34 : (Option Addr), v33 = (.pointer p34) ∧
    X17 ((s30a, s30l, s30c), ()) w32)
   (J13 ((s16.1.1, s16.1.2.1, s16.1.2.2), ()) w19))
  ((none, 0, 0), ()) w10)
 (fun s14 w15 =>
  K (.slice s14.1.1 s14.1.2.1 s14.1.2.2) w15)

/-- girder/girderref02.halves -/
def S_girderref02_halves (N : Nums) (P : Program) (q0 : Option Addr) (q0l q0c : Nat) (w : World) (K : Value → World → Prop) : Prop :=
 cutM (σ := (Option Addr × Nat × Nat) × Unit) (fun J1 =>
  loopM (σ := (Option Addr × Nat × Nat) × Int × Unit) (fun s4 X5 w6 =>
   cond (decide (s4.2.1 < ((q0l : Nat) : Int)))
   ((0 : Int) ≤ s4.2.1 ∧ s4.2.1 < (q0l : Nat) ∧
    optM q0 fun a7 =>
    ∃ n8, w6.cell? (a7.add (s4.2.1.toNat * 1)) = some (.int .u64 n8) ∧
    (4294967296 : Int) ≠ 0 ∧
    (0 : Int) ≤ s4.2.1 ∧ s4.2.1 < (q0l : Nat) ∧
    optM q0 fun a9 =>
    ∃ n10, w6.cell? (a9.add (s4.2.1.toNat * 1)) = some (.int .u64 n10) ∧
    (4294967296 : Int) ≠ 0 ∧
    drM w6 fun w11 =>
    newM #[.int .u64 (n8.tmod 4294967296), .int .u64 (IntKind.u64.wrap (n10.tdiv 4294967296))] N.t_uint64 w11 fun p12 w13 =>
    drM w13 fun w14 =>
    appM N.t_uint64 1 8 #[.int .u64 0] s4.1.1 s4.1.2.1 s4.1.2.2 (some p12) 2 w14 fun s15a s15l s15c w16 =>
    drM w16 fun w17 =>
    X5 ((s15a, s15l, s15c), (IntKind.i64.wrap (s4.2.1 + 1)), ()) w17)
   (J1 ((s4.1.1, s4.1.2.1, s4.1.2.2), ()) w6))
  ((none, 0, 0), 0, ()) w)
 (fun s2 w3 =>
  CallsX P N.f_girderref02_low #[.slice s2.1.1 s2.1.2.1 s2.1.2.2] w3 fun v19 w18 =>
  ∃ s20a s20l s20c, v19 = (.slice s20a s20l s20c) ∧
  K (.slice s20a s20l s20c) w18)

/-- girder/girderref02.short -/
def S_girderref02_short (N : Nums) (P : Program) (q0 : Option Addr) (q0l q0c : Nat) (q1 : Int) (w : World) (K : Value → World → Prop) : Prop :=
 mkM N.t_uint64 1 8 #[.int .u64 0] ((q0l : Nat) : Int) ((q0l : Nat) : Int) w fun p1 w2 =>
 cutM (σ := Int × Unit) (fun J3 =>
  loopM (σ := Int × Int × Unit) (fun s6 X7 w8 =>
   cond (decide (s6.2.1 ≥ 0))
   ((0 : Int) ≤ s6.2.1 ∧ s6.2.1 < (q0l : Nat) ∧
    optM q0 fun a9 =>
    ∃ n10, w8.cell? (a9.add (s6.2.1.toNat * 1)) = some (.int .u64 n10) ∧
    (q1 : Int) ≠ 0 ∧
    (0 : Int) ≤ s6.2.1 ∧ s6.2.1 < (((q0l : Nat) : Int).toNat : Nat) ∧
    stM (p1.add (s6.2.1.toNat * 1)) (.int .u64 (IntKind.u64.wrap ((IntKind.u64.wrap ((IntKind.u64.wrap (s6.1 * 4294967296)) + n10)).tdiv q1))) w8 fun w11 =>
    (q1 : Int) ≠ 0 ∧
    X7 (((IntKind.u64.wrap ((IntKind.u64.wrap (s6.1 * 4294967296)) + n10)).tmod q1), (IntKind.i64.wrap (s6.2.1 - 1)), ()) w11)
   (J3 (s6.1, ()) w8))
  (0, (IntKind.i64.wrap (((q0l : Nat) : Int) - 1)), ()) w2)
 (fun s4 w5 =>
  CallsX P N.f_girderref02_low #[.slice (some p1) (((q0l : Nat) : Int).toNat) (((q0l : Nat) : Int).toNat)] w5 fun v13 w12 =>
  ∃ s14a s14l s14c, v13 = (.slice s14a s14l s14c) ∧
  K (.tuple #[.slice s14a s14l s14c, .int .u64 s4.1]) w12)

/-- girder/girderref02.limbs -/
def S_girderref02_limbs (N : Nums) (P : Program) (q0 : Option Addr) (q0l q0c : Nat) (w : World) (K : Value → World → Prop) : Prop :=
 cutM (σ := (Option Addr × Nat × Nat) × Unit) (fun J1 =>
  loopM (σ := (Option Addr × Nat × Nat) × Int × Unit) (fun s4 X5 w6 =>
   cond (decide (s4.2.1 < ((q0l : Nat) : Int)))
   ((0 : Int) ≤ s4.2.1 ∧ s4.2.1 < (q0l : Nat) ∧
    optM q0 fun a7 =>
    ∃ n8, w6.cell? (a7.add (s4.2.1.toNat * 1)) = some (.int .u64 n8) ∧
    cutM (σ := Int × Unit) (fun J9 =>
     cond (decide ((IntKind.i64.wrap (s4.2.1 + 1)) < ((q0l : Nat) : Int)))
     ((0 : Int) ≤ (IntKind.i64.wrap (s4.2.1 + 1)) ∧ (IntKind.i64.wrap (s4.2.1 + 1)) < (q0l : Nat) ∧
      optM q0 fun a12 =>
      ∃ n13, w6.cell? (a12.add ((IntKind.i64.wrap (s4.2.1 + 1)).toNat * 1)) = some (.int .u64 n13) ∧
      J9 ((IntKind.u64.wrap (n8 + (IntKind.u64.wrap (4294967296 * n13)))), ()) w6)
     (J9 (n8, ()) w6))
    (fun s10 w11 =>
     newM #[.int .u64 s10.1] N.t_uint64 w11 fun p14 w15 =>
     appM N.t_uint64 1 8 #[.int .u64 0] s4.1.1 s4.1.2.1 s4.1.2.2 (some p14) 1 w15 fun s16a s16l s16c w17 =>
     X5 ((s16a, s16l, s16c), (IntKind.i64.wrap (s4.2.1 + 2)), ()) w17))
   (J1 ((s4.1.1, s4.1.2.1, s4.1.2.2), ()) w6))
  ((none, 0, 0), 0, ()) w)
 (fun s2 w3 =>
  CallsX P N.f_girderref02_NatTrim #[.slice s2.1.1 s2.1.2.1 s2.1.2.2] w3 fun v19 w18 =>
  ∃ s20a s20l s20c, v19 = (.slice s20a s20l s20c) ∧
  K (.slice s20a s20l s20c) w18)

/-- girder/girderref01.Split -/
def S_girderref01_Split (N : Nums) (P : Program) (q0 : Nat) (w : World) (K : Value → World → Prop) : Prop :=
 newM #[.bool false, .int .u64 0, .int .i64 0] N.t_Parts w fun p1 w2 =>
 CallsX P N.f_girderref01_Finite #[.float .f64 q0] w2 fun v4 w3 =>
 ∃ b5, v4 = (.bool b5) ∧
 cond (!b5)
 (stM p1 (.bool false) w3 fun w6 =>
  stM (p1.add 1) (.int .u64 0) w6 fun w7 =>
  stM (p1.add 2) (.int .i64 0) w7 fun w8 =>
  ∃ b9, w8.cell? p1 = some (.bool b9) ∧
  ∃ n10, w8.cell? (p1.add 1) = some (.int .u64 n10) ∧
  ∃ n11, w8.cell? (p1.add 2) = some (.int .i64 n11) ∧
  K (.tuple #[.agg #[.bool b9, .int .u64 n10, .int .i64 n11], .bool false]) w8)
 (CallsX P N.f_girderref01_fields #[.float .f64 q0] w3 fun v13 w12 =>
  ∃ b14, ∃ n15, ∃ n16, v13 = (.tuple #[.bool b14, .int .i64 n15, .int .u64 n16]) ∧
  newM #[.bool false, .int .u64 0, .int .i64 0] N.t_Parts w12 fun p17 w18 =>
  stM p17 (.bool b14) w18 fun w19 =>
  stM (p17.add 1) (.int .u64 n16) w19 fun w20 =>
  stM (p17.add 2) (.int .i64 (-1074)) w20 fun w21 =>
  cutM (σ := Unit) (fun J22 =>
   cond (decide (n15 > 0))
   (stM (p17.add 1) (.int .u64 (IntKind.u64.wrap (n16 + 4503599627370496))) w21 fun w25 =>
    stM (p17.add 2) (.int .i64 (IntKind.i64.wrap (n15 - 1075))) w25 fun w26 =>
    J22 (()) w26)
   (J22 (()) w21))
  (fun s23 w24 =>
   ∃ n27, w24.cell? (p17.add 1) = some (.int .u64 n27) ∧
   cutM (σ := Unit) (fun J28 =>
    cond (n27 == 0)
    (stM (p17.add 2) (.int .i64 0) w24 fun w31 =>
     J28 (()) w31)
    (J28 (()) w24))
   (fun s29 w30 =>
    cutM (σ := Unit) (fun J32 =>
     loopM (σ := Unit) (fun s35 X36 w37 =>
      ∃ n38, w37.cell? (p17.add 1) = some (.int .u64 n38) ∧
      cond (n38 != 0)
      (∃ n39, w37.cell? (p17.add 1) = some (.int .u64 n39) ∧
       (2 : Int) ≠ 0 ∧
       cond ((n39.tmod 2) == 0)
       (∃ n40, w37.cell? (p17.add 1) = some (.int .u64 n40) ∧
        (2 : Int) ≠ 0 ∧
        stM (p17.add 1) (.int .u64 (IntKind.u64.wrap (n40.tdiv 2))) w37 fun w41 =>
        ∃ n42, w41.cell? (p17.add 2) = some (.int .i64 n42) ∧
        stM (p17.add 2) (.int .i64 (IntKind.i64.wrap (n42 + 1))) w41 fun w43 =>
        X36 (()) w43)
       (J32 (()) w37))
      (J32 (()) w37))
     (()) w30)
    (fun s33 w34 =>
     ∃ b44, w34.cell? p17 = some (.bool b44) ∧
     ∃ n45, w34.cell? (p17.add 1) = some (.int .u64 n45) ∧
     ∃ n46, w34.cell? (p17.add 2) = some (.int .i64 n46) ∧
     stM p1 (.bool b44) w34 fun w47 =>
     stM (p1.add 1) (.int .u64 n45) w47 fun w48 =>
     stM (p1.add 2) (.int .i64 n46) w48 fun w49 =>
     ∃ b50, w49.cell? p1 = some (.bool b50) ∧
     ∃ n51, w49.cell? (p1.add 1) = some (.int .u64 n51) ∧
     ∃ n52, w49.cell? (p1.add 2) = some (.int .i64 n52) ∧
     K (.tuple #[.agg #[.bool b50, .int .u64 n51, .int .i64 n52], .bool true]) w49))))

/-- girder/bignum.mul -/
def S_bignum_mul (N : Nums) (P : Program) (q0 : Option Addr) (q0l q0c : Nat) (q1 : Option Addr) (q1l q1c : Nat) (w : World) (K : Value → World → Prop) : Prop :=
 cutM (σ := Bool × Unit) (fun J1 =>
  cond (!(((q0l : Nat) : Int) == 0))
  (J1 ((((q1l : Nat) : Int) == 0), ()) w)
  (J1 (true, ()) w))
 (fun s2 w3 =>
  cond s2.1
  (K (.slice none 0 0) w3)
  (mkM N.t_uint32 1 4 #[.int .u32 0] (IntKind.i64.wrap (((q0l : Nat) : Int) + ((q1l : Nat) : Int))) (IntKind.i64.wrap (((q0l : Nat) : Int) + ((q1l : Nat) : Int))) w3 fun p4 w5 =>
   cutM (σ := Unit) (fun J6 =>
    loopM (σ := Int × Unit) (fun s9 X10 w11 =>
     cond (decide (s9.1 < ((q0l : Nat) : Int)))
     (cutM (σ := Int × Unit) (fun J12 =>
       loopM (σ := Int × Int × Unit) (fun s15 X16 w17 =>
        cond (decide (s15.2.1 < ((q1l : Nat) : Int)))
        ((0 : Int) ≤ s9.1 ∧ s9.1 < (q0l : Nat) ∧
         optM q0 fun a18 =>
         ∃ n19, w17.cell? (a18.add (s9.1.toNat * 1)) = some (.int .u32 n19) ∧
         (0 : Int) ≤ s15.2.1 ∧ s15.2.1 < (q1l : Nat) ∧
         optM q1 fun a20 =>
         ∃ n21, w17.cell? (a20.add (s15.2.1.toNat * 1)) = some (.int .u32 n21) ∧
         (0 : Int) ≤ (IntKind.i64.wrap (s9.1 + s15.2.1)) ∧ (IntKind.i64.wrap (s9.1 + s15.2.1)) < ((IntKind.i64.wrap (((q0l : Nat) : Int) + ((q1l : Nat) : Int))).toNat : Nat) ∧
         ∃ n22, w17.cell? (p4.add ((IntKind.i64.wrap (s9.1 + s15.2.1)).toNat * 1)) = some (.int .u32 n22) ∧
         drM w17 fun w23 =>
         (0 : Int) ≤ (IntKind.i64.wrap (s9.1 + s15.2.1)) ∧ (IntKind.i64.wrap (s9.1 + s15.2.1)) < ((IntKind.i64.wrap (((q0l : Nat) : Int) + ((q1l : Nat) : Int))).toNat : Nat) ∧
         stM (p4.add ((IntKind.i64.wrap (s9.1 + s15.2.1)).toNat * 1)) (.int .u32 (IntKind.u32.wrap (IntKind.u64.wrap (s15.1 + (IntKind.u64.wrap ((IntKind.u64.wrap ((IntKind.u64.wrap n19) * (IntKind.u64.wrap n21))) + (IntKind.u64.wrap n22))))))) w23 fun w24 =>
         (0 : Int) ≤ 32 ∧
         X16 (((IntKind.u64.wrap (s15.1 + (IntKind.u64.wrap ((IntKind.u64.wrap ((IntKind.u64.wrap n19) * (IntKind.u64.wrap n21))) + (IntKind.u64.wrap n22))))).fdiv (2 ^ (min (32 : Int).toNat IntKind.u64.bits))), (IntKind.i64.wrap (s15.2.1 + 1)), ()) w24)
        (J12 (s15.1, ()) w17))
       (0, 0, ()) w11)
      (fun s13 w14 =>
       (0 : Int) ≤ (IntKind.i64.wrap (s9.1 + ((q1l : Nat) : Int))) ∧ (IntKind.i64.wrap (s9.1 + ((q1l : Nat) : Int))) < ((IntKind.i64.wrap (((q0l : Nat) : Int) + ((q1l : Nat) : Int))).toNat : Nat) ∧
       stM (p4.add ((IntKind.i64.wrap (s9.1 + ((q1l : Nat) : Int))).toNat * 1)) (.int .u32 (IntKind.u32.wrap s13.1)) w14 fun w25 =>
       X10 ((IntKind.i64.wrap (s9.1 + 1)), ()) w25))
     (J6 (()) w11))
    (0, ()) w5)
   (fun s7 w8 =>
    CallsX P N.f_bignum_trim #[.slice (some p4) ((IntKind.i64.wrap (((q0l : Nat) : Int) + ((q1l : Nat) : Int))).toNat) ((IntKind.i64.wrap (((q0l : Nat) : Int) + ((q1l : Nat) : Int))).toNat)] w8 fun v27 w26 =>
    ∃ s28a s28l s28c, v27 = (.slice s28a s28l s28c) ∧
    K (.slice s28a s28l s28c) w26)))

/-- girder/girderref02.NatCmp -/
def S_girderref02_NatCmp (N : Nums) (P : Program) (q0 : Option Addr) (q0l q0c : Nat) (q1 : Option Addr) (q1l q1c : Nat) (w : World) (K : Value → World → Prop) : Prop :=
 CallsX P N.f_girderref02_NatTrim #[.slice q0 q0l q0c] w fun v2 w1 =>
 ∃ s3a s3l s3c, v2 = (.slice s3a s3l s3c) ∧
 CallsX P N.f_girderref02_NatTrim #[.slice q1 q1l q1c] w1 fun v5 w4 =>
 ∃ s6a s6l s6c, v5 = (.slice s6a s6l s6c) ∧
 cond (((s3l : Nat) : Int) != ((s6l : Nat) : Int))
 (cond (decide (((s3l : Nat) : Int) < ((s6l : Nat) : Int)))
  (K (.int .i64 (-1)) w4)
  (K (.int .i64 1) w4))
 (cutM (σ := Unit) (fun J7 =>
   loopM (σ := Int × Unit) (fun s10 X11 w12 =>
    cond (decide (s10.1 ≥ 0))
    ((0 : Int) ≤ s10.1 ∧ s10.1 < (s3l : Nat) ∧
     optM s3a fun a13 =>
     ∃ n14, w12.cell? (a13.add (s10.1.toNat * 1)) = some (.int .u64 n14) ∧
     (0 : Int) ≤ s10.1 ∧ s10.1 < (s6l : Nat) ∧
     optM s6a fun a15 =>
     ∃ n16, w12.cell? (a15.add (s10.1.toNat * 1)) = some (.int .u64 n16) ∧
     drM w12 fun w17 =>
     cond (decide (n14 < n16))
     (K (.int .i64 (-1)) w17)
     ((0 : Int) ≤ s10.1 ∧ s10.1 < (s3l : Nat) ∧
      optM s3a fun a18 =>
      ∃ n19, w17.cell? (a18.add (s10.1.toNat * 1)) = some (.int .u64 n19) ∧
      (0 : Int) ≤ s10.1 ∧ s10.1 < (s6l : Nat) ∧
      optM s6a fun a20 =>
      ∃ n21, w17.cell? (a20.add (s10.1.toNat * 1)) = some (.int .u64 n21) ∧
      drM w17 fun w22 =>
      cond (decide (n19 > n21))
      (K (.int .i64 1) w22)
      (X11 ((IntKind.i64.wrap (s10.1 - 1)), ()) w22)))
    (J7 (()) w12))
   ((IntKind.i64.wrap (((s3l : Nat) : Int) - 1)), ()) w4)
  (fun s8 w9 =>
   K (.int .i64 0) w9))

/-- girder/girderref02.NatSub -/
def S_girderref02_NatSub (N : Nums) (P : Program) (q0 : Option Addr) (q0l q0c : Nat) (q1 : Option Addr) (q1l q1c : Nat) (w : World) (K : Value → World → Prop) : Prop :=
 CallsX P N.f_girderref02_halves #[.slice q0 q0l q0c] w fun v2 w1 =>
 ∃ s3a s3l s3c, v2 = (.slice s3a s3l s3c) ∧
 CallsX P N.f_girderref02_halves #[.slice q1 q1l q1c] w1 fun v5 w4 =>
 ∃ s6a s6l s6c, v5 = (.slice s6a s6l s6c) ∧
 cutM (σ := (Option Addr × Nat × Nat) × Unit) (fun J7 =>
  loopM (σ := (Option Addr × Nat × Nat) × Int × Int × Unit) (fun s10 X11 w12 =>
   cond (decide (s10.2.2.1 < ((s3l : Nat) : Int)))
   ((0 : Int) ≤ s10.2.2.1 ∧ s10.2.2.1 < (s3l : Nat) ∧
    optM s3a fun a13 =>
    ∃ n14, w12.cell? (a13.add (s10.2.2.1.toNat * 1)) = some (.int .u64 n14) ∧
    drM w12 fun w15 =>
    CallsX P N.f_girderref02_digit #[.slice s6a s6l s6c, .int .i64 s10.2.2.1] w15 fun v17 w16 =>
    ∃ n18, v17 = (.int .u64 n18) ∧
    w16.cell? (a13.add (s10.2.2.1.toNat * 1)) = some (.int .u64 n14) ∧
    drM w16 fun w19 =>
    (4294967296 : Int) ≠ 0 ∧
    newM #[.int .u64 ((IntKind.u64.wrap ((IntKind.u64.wrap ((IntKind.u64.wrap (4294967296 + n14)) - n18)) - s10.2.1)).tmod 4294967296)] N.t_uint64 w19 fun p20 w21 =>
    appM N.t_uint64 1 8 #[.int .u64 0] s10.1.1 s10.1.2.1 s10.1.2.2 (some p20) 1 w21 fun s22a s22l s22c w23 =>
    (4294967296 : Int) ≠ 0 ∧
    X11 ((s22a, s22l, s22c), (IntKind.u64.wrap (1 - (IntKind.u64.wrap ((IntKind.u64.wrap ((IntKind.u64.wrap ((IntKind.u64.wrap (4294967296 + n14)) - n18)) - s10.2.1)).tdiv 4294967296)))), (IntKind.i64.wrap (s10.2.2.1 + 1)), ()) w23)
   (J7 ((s10.1.1, s10.1.2.1, s10.1.2.2), ()) w12))
  ((none, 0, 0), 0, 0, ()) w4)
 (fun s8 w9 =>
  CallsX P N.f_girderref02_limbs #[.slice s8.1.1 s8.1.2.1 s8.1.2.2] w9 fun v25 w24 =>
  ∃ s26a s26l s26c, v25 = (.slice s26a s26l s26c) ∧
  K (.slice s26a s26l s26c) w24)

/-- girder/bits.Kind -/
def S_bits_Kind (N : Nums) (P : Program) (q0 : Nat) (w : World) (K : Value → World → Prop) : Prop :=
 CallsX P N.f_math_Abs #[.float .f64 q0] w fun v2 w1 =>
 ∃ x3, v2 = (.float .f64 x3) ∧
 cond (!feq q0 q0)
 (K (.int .i64 4) w1)
 (CallsX P N.f_math_IsInf #[.float .f64 q0, .int .i64 0] w1 fun v5 w4 =>
  ∃ b6, v5 = (.bool b6) ∧
  cond b6
  (K (.int .i64 3) w4)
  (cond (fgt x3 4503599627370496 || feq x3 4503599627370496)
   (K (.int .i64 2) w4)
   (cond (fgt x3 0)
    (K (.int .i64 1) w4)
    (K (.int .i64 0) w4))))

/-- math.Signbit -/
def S_math_Signbit (N : Nums) (P : Program) (q0 : Nat) (w : World) (K : Value → World → Prop) : Prop :=
 CallsX P N.f_math_Float64bits #[.float .f64 q0] w fun v2 w1 =>
 ∃ n3, v2 = (.int .u64 n3) ∧
 K (.bool (decide ((IntKind.i64.wrap n3) < 0))) w1

/-- math.Frexp -/
def S_math_Frexp (N : Nums) (P : Program) (q0 : Nat) (w : World) (K : Value → World → Prop) : Prop :=
 CallsX P N.f_math_frexp #[.float .f64 q0] w fun v2 w1 =>
 ∃ x3, ∃ n4, v2 = (.tuple #[.float .f64 x3, .int .i64 n4]) ∧
 K (.tuple #[.float .f64 x3, .int .i64 n4]) w1

/-- math.Abs -/
def S_math_Abs (N : Nums) (P : Program) (q0 : Nat) (w : World) (K : Value → World → Prop) : Prop :=
 CallsX P N.f_math_Float64bits #[.float .f64 q0] w fun v2 w1 =>
 ∃ n3, v2 = (.int .u64 n3) ∧
 CallsX P N.f_math_Float64frombits #[.int .u64 (IntKind.u64.wrap (BitVec.ofInt IntKind.u64.bits n3 &&& ~~~BitVec.ofInt IntKind.u64.bits 9223372036854775808).toNat)] w1 fun v5 w4 =>
 ∃ x6, v5 = (.float .f64 x6) ∧
 K (.float .f64 x6) w4

/-- math.Ldexp -/
def S_math_Ldexp (N : Nums) (P : Program) (q0 : Nat) (q1 : Int) (w : World) (K : Value → World → Prop) : Prop :=
 CallsX P N.f_math_ldexp #[.float .f64 q0, .int .i64 q1] w fun v2 w1 =>
 ∃ x3, v2 = (.float .f64 x3) ∧
 K (.float .f64 x3) w1

/-- (*girder/bignum.Int).low -/
def S_p_bignum_Int_low (N : Nums) (P : Program) (q0 : Option Addr) (q1 : Int) (w : World) (K : Value → World → Prop) : Prop :=
 mkM N.t_uint32 1 4 #[.int .u32 0] q1 q1 w fun p1 w2 =>
 optM q0 fun a3 =>
 ∃ s4a s4l s4c, w2.cell? (a3.add 1) = some (.slice s4a s4l s4c) ∧
 copM 1 (some p1) q1.toNat s4a s4l w2 fun w5 =>
 optM q0 fun a6 =>
 ∃ b7, w5.cell? a6 = some (.bool b7) ∧
 cutM (σ := Unit) (fun J8 =>
  cond b7
  (cutM (σ := Unit) (fun J11 =>
    loopM (σ := Int × Int × Unit) (fun s14 X15 w16 =>
     cond (decide (s14.2.1 < q1))
     ((0 : Int) ≤ s14.2.1 ∧ s14.2.1 < (q1.toNat : Nat) ∧
      ∃ n17, w16.cell? (p1.add (s14.2.1.toNat * 1)) = some (.int .u32 n17) ∧
      (0 : Int) ≤ s14.2.1 ∧ s14.2.1 < (q1.toNat : Nat) ∧
      stM (p1.add (s14.2.1.toNat * 1)) (.int .u32 (IntKind.u32.wrap (IntKind.u64.wrap (s14.1 + (IntKind.u64.wrap (IntKind.u32.wrap (BitVec.ofInt IntKind.u32.bits (IntKind.u32.max) ^^^ BitVec.ofInt IntKind.u32.bits n17).toNat)))))) w16 fun w18 =>
      (0 : Int) ≤ 32 ∧
      X15 (((IntKind.u64.wrap (s14.1 + (IntKind.u64.wrap (IntKind.u32.wrap (BitVec.ofInt IntKind.u32.bits (IntKind.u32.max) ^^^ BitVec.ofInt IntKind.u32.bits n17).toNat)))).fdiv (2 ^ (min (32 : Int).toNat IntKind.u64.bits))), (IntKind.i64.wrap (s14.2.1 + 1)), ()) w18)
     (J11 (()) w16))
    (1, 0, ()) w5)
   (fun s12 w13 =>
    J8 (()) w13))
  (J8 (()) w5))
 (fun s9 w10 =>
  K (.slice (some p1) q1.toNat q1.toNat) w10)

/-- (*girder/bignum.Int).of -/
def S_p_bignum_Int_of (N : Nums) (P : Program) (q0 : Option Addr) (q1 : Option Addr) (q1l q1c : Nat) (w : World) (K : Value → World → Prop) : Prop :=
 cutM (σ := Bool × Unit) (fun J1 =>
  cond (decide (((q1l : Nat) : Int) > 0))
  ((0 : Int) ≤ (IntKind.i64.wrap (((q1l : Nat) : Int) - 1)) ∧ (IntKind.i64.wrap (((q1l : Nat) : Int) - 1)) < (q1l : Nat) ∧
   optM q1 fun a4 =>
   ∃ n5, w.cell? (a4.add ((IntKind.i64.wrap (((q1l : Nat) : Int) - 1)).toNat * 1)) = some (.int .u32 n5) ∧
   (0 : Int) ≤ 31 ∧
   J1 (((n5.fdiv (2 ^ (min (31 : Int).toNat IntKind.u32.bits))) == 1), ()) w)
  (J1 (false, ()) w))
 (fun s2 w3 =>
  cond s2.1
  (cutM (σ := Unit) (fun J6 =>
    loopM (σ := Int × Int × Unit) (fun s9 X10 w11 =>
     cond (decide (s9.2.1 < ((q1l : Nat) : Int)))
     ((0 : Int) ≤ s9.2.1 ∧ s9.2.1 < (q1l : Nat) ∧
      optM q1 fun a12 =>
      ∃ n13, w11.cell? (a12.add (s9.2.1.toNat * 1)) = some (.int .u32 n13) ∧
      (0 : Int) ≤ s9.2.1 ∧ s9.2.1 < (q1l : Nat) ∧
      optM q1 fun a14 =>
      stM (a14.add (s9.2.1.toNat * 1)) (.int .u32 (IntKind.u32.wrap (IntKind.u64.wrap (s9.1 + (IntKind.u64.wrap (IntKind.u32.wrap (BitVec.ofInt IntKind.u32.bits (IntKind.u32.max) ^^^ BitVec.ofInt IntKind.u32.bits n13).toNat)))))) w11 fun w15 =>
      (0 : Int) ≤ 32 ∧
      X10 (((IntKind.u64.wrap (s9.1 + (IntKind.u64.wrap (IntKind.u32.wrap (BitVec.ofInt IntKind.u32.bits (IntKind.u32.max) ^^^ BitVec.ofInt IntKind.u32.bits n13).toNat)))).fdiv (2 ^ (min (32 : Int).toNat IntKind.u64.bits))), (IntKind.i64.wrap (s9.2.1 + 1)), ()) w15)
     (J6 (()) w11))
    (1, 0, ()) w3)
   (fun s7 w8 =>
    CallsX P N.f_bignum_trim #[.slice q1 q1l q1c] w8 fun v17 w16 =>
    ∃ s18a s18l s18c, v17 = (.slice s18a s18l s18c) ∧
    CallsX P N.f_p_bignum_Int_give #[.pointer q0, .bool true, .slice s18a s18l s18c] w16 fun v20 w19 =>
    ∃ p21 : (Option Addr), v20 = (.pointer p21) ∧
    K (.pointer p21) w19))
  (CallsX P N.f_bignum_trim #[.slice q1 q1l q1c] w3 fun v23 w22 =>
   ∃ s24a s24l s24c, v23 = (.slice s24a s24l s24c) ∧
   CallsX P N.f_p_bignum_Int_give #[.pointer q0, .bool false, .slice s24a s24l s24c] w22 fun v26 w25 =>
   ∃ p27 : (Option Addr), v26 = (.pointer p27) ∧
   K (.pointer p27) w25))

/-- girder/bignum.words -/
def S_bignum_words (N : Nums) (P : Program) (q0 : Int) (w : World) (K : Value → World → Prop) : Prop :=
 (0 : Int) ≤ 32 ∧
 newM #[.int .u32 (IntKind.u32.wrap q0), .int .u32 (IntKind.u32.wrap (q0.fdiv (2 ^ (min (32 : Int).toNat IntKind.u64.bits))))] N.t_uint32 w fun p1 w2 =>
 CallsX P N.f_bignum_trim #[.slice (some p1) 2 2] w2 fun v4 w3 =>
 ∃ s5a s5l s5c, v4 = (.slice s5a s5l s5c) ∧
 K (.slice s5a s5l s5c) w3

/-- girder/bignum.trim -/
def S_bignum_trim (N : Nums) (P : Program) (q0 : Option Addr) (q0l q0c : Nat) (w : World) (K : Value → World → Prop) : Prop :=
 cutM (σ := Int × Unit) (fun J1 =>
  loopM (σ := Int × Unit) (fun s4 X5 w6 =>
   cond (decide (s4.1 > 0))
   ((0 : Int) ≤ (IntKind.i64.wrap (s4.1 - 1)) ∧ (IntKind.i64.wrap (s4.1 - 1)) < (q0l : Nat) ∧
    optM q0 fun a7 =>
    ∃ n8, w6.cell? (a7.add ((IntKind.i64.wrap (s4.1 - 1)).toNat * 1)) = some (.int .u32 n8) ∧
    cond (n8 == 0)
    (X5 ((IntKind.i64.wrap (s4.1 - 1)), ()) w6)
    (J1 (s4.1, ()) w6))
   (J1 (s4.1, ()) w6))
  (((q0l : Nat) : Int), ()) w)
 (fun s2 w3 =>
  (0 : Int) ≤ s2.1 ∧ s2.1 ≤ (q0c : Nat) ∧
  K (.slice (slBase q0 0 q0c 1) s2.1.toNat q0c) w3)

/-- math.Copysign -/
def S_math_Copysign (N : Nums) (P : Program) (q0 : Nat) (q1 : Nat) (w : World) (K : Value → World → Prop) : Prop :=
 CallsX P N.f_math_Float64bits #[.float .f64 q0] w fun v2 w1 =>
 ∃ n3, v2 = (.int .u64 n3) ∧
 CallsX P N.f_math_Float64bits #[.float .f64 q1] w1 fun v5 w4 =>
 ∃ n6, v5 = (.int .u64 n6) ∧
 CallsX P N.f_math_Float64frombits #[.int .u64 (IntKind.u64.wrap (BitVec.ofInt IntKind.u64.bits (IntKind.u64.wrap (BitVec.ofInt IntKind.u64.bits n3 &&& ~~~BitVec.ofInt IntKind.u64.bits 9223372036854775808).toNat) ||| BitVec.ofInt IntKind.u64.bits (IntKind.u64.wrap (BitVec.ofInt IntKind.u64.bits n6 &&& BitVec.ofInt IntKind.u64.bits 9223372036854775808).toNat)).toNat)] w4 fun v8 w7 =>
 ∃ x9, v8 = (.float .f64 x9) ∧
 K (.float .f64 x9) w7

/-- girder/bits.Place -/
def S_bits_Place (N : Nums) (P : Program) (q0 : Nat) (w : World) (K : Value → World → Prop) : Prop :=
 cond (!feq q0 q0)
 (K (.tuple #[.int .i64 0, .bool false]) w)
 (CallsX P N.f_math_Abs #[.float .f64 q0] w fun v2 w1 =>
  ∃ x3, v2 = (.float .f64 x3) ∧
  CallsX P N.f_math_Float64bits #[.float .f64 x3] w1 fun v5 w4 =>
  ∃ n6, v5 = (.int .u64 n6) ∧
  cutM (σ := Int × Unit) (fun J7 =>
   cond (flt q0 0)
   (J7 ((IntKind.i64.wrap (0 - (IntKind.i64.wrap n6))), ()) w4)
   (J7 ((IntKind.i64.wrap n6), ()) w4))
  (fun s8 w9 =>
   K (.tuple #[.int .i64 s8.1, .bool true]) w9))

/-- girder/bits.At -/
def S_bits_At (N : Nums) (P : Program) (q0 : Int) (w : World) (K : Value → World → Prop) : Prop :=
 cond (!(decide (q0 > 9218868437227405312)))
 (cond (decide (q0 < (-9218868437227405312)))
  (K (.tuple #[.float .f64 0, .bool false]) w)
  (cond (decide (q0 < 0))
   (CallsX P N.f_math_Float64frombits #[.int .u64 (IntKind.u64.wrap (IntKind.i64.wrap (0 - q0)))] w fun v2 w1 =>
    ∃ x3, v2 = (.float .f64 x3) ∧
    K (.tuple #[.float .f64 (fneg x3), .bool true]) w1)
   (CallsX P N.f_math_Float64frombits #[.int .u64 (IntKind.u64.wrap q0)] w fun v5 w4 =>
    ∃ x6, v5 = (.float .f64 x6) ∧
    K (.tuple #[.float .f64 x6, .bool true]) w4)))
 (K (.tuple #[.float .f64 0, .bool false]) w)

/-- girder/girderref02.digit -/
def S_girderref02_digit (N : Nums) (P : Program) (q0 : Option Addr) (q0l q0c : Nat) (q1 : Int) (w : World) (K : Value → World → Prop) : Prop :=
 cond (decide (q1 < ((q0l : Nat) : Int)))
 ((0 : Int) ≤ q1 ∧ q1 < (q0l : Nat) ∧
  optM q0 fun a1 =>
  ∃ n2, w.cell? (a1.add (q1.toNat * 1)) = some (.int .u64 n2) ∧
  K (.int .u64 n2) w)
 (K (.int .u64 0) w)

/-- girder/girderref01.Join -/
def S_girderref01_Join (N : Nums) (P : Program) (q0_0 : Bool) (q0_1 : Int) (q0_2 : Int) (w : World) (K : Value → World → Prop) : Prop :=
 newM #[.bool q0_0, .int .u64 q0_1, .int .i64 q0_2] N.t_Parts w fun p1 w2 =>
 cutM (σ := Bool × Unit) (fun J3 =>
  ∃ n6, w2.cell? (p1.add 1) = some (.int .u64 n6) ∧
  cond (!(decide (n6 ≥ 9007199254740992)))
  (∃ n7, w2.cell? (p1.add 2) = some (.int .i64 n7) ∧
   cond (!(decide (n7 < (-1074))))
   (∃ n8, w2.cell? (p1.add 2) = some (.int .i64 n8) ∧
    cond (!(decide (n8 > 1023)))
    (∃ n9, w2.cell? (p1.add 1) = some (.int .u64 n9) ∧
     ∃ n10, w2.cell? (p1.add 1) = some (.int .u64 n10) ∧
     (2 : Int) ≠ 0 ∧
     cond (!(!((n9 == 0) == ((n10.tmod 2) == 0))))
     (∃ n11, w2.cell? (p1.add 1) = some (.int .u64 n11) ∧
      cond (n11 == 0)
      (∃ n12, w2.cell? (p1.add 2) = some (.int .i64 n12) ∧
       J3 ((n12 != 0), ()) w2)
      (J3 (false, ()) w2))
     (J3 (true, ()) w2))
    (J3 (true, ()) w2))
   (J3 (true, ()) w2))
  (J3 (true, ()) w2))
 (fun s4 w5 =>
  cond s4.1
  (K (.tuple #[.float .f64 0, .bool false]) w5)
  (∃ n13, w5.cell? (p1.add 1) = some (.int .u64 n13) ∧
   ∃ n14, w5.cell? (p1.add 2) = some (.int .i64 n14) ∧
   drM w5 fun w15 =>
   cutM (σ := Int × Int × Unit) (fun J16 =>
    loopM (σ := Int × Int × Unit) (fun s19 X20 w21 =>
     cond (s19.1 != 0)
     (cond (decide (s19.1 < 4503599627370496))
      (cond (decide (s19.2.1 > (-1074)))
       (X20 ((IntKind.u64.wrap (2 * s19.1)), (IntKind.i64.wrap (s19.2.1 - 1)), ()) w21)
       (J16 (s19.1, s19.2.1, ()) w21))
      (J16 (s19.1, s19.2.1, ()) w21))
     (J16 (s19.1, s19.2.1, ()) w21))
    (n13, n14, ()) w15)
   (fun s17 w18 =>
    cond (decide (s17.2.1 > 971))
    (K (.tuple #[.float .f64 0, .bool false]) w18)
    (cutM (σ := Int × Unit) (fun J22 =>
      cond (decide (s17.1 ≥ 4503599627370496))
      ((0 : Int) ≤ 52 ∧
       J22 ((IntKind.u64.wrap ((IntKind.u64.wrap (s17.1 - 4503599627370496)) + (IntKind.u64.wrap ((IntKind.u64.wrap (IntKind.i64.wrap (s17.2.1 + 1075))) * 2 ^ (min (52 : Int).toNat IntKind.u64.bits))))), ()) w18)
      (J22 (s17.1, ()) w18))
     (fun s23 w24 =>
      ∃ b25, w24.cell? p1 = some (.bool b25) ∧
      cutM (σ := Int × Unit) (fun J26 =>
       cond b25
       (J26 ((IntKind.u64.wrap (s23.1 + 9223372036854775808)), ()) w24)
       (J26 (s23.1, ()) w24))
      (fun s27 w28 =>
       CallsX P N.f_math_Float64frombits #[.int .u64 s27.1] w28 fun v30 w29 =>
       ∃ x31, v30 = (.float .f64 x31) ∧
       K (.tuple #[.float .f64 x31, .bool true]) w29))))))

/-- girder/bignum.bit -/
def S_bignum_bit (N : Nums) (P : Program) (q0 : Option Addr) (q0l q0c : Nat) (q1 : Int) (w : World) (K : Value → World → Prop) : Prop :=
 cond (!(decide (q1 < 0)))
 ((32 : Int) ≠ 0 ∧
  cond (decide ((IntKind.i64.wrap (q1.tdiv 32)) ≥ ((q0l : Nat) : Int)))
  (K (.int .u64 0) w)
  ((32 : Int) ≠ 0 ∧
   (0 : Int) ≤ (IntKind.i64.wrap (q1.tdiv 32)) ∧ (IntKind.i64.wrap (q1.tdiv 32)) < (q0l : Nat) ∧
   optM q0 fun a1 =>
   ∃ n2, w.cell? (a1.add ((IntKind.i64.wrap (q1.tdiv 32)).toNat * 1)) = some (.int .u32 n2) ∧
   (32 : Int) ≠ 0 ∧
   (0 : Int) ≤ ((IntKind.u64.wrap q1).tmod 32) ∧
   K (.int .u64 (IntKind.u64.wrap (BitVec.ofInt IntKind.u64.bits (IntKind.u64.wrap (n2.fdiv (2 ^ (min ((IntKind.u64.wrap q1).tmod 32).toNat IntKind.u32.bits)))) &&& BitVec.ofInt IntKind.u64.bits 1).toNat)) w))
 (K (.int .u64 0) w)

/-- girder/bignum.length -/
def S_bignum_length (N : Nums) (P : Program) (q0 : Option Addr) (q0l q0c : Nat) (w : World) (K : Value → World → Prop) : Prop :=
 cond (((q0l : Nat) : Int) == 0)
 (K (.int .i64 0) w)
 ((0 : Int) ≤ (IntKind.i64.wrap (((q0l : Nat) : Int) - 1)) ∧ (IntKind.i64.wrap (((q0l : Nat) : Int) - 1)) < (q0l : Nat) ∧
  optM q0 fun a1 =>
  ∃ n2, w.cell? (a1.add ((IntKind.i64.wrap (((q0l : Nat) : Int) - 1)).toNat * 1)) = some (.int .u32 n2) ∧
  cutM (σ := Int × Unit) (fun J3 =>
   loopM (σ := Int × Int × Unit) (fun s6 X7 w8 =>
    cond (s6.2.1 != 0)
    ((0 : Int) ≤ 1 ∧
     X7 ((IntKind.i64.wrap (s6.1 + 1)), (s6.2.1.fdiv (2 ^ (min (1 : Int).toNat IntKind.u32.bits))), ()) w8)
    (J3 (s6.1, ()) w8))
   (0, n2, ()) w)
  (fun s4 w5 =>
   K (.int .i64 (IntKind.i64.wrap ((IntKind.i64.wrap ((IntKind.i64.wrap (((q0l : Nat) : Int) - 1)) * 32)) + s4.1))) w5))

/-- (*girder/bignum.Int).And -/
def S_p_bignum_Int_And (N : Nums) (P : Program) (q0 : Option Addr) (q1 : Option Addr) (q2 : Option Addr) (w : World) (K : Value → World → Prop) : Prop :=
 optM q1 fun a1 =>
 ∃ s2a s2l s2c, w.cell? (a1.add 1) = some (.slice s2a s2l s2c) ∧
 optM q2 fun a3 =>
 ∃ s4a s4l s4c, w.cell? (a3.add 1) = some (.slice s4a s4l s4c) ∧
 drM w fun w5 =>
 CallsX P N.f_p_bignum_Int_low #[.pointer q1, .int .i64 (IntKind.i64.wrap ((if ((s4l : Nat) : Int) > ((s2l : Nat) : Int) then ((s4l : Nat) : Int) else ((s2l : Nat) : Int)) + 1))] w5 fun v7 w6 =>
 ∃ s8a s8l s8c, v7 = (.slice s8a s8l s8c) ∧
 CallsX P N.f_p_bignum_Int_low #[.pointer q2, .int .i64 (IntKind.i64.wrap ((if ((s4l : Nat) : Int) > ((s2l : Nat) : Int) then ((s4l : Nat) : Int) else ((s2l : Nat) : Int)) + 1))] w6 fun v10 w9 =>
 ∃ s11a s11l s11c, v10 = (.slice s11a s11l s11c) ∧
 cutM (σ := Unit) (fun J12 =>
  loopM (σ := Int × Unit) (fun s15 X16 w17 =>
   cond (decide (s15.1 < (IntKind.i64.wrap ((if ((s4l : Nat) : Int) > ((s2l : Nat) : Int) then ((s4l : Nat) : Int) else ((s2l : Nat) : Int)) + 1))))
   ((0 : Int) ≤ s15.1 ∧ s15.1 < (s8l : Nat) ∧
    optM s8a fun a18 =>
    ∃ n19, w17.cell? (a18.add (s15.1.toNat * 1)) = some (.int .u32 n19) ∧
    (0 : Int) ≤ s15.1 ∧ s15.1 < (s11l : Nat) ∧
    optM s11a fun a20 =>
    ∃ n21, w17.cell? (a20.add (s15.1.toNat * 1)) = some (.int .u32 n21) ∧
    (0 : Int) ≤ s15.1 ∧ s15.1 < (s8l : Nat) ∧
    optM s8a fun a22 =>
    drM w17 fun w23 =>
    stM (a22.add (s15.1.toNat * 1)) (.int .u32 (IntKind.u32.wrap (BitVec.ofInt IntKind.u32.bits n19 &&& BitVec.ofInt IntKind.u32.bits n21).toNat)) w23 fun w24 =>
    drM w24 fun w25 =>
    X16 ((IntKind.i64.wrap (s15.1 + 1)), ()) w25)
   (J12 (()) w17))
  (0, ()) w9)
 (fun s13 w14 =>
  CallsX P N.f_p_bignum_Int_of #[.pointer q0, .slice s8a s8l s8c] w14 fun v27 w26 =>
  ∃ p28 : (Option Addr), v27 = (.pointer p28) ∧
  K (.pointer p28) w26)

/-- girder/girderref02.low -/
def S_girderref02_low (N : Nums) (P : Program) (q0 : Option Addr) (q0l q0c : Nat) (w : World) (K : Value → World → Prop) : Prop :=
 cutM (σ := Int × Unit) (fun J1 =>
  loopM (σ := Int × Unit) (fun s4 X5 w6 =>
   cond (decide (s4.1 > 0))
   ((0 : Int) ≤ (IntKind.i64.wrap (s4.1 - 1)) ∧ (IntKind.i64.wrap (s4.1 - 1)) < (q0l : Nat) ∧
    optM q0 fun a7 =>
    ∃ n8, w6.cell? (a7.add ((IntKind.i64.wrap (s4.1 - 1)).toNat * 1)) = some (.int .u64 n8) ∧
    cond (n8 == 0)
    (X5 ((IntKind.i64.wrap (s4.1 - 1)), ()) w6)
    (J1 (s4.1, ()) w6))
   (J1 (s4.1, ()) w6))
  (((q0l : Nat) : Int), ()) w)
 (fun s2 w3 =>
  (0 : Int) ≤ s2.1 ∧ s2.1 ≤ (q0c : Nat) ∧
  K (.slice (slBase q0 0 q0c 1) s2.1.toNat q0c) w3)

/-- girder/girderref01.Finite -/
def S_girderref01_Finite (N : Nums) (P : Program) (q0 : Nat) (w : World) (K : Value → World → Prop) : Prop :=
 CallsX P N.f_girderref01_Kind #[.float .f64 q0] w fun v2 w1 =>
 ∃ n3, v2 = (.int .i64 n3) ∧
 K (.bool (decide (n3 < 3))) w1

/-- girder/girderref01.fields -/
def S_girderref01_fields (N : Nums) (P : Program) (q0 : Nat) (w : World) (K : Value → World → Prop) : Prop :=
 CallsX P N.f_math_Float64bits #[.float .f64 q0] w fun v2 w1 =>
 ∃ n3, v2 = (.int .u64 n3) ∧
 (0 : Int) ≤ 63 ∧
 (4503599627370496 : Int) ≠ 0 ∧
 (2048 : Int) ≠ 0 ∧
 (4503599627370496 : Int) ≠ 0 ∧
 K (.tuple #[.bool ((n3.fdiv (2 ^ (min (63 : Int).toNat IntKind.u64.bits))) == 1), .int .i64 (IntKind.i64.wrap ((IntKind.u64.wrap (n3.tdiv 4503599627370496)).tmod 2048)), .int .u64 (n3.tmod 4503599627370496)]) w1

/-- math.IsInf -/
def S_math_IsInf (N : Nums) (P : Program) (q0 : Nat) (q1 : Int) (w : World) (K : Value → World → Prop) : Prop :=
 cutM (σ := Nat × Unit) (fun J1 =>
  cond (q1 == 0)
  (CallsX P N.f_math_Abs #[.float .f64 q0] w fun v5 w4 =>
   ∃ x6, v5 = (.float .f64 x6) ∧
   J1 (x6, ()) w4)
  (cutM (σ := Nat × Unit) (fun J7 =>
    cond (decide (q1 < 0))
    (J7 ((fneg q0), ()) w)
    (J7 (q0, ()) w))
   (fun s8 w9 =>
    J1 (s8.1, ()) w9)))
 (fun s2 w3 =>
  K (.bool (fgt s2.1 9218868437227405311)) w3)

/-- math.frexp -/
def S_math_frexp (N : Nums) (P : Program) (q0 : Nat) (w : World) (K : Value → World → Prop) : Prop :=
 cond (feq q0 0)
 (K (.tuple #[.float .f64 q0, .int .i64 0]) w)
 (CallsX P N.f_math_IsInf #[.float .f64 q0, .int .i64 0] w fun v2 w1 =>
  ∃ b3, v2 = (.bool b3) ∧
  cond (!b3)
  (CallsX P N.f_math_IsNaN #[.float .f64 q0] w1 fun v5 w4 =>
   ∃ b6, v5 = (.bool b6) ∧
   cond b6
   (K (.tuple #[.float .f64 q0, .int .i64 0]) w4)
   (CallsX P N.f_math_normalize #[.float .f64 q0] w4 fun v8 w7 =>
    ∃ x9, ∃ n10, v8 = (.tuple #[.float .f64 x9, .int .i64 n10]) ∧
    CallsX P N.f_math_Float64bits #[.float .f64 x9] w7 fun v12 w11 =>
    ∃ n13, v12 = (.int .u64 n13) ∧
    (0 : Int) ≤ 52 ∧
    CallsX P N.f_math_Float64frombits #[.int .u64 (IntKind.u64.wrap (BitVec.ofInt IntKind.u64.bits (IntKind.u64.wrap (BitVec.ofInt IntKind.u64.bits n13 &&& ~~~BitVec.ofInt IntKind.u64.bits 9218868437227405312).toNat) ||| BitVec.ofInt IntKind.u64.bits 4602678819172646912).toNat)] w11 fun v15 w14 =>
    ∃ x16, v15 = (.float .f64 x16) ∧
    K (.tuple #[.float .f64 x16, .int .i64 (IntKind.i64.wrap (n10 + (IntKind.i64.wrap ((IntKind.i64.wrap ((IntKind.i64.wrap (IntKind.u64.wrap (BitVec.ofInt IntKind.u64.bits (n13.fdiv (2 ^ (min (52 : Int).toNat IntKind.u64.bits))) &&& BitVec.ofInt IntKind.u64.bits 2047).toNat)) - 1023)) + 1))))]) w14))
  (K (.tuple #[.float .f64 q0, .int .i64 0]) w1))

/-- math.ldexp -/
def S_math_ldexp (N : Nums) (P : Program) (q0 : Nat) (q1 : Int) (w : World) (K : Value → World → Prop) : Prop :=
 cond (feq q0 0)
 (K (.float .f64 q0) w)
 (cutM (σ := Bool × Unit) (fun J1 =>
   CallsX P N.f_math_IsInf #[.float .f64 q0, .int .i64 0] w fun v5 w4 =>
   ∃ b6, v5 = (.bool b6) ∧
   cond (!b6)
   (CallsX P N.f_math_IsNaN #[.float .f64 q0] w4 fun v8 w7 =>
    ∃ b9, v8 = (.bool b9) ∧
    J1 (b9, ()) w7)
   (J1 (true, ()) w4))
  (fun s2 w3 =>
   cond s2.1
   (K (.float .f64 q0) w3)
   (CallsX P N.f_math_normalize #[.float .f64 q0] w3 fun v11 w10 =>
    ∃ x12, ∃ n13, v11 = (.tuple #[.float .f64 x12, .int .i64 n13]) ∧
    CallsX P N.f_math_Float64bits #[.float .f64 x12] w10 fun v15 w14 =>
    ∃ n16, v15 = (.int .u64 n16) ∧
    (0 : Int) ≤ 52 ∧
    cond (decide ((IntKind.i64.wrap ((IntKind.i64.wrap (q1 + n13)) + (IntKind.i64.wrap ((IntKind.i64.wrap (BitVec.ofInt IntKind.i64.bits (IntKind.i64.wrap (n16.fdiv (2 ^ (min (52 : Int).toNat IntKind.u64.bits)))) &&& BitVec.ofInt IntKind.i64.bits 2047).toNat) - 1023)))) < (-1075)))
    (CallsX P N.f_math_Copysign #[.float .f64 0, .float .f64 x12] w14 fun v18 w17 =>
     ∃ x19, v18 = (.float .f64 x19) ∧
     K (.float .f64 x19) w17)
    (cond (decide ((IntKind.i64.wrap ((IntKind.i64.wrap (q1 + n13)) + (IntKind.i64.wrap ((IntKind.i64.wrap (BitVec.ofInt IntKind.i64.bits (IntKind.i64.wrap (n16.fdiv (2 ^ (min (52 : Int).toNat IntKind.u64.bits)))) &&& BitVec.ofInt IntKind.i64.bits 2047).toNat) - 1023)))) > 1023))
     (cond (flt x12 0)
      (CallsX P N.f_math_Inf #[.int .i64 (-1)] w14 fun v21 w20 =>
       ∃ x22, v21 = (.float .f64 x22) ∧
       K (.float .f64 x22) w20)
      (CallsX P N.f_math_Inf #[.int .i64 1] w14 fun v24 w23 =>
       ∃ x25, v24 = (.float .f64 x25) ∧
       K (.float .f64 x25) w23))
     (cutM (σ := Int × Nat × Unit) (fun J26 =>
       cond (decide ((IntKind.i64.wrap ((IntKind.i64.wrap (q1 + n13)) + (IntKind.i64.wrap ((IntKind.i64.wrap (BitVec.ofInt IntKind.i64.bits (IntKind.i64.wrap (n16.fdiv (2 ^ (min (52 : Int).toNat IntKind.u64.bits)))) &&& BitVec.ofInt IntKind.i64.bits 2047).toNat) - 1023)))) < (-1022)))
       (J26 ((IntKind.i64.wrap ((IntKind.i64.wrap ((IntKind.i64.wrap (q1 + n13)) + (IntKind.i64.wrap ((IntKind.i64.wrap (BitVec.ofInt IntKind.i64.bits (IntKind.i64.wrap (n16.fdiv (2 ^ (min (52 : Int).toNat IntKind.u64.bits)))) &&& BitVec.ofInt IntKind.i64.bits 2047).toNat) - 1023)))) + 53)), 4368491638549381120, ()) w14)
       (J26 ((IntKind.i64.wrap ((IntKind.i64.wrap (q1 + n13)) + (IntKind.i64.wrap ((IntKind.i64.wrap (BitVec.ofInt IntKind.i64.bits (IntKind.i64.wrap (n16.fdiv (2 ^ (min (52 : Int).toNat IntKind.u64.bits)))) &&& BitVec.ofInt IntKind.i64.bits 2047).toNat) - 1023)))), 4607182418800017408, ()) w14))
      (fun s27 w28 =>
       (0 : Int) ≤ 52 ∧
       CallsX P N.f_math_Float64frombits #[.int .u64 (IntKind.u64.wrap (BitVec.ofInt IntKind.u64.bits (IntKind.u64.wrap (BitVec.ofInt IntKind.u64.bits n16 &&& ~~~BitVec.ofInt IntKind.u64.bits 9218868437227405312).toNat) ||| BitVec.ofInt IntKind.u64.bits (IntKind.u64.wrap ((IntKind.u64.wrap (IntKind.i64.wrap (s27.1 + 1023))) * 2 ^ (min (52 : Int).toNat IntKind.u64.bits)))).toNat)] w28 fun v30 w29 =>
       ∃ x31, v30 = (.float .f64 x31) ∧
       fresM (fmul s27.2.1 x31) w29 fun x32 w33 =>
       K (.float .f64 x32) w33))))))

/-- girder/girderref01.Kind -/
def S_girderref01_Kind (N : Nums) (P : Program) (q0 : Nat) (w : World) (K : Value → World → Prop) : Prop :=
 CallsX P N.f_girderref01_fields #[.float .f64 q0] w fun v2 w1 =>
 ∃ b3, ∃ n4, ∃ n5, v2 = (.tuple #[.bool b3, .int .i64 n4, .int .u64 n5]) ∧
 cond (n4 == 2047)
 (cond (n5 != 0)
  (K (.int .i64 4) w1)
  (cond (n4 == 2047)
   (K (.int .i64 3) w1)
   (cond (decide (n4 > 0))
    (K (.int .i64 2) w1)
    (cond (n5 != 0)
     (K (.int .i64 1) w1)
     (K (.int .i64 0) w1)))))
 (cond (n4 == 2047)
  (K (.int .i64 3) w1)
  (cond (decide (n4 > 0))
   (K (.int .i64 2) w1)
   (cond (n5 != 0)
    (K (.int .i64 1) w1)
    (K (.int .i64 0) w1))))

/-- math.IsNaN -/
def S_math_IsNaN (N : Nums) (P : Program) (q0 : Nat) (w : World) (K : Value → World → Prop) : Prop :=
 K (.bool (!feq q0 q0)) w

/-- math.normalize -/
def S_math_normalize (N : Nums) (P : Program) (q0 : Nat) (w : World) (K : Value → World → Prop) : Prop :=
 CallsX P N.f_math_Abs #[.float .f64 q0] w fun v2 w1 =>
 ∃ x3, v2 = (.float .f64 x3) ∧
 cond (flt x3 4503599627370496)
 (fresM (fmul q0 4841369599423283200) w1 fun x4 w5 =>
  K (.tuple #[.float .f64 x4, .int .i64 (-52)]) w5)
 (K (.tuple #[.float .f64 q0, .int .i64 0]) w1)

/-- math.Inf -/
def S_math_Inf (N : Nums) (P : Program) (q0 : Int) (w : World) (K : Value → World → Prop) : Prop :=
 cutM (σ := Int × Unit) (fun J1 =>
  cond (decide (q0 ≥ 0))
  (J1 (9218868437227405312, ()) w)
  (J1 (18442240474082181120, ()) w))
 (fun s2 w3 =>
  CallsX P N.f_math_Float64frombits #[.int .u64 s2.1] w3 fun v5 w4 =>
  ∃ x6, v5 = (.float .f64 x6) ∧
  K (.float .f64 x6) w4)

end Go.Eng
