/-
  Some of the functions as propositions in the manner of a weakest precondition, printed off the structured code by a program of the session. No condition.
-/
import Derived.Test.YtmecjaojkegamaaDoorTbl
import Derived.Test.YtmecjaojkegamaaDoorNm
set_option linter.unusedSimpArgs false
set_option linter.unnecessarySimpa false
set_option linter.unusedSectionVars false
set_option linter.unusedVariables false
set_option maxRecDepth 100000
namespace Go.Eng
open Go

/-- girder/girderlaw02.DyadBegins -/
def S_girderlaw02_DyadBegins (N : Nums) (P : Program) (q0 : Nat) (q1 : Int) (w : World) (K : Value → World → Prop) : Prop :=
  CallsX P N.f_girderlaw02_awake #[] w fun v2 w1 =>
  ∃ b3 : Bool, v2 = (.bool b3) ∧
  cond (!b3)
  (K (.bool false) w1)
  (CallsX P N.f_dyad_Of #[.float .f64 q0] w1 fun v5 w4 =>
    ∃ b6 : Bool, ∃ (s7a : Option Addr) (s7l s7c : Nat), ∃ n8 : Int, ∃ n9 : Int, v5 = (.tuple #[.agg #[.bool b6, .slice s7a s7l s7c, .int .i64 n8], .int .i64 n9]) ∧
    newM #[.bool false, .slice none 0 0, .int .i64 0] N.t_Dyad w4 fun p10 w11 =>
    stM p10 (.bool b6) w11 fun w12 =>
    stM (p10.add 1) (.slice s7a s7l s7c) w12 fun w13 =>
    stM (p10.add 2) (.int .i64 n8) w13 fun w14 =>
    CallsX P N.f_girderref02_Of #[.float .f64 q0] w14 fun v16 w15 =>
    ∃ b17 : Bool, ∃ (s18a : Option Addr) (s18l s18c : Nat), ∃ n19 : Int, ∃ n20 : Int, v16 = (.tuple #[.agg #[.bool b17, .slice s18a s18l s18c, .int .i64 n19], .int .i64 n20]) ∧
    newM #[.bool false, .slice none 0 0, .int .i64 0] N.t_Dyad w15 fun p21 w22 =>
    stM p21 (.bool b17) w22 fun w23 =>
    stM (p21.add 1) (.slice s18a s18l s18c) w23 fun w24 =>
    stM (p21.add 2) (.int .i64 n19) w24 fun w25 =>
    cond (n9 == n20)
    (∃ b26 : Bool, w25.cell? p10 = some (.bool b26) ∧
      ∃ (s27a : Option Addr) (s27l s27c : Nat), w25.cell? (p10.add 1) = some (.slice s27a s27l s27c) ∧
      ∃ n28 : Int, w25.cell? (p10.add 2) = some (.int .i64 n28) ∧
      ∃ b29 : Bool, w25.cell? p21 = some (.bool b29) ∧
      ∃ (s30a : Option Addr) (s30l s30c : Nat), w25.cell? (p21.add 1) = some (.slice s30a s30l s30c) ∧
      ∃ n31 : Int, w25.cell? (p21.add 2) = some (.int .i64 n31) ∧
      CallsX P N.f_girderkit_SameDyad #[.agg #[.bool b26, .slice s27a s27l s27c, .int .i64 n28], .agg #[.bool b29, .slice s30a s30l s30c, .int .i64 n31]] w25 fun v33 w32 =>
      ∃ b34 : Bool, v33 = (.bool b34) ∧
      cond b34
      (CallsX P N.f_dyad_Int #[.int .i64 q1] w32 fun v36 w35 =>
        ∃ b37 : Bool, ∃ (s38a : Option Addr) (s38l s38c : Nat), ∃ n39 : Int, v36 = (.agg #[.bool b37, .slice s38a s38l s38c, .int .i64 n39]) ∧
        CallsX P N.f_girderref02_Int #[.int .i64 q1] w35 fun v41 w40 =>
        ∃ b42 : Bool, ∃ (s43a : Option Addr) (s43l s43c : Nat), ∃ n44 : Int, v41 = (.agg #[.bool b42, .slice s43a s43l s43c, .int .i64 n44]) ∧
        CallsX P N.f_girderkit_SameDyad #[.agg #[.bool b37, .slice s38a s38l s38c, .int .i64 n39], .agg #[.bool b42, .slice s43a s43l s43c, .int .i64 n44]] w40 fun v46 w45 =>
        ∃ b47 : Bool, v46 = (.bool b47) ∧
        K (.bool b47) w45)
      (K (.bool false) w32))
    (K (.bool false) w25))

/-- girder/girderlaw02.DyadScales -/
def S_girderlaw02_DyadScales (N : Nums) (P : Program) (q0_0 : Bool) (q0_1 : Option Addr) (q0_1l q0_1c : Nat) (q0_2 : Int) (q1 : Int) (w : World) (K : Value → World → Prop) : Prop :=
  newM #[.bool q0_0, .slice q0_1 q0_1l q0_1c, .int .i64 q0_2] N.t_Dyad w fun p1 w2 =>
  CallsX P N.f_girderlaw02_awake #[] w2 fun v4 w3 =>
  ∃ b5 : Bool, v4 = (.bool b5) ∧
  cond (!b5)
  (K (.bool false) w3)
  (∃ b6 : Bool, w3.cell? p1 = some (.bool b6) ∧
    ∃ (s7a : Option Addr) (s7l s7c : Nat), w3.cell? (p1.add 1) = some (.slice s7a s7l s7c) ∧
    ∃ n8 : Int, w3.cell? (p1.add 2) = some (.int .i64 n8) ∧
    CallsX P N.f_girderkit_LentDyad #[.agg #[.bool b6, .slice s7a s7l s7c, .int .i64 n8]] w3 fun v10 w9 =>
    ∃ b11 : Bool, ∃ (s12a : Option Addr) (s12l s12c : Nat), ∃ n13 : Int, v10 = (.agg #[.bool b11, .slice s12a s12l s12c, .int .i64 n13]) ∧
    newM #[.bool false, .slice none 0 0, .int .i64 0] N.t_Dyad w9 fun p14 w15 =>
    stM p14 (.bool b11) w15 fun w16 =>
    stM (p14.add 1) (.slice s12a s12l s12c) w16 fun w17 =>
    stM (p14.add 2) (.int .i64 n13) w17 fun w18 =>
    ∃ b19 : Bool, w18.cell? p14 = some (.bool b19) ∧
    ∃ (s20a : Option Addr) (s20l s20c : Nat), w18.cell? (p14.add 1) = some (.slice s20a s20l s20c) ∧
    ∃ n21 : Int, w18.cell? (p14.add 2) = some (.int .i64 n21) ∧
    CallsX P N.f_dyad_Scale #[.agg #[.bool b19, .slice s20a s20l s20c, .int .i64 n21], .int .i64 q1] w18 fun v23 w22 =>
    ∃ b24 : Bool, ∃ (s25a : Option Addr) (s25l s25c : Nat), ∃ n26 : Int, ∃ n27 : Int, v23 = (.tuple #[.agg #[.bool b24, .slice s25a s25l s25c, .int .i64 n26], .int .i64 n27]) ∧
    newM #[.bool false, .slice none 0 0, .int .i64 0] N.t_Dyad w22 fun p28 w29 =>
    stM p28 (.bool b24) w29 fun w30 =>
    stM (p28.add 1) (.slice s25a s25l s25c) w30 fun w31 =>
    stM (p28.add 2) (.int .i64 n26) w31 fun w32 =>
    ∃ b33 : Bool, w32.cell? p14 = some (.bool b33) ∧
    ∃ (s34a : Option Addr) (s34l s34c : Nat), w32.cell? (p14.add 1) = some (.slice s34a s34l s34c) ∧
    ∃ n35 : Int, w32.cell? (p14.add 2) = some (.int .i64 n35) ∧
    ∃ b36 : Bool, w32.cell? p1 = some (.bool b36) ∧
    ∃ (s37a : Option Addr) (s37l s37c : Nat), w32.cell? (p1.add 1) = some (.slice s37a s37l s37c) ∧
    ∃ n38 : Int, w32.cell? (p1.add 2) = some (.int .i64 n38) ∧
    CallsX P N.f_girderkit_KeptDyad #[.agg #[.bool b33, .slice s34a s34l s34c, .int .i64 n35], .agg #[.bool b36, .slice s37a s37l s37c, .int .i64 n38]] w32 fun v40 w39 =>
    ∃ b41 : Bool, v40 = (.bool b41) ∧
    ∃ b42 : Bool, w39.cell? p14 = some (.bool b42) ∧
    ∃ (s43a : Option Addr) (s43l s43c : Nat), w39.cell? (p14.add 1) = some (.slice s43a s43l s43c) ∧
    ∃ n44 : Int, w39.cell? (p14.add 2) = some (.int .i64 n44) ∧
    CallsX P N.f_girderkit_OverDyad #[.agg #[.bool b42, .slice s43a s43l s43c, .int .i64 n44]] w39 fun v46 w45 =>
    v46 = (.tuple #[]) ∧
    ∃ b47 : Bool, w45.cell? p1 = some (.bool b47) ∧
    ∃ (s48a : Option Addr) (s48l s48c : Nat), w45.cell? (p1.add 1) = some (.slice s48a s48l s48c) ∧
    ∃ n49 : Int, w45.cell? (p1.add 2) = some (.int .i64 n49) ∧
    CallsX P N.f_girderref02_Scale #[.agg #[.bool b47, .slice s48a s48l s48c, .int .i64 n49], .int .i64 q1] w45 fun v51 w50 =>
    ∃ b52 : Bool, ∃ (s53a : Option Addr) (s53l s53c : Nat), ∃ n54 : Int, ∃ n55 : Int, v51 = (.tuple #[.agg #[.bool b52, .slice s53a s53l s53c, .int .i64 n54], .int .i64 n55]) ∧
    newM #[.bool false, .slice none 0 0, .int .i64 0] N.t_Dyad w50 fun p56 w57 =>
    stM p56 (.bool b52) w57 fun w58 =>
    stM (p56.add 1) (.slice s53a s53l s53c) w58 fun w59 =>
    stM (p56.add 2) (.int .i64 n54) w59 fun w60 =>
    cond b41
    (cond (n27 == n55)
      (∃ b61 : Bool, w60.cell? p28 = some (.bool b61) ∧
        ∃ (s62a : Option Addr) (s62l s62c : Nat), w60.cell? (p28.add 1) = some (.slice s62a s62l s62c) ∧
        ∃ n63 : Int, w60.cell? (p28.add 2) = some (.int .i64 n63) ∧
        ∃ b64 : Bool, w60.cell? p56 = some (.bool b64) ∧
        ∃ (s65a : Option Addr) (s65l s65c : Nat), w60.cell? (p56.add 1) = some (.slice s65a s65l s65c) ∧
        ∃ n66 : Int, w60.cell? (p56.add 2) = some (.int .i64 n66) ∧
        CallsX P N.f_girderkit_SameDyad #[.agg #[.bool b61, .slice s62a s62l s62c, .int .i64 n63], .agg #[.bool b64, .slice s65a s65l s65c, .int .i64 n66]] w60 fun v68 w67 =>
        ∃ b69 : Bool, v68 = (.bool b69) ∧
        K (.bool b69) w67)
      (K (.bool false) w60))
    (K (.bool false) w60))

/-- girder/girderlaw02.DyadRing -/
def S_girderlaw02_DyadRing (N : Nums) (P : Program) (q0_0 : Bool) (q0_1 : Option Addr) (q0_1l q0_1c : Nat) (q0_2 : Int) (q1_0 : Bool) (q1_1 : Option Addr) (q1_1l q1_1c : Nat) (q1_2 : Int) (q2_0 : Bool) (q2_1 : Option Addr) (q2_1l q2_1c : Nat) (q2_2 : Int) (w : World) (K : Value → World → Prop) : Prop :=
  newM #[.bool q0_0, .slice q0_1 q0_1l q0_1c, .int .i64 q0_2] N.t_Dyad w fun p1 w2 =>
  newM #[.bool q1_0, .slice q1_1 q1_1l q1_1c, .int .i64 q1_2] N.t_Dyad w2 fun p3 w4 =>
  newM #[.bool q2_0, .slice q2_1 q2_1l q2_1c, .int .i64 q2_2] N.t_Dyad w4 fun p5 w6 =>
  CallsX P N.f_girderlaw02_awake #[] w6 fun v8 w7 =>
  ∃ b9 : Bool, v8 = (.bool b9) ∧
  cond (!b9)
  (K (.bool false) w7)
  (∃ b10 : Bool, w7.cell? p1 = some (.bool b10) ∧
    ∃ (s11a : Option Addr) (s11l s11c : Nat), w7.cell? (p1.add 1) = some (.slice s11a s11l s11c) ∧
    ∃ n12 : Int, w7.cell? (p1.add 2) = some (.int .i64 n12) ∧
    ∃ b13 : Bool, w7.cell? p3 = some (.bool b13) ∧
    ∃ (s14a : Option Addr) (s14l s14c : Nat), w7.cell? (p3.add 1) = some (.slice s14a s14l s14c) ∧
    ∃ n15 : Int, w7.cell? (p3.add 2) = some (.int .i64 n15) ∧
    ∃ b16 : Bool, w7.cell? p5 = some (.bool b16) ∧
    ∃ (s17a : Option Addr) (s17l s17c : Nat), w7.cell? (p5.add 1) = some (.slice s17a s17l s17c) ∧
    ∃ n18 : Int, w7.cell? (p5.add 2) = some (.int .i64 n18) ∧
    CallsX P N.f_girderlaw02_made #[.agg #[.bool b10, .slice s11a s11l s11c, .int .i64 n12], .agg #[.bool b13, .slice s14a s14l s14c, .int .i64 n15], .agg #[.bool b16, .slice s17a s17l s17c, .int .i64 n18]] w7 fun v20 w19 =>
    ∃ b21 : Bool, ∃ (s22a : Option Addr) (s22l s22c : Nat), ∃ n23 : Int, ∃ b24 : Bool, ∃ (s25a : Option Addr) (s25l s25c : Nat), ∃ n26 : Int, ∃ b27 : Bool, ∃ (s28a : Option Addr) (s28l s28c : Nat), ∃ n29 : Int, ∃ b30 : Bool, v20 = (.tuple #[.agg #[.bool b21, .slice s22a s22l s22c, .int .i64 n23], .agg #[.bool b24, .slice s25a s25l s25c, .int .i64 n26], .agg #[.bool b27, .slice s28a s28l s28c, .int .i64 n29], .bool b30]) ∧
    newM #[.bool false, .slice none 0 0, .int .i64 0] N.t_Dyad w19 fun p31 w32 =>
    newM #[.bool false, .slice none 0 0, .int .i64 0] N.t_Dyad w32 fun p33 w34 =>
    newM #[.bool false, .slice none 0 0, .int .i64 0] N.t_Dyad w34 fun p35 w36 =>
    stM p31 (.bool b21) w36 fun w37 =>
    stM (p31.add 1) (.slice s22a s22l s22c) w37 fun w38 =>
    stM (p31.add 2) (.int .i64 n23) w38 fun w39 =>
    stM p33 (.bool b24) w39 fun w40 =>
    stM (p33.add 1) (.slice s25a s25l s25c) w40 fun w41 =>
    stM (p33.add 2) (.int .i64 n26) w41 fun w42 =>
    stM p35 (.bool b27) w42 fun w43 =>
    stM (p35.add 1) (.slice s28a s28l s28c) w43 fun w44 =>
    stM (p35.add 2) (.int .i64 n29) w44 fun w45 =>
    cond (!b30)
    (K (.bool true) w45)
    (∃ b46 : Bool, w45.cell? p31 = some (.bool b46) ∧
      ∃ (s47a : Option Addr) (s47l s47c : Nat), w45.cell? (p31.add 1) = some (.slice s47a s47l s47c) ∧
      ∃ n48 : Int, w45.cell? (p31.add 2) = some (.int .i64 n48) ∧
      ∃ b49 : Bool, w45.cell? p33 = some (.bool b49) ∧
      ∃ (s50a : Option Addr) (s50l s50c : Nat), w45.cell? (p33.add 1) = some (.slice s50a s50l s50c) ∧
      ∃ n51 : Int, w45.cell? (p33.add 2) = some (.int .i64 n51) ∧
      CallsX P N.f_dyad_Add #[.agg #[.bool b46, .slice s47a s47l s47c, .int .i64 n48], .agg #[.bool b49, .slice s50a s50l s50c, .int .i64 n51]] w45 fun v53 w52 =>
      ∃ b54 : Bool, ∃ (s55a : Option Addr) (s55l s55c : Nat), ∃ n56 : Int, ∃ n57 : Int, v53 = (.tuple #[.agg #[.bool b54, .slice s55a s55l s55c, .int .i64 n56], .int .i64 n57]) ∧
      newM #[.bool false, .slice none 0 0, .int .i64 0] N.t_Dyad w52 fun p58 w59 =>
      stM p58 (.bool b54) w59 fun w60 =>
      stM (p58.add 1) (.slice s55a s55l s55c) w60 fun w61 =>
      stM (p58.add 2) (.int .i64 n56) w61 fun w62 =>
      ∃ b63 : Bool, w62.cell? p33 = some (.bool b63) ∧
      ∃ (s64a : Option Addr) (s64l s64c : Nat), w62.cell? (p33.add 1) = some (.slice s64a s64l s64c) ∧
      ∃ n65 : Int, w62.cell? (p33.add 2) = some (.int .i64 n65) ∧
      ∃ b66 : Bool, w62.cell? p31 = some (.bool b66) ∧
      ∃ (s67a : Option Addr) (s67l s67c : Nat), w62.cell? (p31.add 1) = some (.slice s67a s67l s67c) ∧
      ∃ n68 : Int, w62.cell? (p31.add 2) = some (.int .i64 n68) ∧
      CallsX P N.f_dyad_Add #[.agg #[.bool b63, .slice s64a s64l s64c, .int .i64 n65], .agg #[.bool b66, .slice s67a s67l s67c, .int .i64 n68]] w62 fun v70 w69 =>
      ∃ b71 : Bool, ∃ (s72a : Option Addr) (s72l s72c : Nat), ∃ n73 : Int, ∃ n74 : Int, v70 = (.tuple #[.agg #[.bool b71, .slice s72a s72l s72c, .int .i64 n73], .int .i64 n74]) ∧
      newM #[.bool false, .slice none 0 0, .int .i64 0] N.t_Dyad w69 fun p75 w76 =>
      stM p75 (.bool b71) w76 fun w77 =>
      stM (p75.add 1) (.slice s72a s72l s72c) w77 fun w78 =>
      stM (p75.add 2) (.int .i64 n73) w78 fun w79 =>
      ∃ b80 : Bool, w79.cell? p31 = some (.bool b80) ∧
      ∃ (s81a : Option Addr) (s81l s81c : Nat), w79.cell? (p31.add 1) = some (.slice s81a s81l s81c) ∧
      ∃ n82 : Int, w79.cell? (p31.add 2) = some (.int .i64 n82) ∧
      ∃ b83 : Bool, w79.cell? p33 = some (.bool b83) ∧
      ∃ (s84a : Option Addr) (s84l s84c : Nat), w79.cell? (p33.add 1) = some (.slice s84a s84l s84c) ∧
      ∃ n85 : Int, w79.cell? (p33.add 2) = some (.int .i64 n85) ∧
      CallsX P N.f_dyad_Mul #[.agg #[.bool b80, .slice s81a s81l s81c, .int .i64 n82], .agg #[.bool b83, .slice s84a s84l s84c, .int .i64 n85]] w79 fun v87 w86 =>
      ∃ b88 : Bool, ∃ (s89a : Option Addr) (s89l s89c : Nat), ∃ n90 : Int, ∃ n91 : Int, v87 = (.tuple #[.agg #[.bool b88, .slice s89a s89l s89c, .int .i64 n90], .int .i64 n91]) ∧
      newM #[.bool false, .slice none 0 0, .int .i64 0] N.t_Dyad w86 fun p92 w93 =>
      stM p92 (.bool b88) w93 fun w94 =>
      stM (p92.add 1) (.slice s89a s89l s89c) w94 fun w95 =>
      stM (p92.add 2) (.int .i64 n90) w95 fun w96 =>
      ∃ b97 : Bool, w96.cell? p33 = some (.bool b97) ∧
      ∃ (s98a : Option Addr) (s98l s98c : Nat), w96.cell? (p33.add 1) = some (.slice s98a s98l s98c) ∧
      ∃ n99 : Int, w96.cell? (p33.add 2) = some (.int .i64 n99) ∧
      ∃ b100 : Bool, w96.cell? p31 = some (.bool b100) ∧
      ∃ (s101a : Option Addr) (s101l s101c : Nat), w96.cell? (p31.add 1) = some (.slice s101a s101l s101c) ∧
      ∃ n102 : Int, w96.cell? (p31.add 2) = some (.int .i64 n102) ∧
      CallsX P N.f_dyad_Mul #[.agg #[.bool b97, .slice s98a s98l s98c, .int .i64 n99], .agg #[.bool b100, .slice s101a s101l s101c, .int .i64 n102]] w96 fun v104 w103 =>
      ∃ b105 : Bool, ∃ (s106a : Option Addr) (s106l s106c : Nat), ∃ n107 : Int, ∃ n108 : Int, v104 = (.tuple #[.agg #[.bool b105, .slice s106a s106l s106c, .int .i64 n107], .int .i64 n108]) ∧
      newM #[.bool false, .slice none 0 0, .int .i64 0] N.t_Dyad w103 fun p109 w110 =>
      stM p109 (.bool b105) w110 fun w111 =>
      stM (p109.add 1) (.slice s106a s106l s106c) w111 fun w112 =>
      stM (p109.add 2) (.int .i64 n107) w112 fun w113 =>
      cutM (σ := Bool × Unit) (fun J114 =>
        ∃ b117 : Bool, w113.cell? p58 = some (.bool b117) ∧
        ∃ (s118a : Option Addr) (s118l s118c : Nat), w113.cell? (p58.add 1) = some (.slice s118a s118l s118c) ∧
        ∃ n119 : Int, w113.cell? (p58.add 2) = some (.int .i64 n119) ∧
        ∃ b120 : Bool, w113.cell? p75 = some (.bool b120) ∧
        ∃ (s121a : Option Addr) (s121l s121c : Nat), w113.cell? (p75.add 1) = some (.slice s121a s121l s121c) ∧
        ∃ n122 : Int, w113.cell? (p75.add 2) = some (.int .i64 n122) ∧
        CallsX P N.f_girderlaw02_same #[.agg #[.bool b117, .slice s118a s118l s118c, .int .i64 n119], .int .i64 n57, .agg #[.bool b120, .slice s121a s121l s121c, .int .i64 n122], .int .i64 n74] w113 fun v124 w123 =>
        ∃ b125 : Bool, v124 = (.bool b125) ∧
        cond (!(!b125))
        (∃ b126 : Bool, w123.cell? p92 = some (.bool b126) ∧
          ∃ (s127a : Option Addr) (s127l s127c : Nat), w123.cell? (p92.add 1) = some (.slice s127a s127l s127c) ∧
          ∃ n128 : Int, w123.cell? (p92.add 2) = some (.int .i64 n128) ∧
          ∃ b129 : Bool, w123.cell? p109 = some (.bool b129) ∧
          ∃ (s130a : Option Addr) (s130l s130c : Nat), w123.cell? (p109.add 1) = some (.slice s130a s130l s130c) ∧
          ∃ n131 : Int, w123.cell? (p109.add 2) = some (.int .i64 n131) ∧
          CallsX P N.f_girderlaw02_same #[.agg #[.bool b126, .slice s127a s127l s127c, .int .i64 n128], .int .i64 n91, .agg #[.bool b129, .slice s130a s130l s130c, .int .i64 n131], .int .i64 n108] w123 fun v133 w132 =>
          ∃ b134 : Bool, v133 = (.bool b134) ∧
          cond (!(!b134))
          (cond (!(n57 == 2))
            (J114 ((n91 == 2), ()) w132)
            (J114 (true, ()) w132))
          (J114 (true, ()) w132))
        (J114 (true, ()) w123))
      (fun s115 w116 =>
        cond s115.1
        (K (.bool false) w116)
        (cutM (σ := Unit) (fun J135 =>
            cond (n57 == 0)
            (∃ b138 : Bool, w116.cell? p58 = some (.bool b138) ∧
              ∃ (s139a : Option Addr) (s139l s139c : Nat), w116.cell? (p58.add 1) = some (.slice s139a s139l s139c) ∧
              ∃ n140 : Int, w116.cell? (p58.add 2) = some (.int .i64 n140) ∧
              ∃ b141 : Bool, w116.cell? p33 = some (.bool b141) ∧
              ∃ (s142a : Option Addr) (s142l s142c : Nat), w116.cell? (p33.add 1) = some (.slice s142a s142l s142c) ∧
              ∃ n143 : Int, w116.cell? (p33.add 2) = some (.int .i64 n143) ∧
              CallsX P N.f_dyad_Sub #[.agg #[.bool b138, .slice s139a s139l s139c, .int .i64 n140], .agg #[.bool b141, .slice s142a s142l s142c, .int .i64 n143]] w116 fun v145 w144 =>
              ∃ b146 : Bool, ∃ (s147a : Option Addr) (s147l s147c : Nat), ∃ n148 : Int, ∃ n149 : Int, v145 = (.tuple #[.agg #[.bool b146, .slice s147a s147l s147c, .int .i64 n148], .int .i64 n149]) ∧
              newM #[.bool false, .slice none 0 0, .int .i64 0] N.t_Dyad w144 fun p150 w151 =>
              stM p150 (.bool b146) w151 fun w152 =>
              stM (p150.add 1) (.slice s147a s147l s147c) w152 fun w153 =>
              stM (p150.add 2) (.int .i64 n148) w153 fun w154 =>
              cond (!(n149 != 0))
              (∃ b155 : Bool, w154.cell? p150 = some (.bool b155) ∧
                ∃ (s156a : Option Addr) (s156l s156c : Nat), w154.cell? (p150.add 1) = some (.slice s156a s156l s156c) ∧
                ∃ n157 : Int, w154.cell? (p150.add 2) = some (.int .i64 n157) ∧
                ∃ b158 : Bool, w154.cell? p31 = some (.bool b158) ∧
                ∃ (s159a : Option Addr) (s159l s159c : Nat), w154.cell? (p31.add 1) = some (.slice s159a s159l s159c) ∧
                ∃ n160 : Int, w154.cell? (p31.add 2) = some (.int .i64 n160) ∧
                CallsX P N.f_girderkit_SameDyad #[.agg #[.bool b155, .slice s156a s156l s156c, .int .i64 n157], .agg #[.bool b158, .slice s159a s159l s159c, .int .i64 n160]] w154 fun v162 w161 =>
                ∃ b163 : Bool, v162 = (.bool b163) ∧
                cond (!b163)
                (K (.bool false) w161)
                (J135 (()) w161))
              (K (.bool false) w154))
            (J135 (()) w116))
          (fun s136 w137 =>
            ∃ b164 : Bool, w137.cell? p33 = some (.bool b164) ∧
            ∃ (s165a : Option Addr) (s165l s165c : Nat), w137.cell? (p33.add 1) = some (.slice s165a s165l s165c) ∧
            ∃ n166 : Int, w137.cell? (p33.add 2) = some (.int .i64 n166) ∧
            ∃ b167 : Bool, w137.cell? p35 = some (.bool b167) ∧
            ∃ (s168a : Option Addr) (s168l s168c : Nat), w137.cell? (p35.add 1) = some (.slice s168a s168l s168c) ∧
            ∃ n169 : Int, w137.cell? (p35.add 2) = some (.int .i64 n169) ∧
            CallsX P N.f_dyad_Add #[.agg #[.bool b164, .slice s165a s165l s165c, .int .i64 n166], .agg #[.bool b167, .slice s168a s168l s168c, .int .i64 n169]] w137 fun v171 w170 =>
            ∃ b172 : Bool, ∃ (s173a : Option Addr) (s173l s173c : Nat), ∃ n174 : Int, ∃ n175 : Int, v171 = (.tuple #[.agg #[.bool b172, .slice s173a s173l s173c, .int .i64 n174], .int .i64 n175]) ∧
            newM #[.bool false, .slice none 0 0, .int .i64 0] N.t_Dyad w170 fun p176 w177 =>
            stM p176 (.bool b172) w177 fun w178 =>
            stM (p176.add 1) (.slice s173a s173l s173c) w178 fun w179 =>
            stM (p176.add 2) (.int .i64 n174) w179 fun w180 =>
            cutM (σ := Bool × Unit) (fun J181 =>
              cond (n57 == 0)
              (J181 ((n175 == 0), ()) w180)
              (J181 (false, ()) w180))
            (fun s182 w183 =>
              cutM (σ := Unit) (fun J184 =>
                cond s182.1
                (∃ b187 : Bool, w183.cell? p58 = some (.bool b187) ∧
                  ∃ (s188a : Option Addr) (s188l s188c : Nat), w183.cell? (p58.add 1) = some (.slice s188a s188l s188c) ∧
                  ∃ n189 : Int, w183.cell? (p58.add 2) = some (.int .i64 n189) ∧
                  ∃ b190 : Bool, w183.cell? p35 = some (.bool b190) ∧
                  ∃ (s191a : Option Addr) (s191l s191c : Nat), w183.cell? (p35.add 1) = some (.slice s191a s191l s191c) ∧
                  ∃ n192 : Int, w183.cell? (p35.add 2) = some (.int .i64 n192) ∧
                  CallsX P N.f_dyad_Add #[.agg #[.bool b187, .slice s188a s188l s188c, .int .i64 n189], .agg #[.bool b190, .slice s191a s191l s191c, .int .i64 n192]] w183 fun v194 w193 =>
                  ∃ b195 : Bool, ∃ (s196a : Option Addr) (s196l s196c : Nat), ∃ n197 : Int, ∃ n198 : Int, v194 = (.tuple #[.agg #[.bool b195, .slice s196a s196l s196c, .int .i64 n197], .int .i64 n198]) ∧
                  newM #[.bool false, .slice none 0 0, .int .i64 0] N.t_Dyad w193 fun p199 w200 =>
                  stM p199 (.bool b195) w200 fun w201 =>
                  stM (p199.add 1) (.slice s196a s196l s196c) w201 fun w202 =>
                  stM (p199.add 2) (.int .i64 n197) w202 fun w203 =>
                  ∃ b204 : Bool, w203.cell? p31 = some (.bool b204) ∧
                  ∃ (s205a : Option Addr) (s205l s205c : Nat), w203.cell? (p31.add 1) = some (.slice s205a s205l s205c) ∧
                  ∃ n206 : Int, w203.cell? (p31.add 2) = some (.int .i64 n206) ∧
                  ∃ b207 : Bool, w203.cell? p176 = some (.bool b207) ∧
                  ∃ (s208a : Option Addr) (s208l s208c : Nat), w203.cell? (p176.add 1) = some (.slice s208a s208l s208c) ∧
                  ∃ n209 : Int, w203.cell? (p176.add 2) = some (.int .i64 n209) ∧
                  CallsX P N.f_dyad_Add #[.agg #[.bool b204, .slice s205a s205l s205c, .int .i64 n206], .agg #[.bool b207, .slice s208a s208l s208c, .int .i64 n209]] w203 fun v211 w210 =>
                  ∃ b212 : Bool, ∃ (s213a : Option Addr) (s213l s213c : Nat), ∃ n214 : Int, ∃ n215 : Int, v211 = (.tuple #[.agg #[.bool b212, .slice s213a s213l s213c, .int .i64 n214], .int .i64 n215]) ∧
                  newM #[.bool false, .slice none 0 0, .int .i64 0] N.t_Dyad w210 fun p216 w217 =>
                  stM p216 (.bool b212) w217 fun w218 =>
                  stM (p216.add 1) (.slice s213a s213l s213c) w218 fun w219 =>
                  stM (p216.add 2) (.int .i64 n214) w219 fun w220 =>
                  ∃ b221 : Bool, w220.cell? p199 = some (.bool b221) ∧
                  ∃ (s222a : Option Addr) (s222l s222c : Nat), w220.cell? (p199.add 1) = some (.slice s222a s222l s222c) ∧
                  ∃ n223 : Int, w220.cell? (p199.add 2) = some (.int .i64 n223) ∧
                  ∃ b224 : Bool, w220.cell? p216 = some (.bool b224) ∧
                  ∃ (s225a : Option Addr) (s225l s225c : Nat), w220.cell? (p216.add 1) = some (.slice s225a s225l s225c) ∧
                  ∃ n226 : Int, w220.cell? (p216.add 2) = some (.int .i64 n226) ∧
                  CallsX P N.f_girderlaw02_same #[.agg #[.bool b221, .slice s222a s222l s222c, .int .i64 n223], .int .i64 n198, .agg #[.bool b224, .slice s225a s225l s225c, .int .i64 n226], .int .i64 n215] w220 fun v228 w227 =>
                  ∃ b229 : Bool, v228 = (.bool b229) ∧
                  cond (!b229)
                  (K (.bool false) w227)
                  (J184 (()) w227))
                (J184 (()) w183))
              (fun s185 w186 =>
                ∃ b230 : Bool, w186.cell? p33 = some (.bool b230) ∧
                ∃ (s231a : Option Addr) (s231l s231c : Nat), w186.cell? (p33.add 1) = some (.slice s231a s231l s231c) ∧
                ∃ n232 : Int, w186.cell? (p33.add 2) = some (.int .i64 n232) ∧
                ∃ b233 : Bool, w186.cell? p35 = some (.bool b233) ∧
                ∃ (s234a : Option Addr) (s234l s234c : Nat), w186.cell? (p35.add 1) = some (.slice s234a s234l s234c) ∧
                ∃ n235 : Int, w186.cell? (p35.add 2) = some (.int .i64 n235) ∧
                CallsX P N.f_dyad_Mul #[.agg #[.bool b230, .slice s231a s231l s231c, .int .i64 n232], .agg #[.bool b233, .slice s234a s234l s234c, .int .i64 n235]] w186 fun v237 w236 =>
                ∃ b238 : Bool, ∃ (s239a : Option Addr) (s239l s239c : Nat), ∃ n240 : Int, ∃ n241 : Int, v237 = (.tuple #[.agg #[.bool b238, .slice s239a s239l s239c, .int .i64 n240], .int .i64 n241]) ∧
                newM #[.bool false, .slice none 0 0, .int .i64 0] N.t_Dyad w236 fun p242 w243 =>
                stM p242 (.bool b238) w243 fun w244 =>
                stM (p242.add 1) (.slice s239a s239l s239c) w244 fun w245 =>
                stM (p242.add 2) (.int .i64 n240) w245 fun w246 =>
                cutM (σ := Bool × Unit) (fun J247 =>
                  cond (n91 == 0)
                  (J247 ((n241 == 0), ()) w246)
                  (J247 (false, ()) w246))
                (fun s248 w249 =>
                  cutM (σ := Unit) (fun J250 =>
                    cond s248.1
                    (∃ b253 : Bool, w249.cell? p92 = some (.bool b253) ∧
                      ∃ (s254a : Option Addr) (s254l s254c : Nat), w249.cell? (p92.add 1) = some (.slice s254a s254l s254c) ∧
                      ∃ n255 : Int, w249.cell? (p92.add 2) = some (.int .i64 n255) ∧
                      ∃ b256 : Bool, w249.cell? p35 = some (.bool b256) ∧
                      ∃ (s257a : Option Addr) (s257l s257c : Nat), w249.cell? (p35.add 1) = some (.slice s257a s257l s257c) ∧
                      ∃ n258 : Int, w249.cell? (p35.add 2) = some (.int .i64 n258) ∧
                      CallsX P N.f_dyad_Mul #[.agg #[.bool b253, .slice s254a s254l s254c, .int .i64 n255], .agg #[.bool b256, .slice s257a s257l s257c, .int .i64 n258]] w249 fun v260 w259 =>
                      ∃ b261 : Bool, ∃ (s262a : Option Addr) (s262l s262c : Nat), ∃ n263 : Int, ∃ n264 : Int, v260 = (.tuple #[.agg #[.bool b261, .slice s262a s262l s262c, .int .i64 n263], .int .i64 n264]) ∧
                      newM #[.bool false, .slice none 0 0, .int .i64 0] N.t_Dyad w259 fun p265 w266 =>
                      stM p265 (.bool b261) w266 fun w267 =>
                      stM (p265.add 1) (.slice s262a s262l s262c) w267 fun w268 =>
                      stM (p265.add 2) (.int .i64 n263) w268 fun w269 =>
                      ∃ b270 : Bool, w269.cell? p31 = some (.bool b270) ∧
                      ∃ (s271a : Option Addr) (s271l s271c : Nat), w269.cell? (p31.add 1) = some (.slice s271a s271l s271c) ∧
                      ∃ n272 : Int, w269.cell? (p31.add 2) = some (.int .i64 n272) ∧
                      ∃ b273 : Bool, w269.cell? p242 = some (.bool b273) ∧
                      ∃ (s274a : Option Addr) (s274l s274c : Nat), w269.cell? (p242.add 1) = some (.slice s274a s274l s274c) ∧
                      ∃ n275 : Int, w269.cell? (p242.add 2) = some (.int .i64 n275) ∧
                      CallsX P N.f_dyad_Mul #[.agg #[.bool b270, .slice s271a s271l s271c, .int .i64 n272], .agg #[.bool b273, .slice s274a s274l s274c, .int .i64 n275]] w269 fun v277 w276 =>
                      ∃ b278 : Bool, ∃ (s279a : Option Addr) (s279l s279c : Nat), ∃ n280 : Int, ∃ n281 : Int, v277 = (.tuple #[.agg #[.bool b278, .slice s279a s279l s279c, .int .i64 n280], .int .i64 n281]) ∧
                      newM #[.bool false, .slice none 0 0, .int .i64 0] N.t_Dyad w276 fun p282 w283 =>
                      stM p282 (.bool b278) w283 fun w284 =>
                      stM (p282.add 1) (.slice s279a s279l s279c) w284 fun w285 =>
                      stM (p282.add 2) (.int .i64 n280) w285 fun w286 =>
                      ∃ b287 : Bool, w286.cell? p265 = some (.bool b287) ∧
                      ∃ (s288a : Option Addr) (s288l s288c : Nat), w286.cell? (p265.add 1) = some (.slice s288a s288l s288c) ∧
                      ∃ n289 : Int, w286.cell? (p265.add 2) = some (.int .i64 n289) ∧
                      ∃ b290 : Bool, w286.cell? p282 = some (.bool b290) ∧
                      ∃ (s291a : Option Addr) (s291l s291c : Nat), w286.cell? (p282.add 1) = some (.slice s291a s291l s291c) ∧
                      ∃ n292 : Int, w286.cell? (p282.add 2) = some (.int .i64 n292) ∧
                      CallsX P N.f_girderlaw02_same #[.agg #[.bool b287, .slice s288a s288l s288c, .int .i64 n289], .int .i64 n264, .agg #[.bool b290, .slice s291a s291l s291c, .int .i64 n292], .int .i64 n281] w286 fun v294 w293 =>
                      ∃ b295 : Bool, v294 = (.bool b295) ∧
                      cond (!b295)
                      (K (.bool false) w293)
                      (J250 (()) w293))
                    (J250 (()) w249))
                  (fun s251 w252 =>
                    ∃ b296 : Bool, w252.cell? p31 = some (.bool b296) ∧
                    ∃ (s297a : Option Addr) (s297l s297c : Nat), w252.cell? (p31.add 1) = some (.slice s297a s297l s297c) ∧
                    ∃ n298 : Int, w252.cell? (p31.add 2) = some (.int .i64 n298) ∧
                    ∃ b299 : Bool, w252.cell? p35 = some (.bool b299) ∧
                    ∃ (s300a : Option Addr) (s300l s300c : Nat), w252.cell? (p35.add 1) = some (.slice s300a s300l s300c) ∧
                    ∃ n301 : Int, w252.cell? (p35.add 2) = some (.int .i64 n301) ∧
                    CallsX P N.f_dyad_Mul #[.agg #[.bool b296, .slice s297a s297l s297c, .int .i64 n298], .agg #[.bool b299, .slice s300a s300l s300c, .int .i64 n301]] w252 fun v303 w302 =>
                    ∃ b304 : Bool, ∃ (s305a : Option Addr) (s305l s305c : Nat), ∃ n306 : Int, ∃ n307 : Int, v303 = (.tuple #[.agg #[.bool b304, .slice s305a s305l s305c, .int .i64 n306], .int .i64 n307]) ∧
                    newM #[.bool false, .slice none 0 0, .int .i64 0] N.t_Dyad w302 fun p308 w309 =>
                    stM p308 (.bool b304) w309 fun w310 =>
                    stM (p308.add 1) (.slice s305a s305l s305c) w310 fun w311 =>
                    stM (p308.add 2) (.int .i64 n306) w311 fun w312 =>
                    cutM (σ := Bool × Unit) (fun J313 =>
                      cond (n175 == 0)
                      (cond (n91 == 0)
                        (J313 ((n307 == 0), ()) w312)
                        (J313 (false, ()) w312))
                      (J313 (false, ()) w312))
                    (fun s314 w315 =>
                      cutM (σ := Unit) (fun J316 =>
                        cond s314.1
                        (∃ b319 : Bool, w315.cell? p31 = some (.bool b319) ∧
                          ∃ (s320a : Option Addr) (s320l s320c : Nat), w315.cell? (p31.add 1) = some (.slice s320a s320l s320c) ∧
                          ∃ n321 : Int, w315.cell? (p31.add 2) = some (.int .i64 n321) ∧
                          ∃ b322 : Bool, w315.cell? p176 = some (.bool b322) ∧
                          ∃ (s323a : Option Addr) (s323l s323c : Nat), w315.cell? (p176.add 1) = some (.slice s323a s323l s323c) ∧
                          ∃ n324 : Int, w315.cell? (p176.add 2) = some (.int .i64 n324) ∧
                          CallsX P N.f_dyad_Mul #[.agg #[.bool b319, .slice s320a s320l s320c, .int .i64 n321], .agg #[.bool b322, .slice s323a s323l s323c, .int .i64 n324]] w315 fun v326 w325 =>
                          ∃ b327 : Bool, ∃ (s328a : Option Addr) (s328l s328c : Nat), ∃ n329 : Int, ∃ n330 : Int, v326 = (.tuple #[.agg #[.bool b327, .slice s328a s328l s328c, .int .i64 n329], .int .i64 n330]) ∧
                          newM #[.bool false, .slice none 0 0, .int .i64 0] N.t_Dyad w325 fun p331 w332 =>
                          stM p331 (.bool b327) w332 fun w333 =>
                          stM (p331.add 1) (.slice s328a s328l s328c) w333 fun w334 =>
                          stM (p331.add 2) (.int .i64 n329) w334 fun w335 =>
                          ∃ b336 : Bool, w335.cell? p92 = some (.bool b336) ∧
                          ∃ (s337a : Option Addr) (s337l s337c : Nat), w335.cell? (p92.add 1) = some (.slice s337a s337l s337c) ∧
                          ∃ n338 : Int, w335.cell? (p92.add 2) = some (.int .i64 n338) ∧
                          ∃ b339 : Bool, w335.cell? p308 = some (.bool b339) ∧
                          ∃ (s340a : Option Addr) (s340l s340c : Nat), w335.cell? (p308.add 1) = some (.slice s340a s340l s340c) ∧
                          ∃ n341 : Int, w335.cell? (p308.add 2) = some (.int .i64 n341) ∧
                          CallsX P N.f_dyad_Add #[.agg #[.bool b336, .slice s337a s337l s337c, .int .i64 n338], .agg #[.bool b339, .slice s340a s340l s340c, .int .i64 n341]] w335 fun v343 w342 =>
                          ∃ b344 : Bool, ∃ (s345a : Option Addr) (s345l s345c : Nat), ∃ n346 : Int, ∃ n347 : Int, v343 = (.tuple #[.agg #[.bool b344, .slice s345a s345l s345c, .int .i64 n346], .int .i64 n347]) ∧
                          newM #[.bool false, .slice none 0 0, .int .i64 0] N.t_Dyad w342 fun p348 w349 =>
                          stM p348 (.bool b344) w349 fun w350 =>
                          stM (p348.add 1) (.slice s345a s345l s345c) w350 fun w351 =>
                          stM (p348.add 2) (.int .i64 n346) w351 fun w352 =>
                          ∃ b353 : Bool, w352.cell? p331 = some (.bool b353) ∧
                          ∃ (s354a : Option Addr) (s354l s354c : Nat), w352.cell? (p331.add 1) = some (.slice s354a s354l s354c) ∧
                          ∃ n355 : Int, w352.cell? (p331.add 2) = some (.int .i64 n355) ∧
                          ∃ b356 : Bool, w352.cell? p348 = some (.bool b356) ∧
                          ∃ (s357a : Option Addr) (s357l s357c : Nat), w352.cell? (p348.add 1) = some (.slice s357a s357l s357c) ∧
                          ∃ n358 : Int, w352.cell? (p348.add 2) = some (.int .i64 n358) ∧
                          CallsX P N.f_girderlaw02_same #[.agg #[.bool b353, .slice s354a s354l s354c, .int .i64 n355], .int .i64 n330, .agg #[.bool b356, .slice s357a s357l s357c, .int .i64 n358], .int .i64 n347] w352 fun v360 w359 =>
                          ∃ b361 : Bool, v360 = (.bool b361) ∧
                          cond (!b361)
                          (K (.bool false) w359)
                          (J316 (()) w359))
                        (J316 (()) w315))
                      (fun s317 w318 =>
                        K (.bool true) w318)))))))))))

/-- girder/girderlaw02.DyadFloats -/
def S_girderlaw02_DyadFloats (N : Nums) (P : Program) (q0 : Nat) (q1 : Int) (w : World) (K : Value → World → Prop) : Prop :=
  CallsX P N.f_girderlaw02_awake #[] w fun v2 w1 =>
  ∃ b3 : Bool, v2 = (.bool b3) ∧
  cond (!b3)
  (K (.bool false) w1)
  (CallsX P N.f_dyad_Of #[.float .f64 q0] w1 fun v5 w4 =>
    ∃ b6 : Bool, ∃ (s7a : Option Addr) (s7l s7c : Nat), ∃ n8 : Int, ∃ n9 : Int, v5 = (.tuple #[.agg #[.bool b6, .slice s7a s7l s7c, .int .i64 n8], .int .i64 n9]) ∧
    newM #[.bool false, .slice none 0 0, .int .i64 0] N.t_Dyad w4 fun p10 w11 =>
    stM p10 (.bool b6) w11 fun w12 =>
    stM (p10.add 1) (.slice s7a s7l s7c) w12 fun w13 =>
    stM (p10.add 2) (.int .i64 n8) w13 fun w14 =>
    CallsX P N.f_girderkit_Finite #[.float .f64 q0] w14 fun v16 w15 =>
    ∃ b17 : Bool, v16 = (.bool b17) ∧
    cond (!b17)
    (cond (n9 == 5)
      (∃ b18 : Bool, w15.cell? p10 = some (.bool b18) ∧
        ∃ (s19a : Option Addr) (s19l s19c : Nat), w15.cell? (p10.add 1) = some (.slice s19a s19l s19c) ∧
        ∃ n20 : Int, w15.cell? (p10.add 2) = some (.int .i64 n20) ∧
        CallsX P N.f_girderkit_SameDyad #[.agg #[.bool b18, .slice s19a s19l s19c, .int .i64 n20], .agg #[.bool false, .slice none 0 0, .int .i64 0]] w15 fun v22 w21 =>
        ∃ b23 : Bool, v22 = (.bool b23) ∧
        K (.bool b23) w21)
      (K (.bool false) w15))
    (∃ b24 : Bool, w15.cell? p10 = some (.bool b24) ∧
      ∃ (s25a : Option Addr) (s25l s25c : Nat), w15.cell? (p10.add 1) = some (.slice s25a s25l s25c) ∧
      ∃ n26 : Int, w15.cell? (p10.add 2) = some (.int .i64 n26) ∧
      CallsX P N.f_dyad_Round #[.agg #[.bool b24, .slice s25a s25l s25c, .int .i64 n26], .int .i8 q1] w15 fun v28 w27 =>
      ∃ x29 : Nat, ∃ n30 : Int, v28 = (.tuple #[.float .f64 x29, .int .i64 n30]) ∧
      cutM (σ := Bool × Unit) (fun J31 =>
        cond (feq q0 0)
        (CallsX P N.f_girderkit_SameFloat #[.float .f64 x29, .float .f64 0] w27 fun v35 w34 =>
          ∃ b36 : Bool, v35 = (.bool b36) ∧
          J31 (b36, ()) w34)
        (J31 (false, ()) w27))
      (fun s32 w33 =>
        ∃ b37 : Bool, w33.cell? p10 = some (.bool b37) ∧
        ∃ (s38a : Option Addr) (s38l s38c : Nat), w33.cell? (p10.add 1) = some (.slice s38a s38l s38c) ∧
        ∃ n39 : Int, w33.cell? (p10.add 2) = some (.int .i64 n39) ∧
        CallsX P N.f_dyad_Sign #[.agg #[.bool b37, .slice s38a s38l s38c, .int .i64 n39]] w33 fun v41 w40 =>
        ∃ n42 : Int, ∃ n43 : Int, v41 = (.tuple #[.int .i64 n42, .int .i64 n43]) ∧
        cutM (σ := Int × Unit) (fun J44 =>
          cond (fgt q0 0)
          (J44 (1, ()) w40)
          (J44 (0, ()) w40))
        (fun s45 w46 =>
          cutM (σ := Int × Unit) (fun J47 =>
            cond (flt q0 0)
            (J47 ((-1), ()) w46)
            (J47 (s45.1, ()) w46))
          (fun s48 w49 =>
            cond (n9 == 0)
            (cond (n30 == 0)
              (cond (n43 == 0)
                (cond (!s32.1)
                  (CallsX P N.f_girderkit_SameFloat #[.float .f64 q0, .float .f64 x29] w49 fun v51 w50 =>
                    ∃ b52 : Bool, v51 = (.bool b52) ∧
                    cond b52
                    (∃ b53 : Bool, w50.cell? p10 = some (.bool b53) ∧
                      ∃ (s54a : Option Addr) (s54l s54c : Nat), w50.cell? (p10.add 1) = some (.slice s54a s54l s54c) ∧
                      ∃ n55 : Int, w50.cell? (p10.add 2) = some (.int .i64 n55) ∧
                      CallsX P N.f_dyad_Fits #[.agg #[.bool b53, .slice s54a s54l s54c, .int .i64 n55]] w50 fun v57 w56 =>
                      ∃ b58 : Bool, v57 = (.bool b58) ∧
                      cond b58
                      (∃ b59 : Bool, w56.cell? p10 = some (.bool b59) ∧
                        ∃ (s60a : Option Addr) (s60l s60c : Nat), w56.cell? (p10.add 1) = some (.slice s60a s60l s60c) ∧
                        ∃ n61 : Int, w56.cell? (p10.add 2) = some (.int .i64 n61) ∧
                        CallsX P N.f_dyad_Right #[.agg #[.bool b59, .slice s60a s60l s60c, .int .i64 n61]] w56 fun v63 w62 =>
                        ∃ b64 : Bool, v63 = (.bool b64) ∧
                        cond b64
                        (K (.bool (n42 == s48.1)) w62)
                        (K (.bool false) w62))
                      (K (.bool false) w56))
                    (K (.bool false) w50))
                  (∃ b65 : Bool, w49.cell? p10 = some (.bool b65) ∧
                    ∃ (s66a : Option Addr) (s66l s66c : Nat), w49.cell? (p10.add 1) = some (.slice s66a s66l s66c) ∧
                    ∃ n67 : Int, w49.cell? (p10.add 2) = some (.int .i64 n67) ∧
                    CallsX P N.f_dyad_Fits #[.agg #[.bool b65, .slice s66a s66l s66c, .int .i64 n67]] w49 fun v69 w68 =>
                    ∃ b70 : Bool, v69 = (.bool b70) ∧
                    cond b70
                    (∃ b71 : Bool, w68.cell? p10 = some (.bool b71) ∧
                      ∃ (s72a : Option Addr) (s72l s72c : Nat), w68.cell? (p10.add 1) = some (.slice s72a s72l s72c) ∧
                      ∃ n73 : Int, w68.cell? (p10.add 2) = some (.int .i64 n73) ∧
                      CallsX P N.f_dyad_Right #[.agg #[.bool b71, .slice s72a s72l s72c, .int .i64 n73]] w68 fun v75 w74 =>
                      ∃ b76 : Bool, v75 = (.bool b76) ∧
                      cond b76
                      (K (.bool (n42 == s48.1)) w74)
                      (K (.bool false) w74))
                    (K (.bool false) w68)))
                (K (.bool false) w49))
              (K (.bool false) w49))
            (K (.bool false) w49))))))

/-- girder/girderlaw02.DyadOrders -/
def S_girderlaw02_DyadOrders (N : Nums) (P : Program) (q0_0 : Bool) (q0_1 : Option Addr) (q0_1l q0_1c : Nat) (q0_2 : Int) (q1_0 : Bool) (q1_1 : Option Addr) (q1_1l q1_1c : Nat) (q1_2 : Int) (q2_0 : Bool) (q2_1 : Option Addr) (q2_1l q2_1c : Nat) (q2_2 : Int) (w : World) (K : Value → World → Prop) : Prop :=
  newM #[.bool q0_0, .slice q0_1 q0_1l q0_1c, .int .i64 q0_2] N.t_Dyad w fun p1 w2 =>
  newM #[.bool q1_0, .slice q1_1 q1_1l q1_1c, .int .i64 q1_2] N.t_Dyad w2 fun p3 w4 =>
  newM #[.bool q2_0, .slice q2_1 q2_1l q2_1c, .int .i64 q2_2] N.t_Dyad w4 fun p5 w6 =>
  CallsX P N.f_girderlaw02_awake #[] w6 fun v8 w7 =>
  ∃ b9 : Bool, v8 = (.bool b9) ∧
  cond (!b9)
  (K (.bool false) w7)
  (∃ b10 : Bool, w7.cell? p1 = some (.bool b10) ∧
    ∃ (s11a : Option Addr) (s11l s11c : Nat), w7.cell? (p1.add 1) = some (.slice s11a s11l s11c) ∧
    ∃ n12 : Int, w7.cell? (p1.add 2) = some (.int .i64 n12) ∧
    ∃ b13 : Bool, w7.cell? p3 = some (.bool b13) ∧
    ∃ (s14a : Option Addr) (s14l s14c : Nat), w7.cell? (p3.add 1) = some (.slice s14a s14l s14c) ∧
    ∃ n15 : Int, w7.cell? (p3.add 2) = some (.int .i64 n15) ∧
    ∃ b16 : Bool, w7.cell? p5 = some (.bool b16) ∧
    ∃ (s17a : Option Addr) (s17l s17c : Nat), w7.cell? (p5.add 1) = some (.slice s17a s17l s17c) ∧
    ∃ n18 : Int, w7.cell? (p5.add 2) = some (.int .i64 n18) ∧
    CallsX P N.f_girderlaw02_made #[.agg #[.bool b10, .slice s11a s11l s11c, .int .i64 n12], .agg #[.bool b13, .slice s14a s14l s14c, .int .i64 n15], .agg #[.bool b16, .slice s17a s17l s17c, .int .i64 n18]] w7 fun v20 w19 =>
    ∃ b21 : Bool, ∃ (s22a : Option Addr) (s22l s22c : Nat), ∃ n23 : Int, ∃ b24 : Bool, ∃ (s25a : Option Addr) (s25l s25c : Nat), ∃ n26 : Int, ∃ b27 : Bool, ∃ (s28a : Option Addr) (s28l s28c : Nat), ∃ n29 : Int, ∃ b30 : Bool, v20 = (.tuple #[.agg #[.bool b21, .slice s22a s22l s22c, .int .i64 n23], .agg #[.bool b24, .slice s25a s25l s25c, .int .i64 n26], .agg #[.bool b27, .slice s28a s28l s28c, .int .i64 n29], .bool b30]) ∧
    newM #[.bool false, .slice none 0 0, .int .i64 0] N.t_Dyad w19 fun p31 w32 =>
    newM #[.bool false, .slice none 0 0, .int .i64 0] N.t_Dyad w32 fun p33 w34 =>
    newM #[.bool false, .slice none 0 0, .int .i64 0] N.t_Dyad w34 fun p35 w36 =>
    stM p31 (.bool b21) w36 fun w37 =>
    stM (p31.add 1) (.slice s22a s22l s22c) w37 fun w38 =>
    stM (p31.add 2) (.int .i64 n23) w38 fun w39 =>
    stM p33 (.bool b24) w39 fun w40 =>
    stM (p33.add 1) (.slice s25a s25l s25c) w40 fun w41 =>
    stM (p33.add 2) (.int .i64 n26) w41 fun w42 =>
    stM p35 (.bool b27) w42 fun w43 =>
    stM (p35.add 1) (.slice s28a s28l s28c) w43 fun w44 =>
    stM (p35.add 2) (.int .i64 n29) w44 fun w45 =>
    cond (!b30)
    (K (.bool true) w45)
    (∃ b46 : Bool, w45.cell? p31 = some (.bool b46) ∧
      ∃ (s47a : Option Addr) (s47l s47c : Nat), w45.cell? (p31.add 1) = some (.slice s47a s47l s47c) ∧
      ∃ n48 : Int, w45.cell? (p31.add 2) = some (.int .i64 n48) ∧
      ∃ b49 : Bool, w45.cell? p33 = some (.bool b49) ∧
      ∃ (s50a : Option Addr) (s50l s50c : Nat), w45.cell? (p33.add 1) = some (.slice s50a s50l s50c) ∧
      ∃ n51 : Int, w45.cell? (p33.add 2) = some (.int .i64 n51) ∧
      CallsX P N.f_dyad_Cmp #[.agg #[.bool b46, .slice s47a s47l s47c, .int .i64 n48], .agg #[.bool b49, .slice s50a s50l s50c, .int .i64 n51]] w45 fun v53 w52 =>
      ∃ n54 : Int, ∃ n55 : Int, v53 = (.tuple #[.int .i64 n54, .int .i64 n55]) ∧
      ∃ b56 : Bool, w52.cell? p33 = some (.bool b56) ∧
      ∃ (s57a : Option Addr) (s57l s57c : Nat), w52.cell? (p33.add 1) = some (.slice s57a s57l s57c) ∧
      ∃ n58 : Int, w52.cell? (p33.add 2) = some (.int .i64 n58) ∧
      ∃ b59 : Bool, w52.cell? p31 = some (.bool b59) ∧
      ∃ (s60a : Option Addr) (s60l s60c : Nat), w52.cell? (p31.add 1) = some (.slice s60a s60l s60c) ∧
      ∃ n61 : Int, w52.cell? (p31.add 2) = some (.int .i64 n61) ∧
      CallsX P N.f_dyad_Cmp #[.agg #[.bool b56, .slice s57a s57l s57c, .int .i64 n58], .agg #[.bool b59, .slice s60a s60l s60c, .int .i64 n61]] w52 fun v63 w62 =>
      ∃ n64 : Int, ∃ n65 : Int, v63 = (.tuple #[.int .i64 n64, .int .i64 n65]) ∧
      ∃ b66 : Bool, w62.cell? p33 = some (.bool b66) ∧
      ∃ (s67a : Option Addr) (s67l s67c : Nat), w62.cell? (p33.add 1) = some (.slice s67a s67l s67c) ∧
      ∃ n68 : Int, w62.cell? (p33.add 2) = some (.int .i64 n68) ∧
      ∃ b69 : Bool, w62.cell? p35 = some (.bool b69) ∧
      ∃ (s70a : Option Addr) (s70l s70c : Nat), w62.cell? (p35.add 1) = some (.slice s70a s70l s70c) ∧
      ∃ n71 : Int, w62.cell? (p35.add 2) = some (.int .i64 n71) ∧
      CallsX P N.f_dyad_Cmp #[.agg #[.bool b66, .slice s67a s67l s67c, .int .i64 n68], .agg #[.bool b69, .slice s70a s70l s70c, .int .i64 n71]] w62 fun v73 w72 =>
      ∃ n74 : Int, ∃ n75 : Int, v73 = (.tuple #[.int .i64 n74, .int .i64 n75]) ∧
      ∃ b76 : Bool, w72.cell? p31 = some (.bool b76) ∧
      ∃ (s77a : Option Addr) (s77l s77c : Nat), w72.cell? (p31.add 1) = some (.slice s77a s77l s77c) ∧
      ∃ n78 : Int, w72.cell? (p31.add 2) = some (.int .i64 n78) ∧
      ∃ b79 : Bool, w72.cell? p35 = some (.bool b79) ∧
      ∃ (s80a : Option Addr) (s80l s80c : Nat), w72.cell? (p35.add 1) = some (.slice s80a s80l s80c) ∧
      ∃ n81 : Int, w72.cell? (p35.add 2) = some (.int .i64 n81) ∧
      CallsX P N.f_dyad_Cmp #[.agg #[.bool b76, .slice s77a s77l s77c, .int .i64 n78], .agg #[.bool b79, .slice s80a s80l s80c, .int .i64 n81]] w72 fun v83 w82 =>
      ∃ n84 : Int, ∃ n85 : Int, v83 = (.tuple #[.int .i64 n84, .int .i64 n85]) ∧
      cutM (σ := Bool × Unit) (fun J86 =>
        cond (!(n55 != 0))
        (cond (!(n65 != 0))
          (cond (!(n75 != 0))
            (cond (!(n85 != 0))
              (cond (!(n54 != (IntKind.i64.wrap (0 - n64))))
                (cond (!(decide (n54 < (-1))))
                  (cond (!(decide (n54 > 1)))
                    (∃ b89 : Bool, w82.cell? p31 = some (.bool b89) ∧
                      ∃ (s90a : Option Addr) (s90l s90c : Nat), w82.cell? (p31.add 1) = some (.slice s90a s90l s90c) ∧
                      ∃ n91 : Int, w82.cell? (p31.add 2) = some (.int .i64 n91) ∧
                      ∃ b92 : Bool, w82.cell? p33 = some (.bool b92) ∧
                      ∃ (s93a : Option Addr) (s93l s93c : Nat), w82.cell? (p33.add 1) = some (.slice s93a s93l s93c) ∧
                      ∃ n94 : Int, w82.cell? (p33.add 2) = some (.int .i64 n94) ∧
                      CallsX P N.f_girderkit_SameDyad #[.agg #[.bool b89, .slice s90a s90l s90c, .int .i64 n91], .agg #[.bool b92, .slice s93a s93l s93c, .int .i64 n94]] w82 fun v96 w95 =>
                      ∃ b97 : Bool, v96 = (.bool b97) ∧
                      J86 ((!((n54 == 0) == b97)), ()) w95)
                    (J86 (true, ()) w82))
                  (J86 (true, ()) w82))
                (J86 (true, ()) w82))
              (J86 (true, ()) w82))
            (J86 (true, ()) w82))
          (J86 (true, ()) w82))
        (J86 (true, ()) w82))
      (fun s87 w88 =>
        cond s87.1
        (K (.bool false) w88)
        (cutM (σ := Bool × Unit) (fun J98 =>
            cond (decide (n54 ≤ 0))
            (cond (decide (n74 ≤ 0))
              (cond (!(decide (n84 > 0)))
                (cond (decide (n54 < 0))
                  (cond (decide (n74 ≤ 0))
                    (J98 ((decide (n84 ≥ 0)), ()) w88)
                    (J98 (false, ()) w88))
                  (J98 (false, ()) w88))
                (J98 (true, ()) w88))
              (cond (decide (n54 < 0))
                (cond (decide (n74 ≤ 0))
                  (J98 ((decide (n84 ≥ 0)), ()) w88)
                  (J98 (false, ()) w88))
                (J98 (false, ()) w88)))
            (cond (decide (n54 < 0))
              (cond (decide (n74 ≤ 0))
                (J98 ((decide (n84 ≥ 0)), ()) w88)
                (J98 (false, ()) w88))
              (J98 (false, ()) w88)))
          (fun s99 w100 =>
            cond s99.1
            (K (.bool false) w100)
            (∃ b101 : Bool, w100.cell? p31 = some (.bool b101) ∧
              ∃ (s102a : Option Addr) (s102l s102c : Nat), w100.cell? (p31.add 1) = some (.slice s102a s102l s102c) ∧
              ∃ n103 : Int, w100.cell? (p31.add 2) = some (.int .i64 n103) ∧
              ∃ b104 : Bool, w100.cell? p33 = some (.bool b104) ∧
              ∃ (s105a : Option Addr) (s105l s105c : Nat), w100.cell? (p33.add 1) = some (.slice s105a s105l s105c) ∧
              ∃ n106 : Int, w100.cell? (p33.add 2) = some (.int .i64 n106) ∧
              CallsX P N.f_dyad_Sub #[.agg #[.bool b101, .slice s102a s102l s102c, .int .i64 n103], .agg #[.bool b104, .slice s105a s105l s105c, .int .i64 n106]] w100 fun v108 w107 =>
              ∃ b109 : Bool, ∃ (s110a : Option Addr) (s110l s110c : Nat), ∃ n111 : Int, ∃ n112 : Int, v108 = (.tuple #[.agg #[.bool b109, .slice s110a s110l s110c, .int .i64 n111], .int .i64 n112]) ∧
              newM #[.bool false, .slice none 0 0, .int .i64 0] N.t_Dyad w107 fun p113 w114 =>
              stM p113 (.bool b109) w114 fun w115 =>
              stM (p113.add 1) (.slice s110a s110l s110c) w115 fun w116 =>
              stM (p113.add 2) (.int .i64 n111) w116 fun w117 =>
              cutM (σ := Unit) (fun J118 =>
                cond (n112 == 0)
                (∃ b121 : Bool, w117.cell? p113 = some (.bool b121) ∧
                  ∃ (s122a : Option Addr) (s122l s122c : Nat), w117.cell? (p113.add 1) = some (.slice s122a s122l s122c) ∧
                  ∃ n123 : Int, w117.cell? (p113.add 2) = some (.int .i64 n123) ∧
                  CallsX P N.f_dyad_Sign #[.agg #[.bool b121, .slice s122a s122l s122c, .int .i64 n123]] w117 fun v125 w124 =>
                  ∃ n126 : Int, ∃ n127 : Int, v125 = (.tuple #[.int .i64 n126, .int .i64 n127]) ∧
                  cond (!(n127 != 0))
                  (cond (n126 != n54)
                    (K (.bool false) w124)
                    (J118 (()) w124))
                  (K (.bool false) w124))
                (J118 (()) w117))
              (fun s119 w120 =>
                ∃ b128 : Bool, w120.cell? p31 = some (.bool b128) ∧
                ∃ (s129a : Option Addr) (s129l s129c : Nat), w120.cell? (p31.add 1) = some (.slice s129a s129l s129c) ∧
                ∃ n130 : Int, w120.cell? (p31.add 2) = some (.int .i64 n130) ∧
                ∃ b131 : Bool, w120.cell? p35 = some (.bool b131) ∧
                ∃ (s132a : Option Addr) (s132l s132c : Nat), w120.cell? (p35.add 1) = some (.slice s132a s132l s132c) ∧
                ∃ n133 : Int, w120.cell? (p35.add 2) = some (.int .i64 n133) ∧
                CallsX P N.f_dyad_Add #[.agg #[.bool b128, .slice s129a s129l s129c, .int .i64 n130], .agg #[.bool b131, .slice s132a s132l s132c, .int .i64 n133]] w120 fun v135 w134 =>
                ∃ b136 : Bool, ∃ (s137a : Option Addr) (s137l s137c : Nat), ∃ n138 : Int, ∃ n139 : Int, v135 = (.tuple #[.agg #[.bool b136, .slice s137a s137l s137c, .int .i64 n138], .int .i64 n139]) ∧
                newM #[.bool false, .slice none 0 0, .int .i64 0] N.t_Dyad w134 fun p140 w141 =>
                stM p140 (.bool b136) w141 fun w142 =>
                stM (p140.add 1) (.slice s137a s137l s137c) w142 fun w143 =>
                stM (p140.add 2) (.int .i64 n138) w143 fun w144 =>
                ∃ b145 : Bool, w144.cell? p33 = some (.bool b145) ∧
                ∃ (s146a : Option Addr) (s146l s146c : Nat), w144.cell? (p33.add 1) = some (.slice s146a s146l s146c) ∧
                ∃ n147 : Int, w144.cell? (p33.add 2) = some (.int .i64 n147) ∧
                ∃ b148 : Bool, w144.cell? p35 = some (.bool b148) ∧
                ∃ (s149a : Option Addr) (s149l s149c : Nat), w144.cell? (p35.add 1) = some (.slice s149a s149l s149c) ∧
                ∃ n150 : Int, w144.cell? (p35.add 2) = some (.int .i64 n150) ∧
                CallsX P N.f_dyad_Add #[.agg #[.bool b145, .slice s146a s146l s146c, .int .i64 n147], .agg #[.bool b148, .slice s149a s149l s149c, .int .i64 n150]] w144 fun v152 w151 =>
                ∃ b153 : Bool, ∃ (s154a : Option Addr) (s154l s154c : Nat), ∃ n155 : Int, ∃ n156 : Int, v152 = (.tuple #[.agg #[.bool b153, .slice s154a s154l s154c, .int .i64 n155], .int .i64 n156]) ∧
                newM #[.bool false, .slice none 0 0, .int .i64 0] N.t_Dyad w151 fun p157 w158 =>
                stM p157 (.bool b153) w158 fun w159 =>
                stM (p157.add 1) (.slice s154a s154l s154c) w159 fun w160 =>
                stM (p157.add 2) (.int .i64 n155) w160 fun w161 =>
                cutM (σ := Bool × Unit) (fun J162 =>
                  cond (n139 == 0)
                  (J162 ((n156 == 0), ()) w161)
                  (J162 (false, ()) w161))
                (fun s163 w164 =>
                  cutM (σ := Unit) (fun J165 =>
                    cond s163.1
                    (∃ b168 : Bool, w164.cell? p140 = some (.bool b168) ∧
                      ∃ (s169a : Option Addr) (s169l s169c : Nat), w164.cell? (p140.add 1) = some (.slice s169a s169l s169c) ∧
                      ∃ n170 : Int, w164.cell? (p140.add 2) = some (.int .i64 n170) ∧
                      ∃ b171 : Bool, w164.cell? p157 = some (.bool b171) ∧
                      ∃ (s172a : Option Addr) (s172l s172c : Nat), w164.cell? (p157.add 1) = some (.slice s172a s172l s172c) ∧
                      ∃ n173 : Int, w164.cell? (p157.add 2) = some (.int .i64 n173) ∧
                      CallsX P N.f_dyad_Cmp #[.agg #[.bool b168, .slice s169a s169l s169c, .int .i64 n170], .agg #[.bool b171, .slice s172a s172l s172c, .int .i64 n173]] w164 fun v175 w174 =>
                      ∃ n176 : Int, ∃ n177 : Int, v175 = (.tuple #[.int .i64 n176, .int .i64 n177]) ∧
                      cond (!(n177 != 0))
                      (cond (n176 != n54)
                        (K (.bool false) w174)
                        (J165 (()) w174))
                      (K (.bool false) w174))
                    (J165 (()) w164))
                  (fun s166 w167 =>
                    ∃ b178 : Bool, w167.cell? p35 = some (.bool b178) ∧
                    ∃ (s179a : Option Addr) (s179l s179c : Nat), w167.cell? (p35.add 1) = some (.slice s179a s179l s179c) ∧
                    ∃ n180 : Int, w167.cell? (p35.add 2) = some (.int .i64 n180) ∧
                    CallsX P N.f_dyad_Sign #[.agg #[.bool b178, .slice s179a s179l s179c, .int .i64 n180]] w167 fun v182 w181 =>
                    ∃ n183 : Int, ∃ n184 : Int, v182 = (.tuple #[.int .i64 n183, .int .i64 n184]) ∧
                    ∃ b185 : Bool, w181.cell? p31 = some (.bool b185) ∧
                    ∃ (s186a : Option Addr) (s186l s186c : Nat), w181.cell? (p31.add 1) = some (.slice s186a s186l s186c) ∧
                    ∃ n187 : Int, w181.cell? (p31.add 2) = some (.int .i64 n187) ∧
                    ∃ b188 : Bool, w181.cell? p35 = some (.bool b188) ∧
                    ∃ (s189a : Option Addr) (s189l s189c : Nat), w181.cell? (p35.add 1) = some (.slice s189a s189l s189c) ∧
                    ∃ n190 : Int, w181.cell? (p35.add 2) = some (.int .i64 n190) ∧
                    CallsX P N.f_dyad_Mul #[.agg #[.bool b185, .slice s186a s186l s186c, .int .i64 n187], .agg #[.bool b188, .slice s189a s189l s189c, .int .i64 n190]] w181 fun v192 w191 =>
                    ∃ b193 : Bool, ∃ (s194a : Option Addr) (s194l s194c : Nat), ∃ n195 : Int, ∃ n196 : Int, v192 = (.tuple #[.agg #[.bool b193, .slice s194a s194l s194c, .int .i64 n195], .int .i64 n196]) ∧
                    stM p140 (.bool b193) w191 fun w197 =>
                    stM (p140.add 1) (.slice s194a s194l s194c) w197 fun w198 =>
                    stM (p140.add 2) (.int .i64 n195) w198 fun w199 =>
                    ∃ b200 : Bool, w199.cell? p33 = some (.bool b200) ∧
                    ∃ (s201a : Option Addr) (s201l s201c : Nat), w199.cell? (p33.add 1) = some (.slice s201a s201l s201c) ∧
                    ∃ n202 : Int, w199.cell? (p33.add 2) = some (.int .i64 n202) ∧
                    ∃ b203 : Bool, w199.cell? p35 = some (.bool b203) ∧
                    ∃ (s204a : Option Addr) (s204l s204c : Nat), w199.cell? (p35.add 1) = some (.slice s204a s204l s204c) ∧
                    ∃ n205 : Int, w199.cell? (p35.add 2) = some (.int .i64 n205) ∧
                    CallsX P N.f_dyad_Mul #[.agg #[.bool b200, .slice s201a s201l s201c, .int .i64 n202], .agg #[.bool b203, .slice s204a s204l s204c, .int .i64 n205]] w199 fun v207 w206 =>
                    ∃ b208 : Bool, ∃ (s209a : Option Addr) (s209l s209c : Nat), ∃ n210 : Int, ∃ n211 : Int, v207 = (.tuple #[.agg #[.bool b208, .slice s209a s209l s209c, .int .i64 n210], .int .i64 n211]) ∧
                    stM p157 (.bool b208) w206 fun w212 =>
                    stM (p157.add 1) (.slice s209a s209l s209c) w212 fun w213 =>
                    stM (p157.add 2) (.int .i64 n210) w213 fun w214 =>
                    cond (n196 == 0)
                    (cond (n211 == 0)
                      (∃ b215 : Bool, w214.cell? p140 = some (.bool b215) ∧
                        ∃ (s216a : Option Addr) (s216l s216c : Nat), w214.cell? (p140.add 1) = some (.slice s216a s216l s216c) ∧
                        ∃ n217 : Int, w214.cell? (p140.add 2) = some (.int .i64 n217) ∧
                        ∃ b218 : Bool, w214.cell? p157 = some (.bool b218) ∧
                        ∃ (s219a : Option Addr) (s219l s219c : Nat), w214.cell? (p157.add 1) = some (.slice s219a s219l s219c) ∧
                        ∃ n220 : Int, w214.cell? (p157.add 2) = some (.int .i64 n220) ∧
                        CallsX P N.f_dyad_Cmp #[.agg #[.bool b215, .slice s216a s216l s216c, .int .i64 n217], .agg #[.bool b218, .slice s219a s219l s219c, .int .i64 n220]] w214 fun v222 w221 =>
                        ∃ n223 : Int, ∃ n224 : Int, v222 = (.tuple #[.int .i64 n223, .int .i64 n224]) ∧
                        cond (n224 == 0)
                        (K (.bool (n223 == (IntKind.i64.wrap (n54 * n183)))) w221)
                        (K (.bool false) w221))
                      (K (.bool true) w214))
                    (K (.bool true) w214))))))))))

/-- girder/girderlaw02.DyadBetween -/
def S_girderlaw02_DyadBetween (N : Nums) (P : Program) (q0_0 : Bool) (q0_1 : Option Addr) (q0_1l q0_1c : Nat) (q0_2 : Int) (w : World) (K : Value → World → Prop) : Prop :=
  newM #[.bool q0_0, .slice q0_1 q0_1l q0_1c, .int .i64 q0_2] N.t_Dyad w fun p1 w2 =>
  CallsX P N.f_girderlaw02_awake #[] w2 fun v4 w3 =>
  ∃ b5 : Bool, v4 = (.bool b5) ∧
  cond (!b5)
  (K (.bool false) w3)
  (∃ b6 : Bool, w3.cell? p1 = some (.bool b6) ∧
    ∃ (s7a : Option Addr) (s7l s7c : Nat), w3.cell? (p1.add 1) = some (.slice s7a s7l s7c) ∧
    ∃ n8 : Int, w3.cell? (p1.add 2) = some (.int .i64 n8) ∧
    CallsX P N.f_girderkit_CopyDyad #[.agg #[.bool b6, .slice s7a s7l s7c, .int .i64 n8]] w3 fun v10 w9 =>
    ∃ b11 : Bool, ∃ (s12a : Option Addr) (s12l s12c : Nat), ∃ n13 : Int, v10 = (.agg #[.bool b11, .slice s12a s12l s12c, .int .i64 n13]) ∧
    CallsX P N.f_dyad_Norm #[.agg #[.bool b11, .slice s12a s12l s12c, .int .i64 n13]] w9 fun v15 w14 =>
    ∃ b16 : Bool, ∃ (s17a : Option Addr) (s17l s17c : Nat), ∃ n18 : Int, ∃ n19 : Int, v15 = (.tuple #[.agg #[.bool b16, .slice s17a s17l s17c, .int .i64 n18], .int .i64 n19]) ∧
    newM #[.bool false, .slice none 0 0, .int .i64 0] N.t_Dyad w14 fun p20 w21 =>
    stM p20 (.bool b16) w21 fun w22 =>
    stM (p20.add 1) (.slice s17a s17l s17c) w22 fun w23 =>
    stM (p20.add 2) (.int .i64 n18) w23 fun w24 =>
    cond (n19 != 0)
    (K (.bool true) w24)
    (∃ b25 : Bool, w24.cell? p20 = some (.bool b25) ∧
      ∃ (s26a : Option Addr) (s26l s26c : Nat), w24.cell? (p20.add 1) = some (.slice s26a s26l s26c) ∧
      ∃ n27 : Int, w24.cell? (p20.add 2) = some (.int .i64 n27) ∧
      CallsX P N.f_dyad_Round #[.agg #[.bool b25, .slice s26a s26l s26c, .int .i64 n27], .int .i8 1] w24 fun v29 w28 =>
      ∃ x30 : Nat, ∃ n31 : Int, v29 = (.tuple #[.float .f64 x30, .int .i64 n31]) ∧
      ∃ b32 : Bool, w28.cell? p20 = some (.bool b32) ∧
      ∃ (s33a : Option Addr) (s33l s33c : Nat), w28.cell? (p20.add 1) = some (.slice s33a s33l s33c) ∧
      ∃ n34 : Int, w28.cell? (p20.add 2) = some (.int .i64 n34) ∧
      CallsX P N.f_dyad_Round #[.agg #[.bool b32, .slice s33a s33l s33c, .int .i64 n34], .int .i8 2] w28 fun v36 w35 =>
      ∃ x37 : Nat, ∃ n38 : Int, v36 = (.tuple #[.float .f64 x37, .int .i64 n38]) ∧
      ∃ b39 : Bool, w35.cell? p20 = some (.bool b39) ∧
      ∃ (s40a : Option Addr) (s40l s40c : Nat), w35.cell? (p20.add 1) = some (.slice s40a s40l s40c) ∧
      ∃ n41 : Int, w35.cell? (p20.add 2) = some (.int .i64 n41) ∧
      CallsX P N.f_dyad_Round #[.agg #[.bool b39, .slice s40a s40l s40c, .int .i64 n41], .int .i8 0] w35 fun v43 w42 =>
      ∃ x44 : Nat, ∃ n45 : Int, v43 = (.tuple #[.float .f64 x44, .int .i64 n45]) ∧
      ∃ b46 : Bool, w42.cell? p20 = some (.bool b46) ∧
      ∃ (s47a : Option Addr) (s47l s47c : Nat), w42.cell? (p20.add 1) = some (.slice s47a s47l s47c) ∧
      ∃ n48 : Int, w42.cell? (p20.add 2) = some (.int .i64 n48) ∧
      CallsX P N.f_dyad_Round #[.agg #[.bool b46, .slice s47a s47l s47c, .int .i64 n48], .int .i8 3] w42 fun v50 w49 =>
      ∃ x51 : Nat, ∃ n52 : Int, v50 = (.tuple #[.float .f64 x51, .int .i64 n52]) ∧
      cutM (σ := Bool × Unit) (fun J53 =>
        cond (!(n31 != 0))
        (cond (!(n38 != 0))
          (cond (!(n45 != 0))
            (J53 ((n52 != 0), ()) w49)
            (J53 (true, ()) w49))
          (J53 (true, ()) w49))
        (J53 (true, ()) w49))
      (fun s54 w55 =>
        cond s54.1
        (K (.bool false) w55)
        (∃ b56 : Bool, w55.cell? p20 = some (.bool b56) ∧
          ∃ (s57a : Option Addr) (s57l s57c : Nat), w55.cell? (p20.add 1) = some (.slice s57a s57l s57c) ∧
          ∃ n58 : Int, w55.cell? (p20.add 2) = some (.int .i64 n58) ∧
          CallsX P N.f_dyad_Fits #[.agg #[.bool b56, .slice s57a s57l s57c, .int .i64 n58]] w55 fun v60 w59 =>
          ∃ b61 : Bool, v60 = (.bool b61) ∧
          cond b61
          (CallsX P N.f_dyad_Of #[.float .f64 x30] w59 fun v63 w62 =>
            ∃ b64 : Bool, ∃ (s65a : Option Addr) (s65l s65c : Nat), ∃ n66 : Int, ∃ n67 : Int, v63 = (.tuple #[.agg #[.bool b64, .slice s65a s65l s65c, .int .i64 n66], .int .i64 n67]) ∧
            newM #[.bool false, .slice none 0 0, .int .i64 0] N.t_Dyad w62 fun p68 w69 =>
            stM p68 (.bool b64) w69 fun w70 =>
            stM (p68.add 1) (.slice s65a s65l s65c) w70 fun w71 =>
            stM (p68.add 2) (.int .i64 n66) w71 fun w72 =>
            CallsX P N.f_girderkit_SameFloat #[.float .f64 x30, .float .f64 x37] w72 fun v74 w73 =>
            ∃ b75 : Bool, v74 = (.bool b75) ∧
            cond b75
            (CallsX P N.f_girderkit_SameFloat #[.float .f64 x30, .float .f64 x44] w73 fun v77 w76 =>
              ∃ b78 : Bool, v77 = (.bool b78) ∧
              cond b78
              (CallsX P N.f_girderkit_SameFloat #[.float .f64 x30, .float .f64 x51] w76 fun v80 w79 =>
                ∃ b81 : Bool, v80 = (.bool b81) ∧
                cond b81
                (cond (n67 == 0)
                  (∃ b82 : Bool, w79.cell? p68 = some (.bool b82) ∧
                    ∃ (s83a : Option Addr) (s83l s83c : Nat), w79.cell? (p68.add 1) = some (.slice s83a s83l s83c) ∧
                    ∃ n84 : Int, w79.cell? (p68.add 2) = some (.int .i64 n84) ∧
                    ∃ b85 : Bool, w79.cell? p20 = some (.bool b85) ∧
                    ∃ (s86a : Option Addr) (s86l s86c : Nat), w79.cell? (p20.add 1) = some (.slice s86a s86l s86c) ∧
                    ∃ n87 : Int, w79.cell? (p20.add 2) = some (.int .i64 n87) ∧
                    CallsX P N.f_girderkit_SameDyad #[.agg #[.bool b82, .slice s83a s83l s83c, .int .i64 n84], .agg #[.bool b85, .slice s86a s86l s86c, .int .i64 n87]] w79 fun v89 w88 =>
                    ∃ b90 : Bool, v89 = (.bool b90) ∧
                    K (.bool b90) w88)
                  (K (.bool false) w79))
                (K (.bool false) w79))
              (K (.bool false) w76))
            (K (.bool false) w73))
          (∃ b91 : Bool, w59.cell? p20 = some (.bool b91) ∧
            ∃ (s92a : Option Addr) (s92l s92c : Nat), w59.cell? (p20.add 1) = some (.slice s92a s92l s92c) ∧
            ∃ n93 : Int, w59.cell? (p20.add 2) = some (.int .i64 n93) ∧
            CallsX P N.f_dyad_Sign #[.agg #[.bool b91, .slice s92a s92l s92c, .int .i64 n93]] w59 fun v95 w94 =>
            ∃ n96 : Int, ∃ n97 : Int, v95 = (.tuple #[.int .i64 n96, .int .i64 n97]) ∧
            cutM (σ := Nat × Unit) (fun J98 =>
              cond (decide (n96 < 0))
              (J98 (x37, ()) w94)
              (J98 (x30, ()) w94))
            (fun s99 w100 =>
              CallsX P N.f_bits_Between #[.float .f64 x30, .float .f64 x37] w100 fun v102 w101 =>
              ∃ n103 : Int, ∃ b104 : Bool, v102 = (.tuple #[.int .u64 n103, .bool b104]) ∧
              cutM (σ := Bool × Unit) (fun J105 =>
                cond (!(!b104))
                (cond (!(n103 != 1))
                  (CallsX P N.f_girderkit_SameFloat #[.float .f64 x51, .float .f64 s99.1] w101 fun v109 w108 =>
                    ∃ b110 : Bool, v109 = (.bool b110) ∧
                    cond (!(!b110))
                    (CallsX P N.f_girderkit_SameFloat #[.float .f64 x44, .float .f64 x30] w108 fun v112 w111 =>
                      ∃ b113 : Bool, v112 = (.bool b113) ∧
                      cond (!b113)
                      (CallsX P N.f_girderkit_SameFloat #[.float .f64 x44, .float .f64 x37] w111 fun v115 w114 =>
                        ∃ b116 : Bool, v115 = (.bool b116) ∧
                        J105 ((!b116), ()) w114)
                      (J105 (false, ()) w111))
                    (J105 (true, ()) w108))
                  (J105 (true, ()) w101))
                (J105 (true, ()) w101))
              (fun s106 w107 =>
                cond s106.1
                (K (.bool false) w107)
                (cutM (σ := Bool × Unit) (fun J117 =>
                    CallsX P N.f_girderkit_Finite #[.float .f64 x30] w107 fun v121 w120 =>
                    ∃ b122 : Bool, v121 = (.bool b122) ∧
                    cond (!(!b122))
                    (CallsX P N.f_girderkit_Finite #[.float .f64 x37] w120 fun v124 w123 =>
                      ∃ b125 : Bool, v124 = (.bool b125) ∧
                      J117 ((!b125), ()) w123)
                    (J117 (true, ()) w120))
                  (fun s118 w119 =>
                    cond s118.1
                    (K (.bool true) w119)
                    (CallsX P N.f_dyad_Of #[.float .f64 x30] w119 fun v127 w126 =>
                      ∃ b128 : Bool, ∃ (s129a : Option Addr) (s129l s129c : Nat), ∃ n130 : Int, ∃ n131 : Int, v127 = (.tuple #[.agg #[.bool b128, .slice s129a s129l s129c, .int .i64 n130], .int .i64 n131]) ∧
                      newM #[.bool false, .slice none 0 0, .int .i64 0] N.t_Dyad w126 fun p132 w133 =>
                      stM p132 (.bool b128) w133 fun w134 =>
                      stM (p132.add 1) (.slice s129a s129l s129c) w134 fun w135 =>
                      stM (p132.add 2) (.int .i64 n130) w135 fun w136 =>
                      CallsX P N.f_dyad_Of #[.float .f64 x37] w136 fun v138 w137 =>
                      ∃ b139 : Bool, ∃ (s140a : Option Addr) (s140l s140c : Nat), ∃ n141 : Int, ∃ n142 : Int, v138 = (.tuple #[.agg #[.bool b139, .slice s140a s140l s140c, .int .i64 n141], .int .i64 n142]) ∧
                      newM #[.bool false, .slice none 0 0, .int .i64 0] N.t_Dyad w137 fun p143 w144 =>
                      stM p143 (.bool b139) w144 fun w145 =>
                      stM (p143.add 1) (.slice s140a s140l s140c) w145 fun w146 =>
                      stM (p143.add 2) (.int .i64 n141) w146 fun w147 =>
                      ∃ b148 : Bool, w147.cell? p132 = some (.bool b148) ∧
                      ∃ (s149a : Option Addr) (s149l s149c : Nat), w147.cell? (p132.add 1) = some (.slice s149a s149l s149c) ∧
                      ∃ n150 : Int, w147.cell? (p132.add 2) = some (.int .i64 n150) ∧
                      ∃ b151 : Bool, w147.cell? p20 = some (.bool b151) ∧
                      ∃ (s152a : Option Addr) (s152l s152c : Nat), w147.cell? (p20.add 1) = some (.slice s152a s152l s152c) ∧
                      ∃ n153 : Int, w147.cell? (p20.add 2) = some (.int .i64 n153) ∧
                      CallsX P N.f_dyad_Cmp #[.agg #[.bool b148, .slice s149a s149l s149c, .int .i64 n150], .agg #[.bool b151, .slice s152a s152l s152c, .int .i64 n153]] w147 fun v155 w154 =>
                      ∃ n156 : Int, ∃ n157 : Int, v155 = (.tuple #[.int .i64 n156, .int .i64 n157]) ∧
                      ∃ b158 : Bool, w154.cell? p20 = some (.bool b158) ∧
                      ∃ (s159a : Option Addr) (s159l s159c : Nat), w154.cell? (p20.add 1) = some (.slice s159a s159l s159c) ∧
                      ∃ n160 : Int, w154.cell? (p20.add 2) = some (.int .i64 n160) ∧
                      ∃ b161 : Bool, w154.cell? p143 = some (.bool b161) ∧
                      ∃ (s162a : Option Addr) (s162l s162c : Nat), w154.cell? (p143.add 1) = some (.slice s162a s162l s162c) ∧
                      ∃ n163 : Int, w154.cell? (p143.add 2) = some (.int .i64 n163) ∧
                      CallsX P N.f_dyad_Cmp #[.agg #[.bool b158, .slice s159a s159l s159c, .int .i64 n160], .agg #[.bool b161, .slice s162a s162l s162c, .int .i64 n163]] w154 fun v165 w164 =>
                      ∃ n166 : Int, ∃ n167 : Int, v165 = (.tuple #[.int .i64 n166, .int .i64 n167]) ∧
                      cutM (σ := Bool × Unit) (fun J168 =>
                        cond (!(n157 != 0))
                        (cond (!(n167 != 0))
                          (cond (!(decide (n156 ≥ 0)))
                          (J168 ((decide (n166 ≥ 0)), ()) w164)
                          (J168 (true, ()) w164))
                          (J168 (true, ()) w164))
                        (J168 (true, ()) w164))
                      (fun s169 w170 =>
                        cond s169.1
                        (K (.bool false) w170)
                        (∃ b171 : Bool, w170.cell? p20 = some (.bool b171) ∧
                          ∃ (s172a : Option Addr) (s172l s172c : Nat), w170.cell? (p20.add 1) = some (.slice s172a s172l s172c) ∧
                          ∃ n173 : Int, w170.cell? (p20.add 2) = some (.int .i64 n173) ∧
                          ∃ b174 : Bool, w170.cell? p132 = some (.bool b174) ∧
                          ∃ (s175a : Option Addr) (s175l s175c : Nat), w170.cell? (p132.add 1) = some (.slice s175a s175l s175c) ∧
                          ∃ n176 : Int, w170.cell? (p132.add 2) = some (.int .i64 n176) ∧
                          CallsX P N.f_dyad_Sub #[.agg #[.bool b171, .slice s172a s172l s172c, .int .i64 n173], .agg #[.bool b174, .slice s175a s175l s175c, .int .i64 n176]] w170 fun v178 w177 =>
                          ∃ b179 : Bool, ∃ (s180a : Option Addr) (s180l s180c : Nat), ∃ n181 : Int, ∃ n182 : Int, v178 = (.tuple #[.agg #[.bool b179, .slice s180a s180l s180c, .int .i64 n181], .int .i64 n182]) ∧
                          newM #[.bool false, .slice none 0 0, .int .i64 0] N.t_Dyad w177 fun p183 w184 =>
                          stM p183 (.bool b179) w184 fun w185 =>
                          stM (p183.add 1) (.slice s180a s180l s180c) w185 fun w186 =>
                          stM (p183.add 2) (.int .i64 n181) w186 fun w187 =>
                          ∃ b188 : Bool, w187.cell? p143 = some (.bool b188) ∧
                          ∃ (s189a : Option Addr) (s189l s189c : Nat), w187.cell? (p143.add 1) = some (.slice s189a s189l s189c) ∧
                          ∃ n190 : Int, w187.cell? (p143.add 2) = some (.int .i64 n190) ∧
                          ∃ b191 : Bool, w187.cell? p20 = some (.bool b191) ∧
                          ∃ (s192a : Option Addr) (s192l s192c : Nat), w187.cell? (p20.add 1) = some (.slice s192a s192l s192c) ∧
                          ∃ n193 : Int, w187.cell? (p20.add 2) = some (.int .i64 n193) ∧
                          CallsX P N.f_dyad_Sub #[.agg #[.bool b188, .slice s189a s189l s189c, .int .i64 n190], .agg #[.bool b191, .slice s192a s192l s192c, .int .i64 n193]] w187 fun v195 w194 =>
                          ∃ b196 : Bool, ∃ (s197a : Option Addr) (s197l s197c : Nat), ∃ n198 : Int, ∃ n199 : Int, v195 = (.tuple #[.agg #[.bool b196, .slice s197a s197l s197c, .int .i64 n198], .int .i64 n199]) ∧
                          newM #[.bool false, .slice none 0 0, .int .i64 0] N.t_Dyad w194 fun p200 w201 =>
                          stM p200 (.bool b196) w201 fun w202 =>
                          stM (p200.add 1) (.slice s197a s197l s197c) w202 fun w203 =>
                          stM (p200.add 2) (.int .i64 n198) w203 fun w204 =>
                          cond (!(n182 != 0))
                          (cond (n199 != 0)
                          (K (.bool true) w204)
                          (∃ b205 : Bool, w204.cell? p183 = some (.bool b205) ∧
                          ∃ (s206a : Option Addr) (s206l s206c : Nat), w204.cell? (p183.add 1) = some (.slice s206a s206l s206c) ∧
                          ∃ n207 : Int, w204.cell? (p183.add 2) = some (.int .i64 n207) ∧
                          ∃ b208 : Bool, w204.cell? p200 = some (.bool b208) ∧
                          ∃ (s209a : Option Addr) (s209l s209c : Nat), w204.cell? (p200.add 1) = some (.slice s209a s209l s209c) ∧
                          ∃ n210 : Int, w204.cell? (p200.add 2) = some (.int .i64 n210) ∧
                          CallsX P N.f_dyad_Cmp #[.agg #[.bool b205, .slice s206a s206l s206c, .int .i64 n207], .agg #[.bool b208, .slice s209a s209l s209c, .int .i64 n210]] w204 fun v212 w211 =>
                          ∃ n213 : Int, ∃ n214 : Int, v212 = (.tuple #[.int .i64 n213, .int .i64 n214]) ∧
                          cond (n214 != 0)
                          (K (.bool false) w211)
                          (cond (decide (n213 < 0))
                          (CallsX P N.f_girderkit_SameFloat #[.float .f64 x44, .float .f64 x30] w211 fun v216 w215 =>
                          ∃ b217 : Bool, v216 = (.bool b217) ∧
                          cond (!b217)
                          (cond (decide (n213 > 0))
                          (CallsX P N.f_girderkit_SameFloat #[.float .f64 x44, .float .f64 x37] w215 fun v219 w218 =>
                          ∃ b220 : Bool, v219 = (.bool b220) ∧
                          cond (!b220)
                          (K (.bool (n213 == 0)) w218)
                          (K (.bool true) w218))
                          (K (.bool (n213 == 0)) w215))
                          (K (.bool true) w215))
                          (cond (decide (n213 > 0))
                          (CallsX P N.f_girderkit_SameFloat #[.float .f64 x44, .float .f64 x37] w211 fun v222 w221 =>
                          ∃ b223 : Bool, v222 = (.bool b223) ∧
                          cond (!b223)
                          (K (.bool (n213 == 0)) w221)
                          (K (.bool true) w221))
                          (K (.bool (n213 == 0)) w211)))))
                          (K (.bool true) w204)))))))))))))

/-- girder/girderlaw02.awake -/
def S_girderlaw02_awake (N : Nums) (P : Program)  (w : World) (K : Value → World → Prop) : Prop :=
  CallsX P N.f_dyad_Of #[.float .f64 4604930618986332160] w fun v2 w1 =>
  ∃ b3 : Bool, ∃ (s4a : Option Addr) (s4l s4c : Nat), ∃ n5 : Int, ∃ n6 : Int, v2 = (.tuple #[.agg #[.bool b3, .slice s4a s4l s4c, .int .i64 n5], .int .i64 n6]) ∧
  newM #[.bool false, .slice none 0 0, .int .i64 0] N.t_Dyad w1 fun p7 w8 =>
  stM p7 (.bool b3) w8 fun w9 =>
  stM (p7.add 1) (.slice s4a s4l s4c) w9 fun w10 =>
  stM (p7.add 2) (.int .i64 n5) w10 fun w11 =>
  cutM (σ := (Option Addr) × Int × Unit) (fun J12 =>
    ∃ b15 : Bool, w11.cell? p7 = some (.bool b15) ∧
    ∃ (s16a : Option Addr) (s16l s16c : Nat), w11.cell? (p7.add 1) = some (.slice s16a s16l s16c) ∧
    ∃ n17 : Int, w11.cell? (p7.add 2) = some (.int .i64 n17) ∧
    (drM w11 fun w18 =>
      CallsX P N.f_dyad_Int #[.int .i64 1] w18 fun v20 w19 =>
      ∃ b21 : Bool, ∃ (s22a : Option Addr) (s22l s22c : Nat), ∃ n23 : Int, v20 = (.agg #[.bool b21, .slice s22a s22l s22c, .int .i64 n23]) ∧
      w19.cell? p7 = some (.bool b15) ∧
      w19.cell? (p7.add 1) = some (.slice s16a s16l s16c) ∧
      w19.cell? (p7.add 2) = some (.int .i64 n17) ∧
      (drM w19 fun w24 =>
        CallsX P N.f_dyad_Add #[.agg #[.bool b15, .slice s16a s16l s16c, .int .i64 n17], .agg #[.bool b21, .slice s22a s22l s22c, .int .i64 n23]] w24 fun v26 w25 =>
        ∃ b27 : Bool, ∃ (s28a : Option Addr) (s28l s28c : Nat), ∃ n29 : Int, ∃ n30 : Int, v26 = (.tuple #[.agg #[.bool b27, .slice s28a s28l s28c, .int .i64 n29], .int .i64 n30]) ∧
        drM w25 fun w31 =>
        newM #[.bool false, .slice none 0 0, .int .i64 0] N.t_Dyad w31 fun p32 w33 =>
        drM w33 fun w34 =>
        stM p32 (.bool b27) w34 fun w35 =>
        stM (p32.add 1) (.slice s28a s28l s28c) w35 fun w36 =>
        stM (p32.add 2) (.int .i64 n29) w36 fun w37 =>
        drM w37 fun w38 =>
        J12 ((some p32), n30, ()) w38) ∧
      (drM w19 fun w39 =>
        newM #[.bool false, .slice none 0 0, .int .i64 0] N.t_Dyad w39 fun p40 w41 =>
        w41.cell? p7 = some (.bool b15) ∧
        w41.cell? (p7.add 1) = some (.slice s16a s16l s16c) ∧
        w41.cell? (p7.add 2) = some (.int .i64 n17) ∧
        drM w41 fun w42 =>
        CallsX P N.f_dyad_Add #[.agg #[.bool b15, .slice s16a s16l s16c, .int .i64 n17], .agg #[.bool b21, .slice s22a s22l s22c, .int .i64 n23]] w42 fun v44 w43 =>
        ∃ b45 : Bool, ∃ (s46a : Option Addr) (s46l s46c : Nat), ∃ n47 : Int, ∃ n48 : Int, v44 = (.tuple #[.agg #[.bool b45, .slice s46a s46l s46c, .int .i64 n47], .int .i64 n48]) ∧
        drM w43 fun w49 =>
        stM p40 (.bool b45) w49 fun w50 =>
        stM (p40.add 1) (.slice s46a s46l s46c) w50 fun w51 =>
        stM (p40.add 2) (.int .i64 n47) w51 fun w52 =>
        drM w52 fun w53 =>
        J12 ((some p40), n48, ()) w53)) ∧
    (drM w11 fun w54 =>
      newM #[.bool false, .slice none 0 0, .int .i64 0] N.t_Dyad w54 fun p55 w56 =>
      w56.cell? p7 = some (.bool b15) ∧
      w56.cell? (p7.add 1) = some (.slice s16a s16l s16c) ∧
      w56.cell? (p7.add 2) = some (.int .i64 n17) ∧
      drM w56 fun w57 =>
      CallsX P N.f_dyad_Int #[.int .i64 1] w57 fun v59 w58 =>
      ∃ b60 : Bool, ∃ (s61a : Option Addr) (s61l s61c : Nat), ∃ n62 : Int, v59 = (.agg #[.bool b60, .slice s61a s61l s61c, .int .i64 n62]) ∧
      w58.cell? p7 = some (.bool b15) ∧
      w58.cell? (p7.add 1) = some (.slice s16a s16l s16c) ∧
      w58.cell? (p7.add 2) = some (.int .i64 n17) ∧
      drM w58 fun w63 =>
      CallsX P N.f_dyad_Add #[.agg #[.bool b15, .slice s16a s16l s16c, .int .i64 n17], .agg #[.bool b60, .slice s61a s61l s61c, .int .i64 n62]] w63 fun v65 w64 =>
      ∃ b66 : Bool, ∃ (s67a : Option Addr) (s67l s67c : Nat), ∃ n68 : Int, ∃ n69 : Int, v65 = (.tuple #[.agg #[.bool b66, .slice s67a s67l s67c, .int .i64 n68], .int .i64 n69]) ∧
      drM w64 fun w70 =>
      stM p55 (.bool b66) w70 fun w71 =>
      stM (p55.add 1) (.slice s67a s67l s67c) w71 fun w72 =>
      stM (p55.add 2) (.int .i64 n68) w72 fun w73 =>
      drM w73 fun w74 =>
      J12 ((some p55), n69, ()) w74))
  (fun s13 w14 =>
    cutM (σ := (Option Addr) × Int × Unit) (fun J75 =>
      optM s13.1 fun a78 =>
      ∃ b79 : Bool, w14.cell? a78 = some (.bool b79) ∧
      ∃ (s80a : Option Addr) (s80l s80c : Nat), w14.cell? (a78.add 1) = some (.slice s80a s80l s80c) ∧
      ∃ n81 : Int, w14.cell? (a78.add 2) = some (.int .i64 n81) ∧
      (drM w14 fun w82 =>
        CallsX P N.f_dyad_Int #[.int .i64 (-2)] w82 fun v84 w83 =>
        ∃ b85 : Bool, ∃ (s86a : Option Addr) (s86l s86c : Nat), ∃ n87 : Int, v84 = (.agg #[.bool b85, .slice s86a s86l s86c, .int .i64 n87]) ∧
        w83.cell? a78 = some (.bool b79) ∧
        w83.cell? (a78.add 1) = some (.slice s80a s80l s80c) ∧
        w83.cell? (a78.add 2) = some (.int .i64 n81) ∧
        (drM w83 fun w88 =>
          CallsX P N.f_dyad_Mul #[.agg #[.bool b79, .slice s80a s80l s80c, .int .i64 n81], .agg #[.bool b85, .slice s86a s86l s86c, .int .i64 n87]] w88 fun v90 w89 =>
          ∃ b91 : Bool, ∃ (s92a : Option Addr) (s92l s92c : Nat), ∃ n93 : Int, ∃ n94 : Int, v90 = (.tuple #[.agg #[.bool b91, .slice s92a s92l s92c, .int .i64 n93], .int .i64 n94]) ∧
          drM w89 fun w95 =>
          newM #[.bool false, .slice none 0 0, .int .i64 0] N.t_Dyad w95 fun p96 w97 =>
          drM w97 fun w98 =>
          stM p96 (.bool b91) w98 fun w99 =>
          stM (p96.add 1) (.slice s92a s92l s92c) w99 fun w100 =>
          stM (p96.add 2) (.int .i64 n93) w100 fun w101 =>
          drM w101 fun w102 =>
          J75 ((some p96), n94, ()) w102) ∧
        (drM w83 fun w103 =>
          newM #[.bool false, .slice none 0 0, .int .i64 0] N.t_Dyad w103 fun p104 w105 =>
          w105.cell? a78 = some (.bool b79) ∧
          w105.cell? (a78.add 1) = some (.slice s80a s80l s80c) ∧
          w105.cell? (a78.add 2) = some (.int .i64 n81) ∧
          drM w105 fun w106 =>
          CallsX P N.f_dyad_Mul #[.agg #[.bool b79, .slice s80a s80l s80c, .int .i64 n81], .agg #[.bool b85, .slice s86a s86l s86c, .int .i64 n87]] w106 fun v108 w107 =>
          ∃ b109 : Bool, ∃ (s110a : Option Addr) (s110l s110c : Nat), ∃ n111 : Int, ∃ n112 : Int, v108 = (.tuple #[.agg #[.bool b109, .slice s110a s110l s110c, .int .i64 n111], .int .i64 n112]) ∧
          drM w107 fun w113 =>
          stM p104 (.bool b109) w113 fun w114 =>
          stM (p104.add 1) (.slice s110a s110l s110c) w114 fun w115 =>
          stM (p104.add 2) (.int .i64 n111) w115 fun w116 =>
          drM w116 fun w117 =>
          J75 ((some p104), n112, ()) w117)) ∧
      (drM w14 fun w118 =>
        newM #[.bool false, .slice none 0 0, .int .i64 0] N.t_Dyad w118 fun p119 w120 =>
        w120.cell? a78 = some (.bool b79) ∧
        w120.cell? (a78.add 1) = some (.slice s80a s80l s80c) ∧
        w120.cell? (a78.add 2) = some (.int .i64 n81) ∧
        drM w120 fun w121 =>
        CallsX P N.f_dyad_Int #[.int .i64 (-2)] w121 fun v123 w122 =>
        ∃ b124 : Bool, ∃ (s125a : Option Addr) (s125l s125c : Nat), ∃ n126 : Int, v123 = (.agg #[.bool b124, .slice s125a s125l s125c, .int .i64 n126]) ∧
        w122.cell? a78 = some (.bool b79) ∧
        w122.cell? (a78.add 1) = some (.slice s80a s80l s80c) ∧
        w122.cell? (a78.add 2) = some (.int .i64 n81) ∧
        drM w122 fun w127 =>
        CallsX P N.f_dyad_Mul #[.agg #[.bool b79, .slice s80a s80l s80c, .int .i64 n81], .agg #[.bool b124, .slice s125a s125l s125c, .int .i64 n126]] w127 fun v129 w128 =>
        ∃ b130 : Bool, ∃ (s131a : Option Addr) (s131l s131c : Nat), ∃ n132 : Int, ∃ n133 : Int, v129 = (.tuple #[.agg #[.bool b130, .slice s131a s131l s131c, .int .i64 n132], .int .i64 n133]) ∧
        drM w128 fun w134 =>
        stM p119 (.bool b130) w134 fun w135 =>
        stM (p119.add 1) (.slice s131a s131l s131c) w135 fun w136 =>
        stM (p119.add 2) (.int .i64 n132) w136 fun w137 =>
        drM w137 fun w138 =>
        J75 ((some p119), n133, ()) w138))
    (fun s76 w77 =>
      optM s76.1 fun a139 =>
      ∃ b140 : Bool, w77.cell? a139 = some (.bool b140) ∧
      ∃ (s141a : Option Addr) (s141l s141c : Nat), w77.cell? (a139.add 1) = some (.slice s141a s141l s141c) ∧
      ∃ n142 : Int, w77.cell? (a139.add 2) = some (.int .i64 n142) ∧
      CallsX P N.f_dyad_Round #[.agg #[.bool b140, .slice s141a s141l s141c, .int .i64 n142], .int .i8 0] w77 fun v144 w143 =>
      ∃ x145 : Nat, ∃ n146 : Int, v144 = (.tuple #[.float .f64 x145, .int .i64 n146]) ∧
      newM #[.int .u64 1] N.t_uint64 w143 fun p147 w148 =>
      CallsX P N.f_dyad_Round #[.agg #[.bool false, .slice (some p147) 1 1, .int .i64 (-1075)], .int .i8 2] w148 fun v150 w149 =>
      ∃ x151 : Nat, ∃ n152 : Int, v150 = (.tuple #[.float .f64 x151, .int .i64 n152]) ∧
      cond (n6 == 0)
      (cond (s13.2.1 == 0)
        (cond (s76.2.1 == 0)
          (cond (n146 == 0)
            (cond (n152 == 0)
              (cond (feq x145 13838435755002691584)
                (cond (fgt x151 0)
                  (K (.bool (flt x151 118622047889322841)) w149)
                  (K (.bool false) w149))
                (K (.bool false) w149))
              (K (.bool false) w149))
            (K (.bool false) w149))
          (K (.bool false) w149))
        (K (.bool false) w149))
      (K (.bool false) w149)))

/-- girder/dyad.Of -/
def S_dyad_Of (N : Nums) (P : Program) (q0 : Nat) (w : World) (K : Value → World → Prop) : Prop :=
  newM #[.bool false, .slice none 0 0, .int .i64 0] N.t_Dyad w fun p1 w2 =>
  CallsX P N.f_bits_Split #[.float .f64 q0] w2 fun v4 w3 =>
  ∃ b5 : Bool, ∃ n6 : Int, ∃ n7 : Int, ∃ b8 : Bool, v4 = (.tuple #[.agg #[.bool b5, .int .u64 n6, .int .i64 n7], .bool b8]) ∧
  newM #[.bool false, .int .u64 0, .int .i64 0] N.t_Parts w3 fun p9 w10 =>
  stM p9 (.bool b5) w10 fun w11 =>
  stM (p9.add 1) (.int .u64 n6) w11 fun w12 =>
  stM (p9.add 2) (.int .i64 n7) w12 fun w13 =>
  cond (!b8)
  (stM p1 (.bool false) w13 fun w14 =>
    stM (p1.add 1) (.slice none 0 0) w14 fun w15 =>
    stM (p1.add 2) (.int .i64 0) w15 fun w16 =>
    ∃ b17 : Bool, w16.cell? p1 = some (.bool b17) ∧
    ∃ (s18a : Option Addr) (s18l s18c : Nat), w16.cell? (p1.add 1) = some (.slice s18a s18l s18c) ∧
    ∃ n19 : Int, w16.cell? (p1.add 2) = some (.int .i64 n19) ∧
    K (.tuple #[.agg #[.bool b17, .slice s18a s18l s18c, .int .i64 n19], .int .i64 5]) w16)
  (∃ n20 : Int, w13.cell? (p9.add 1) = some (.int .u64 n20) ∧
    cond (n20 == 0)
    (stM p1 (.bool false) w13 fun w21 =>
      stM (p1.add 1) (.slice none 0 0) w21 fun w22 =>
      stM (p1.add 2) (.int .i64 0) w22 fun w23 =>
      ∃ b24 : Bool, w23.cell? p1 = some (.bool b24) ∧
      ∃ (s25a : Option Addr) (s25l s25c : Nat), w23.cell? (p1.add 1) = some (.slice s25a s25l s25c) ∧
      ∃ n26 : Int, w23.cell? (p1.add 2) = some (.int .i64 n26) ∧
      K (.tuple #[.agg #[.bool b24, .slice s25a s25l s25c, .int .i64 n26], .int .i64 0]) w23)
    (∃ b27 : Bool, w13.cell? p9 = some (.bool b27) ∧
      ∃ n28 : Int, w13.cell? (p9.add 1) = some (.int .u64 n28) ∧
      newM #[.int .u64 n28] N.t_uint64 w13 fun p29 w30 =>
      ∃ n31 : Int, w30.cell? (p9.add 2) = some (.int .i64 n31) ∧
      stM p1 (.bool b27) w30 fun w32 =>
      stM (p1.add 1) (.slice (some p29) 1 1) w32 fun w33 =>
      stM (p1.add 2) (.int .i64 n31) w33 fun w34 =>
      ∃ b35 : Bool, w34.cell? p1 = some (.bool b35) ∧
      ∃ (s36a : Option Addr) (s36l s36c : Nat), w34.cell? (p1.add 1) = some (.slice s36a s36l s36c) ∧
      ∃ n37 : Int, w34.cell? (p1.add 2) = some (.int .i64 n37) ∧
      K (.tuple #[.agg #[.bool b35, .slice s36a s36l s36c, .int .i64 n37], .int .i64 0]) w34))

/-- girder/girderref02.Of -/
def S_girderref02_Of (N : Nums) (P : Program) (q0 : Nat) (w : World) (K : Value → World → Prop) : Prop :=
  newM #[.bool false, .slice none 0 0, .int .i64 0] N.t_Dyad w fun p1 w2 =>
  CallsX P N.f_girderref01_Split #[.float .f64 q0] w2 fun v4 w3 =>
  ∃ b5 : Bool, ∃ n6 : Int, ∃ n7 : Int, ∃ b8 : Bool, v4 = (.tuple #[.agg #[.bool b5, .int .u64 n6, .int .i64 n7], .bool b8]) ∧
  newM #[.bool false, .int .u64 0, .int .i64 0] N.t_Parts w3 fun p9 w10 =>
  stM p9 (.bool b5) w10 fun w11 =>
  stM (p9.add 1) (.int .u64 n6) w11 fun w12 =>
  stM (p9.add 2) (.int .i64 n7) w12 fun w13 =>
  cond (!b8)
  (stM p1 (.bool false) w13 fun w14 =>
    stM (p1.add 1) (.slice none 0 0) w14 fun w15 =>
    stM (p1.add 2) (.int .i64 0) w15 fun w16 =>
    ∃ b17 : Bool, w16.cell? p1 = some (.bool b17) ∧
    ∃ (s18a : Option Addr) (s18l s18c : Nat), w16.cell? (p1.add 1) = some (.slice s18a s18l s18c) ∧
    ∃ n19 : Int, w16.cell? (p1.add 2) = some (.int .i64 n19) ∧
    K (.tuple #[.agg #[.bool b17, .slice s18a s18l s18c, .int .i64 n19], .int .i64 5]) w16)
  (∃ b20 : Bool, w13.cell? p9 = some (.bool b20) ∧
    ∃ n21 : Int, w13.cell? (p9.add 1) = some (.int .u64 n21) ∧
    newM #[.int .u64 n21] N.t_uint64 w13 fun p22 w23 =>
    ∃ n24 : Int, w23.cell? (p9.add 2) = some (.int .i64 n24) ∧
    CallsX P N.f_girderref02_Norm #[.agg #[.bool b20, .slice (some p22) 1 1, .int .i64 n24]] w23 fun v26 w25 =>
    ∃ b27 : Bool, ∃ (s28a : Option Addr) (s28l s28c : Nat), ∃ n29 : Int, ∃ n30 : Int, v26 = (.tuple #[.agg #[.bool b27, .slice s28a s28l s28c, .int .i64 n29], .int .i64 n30]) ∧
    stM p1 (.bool b27) w25 fun w31 =>
    stM (p1.add 1) (.slice s28a s28l s28c) w31 fun w32 =>
    stM (p1.add 2) (.int .i64 n29) w32 fun w33 =>
    ∃ b34 : Bool, w33.cell? p1 = some (.bool b34) ∧
    ∃ (s35a : Option Addr) (s35l s35c : Nat), w33.cell? (p1.add 1) = some (.slice s35a s35l s35c) ∧
    ∃ n36 : Int, w33.cell? (p1.add 2) = some (.int .i64 n36) ∧
    K (.tuple #[.agg #[.bool b34, .slice s35a s35l s35c, .int .i64 n36], .int .i64 n30]) w33)

/-- girder/girderkit.SameDyad -/
def S_girderkit_SameDyad (N : Nums) (P : Program) (q0_0 : Bool) (q0_1 : Option Addr) (q0_1l q0_1c : Nat) (q0_2 : Int) (q1_0 : Bool) (q1_1 : Option Addr) (q1_1l q1_1c : Nat) (q1_2 : Int) (w : World) (K : Value → World → Prop) : Prop :=
  newM #[.bool q0_0, .slice q0_1 q0_1l q0_1c, .int .i64 q0_2] N.t_Dyad w fun p1 w2 =>
  newM #[.bool q1_0, .slice q1_1 q1_1l q1_1c, .int .i64 q1_2] N.t_Dyad w2 fun p3 w4 =>
  ∃ b5 : Bool, w4.cell? p1 = some (.bool b5) ∧
  ∃ b6 : Bool, w4.cell? p3 = some (.bool b6) ∧
  cond (b5 == b6)
  (∃ (s7a : Option Addr) (s7l s7c : Nat), w4.cell? (p1.add 1) = some (.slice s7a s7l s7c) ∧
    ∃ (s8a : Option Addr) (s8l s8c : Nat), w4.cell? (p3.add 1) = some (.slice s8a s8l s8c) ∧
    CallsX P N.f_girderkit_SameLimbs #[.slice s7a s7l s7c, .slice s8a s8l s8c] w4 fun v10 w9 =>
    ∃ b11 : Bool, v10 = (.bool b11) ∧
    cond b11
    (∃ n12 : Int, w9.cell? (p1.add 2) = some (.int .i64 n12) ∧
      ∃ n13 : Int, w9.cell? (p3.add 2) = some (.int .i64 n13) ∧
      K (.bool (n12 == n13)) w9)
    (K (.bool false) w9))
  (K (.bool false) w4)

/-- girder/dyad.Int -/
def S_dyad_Int (N : Nums) (P : Program) (q0 : Int) (w : World) (K : Value → World → Prop) : Prop :=
  newM #[.bool false, .slice none 0 0, .int .i64 0] N.t_Dyad w fun p1 w2 =>
  CallsX P N.f_bignum_NewInt #[.int .i64 q0] w2 fun v4 w3 =>
  ∃ p5 : (Option Addr), v4 = (.pointer p5) ∧
  CallsX P N.f_dyad_made #[.pointer p5, .int .i64 0] w3 fun v7 w6 =>
  ∃ b8 : Bool, ∃ (s9a : Option Addr) (s9l s9c : Nat), ∃ n10 : Int, ∃ n11 : Int, v7 = (.tuple #[.agg #[.bool b8, .slice s9a s9l s9c, .int .i64 n10], .int .i64 n11]) ∧
  newM #[.bool false, .slice none 0 0, .int .i64 0] N.t_Dyad w6 fun p12 w13 =>
  stM p12 (.bool b8) w13 fun w14 =>
  stM (p12.add 1) (.slice s9a s9l s9c) w14 fun w15 =>
  stM (p12.add 2) (.int .i64 n10) w15 fun w16 =>
  ∃ b17 : Bool, w16.cell? p12 = some (.bool b17) ∧
  ∃ (s18a : Option Addr) (s18l s18c : Nat), w16.cell? (p12.add 1) = some (.slice s18a s18l s18c) ∧
  ∃ n19 : Int, w16.cell? (p12.add 2) = some (.int .i64 n19) ∧
  stM p1 (.bool b17) w16 fun w20 =>
  stM (p1.add 1) (.slice s18a s18l s18c) w20 fun w21 =>
  stM (p1.add 2) (.int .i64 n19) w21 fun w22 =>
  ∃ b23 : Bool, w22.cell? p1 = some (.bool b23) ∧
  ∃ (s24a : Option Addr) (s24l s24c : Nat), w22.cell? (p1.add 1) = some (.slice s24a s24l s24c) ∧
  ∃ n25 : Int, w22.cell? (p1.add 2) = some (.int .i64 n25) ∧
  K (.agg #[.bool b23, .slice s24a s24l s24c, .int .i64 n25]) w22

/-- girder/girderref02.Int -/
def S_girderref02_Int (N : Nums) (P : Program) (q0 : Int) (w : World) (K : Value → World → Prop) : Prop :=
  newM #[.bool false, .slice none 0 0, .int .i64 0] N.t_Dyad w fun p1 w2 =>
  CallsX P N.f_girderref02_Whole #[.int .i64 q0] w2 fun v4 w3 =>
  ∃ b5 : Bool, ∃ (s6a : Option Addr) (s6l s6c : Nat), ∃ n7 : Int, v4 = (.agg #[.bool b5, .slice s6a s6l s6c, .int .i64 n7]) ∧
  CallsX P N.f_girderref02_Told #[.agg #[.bool b5, .slice s6a s6l s6c, .int .i64 n7]] w3 fun v9 w8 =>
  ∃ b10 : Bool, ∃ (s11a : Option Addr) (s11l s11c : Nat), ∃ n12 : Int, ∃ n13 : Int, v9 = (.tuple #[.agg #[.bool b10, .slice s11a s11l s11c, .int .i64 n12], .int .i64 n13]) ∧
  newM #[.bool false, .slice none 0 0, .int .i64 0] N.t_Dyad w8 fun p14 w15 =>
  stM p14 (.bool b10) w15 fun w16 =>
  stM (p14.add 1) (.slice s11a s11l s11c) w16 fun w17 =>
  stM (p14.add 2) (.int .i64 n12) w17 fun w18 =>
  ∃ b19 : Bool, w18.cell? p14 = some (.bool b19) ∧
  ∃ (s20a : Option Addr) (s20l s20c : Nat), w18.cell? (p14.add 1) = some (.slice s20a s20l s20c) ∧
  ∃ n21 : Int, w18.cell? (p14.add 2) = some (.int .i64 n21) ∧
  stM p1 (.bool b19) w18 fun w22 =>
  stM (p1.add 1) (.slice s20a s20l s20c) w22 fun w23 =>
  stM (p1.add 2) (.int .i64 n21) w23 fun w24 =>
  ∃ b25 : Bool, w24.cell? p1 = some (.bool b25) ∧
  ∃ (s26a : Option Addr) (s26l s26c : Nat), w24.cell? (p1.add 1) = some (.slice s26a s26l s26c) ∧
  ∃ n27 : Int, w24.cell? (p1.add 2) = some (.int .i64 n27) ∧
  K (.agg #[.bool b25, .slice s26a s26l s26c, .int .i64 n27]) w24

/-- girder/girderkit.LentDyad -/
def S_girderkit_LentDyad (N : Nums) (P : Program) (q0_0 : Bool) (q0_1 : Option Addr) (q0_1l q0_1c : Nat) (q0_2 : Int) (w : World) (K : Value → World → Prop) : Prop :=
  newM #[.bool q0_0, .slice q0_1 q0_1l q0_1c, .int .i64 q0_2] N.t_Dyad w fun p1 w2 =>
  newM #[.bool false, .slice none 0 0, .int .i64 0] N.t_Dyad w2 fun p3 w4 =>
  ∃ (s5a : Option Addr) (s5l s5c : Nat), w4.cell? (p1.add 1) = some (.slice s5a s5l s5c) ∧
  CallsX P N.f_girderkit_LentLimbs #[.slice s5a s5l s5c] w4 fun v7 w6 =>
  ∃ (s8a : Option Addr) (s8l s8c : Nat), v7 = (.slice s8a s8l s8c) ∧
  stM (p1.add 1) (.slice s8a s8l s8c) w6 fun w9 =>
  ∃ b10 : Bool, w9.cell? p1 = some (.bool b10) ∧
  ∃ (s11a : Option Addr) (s11l s11c : Nat), w9.cell? (p1.add 1) = some (.slice s11a s11l s11c) ∧
  ∃ n12 : Int, w9.cell? (p1.add 2) = some (.int .i64 n12) ∧
  stM p3 (.bool b10) w9 fun w13 =>
  stM (p3.add 1) (.slice s11a s11l s11c) w13 fun w14 =>
  stM (p3.add 2) (.int .i64 n12) w14 fun w15 =>
  ∃ b16 : Bool, w15.cell? p3 = some (.bool b16) ∧
  ∃ (s17a : Option Addr) (s17l s17c : Nat), w15.cell? (p3.add 1) = some (.slice s17a s17l s17c) ∧
  ∃ n18 : Int, w15.cell? (p3.add 2) = some (.int .i64 n18) ∧
  K (.agg #[.bool b16, .slice s17a s17l s17c, .int .i64 n18]) w15

/-- girder/dyad.Scale -/
def S_dyad_Scale (N : Nums) (P : Program) (q0_0 : Bool) (q0_1 : Option Addr) (q0_1l q0_1c : Nat) (q0_2 : Int) (q1 : Int) (w : World) (K : Value → World → Prop) : Prop :=
  newM #[.bool q0_0, .slice q0_1 q0_1l q0_1c, .int .i64 q0_2] N.t_Dyad w fun p1 w2 =>
  newM #[.bool false, .slice none 0 0, .int .i64 0] N.t_Dyad w2 fun p3 w4 =>
  ∃ b5 : Bool, w4.cell? p1 = some (.bool b5) ∧
  ∃ (s6a : Option Addr) (s6l s6c : Nat), w4.cell? (p1.add 1) = some (.slice s6a s6l s6c) ∧
  ∃ n7 : Int, w4.cell? (p1.add 2) = some (.int .i64 n7) ∧
  CallsX P N.f_dyad_Right #[.agg #[.bool b5, .slice s6a s6l s6c, .int .i64 n7]] w4 fun v9 w8 =>
  ∃ b10 : Bool, v9 = (.bool b10) ∧
  cond (!b10)
  (stM p3 (.bool false) w8 fun w11 =>
    stM (p3.add 1) (.slice none 0 0) w11 fun w12 =>
    stM (p3.add 2) (.int .i64 0) w12 fun w13 =>
    ∃ b14 : Bool, w13.cell? p3 = some (.bool b14) ∧
    ∃ (s15a : Option Addr) (s15l s15c : Nat), w13.cell? (p3.add 1) = some (.slice s15a s15l s15c) ∧
    ∃ n16 : Int, w13.cell? (p3.add 2) = some (.int .i64 n16) ∧
    K (.tuple #[.agg #[.bool b14, .slice s15a s15l s15c, .int .i64 n16], .int .i64 2]) w13)
  (∃ (s17a : Option Addr) (s17l s17c : Nat), w8.cell? (p1.add 1) = some (.slice s17a s17l s17c) ∧
    cond (((s17l : Nat) : Int) == 0)
    (stM p3 (.bool false) w8 fun w18 =>
      stM (p3.add 1) (.slice none 0 0) w18 fun w19 =>
      stM (p3.add 2) (.int .i64 0) w19 fun w20 =>
      ∃ b21 : Bool, w20.cell? p3 = some (.bool b21) ∧
      ∃ (s22a : Option Addr) (s22l s22c : Nat), w20.cell? (p3.add 1) = some (.slice s22a s22l s22c) ∧
      ∃ n23 : Int, w20.cell? (p3.add 2) = some (.int .i64 n23) ∧
      K (.tuple #[.agg #[.bool b21, .slice s22a s22l s22c, .int .i64 n23], .int .i64 0]) w20)
    (cutM (σ := Bool × Unit) (fun J24 =>
        cond (!(decide (q1 > 131072)))
        (J24 ((decide (q1 < (-131072))), ()) w8)
        (J24 (true, ()) w8))
      (fun s25 w26 =>
        cond s25.1
        (stM p3 (.bool false) w26 fun w27 =>
          stM (p3.add 1) (.slice none 0 0) w27 fun w28 =>
          stM (p3.add 2) (.int .i64 0) w28 fun w29 =>
          ∃ b30 : Bool, w29.cell? p3 = some (.bool b30) ∧
          ∃ (s31a : Option Addr) (s31l s31c : Nat), w29.cell? (p3.add 1) = some (.slice s31a s31l s31c) ∧
          ∃ n32 : Int, w29.cell? (p3.add 2) = some (.int .i64 n32) ∧
          K (.tuple #[.agg #[.bool b30, .slice s31a s31l s31c, .int .i64 n32], .int .i64 3]) w29)
        (∃ b33 : Bool, w26.cell? p1 = some (.bool b33) ∧
          ∃ (s34a : Option Addr) (s34l s34c : Nat), w26.cell? (p1.add 1) = some (.slice s34a s34l s34c) ∧
          ∃ n35 : Int, w26.cell? (p1.add 2) = some (.int .i64 n35) ∧
          ∃ n36 : Int, w26.cell? (p1.add 2) = some (.int .i64 n36) ∧
          drM w26 fun w37 =>
          CallsX P N.f_dyad_whole #[.agg #[.bool b33, .slice s34a s34l s34c, .int .i64 n35]] w37 fun v39 w38 =>
          ∃ p40 : (Option Addr), v39 = (.pointer p40) ∧
          w38.cell? (p1.add 2) = some (.int .i64 n36) ∧
          drM w38 fun w41 =>
          CallsX P N.f_dyad_made #[.pointer p40, .int .i64 (IntKind.i64.wrap (n36 + q1))] w41 fun v43 w42 =>
          ∃ b44 : Bool, ∃ (s45a : Option Addr) (s45l s45c : Nat), ∃ n46 : Int, ∃ n47 : Int, v43 = (.tuple #[.agg #[.bool b44, .slice s45a s45l s45c, .int .i64 n46], .int .i64 n47]) ∧
          drM w42 fun w48 =>
          stM p3 (.bool b44) w48 fun w49 =>
          stM (p3.add 1) (.slice s45a s45l s45c) w49 fun w50 =>
          stM (p3.add 2) (.int .i64 n46) w50 fun w51 =>
          drM w51 fun w52 =>
          ∃ b53 : Bool, w52.cell? p3 = some (.bool b53) ∧
          ∃ (s54a : Option Addr) (s54l s54c : Nat), w52.cell? (p3.add 1) = some (.slice s54a s54l s54c) ∧
          ∃ n55 : Int, w52.cell? (p3.add 2) = some (.int .i64 n55) ∧
          K (.tuple #[.agg #[.bool b53, .slice s54a s54l s54c, .int .i64 n55], .int .i64 n47]) w52))))

/-- girder/girderkit.KeptDyad -/
def S_girderkit_KeptDyad (N : Nums) (P : Program) (q0_0 : Bool) (q0_1 : Option Addr) (q0_1l q0_1c : Nat) (q0_2 : Int) (q1_0 : Bool) (q1_1 : Option Addr) (q1_1l q1_1c : Nat) (q1_2 : Int) (w : World) (K : Value → World → Prop) : Prop :=
  newM #[.bool q0_0, .slice q0_1 q0_1l q0_1c, .int .i64 q0_2] N.t_Dyad w fun p1 w2 =>
  newM #[.bool q1_0, .slice q1_1 q1_1l q1_1c, .int .i64 q1_2] N.t_Dyad w2 fun p3 w4 =>
  ∃ b5 : Bool, w4.cell? p1 = some (.bool b5) ∧
  ∃ (s6a : Option Addr) (s6l s6c : Nat), w4.cell? (p1.add 1) = some (.slice s6a s6l s6c) ∧
  ∃ n7 : Int, w4.cell? (p1.add 2) = some (.int .i64 n7) ∧
  ∃ b8 : Bool, w4.cell? p3 = some (.bool b8) ∧
  ∃ (s9a : Option Addr) (s9l s9c : Nat), w4.cell? (p3.add 1) = some (.slice s9a s9l s9c) ∧
  ∃ n10 : Int, w4.cell? (p3.add 2) = some (.int .i64 n10) ∧
  CallsX P N.f_girderkit_SameDyad #[.agg #[.bool b5, .slice s6a s6l s6c, .int .i64 n7], .agg #[.bool b8, .slice s9a s9l s9c, .int .i64 n10]] w4 fun v12 w11 =>
  ∃ b13 : Bool, v12 = (.bool b13) ∧
  cond b13
  (∃ (s14a : Option Addr) (s14l s14c : Nat), w11.cell? (p1.add 1) = some (.slice s14a s14l s14c) ∧
    ∃ (s15a : Option Addr) (s15l s15c : Nat), w11.cell? (p3.add 1) = some (.slice s15a s15l s15c) ∧
    CallsX P N.f_girderkit_KeptLimbs #[.slice s14a s14l s14c, .slice s15a s15l s15c] w11 fun v17 w16 =>
    ∃ b18 : Bool, v17 = (.bool b18) ∧
    K (.bool b18) w16)
  (K (.bool false) w11)

/-- girder/girderkit.OverDyad -/
def S_girderkit_OverDyad (N : Nums) (P : Program) (q0_0 : Bool) (q0_1 : Option Addr) (q0_1l q0_1c : Nat) (q0_2 : Int) (w : World) (K : Value → World → Prop) : Prop :=
  newM #[.bool q0_0, .slice q0_1 q0_1l q0_1c, .int .i64 q0_2] N.t_Dyad w fun p1 w2 =>
  ∃ (s3a : Option Addr) (s3l s3c : Nat), w2.cell? (p1.add 1) = some (.slice s3a s3l s3c) ∧
  CallsX P N.f_girderkit_OverLimbs #[.slice s3a s3l s3c] w2 fun v5 w4 =>
  v5 = (.tuple #[]) ∧
  K (.tuple #[]) w4

/-- girder/girderref02.Scale -/
def S_girderref02_Scale (N : Nums) (P : Program) (q0_0 : Bool) (q0_1 : Option Addr) (q0_1l q0_1c : Nat) (q0_2 : Int) (q1 : Int) (w : World) (K : Value → World → Prop) : Prop :=
  newM #[.bool q0_0, .slice q0_1 q0_1l q0_1c, .int .i64 q0_2] N.t_Dyad w fun p1 w2 =>
  newM #[.bool false, .slice none 0 0, .int .i64 0] N.t_Dyad w2 fun p3 w4 =>
  ∃ b5 : Bool, w4.cell? p1 = some (.bool b5) ∧
  ∃ (s6a : Option Addr) (s6l s6c : Nat), w4.cell? (p1.add 1) = some (.slice s6a s6l s6c) ∧
  ∃ n7 : Int, w4.cell? (p1.add 2) = some (.int .i64 n7) ∧
  CallsX P N.f_girderref02_Right #[.agg #[.bool b5, .slice s6a s6l s6c, .int .i64 n7]] w4 fun v9 w8 =>
  ∃ b10 : Bool, v9 = (.bool b10) ∧
  cond (!b10)
  (stM p3 (.bool false) w8 fun w11 =>
    stM (p3.add 1) (.slice none 0 0) w11 fun w12 =>
    stM (p3.add 2) (.int .i64 0) w12 fun w13 =>
    ∃ b14 : Bool, w13.cell? p3 = some (.bool b14) ∧
    ∃ (s15a : Option Addr) (s15l s15c : Nat), w13.cell? (p3.add 1) = some (.slice s15a s15l s15c) ∧
    ∃ n16 : Int, w13.cell? (p3.add 2) = some (.int .i64 n16) ∧
    K (.tuple #[.agg #[.bool b14, .slice s15a s15l s15c, .int .i64 n16], .int .i64 2]) w13)
  (∃ (s17a : Option Addr) (s17l s17c : Nat), w8.cell? (p1.add 1) = some (.slice s17a s17l s17c) ∧
    cond (((s17l : Nat) : Int) == 0)
    (stM p3 (.bool false) w8 fun w18 =>
      stM (p3.add 1) (.slice none 0 0) w18 fun w19 =>
      stM (p3.add 2) (.int .i64 0) w19 fun w20 =>
      ∃ b21 : Bool, w20.cell? p3 = some (.bool b21) ∧
      ∃ (s22a : Option Addr) (s22l s22c : Nat), w20.cell? (p3.add 1) = some (.slice s22a s22l s22c) ∧
      ∃ n23 : Int, w20.cell? (p3.add 2) = some (.int .i64 n23) ∧
      K (.tuple #[.agg #[.bool b21, .slice s22a s22l s22c, .int .i64 n23], .int .i64 0]) w20)
    (cutM (σ := Bool × Unit) (fun J24 =>
        cond (!(decide (q1 > 131072)))
        (J24 ((decide (q1 < (-131072))), ()) w8)
        (J24 (true, ()) w8))
      (fun s25 w26 =>
        cond s25.1
        (stM p3 (.bool false) w26 fun w27 =>
          stM (p3.add 1) (.slice none 0 0) w27 fun w28 =>
          stM (p3.add 2) (.int .i64 0) w28 fun w29 =>
          ∃ b30 : Bool, w29.cell? p3 = some (.bool b30) ∧
          ∃ (s31a : Option Addr) (s31l s31c : Nat), w29.cell? (p3.add 1) = some (.slice s31a s31l s31c) ∧
          ∃ n32 : Int, w29.cell? (p3.add 2) = some (.int .i64 n32) ∧
          K (.tuple #[.agg #[.bool b30, .slice s31a s31l s31c, .int .i64 n32], .int .i64 3]) w29)
        (∃ b33 : Bool, w26.cell? p1 = some (.bool b33) ∧
          ∃ (s34a : Option Addr) (s34l s34c : Nat), w26.cell? (p1.add 1) = some (.slice s34a s34l s34c) ∧
          ∃ n35 : Int, w26.cell? (p1.add 2) = some (.int .i64 n35) ∧
          CallsX P N.f_girderref02_Dyad #[.agg #[.bool b33, .slice s34a s34l s34c, .int .i64 n35]] w26 fun v37 w36 =>
          ∃ b38 : Bool, ∃ (s39a : Option Addr) (s39l s39c : Nat), ∃ n40 : Int, v37 = (.agg #[.bool b38, .slice s39a s39l s39c, .int .i64 n40]) ∧
          newM #[.bool false, .slice none 0 0, .int .i64 0] N.t_girderref02_Num w36 fun p41 w42 =>
          stM p41 (.bool b38) w42 fun w43 =>
          stM (p41.add 1) (.slice s39a s39l s39c) w43 fun w44 =>
          stM (p41.add 2) (.int .i64 n40) w44 fun w45 =>
          ∃ n46 : Int, w45.cell? (p41.add 2) = some (.int .i64 n46) ∧
          stM (p41.add 2) (.int .i64 (IntKind.i64.wrap (n46 + q1))) w45 fun w47 =>
          ∃ b48 : Bool, w47.cell? p41 = some (.bool b48) ∧
          ∃ (s49a : Option Addr) (s49l s49c : Nat), w47.cell? (p41.add 1) = some (.slice s49a s49l s49c) ∧
          ∃ n50 : Int, w47.cell? (p41.add 2) = some (.int .i64 n50) ∧
          CallsX P N.f_girderref02_Told #[.agg #[.bool b48, .slice s49a s49l s49c, .int .i64 n50]] w47 fun v52 w51 =>
          ∃ b53 : Bool, ∃ (s54a : Option Addr) (s54l s54c : Nat), ∃ n55 : Int, ∃ n56 : Int, v52 = (.tuple #[.agg #[.bool b53, .slice s54a s54l s54c, .int .i64 n55], .int .i64 n56]) ∧
          stM p3 (.bool b53) w51 fun w57 =>
          stM (p3.add 1) (.slice s54a s54l s54c) w57 fun w58 =>
          stM (p3.add 2) (.int .i64 n55) w58 fun w59 =>
          ∃ b60 : Bool, w59.cell? p3 = some (.bool b60) ∧
          ∃ (s61a : Option Addr) (s61l s61c : Nat), w59.cell? (p3.add 1) = some (.slice s61a s61l s61c) ∧
          ∃ n62 : Int, w59.cell? (p3.add 2) = some (.int .i64 n62) ∧
          K (.tuple #[.agg #[.bool b60, .slice s61a s61l s61c, .int .i64 n62], .int .i64 n56]) w59))))

/-- girder/girderlaw02.made -/
def S_girderlaw02_made (N : Nums) (P : Program) (q0_0 : Bool) (q0_1 : Option Addr) (q0_1l q0_1c : Nat) (q0_2 : Int) (q1_0 : Bool) (q1_1 : Option Addr) (q1_1l q1_1c : Nat) (q1_2 : Int) (q2_0 : Bool) (q2_1 : Option Addr) (q2_1l q2_1c : Nat) (q2_2 : Int) (w : World) (K : Value → World → Prop) : Prop :=
  newM #[.bool q0_0, .slice q0_1 q0_1l q0_1c, .int .i64 q0_2] N.t_Dyad w fun p1 w2 =>
  newM #[.bool q1_0, .slice q1_1 q1_1l q1_1c, .int .i64 q1_2] N.t_Dyad w2 fun p3 w4 =>
  newM #[.bool q2_0, .slice q2_1 q2_1l q2_1c, .int .i64 q2_2] N.t_Dyad w4 fun p5 w6 =>
  newM #[.bool false, .slice none 0 0, .int .i64 0] N.t_Dyad w6 fun p7 w8 =>
  newM #[.bool false, .slice none 0 0, .int .i64 0] N.t_Dyad w8 fun p9 w10 =>
  newM #[.bool false, .slice none 0 0, .int .i64 0] N.t_Dyad w10 fun p11 w12 =>
  ∃ b13 : Bool, w12.cell? p1 = some (.bool b13) ∧
  ∃ (s14a : Option Addr) (s14l s14c : Nat), w12.cell? (p1.add 1) = some (.slice s14a s14l s14c) ∧
  ∃ n15 : Int, w12.cell? (p1.add 2) = some (.int .i64 n15) ∧
  CallsX P N.f_girderkit_CopyDyad #[.agg #[.bool b13, .slice s14a s14l s14c, .int .i64 n15]] w12 fun v17 w16 =>
  ∃ b18 : Bool, ∃ (s19a : Option Addr) (s19l s19c : Nat), ∃ n20 : Int, v17 = (.agg #[.bool b18, .slice s19a s19l s19c, .int .i64 n20]) ∧
  CallsX P N.f_dyad_Norm #[.agg #[.bool b18, .slice s19a s19l s19c, .int .i64 n20]] w16 fun v22 w21 =>
  ∃ b23 : Bool, ∃ (s24a : Option Addr) (s24l s24c : Nat), ∃ n25 : Int, ∃ n26 : Int, v22 = (.tuple #[.agg #[.bool b23, .slice s24a s24l s24c, .int .i64 n25], .int .i64 n26]) ∧
  newM #[.bool false, .slice none 0 0, .int .i64 0] N.t_Dyad w21 fun p27 w28 =>
  stM p27 (.bool b23) w28 fun w29 =>
  stM (p27.add 1) (.slice s24a s24l s24c) w29 fun w30 =>
  stM (p27.add 2) (.int .i64 n25) w30 fun w31 =>
  ∃ b32 : Bool, w31.cell? p3 = some (.bool b32) ∧
  ∃ (s33a : Option Addr) (s33l s33c : Nat), w31.cell? (p3.add 1) = some (.slice s33a s33l s33c) ∧
  ∃ n34 : Int, w31.cell? (p3.add 2) = some (.int .i64 n34) ∧
  CallsX P N.f_girderkit_CopyDyad #[.agg #[.bool b32, .slice s33a s33l s33c, .int .i64 n34]] w31 fun v36 w35 =>
  ∃ b37 : Bool, ∃ (s38a : Option Addr) (s38l s38c : Nat), ∃ n39 : Int, v36 = (.agg #[.bool b37, .slice s38a s38l s38c, .int .i64 n39]) ∧
  CallsX P N.f_dyad_Norm #[.agg #[.bool b37, .slice s38a s38l s38c, .int .i64 n39]] w35 fun v41 w40 =>
  ∃ b42 : Bool, ∃ (s43a : Option Addr) (s43l s43c : Nat), ∃ n44 : Int, ∃ n45 : Int, v41 = (.tuple #[.agg #[.bool b42, .slice s43a s43l s43c, .int .i64 n44], .int .i64 n45]) ∧
  newM #[.bool false, .slice none 0 0, .int .i64 0] N.t_Dyad w40 fun p46 w47 =>
  stM p46 (.bool b42) w47 fun w48 =>
  stM (p46.add 1) (.slice s43a s43l s43c) w48 fun w49 =>
  stM (p46.add 2) (.int .i64 n44) w49 fun w50 =>
  ∃ b51 : Bool, w50.cell? p5 = some (.bool b51) ∧
  ∃ (s52a : Option Addr) (s52l s52c : Nat), w50.cell? (p5.add 1) = some (.slice s52a s52l s52c) ∧
  ∃ n53 : Int, w50.cell? (p5.add 2) = some (.int .i64 n53) ∧
  CallsX P N.f_girderkit_CopyDyad #[.agg #[.bool b51, .slice s52a s52l s52c, .int .i64 n53]] w50 fun v55 w54 =>
  ∃ b56 : Bool, ∃ (s57a : Option Addr) (s57l s57c : Nat), ∃ n58 : Int, v55 = (.agg #[.bool b56, .slice s57a s57l s57c, .int .i64 n58]) ∧
  CallsX P N.f_dyad_Norm #[.agg #[.bool b56, .slice s57a s57l s57c, .int .i64 n58]] w54 fun v60 w59 =>
  ∃ b61 : Bool, ∃ (s62a : Option Addr) (s62l s62c : Nat), ∃ n63 : Int, ∃ n64 : Int, v60 = (.tuple #[.agg #[.bool b61, .slice s62a s62l s62c, .int .i64 n63], .int .i64 n64]) ∧
  newM #[.bool false, .slice none 0 0, .int .i64 0] N.t_Dyad w59 fun p65 w66 =>
  stM p65 (.bool b61) w66 fun w67 =>
  stM (p65.add 1) (.slice s62a s62l s62c) w67 fun w68 =>
  stM (p65.add 2) (.int .i64 n63) w68 fun w69 =>
  cutM (σ := Bool × Unit) (fun J70 =>
    ∃ b73 : Bool, w69.cell? p27 = some (.bool b73) ∧
    ∃ (s74a : Option Addr) (s74l s74c : Nat), w69.cell? (p27.add 1) = some (.slice s74a s74l s74c) ∧
    ∃ n75 : Int, w69.cell? (p27.add 2) = some (.int .i64 n75) ∧
    ∃ b76 : Bool, w69.cell? p46 = some (.bool b76) ∧
    ∃ (s77a : Option Addr) (s77l s77c : Nat), w69.cell? (p46.add 1) = some (.slice s77a s77l s77c) ∧
    ∃ n78 : Int, w69.cell? (p46.add 2) = some (.int .i64 n78) ∧
    ∃ b79 : Bool, w69.cell? p65 = some (.bool b79) ∧
    ∃ (s80a : Option Addr) (s80l s80c : Nat), w69.cell? (p65.add 1) = some (.slice s80a s80l s80c) ∧
    ∃ n81 : Int, w69.cell? (p65.add 2) = some (.int .i64 n81) ∧
    cond (n26 == 0)
    (cond (n45 == 0)
      (drM w69 fun w82 =>
        stM p7 (.bool b73) w82 fun w83 =>
        stM (p7.add 1) (.slice s74a s74l s74c) w83 fun w84 =>
        stM (p7.add 2) (.int .i64 n75) w84 fun w85 =>
        w85.cell? p65 = some (.bool b79) ∧
        w85.cell? (p65.add 1) = some (.slice s80a s80l s80c) ∧
        w85.cell? (p65.add 2) = some (.int .i64 n81) ∧
        w85.cell? p46 = some (.bool b76) ∧
        w85.cell? (p46.add 1) = some (.slice s77a s77l s77c) ∧
        w85.cell? (p46.add 2) = some (.int .i64 n78) ∧
        drM w85 fun w86 =>
        stM p9 (.bool b76) w86 fun w87 =>
        stM (p9.add 1) (.slice s77a s77l s77c) w87 fun w88 =>
        stM (p9.add 2) (.int .i64 n78) w88 fun w89 =>
        w89.cell? p65 = some (.bool b79) ∧
        w89.cell? (p65.add 1) = some (.slice s80a s80l s80c) ∧
        w89.cell? (p65.add 2) = some (.int .i64 n81) ∧
        drM w89 fun w90 =>
        stM p11 (.bool b79) w90 fun w91 =>
        stM (p11.add 1) (.slice s80a s80l s80c) w91 fun w92 =>
        stM (p11.add 2) (.int .i64 n81) w92 fun w93 =>
        drM w93 fun w94 =>
        J70 ((n64 == 0), ()) w94)
      (drM w69 fun w95 =>
        stM p7 (.bool b73) w95 fun w96 =>
        stM (p7.add 1) (.slice s74a s74l s74c) w96 fun w97 =>
        stM (p7.add 2) (.int .i64 n75) w97 fun w98 =>
        w98.cell? p65 = some (.bool b79) ∧
        w98.cell? (p65.add 1) = some (.slice s80a s80l s80c) ∧
        w98.cell? (p65.add 2) = some (.int .i64 n81) ∧
        w98.cell? p46 = some (.bool b76) ∧
        w98.cell? (p46.add 1) = some (.slice s77a s77l s77c) ∧
        w98.cell? (p46.add 2) = some (.int .i64 n78) ∧
        drM w98 fun w99 =>
        stM p9 (.bool b76) w99 fun w100 =>
        stM (p9.add 1) (.slice s77a s77l s77c) w100 fun w101 =>
        stM (p9.add 2) (.int .i64 n78) w101 fun w102 =>
        w102.cell? p65 = some (.bool b79) ∧
        w102.cell? (p65.add 1) = some (.slice s80a s80l s80c) ∧
        w102.cell? (p65.add 2) = some (.int .i64 n81) ∧
        drM w102 fun w103 =>
        stM p11 (.bool b79) w103 fun w104 =>
        stM (p11.add 1) (.slice s80a s80l s80c) w104 fun w105 =>
        stM (p11.add 2) (.int .i64 n81) w105 fun w106 =>
        drM w106 fun w107 =>
        J70 (false, ()) w107))
    (drM w69 fun w108 =>
      stM p7 (.bool b73) w108 fun w109 =>
      stM (p7.add 1) (.slice s74a s74l s74c) w109 fun w110 =>
      stM (p7.add 2) (.int .i64 n75) w110 fun w111 =>
      w111.cell? p65 = some (.bool b79) ∧
      w111.cell? (p65.add 1) = some (.slice s80a s80l s80c) ∧
      w111.cell? (p65.add 2) = some (.int .i64 n81) ∧
      w111.cell? p46 = some (.bool b76) ∧
      w111.cell? (p46.add 1) = some (.slice s77a s77l s77c) ∧
      w111.cell? (p46.add 2) = some (.int .i64 n78) ∧
      drM w111 fun w112 =>
      stM p9 (.bool b76) w112 fun w113 =>
      stM (p9.add 1) (.slice s77a s77l s77c) w113 fun w114 =>
      stM (p9.add 2) (.int .i64 n78) w114 fun w115 =>
      w115.cell? p65 = some (.bool b79) ∧
      w115.cell? (p65.add 1) = some (.slice s80a s80l s80c) ∧
      w115.cell? (p65.add 2) = some (.int .i64 n81) ∧
      drM w115 fun w116 =>
      stM p11 (.bool b79) w116 fun w117 =>
      stM (p11.add 1) (.slice s80a s80l s80c) w117 fun w118 =>
      stM (p11.add 2) (.int .i64 n81) w118 fun w119 =>
      drM w119 fun w120 =>
      J70 (false, ()) w120))
  (fun s71 w72 =>
    ∃ b121 : Bool, w72.cell? p7 = some (.bool b121) ∧
    ∃ (s122a : Option Addr) (s122l s122c : Nat), w72.cell? (p7.add 1) = some (.slice s122a s122l s122c) ∧
    ∃ n123 : Int, w72.cell? (p7.add 2) = some (.int .i64 n123) ∧
    ∃ b124 : Bool, w72.cell? p9 = some (.bool b124) ∧
    ∃ (s125a : Option Addr) (s125l s125c : Nat), w72.cell? (p9.add 1) = some (.slice s125a s125l s125c) ∧
    ∃ n126 : Int, w72.cell? (p9.add 2) = some (.int .i64 n126) ∧
    ∃ b127 : Bool, w72.cell? p11 = some (.bool b127) ∧
    ∃ (s128a : Option Addr) (s128l s128c : Nat), w72.cell? (p11.add 1) = some (.slice s128a s128l s128c) ∧
    ∃ n129 : Int, w72.cell? (p11.add 2) = some (.int .i64 n129) ∧
    K (.tuple #[.agg #[.bool b121, .slice s122a s122l s122c, .int .i64 n123], .agg #[.bool b124, .slice s125a s125l s125c, .int .i64 n126], .agg #[.bool b127, .slice s128a s128l s128c, .int .i64 n129], .bool s71.1]) w72)

/-- girder/dyad.Add -/
def S_dyad_Add (N : Nums) (P : Program) (q0_0 : Bool) (q0_1 : Option Addr) (q0_1l q0_1c : Nat) (q0_2 : Int) (q1_0 : Bool) (q1_1 : Option Addr) (q1_1l q1_1c : Nat) (q1_2 : Int) (w : World) (K : Value → World → Prop) : Prop :=
  newM #[.bool q0_0, .slice q0_1 q0_1l q0_1c, .int .i64 q0_2] N.t_Dyad w fun p1 w2 =>
  newM #[.bool q1_0, .slice q1_1 q1_1l q1_1c, .int .i64 q1_2] N.t_Dyad w2 fun p3 w4 =>
  newM #[.bool false, .slice none 0 0, .int .i64 0] N.t_Dyad w4 fun p5 w6 =>
  ∃ b7 : Bool, w6.cell? p1 = some (.bool b7) ∧
  ∃ (s8a : Option Addr) (s8l s8c : Nat), w6.cell? (p1.add 1) = some (.slice s8a s8l s8c) ∧
  ∃ n9 : Int, w6.cell? (p1.add 2) = some (.int .i64 n9) ∧
  ∃ b10 : Bool, w6.cell? p3 = some (.bool b10) ∧
  ∃ (s11a : Option Addr) (s11l s11c : Nat), w6.cell? (p3.add 1) = some (.slice s11a s11l s11c) ∧
  ∃ n12 : Int, w6.cell? (p3.add 2) = some (.int .i64 n12) ∧
  CallsX P N.f_dyad_both #[.agg #[.bool b7, .slice s8a s8l s8c, .int .i64 n9], .agg #[.bool b10, .slice s11a s11l s11c, .int .i64 n12]] w6 fun v14 w13 =>
  ∃ b15 : Bool, v14 = (.bool b15) ∧
  cond (!b15)
  (stM p5 (.bool false) w13 fun w16 =>
    stM (p5.add 1) (.slice none 0 0) w16 fun w17 =>
    stM (p5.add 2) (.int .i64 0) w17 fun w18 =>
    ∃ b19 : Bool, w18.cell? p5 = some (.bool b19) ∧
    ∃ (s20a : Option Addr) (s20l s20c : Nat), w18.cell? (p5.add 1) = some (.slice s20a s20l s20c) ∧
    ∃ n21 : Int, w18.cell? (p5.add 2) = some (.int .i64 n21) ∧
    K (.tuple #[.agg #[.bool b19, .slice s20a s20l s20c, .int .i64 n21], .int .i64 2]) w18)
  (∃ b22 : Bool, w13.cell? p1 = some (.bool b22) ∧
    ∃ (s23a : Option Addr) (s23l s23c : Nat), w13.cell? (p1.add 1) = some (.slice s23a s23l s23c) ∧
    ∃ n24 : Int, w13.cell? (p1.add 2) = some (.int .i64 n24) ∧
    ∃ b25 : Bool, w13.cell? p3 = some (.bool b25) ∧
    ∃ (s26a : Option Addr) (s26l s26c : Nat), w13.cell? (p3.add 1) = some (.slice s26a s26l s26c) ∧
    ∃ n27 : Int, w13.cell? (p3.add 2) = some (.int .i64 n27) ∧
    drM w13 fun w28 =>
    CallsX P N.f_dyad_whole #[.agg #[.bool b22, .slice s23a s23l s23c, .int .i64 n24]] w28 fun v30 w29 =>
    ∃ p31 : (Option Addr), v30 = (.pointer p31) ∧
    w29.cell? p3 = some (.bool b25) ∧
    w29.cell? (p3.add 1) = some (.slice s26a s26l s26c) ∧
    w29.cell? (p3.add 2) = some (.int .i64 n27) ∧
    drM w29 fun w32 =>
    CallsX P N.f_dyad_whole #[.agg #[.bool b25, .slice s26a s26l s26c, .int .i64 n27]] w32 fun v34 w33 =>
    ∃ p35 : (Option Addr), v34 = (.pointer p35) ∧
    drM w33 fun w36 =>
    cutM (σ := Bool × Unit) (fun J37 =>
      CallsX P N.f_p_bignum_Int_Sign #[.pointer p31] w36 fun v41 w40 =>
      ∃ n42 : Int, v41 = (.int .i64 n42) ∧
      cond (!(n42 == 0))
      (CallsX P N.f_p_bignum_Int_Sign #[.pointer p35] w40 fun v44 w43 =>
        ∃ n45 : Int, v44 = (.int .i64 n45) ∧
        J37 ((n45 == 0), ()) w43)
      (J37 (true, ()) w40))
    (fun s38 w39 =>
      cond s38.1
      (∃ n46 : Int, w39.cell? (p1.add 2) = some (.int .i64 n46) ∧
        ∃ n47 : Int, w39.cell? (p3.add 2) = some (.int .i64 n47) ∧
        drM w39 fun w48 =>
        CallsX P N.f_p_bignum_Int_Add #[.pointer p31, .pointer p31, .pointer p35] w48 fun v50 w49 =>
        ∃ p51 : (Option Addr), v50 = (.pointer p51) ∧
        w49.cell? (p3.add 2) = some (.int .i64 n47) ∧
        w49.cell? (p1.add 2) = some (.int .i64 n46) ∧
        drM w49 fun w52 =>
        CallsX P N.f_dyad_made #[.pointer p51, .int .i64 (IntKind.i64.wrap (n46 + n47))] w52 fun v54 w53 =>
        ∃ b55 : Bool, ∃ (s56a : Option Addr) (s56l s56c : Nat), ∃ n57 : Int, ∃ n58 : Int, v54 = (.tuple #[.agg #[.bool b55, .slice s56a s56l s56c, .int .i64 n57], .int .i64 n58]) ∧
        drM w53 fun w59 =>
        stM p5 (.bool b55) w59 fun w60 =>
        stM (p5.add 1) (.slice s56a s56l s56c) w60 fun w61 =>
        stM (p5.add 2) (.int .i64 n57) w61 fun w62 =>
        drM w62 fun w63 =>
        ∃ b64 : Bool, w63.cell? p5 = some (.bool b64) ∧
        ∃ (s65a : Option Addr) (s65l s65c : Nat), w63.cell? (p5.add 1) = some (.slice s65a s65l s65c) ∧
        ∃ n66 : Int, w63.cell? (p5.add 2) = some (.int .i64 n66) ∧
        K (.tuple #[.agg #[.bool b64, .slice s65a s65l s65c, .int .i64 n66], .int .i64 n58]) w63)
      (∃ n67 : Int, w39.cell? (p1.add 2) = some (.int .i64 n67) ∧
        ∃ n68 : Int, w39.cell? (p3.add 2) = some (.int .i64 n68) ∧
        cutM (σ := (Option Addr) × (Option Addr) × Unit) (fun J69 =>
          cond (decide (n67 < n68))
          (∃ b72 : Bool, w39.cell? p3 = some (.bool b72) ∧
            ∃ (s73a : Option Addr) (s73l s73c : Nat), w39.cell? (p3.add 1) = some (.slice s73a s73l s73c) ∧
            ∃ n74 : Int, w39.cell? (p3.add 2) = some (.int .i64 n74) ∧
            ∃ b75 : Bool, w39.cell? p1 = some (.bool b75) ∧
            ∃ (s76a : Option Addr) (s76l s76c : Nat), w39.cell? (p1.add 1) = some (.slice s76a s76l s76c) ∧
            ∃ n77 : Int, w39.cell? (p1.add 2) = some (.int .i64 n77) ∧
            stM p1 (.bool b72) w39 fun w78 =>
            stM (p1.add 1) (.slice s73a s73l s73c) w78 fun w79 =>
            stM (p1.add 2) (.int .i64 n74) w79 fun w80 =>
            stM p3 (.bool b75) w80 fun w81 =>
            stM (p3.add 1) (.slice s76a s76l s76c) w81 fun w82 =>
            stM (p3.add 2) (.int .i64 n77) w82 fun w83 =>
            J69 (p35, p31, ()) w83)
          (J69 (p31, p35, ()) w39))
        (fun s70 w71 =>
          ∃ n84 : Int, w71.cell? (p1.add 2) = some (.int .i64 n84) ∧
          ∃ n85 : Int, w71.cell? (p3.add 2) = some (.int .i64 n85) ∧
          cond (decide ((IntKind.i64.wrap (n84 - n85)) > 16385))
          (stM p5 (.bool false) w71 fun w86 =>
            stM (p5.add 1) (.slice none 0 0) w86 fun w87 =>
            stM (p5.add 2) (.int .i64 0) w87 fun w88 =>
            ∃ b89 : Bool, w88.cell? p5 = some (.bool b89) ∧
            ∃ (s90a : Option Addr) (s90l s90c : Nat), w88.cell? (p5.add 1) = some (.slice s90a s90l s90c) ∧
            ∃ n91 : Int, w88.cell? (p5.add 2) = some (.int .i64 n91) ∧
            K (.tuple #[.agg #[.bool b89, .slice s90a s90l s90c, .int .i64 n91], .int .i64 3]) w88)
          (∃ n92 : Int, w71.cell? (p3.add 2) = some (.int .i64 n92) ∧
            drM w71 fun w93 =>
            CallsX P N.f_p_bignum_Int_Lsh #[.pointer s70.1, .pointer s70.1, .int .u64 (IntKind.u64.wrap (IntKind.i64.wrap (n84 - n85)))] w93 fun v95 w94 =>
            ∃ p96 : (Option Addr), v95 = (.pointer p96) ∧
            w94.cell? (p3.add 2) = some (.int .i64 n92) ∧
            drM w94 fun w97 =>
            CallsX P N.f_p_bignum_Int_Add #[.pointer s70.1, .pointer p96, .pointer s70.2.1] w97 fun v99 w98 =>
            ∃ p100 : (Option Addr), v99 = (.pointer p100) ∧
            w98.cell? (p3.add 2) = some (.int .i64 n92) ∧
            drM w98 fun w101 =>
            CallsX P N.f_dyad_made #[.pointer p100, .int .i64 n92] w101 fun v103 w102 =>
            ∃ b104 : Bool, ∃ (s105a : Option Addr) (s105l s105c : Nat), ∃ n106 : Int, ∃ n107 : Int, v103 = (.tuple #[.agg #[.bool b104, .slice s105a s105l s105c, .int .i64 n106], .int .i64 n107]) ∧
            drM w102 fun w108 =>
            stM p5 (.bool b104) w108 fun w109 =>
            stM (p5.add 1) (.slice s105a s105l s105c) w109 fun w110 =>
            stM (p5.add 2) (.int .i64 n106) w110 fun w111 =>
            drM w111 fun w112 =>
            ∃ b113 : Bool, w112.cell? p5 = some (.bool b113) ∧
            ∃ (s114a : Option Addr) (s114l s114c : Nat), w112.cell? (p5.add 1) = some (.slice s114a s114l s114c) ∧
            ∃ n115 : Int, w112.cell? (p5.add 2) = some (.int .i64 n115) ∧
            K (.tuple #[.agg #[.bool b113, .slice s114a s114l s114c, .int .i64 n115], .int .i64 n107]) w112)))))

/-- girder/dyad.Mul -/
def S_dyad_Mul (N : Nums) (P : Program) (q0_0 : Bool) (q0_1 : Option Addr) (q0_1l q0_1c : Nat) (q0_2 : Int) (q1_0 : Bool) (q1_1 : Option Addr) (q1_1l q1_1c : Nat) (q1_2 : Int) (w : World) (K : Value → World → Prop) : Prop :=
  newM #[.bool q0_0, .slice q0_1 q0_1l q0_1c, .int .i64 q0_2] N.t_Dyad w fun p1 w2 =>
  newM #[.bool q1_0, .slice q1_1 q1_1l q1_1c, .int .i64 q1_2] N.t_Dyad w2 fun p3 w4 =>
  newM #[.bool false, .slice none 0 0, .int .i64 0] N.t_Dyad w4 fun p5 w6 =>
  ∃ b7 : Bool, w6.cell? p1 = some (.bool b7) ∧
  ∃ (s8a : Option Addr) (s8l s8c : Nat), w6.cell? (p1.add 1) = some (.slice s8a s8l s8c) ∧
  ∃ n9 : Int, w6.cell? (p1.add 2) = some (.int .i64 n9) ∧
  ∃ b10 : Bool, w6.cell? p3 = some (.bool b10) ∧
  ∃ (s11a : Option Addr) (s11l s11c : Nat), w6.cell? (p3.add 1) = some (.slice s11a s11l s11c) ∧
  ∃ n12 : Int, w6.cell? (p3.add 2) = some (.int .i64 n12) ∧
  CallsX P N.f_dyad_both #[.agg #[.bool b7, .slice s8a s8l s8c, .int .i64 n9], .agg #[.bool b10, .slice s11a s11l s11c, .int .i64 n12]] w6 fun v14 w13 =>
  ∃ b15 : Bool, v14 = (.bool b15) ∧
  cond (!b15)
  (stM p5 (.bool false) w13 fun w16 =>
    stM (p5.add 1) (.slice none 0 0) w16 fun w17 =>
    stM (p5.add 2) (.int .i64 0) w17 fun w18 =>
    ∃ b19 : Bool, w18.cell? p5 = some (.bool b19) ∧
    ∃ (s20a : Option Addr) (s20l s20c : Nat), w18.cell? (p5.add 1) = some (.slice s20a s20l s20c) ∧
    ∃ n21 : Int, w18.cell? (p5.add 2) = some (.int .i64 n21) ∧
    K (.tuple #[.agg #[.bool b19, .slice s20a s20l s20c, .int .i64 n21], .int .i64 2]) w18)
  (∃ b22 : Bool, w13.cell? p1 = some (.bool b22) ∧
    ∃ (s23a : Option Addr) (s23l s23c : Nat), w13.cell? (p1.add 1) = some (.slice s23a s23l s23c) ∧
    ∃ n24 : Int, w13.cell? (p1.add 2) = some (.int .i64 n24) ∧
    CallsX P N.f_dyad_whole #[.agg #[.bool b22, .slice s23a s23l s23c, .int .i64 n24]] w13 fun v26 w25 =>
    ∃ p27 : (Option Addr), v26 = (.pointer p27) ∧
    ∃ b28 : Bool, w25.cell? p3 = some (.bool b28) ∧
    ∃ (s29a : Option Addr) (s29l s29c : Nat), w25.cell? (p3.add 1) = some (.slice s29a s29l s29c) ∧
    ∃ n30 : Int, w25.cell? (p3.add 2) = some (.int .i64 n30) ∧
    ∃ n31 : Int, w25.cell? (p1.add 2) = some (.int .i64 n31) ∧
    ∃ n32 : Int, w25.cell? (p3.add 2) = some (.int .i64 n32) ∧
    drM w25 fun w33 =>
    CallsX P N.f_dyad_whole #[.agg #[.bool b28, .slice s29a s29l s29c, .int .i64 n30]] w33 fun v35 w34 =>
    ∃ p36 : (Option Addr), v35 = (.pointer p36) ∧
    w34.cell? (p3.add 2) = some (.int .i64 n32) ∧
    w34.cell? (p1.add 2) = some (.int .i64 n31) ∧
    drM w34 fun w37 =>
    CallsX P N.f_p_bignum_Int_Mul #[.pointer p27, .pointer p27, .pointer p36] w37 fun v39 w38 =>
    ∃ p40 : (Option Addr), v39 = (.pointer p40) ∧
    w38.cell? (p3.add 2) = some (.int .i64 n32) ∧
    w38.cell? (p1.add 2) = some (.int .i64 n31) ∧
    drM w38 fun w41 =>
    CallsX P N.f_dyad_made #[.pointer p40, .int .i64 (IntKind.i64.wrap (n31 + n32))] w41 fun v43 w42 =>
    ∃ b44 : Bool, ∃ (s45a : Option Addr) (s45l s45c : Nat), ∃ n46 : Int, ∃ n47 : Int, v43 = (.tuple #[.agg #[.bool b44, .slice s45a s45l s45c, .int .i64 n46], .int .i64 n47]) ∧
    drM w42 fun w48 =>
    stM p5 (.bool b44) w48 fun w49 =>
    stM (p5.add 1) (.slice s45a s45l s45c) w49 fun w50 =>
    stM (p5.add 2) (.int .i64 n46) w50 fun w51 =>
    drM w51 fun w52 =>
    ∃ b53 : Bool, w52.cell? p5 = some (.bool b53) ∧
    ∃ (s54a : Option Addr) (s54l s54c : Nat), w52.cell? (p5.add 1) = some (.slice s54a s54l s54c) ∧
    ∃ n55 : Int, w52.cell? (p5.add 2) = some (.int .i64 n55) ∧
    K (.tuple #[.agg #[.bool b53, .slice s54a s54l s54c, .int .i64 n55], .int .i64 n47]) w52)

/-- girder/girderlaw02.same -/
def S_girderlaw02_same (N : Nums) (P : Program) (q0_0 : Bool) (q0_1 : Option Addr) (q0_1l q0_1c : Nat) (q0_2 : Int) (q1 : Int) (q2_0 : Bool) (q2_1 : Option Addr) (q2_1l q2_1c : Nat) (q2_2 : Int) (q3 : Int) (w : World) (K : Value → World → Prop) : Prop :=
  newM #[.bool q0_0, .slice q0_1 q0_1l q0_1c, .int .i64 q0_2] N.t_Dyad w fun p1 w2 =>
  newM #[.bool q2_0, .slice q2_1 q2_1l q2_1c, .int .i64 q2_2] N.t_Dyad w2 fun p3 w4 =>
  cond (q1 == q3)
  (∃ b5 : Bool, w4.cell? p1 = some (.bool b5) ∧
    ∃ (s6a : Option Addr) (s6l s6c : Nat), w4.cell? (p1.add 1) = some (.slice s6a s6l s6c) ∧
    ∃ n7 : Int, w4.cell? (p1.add 2) = some (.int .i64 n7) ∧
    ∃ b8 : Bool, w4.cell? p3 = some (.bool b8) ∧
    ∃ (s9a : Option Addr) (s9l s9c : Nat), w4.cell? (p3.add 1) = some (.slice s9a s9l s9c) ∧
    ∃ n10 : Int, w4.cell? (p3.add 2) = some (.int .i64 n10) ∧
    CallsX P N.f_girderkit_SameDyad #[.agg #[.bool b5, .slice s6a s6l s6c, .int .i64 n7], .agg #[.bool b8, .slice s9a s9l s9c, .int .i64 n10]] w4 fun v12 w11 =>
    ∃ b13 : Bool, v12 = (.bool b13) ∧
    K (.bool b13) w11)
  (K (.bool false) w4)

/-- girder/dyad.Sub -/
def S_dyad_Sub (N : Nums) (P : Program) (q0_0 : Bool) (q0_1 : Option Addr) (q0_1l q0_1c : Nat) (q0_2 : Int) (q1_0 : Bool) (q1_1 : Option Addr) (q1_1l q1_1c : Nat) (q1_2 : Int) (w : World) (K : Value → World → Prop) : Prop :=
  newM #[.bool q0_0, .slice q0_1 q0_1l q0_1c, .int .i64 q0_2] N.t_Dyad w fun p1 w2 =>
  newM #[.bool q1_0, .slice q1_1 q1_1l q1_1c, .int .i64 q1_2] N.t_Dyad w2 fun p3 w4 =>
  newM #[.bool false, .slice none 0 0, .int .i64 0] N.t_Dyad w4 fun p5 w6 =>
  ∃ b7 : Bool, w6.cell? p3 = some (.bool b7) ∧
  ∃ (s8a : Option Addr) (s8l s8c : Nat), w6.cell? (p3.add 1) = some (.slice s8a s8l s8c) ∧
  ∃ n9 : Int, w6.cell? (p3.add 2) = some (.int .i64 n9) ∧
  CallsX P N.f_dyad_Neg #[.agg #[.bool b7, .slice s8a s8l s8c, .int .i64 n9]] w6 fun v11 w10 =>
  ∃ b12 : Bool, ∃ (s13a : Option Addr) (s13l s13c : Nat), ∃ n14 : Int, ∃ n15 : Int, v11 = (.tuple #[.agg #[.bool b12, .slice s13a s13l s13c, .int .i64 n14], .int .i64 n15]) ∧
  newM #[.bool false, .slice none 0 0, .int .i64 0] N.t_Dyad w10 fun p16 w17 =>
  stM p16 (.bool b12) w17 fun w18 =>
  stM (p16.add 1) (.slice s13a s13l s13c) w18 fun w19 =>
  stM (p16.add 2) (.int .i64 n14) w19 fun w20 =>
  cond (n15 != 0)
  (stM p5 (.bool false) w20 fun w21 =>
    stM (p5.add 1) (.slice none 0 0) w21 fun w22 =>
    stM (p5.add 2) (.int .i64 0) w22 fun w23 =>
    ∃ b24 : Bool, w23.cell? p5 = some (.bool b24) ∧
    ∃ (s25a : Option Addr) (s25l s25c : Nat), w23.cell? (p5.add 1) = some (.slice s25a s25l s25c) ∧
    ∃ n26 : Int, w23.cell? (p5.add 2) = some (.int .i64 n26) ∧
    K (.tuple #[.agg #[.bool b24, .slice s25a s25l s25c, .int .i64 n26], .int .i64 n15]) w23)
  (∃ b27 : Bool, w20.cell? p1 = some (.bool b27) ∧
    ∃ (s28a : Option Addr) (s28l s28c : Nat), w20.cell? (p1.add 1) = some (.slice s28a s28l s28c) ∧
    ∃ n29 : Int, w20.cell? (p1.add 2) = some (.int .i64 n29) ∧
    ∃ b30 : Bool, w20.cell? p16 = some (.bool b30) ∧
    ∃ (s31a : Option Addr) (s31l s31c : Nat), w20.cell? (p16.add 1) = some (.slice s31a s31l s31c) ∧
    ∃ n32 : Int, w20.cell? (p16.add 2) = some (.int .i64 n32) ∧
    CallsX P N.f_dyad_Add #[.agg #[.bool b27, .slice s28a s28l s28c, .int .i64 n29], .agg #[.bool b30, .slice s31a s31l s31c, .int .i64 n32]] w20 fun v34 w33 =>
    ∃ b35 : Bool, ∃ (s36a : Option Addr) (s36l s36c : Nat), ∃ n37 : Int, ∃ n38 : Int, v34 = (.tuple #[.agg #[.bool b35, .slice s36a s36l s36c, .int .i64 n37], .int .i64 n38]) ∧
    stM p5 (.bool b35) w33 fun w39 =>
    stM (p5.add 1) (.slice s36a s36l s36c) w39 fun w40 =>
    stM (p5.add 2) (.int .i64 n37) w40 fun w41 =>
    ∃ b42 : Bool, w41.cell? p5 = some (.bool b42) ∧
    ∃ (s43a : Option Addr) (s43l s43c : Nat), w41.cell? (p5.add 1) = some (.slice s43a s43l s43c) ∧
    ∃ n44 : Int, w41.cell? (p5.add 2) = some (.int .i64 n44) ∧
    K (.tuple #[.agg #[.bool b42, .slice s43a s43l s43c, .int .i64 n44], .int .i64 n38]) w41)

/-- girder/girderkit.Finite -/
def S_girderkit_Finite (N : Nums) (P : Program) (q0 : Nat) (w : World) (K : Value → World → Prop) : Prop :=
  fresM (fsub q0 q0) w fun x1 w2 =>
  K (.bool (feq x1 0)) w2

/-- girder/dyad.Round -/
def S_dyad_Round (N : Nums) (P : Program) (q0_0 : Bool) (q0_1 : Option Addr) (q0_1l q0_1c : Nat) (q0_2 : Int) (q1 : Int) (w : World) (K : Value → World → Prop) : Prop :=
  newM #[.bool q0_0, .slice q0_1 q0_1l q0_1c, .int .i64 q0_2] N.t_Dyad w fun p1 w2 =>
  ∃ b3 : Bool, w2.cell? p1 = some (.bool b3) ∧
  ∃ (s4a : Option Addr) (s4l s4c : Nat), w2.cell? (p1.add 1) = some (.slice s4a s4l s4c) ∧
  ∃ n5 : Int, w2.cell? (p1.add 2) = some (.int .i64 n5) ∧
  CallsX P N.f_dyad_Right #[.agg #[.bool b3, .slice s4a s4l s4c, .int .i64 n5]] w2 fun v7 w6 =>
  ∃ b8 : Bool, v7 = (.bool b8) ∧
  cond (!b8)
  (K (.tuple #[.float .f64 0, .int .i64 2]) w6)
  (∃ (s9a : Option Addr) (s9l s9c : Nat), w6.cell? (p1.add 1) = some (.slice s9a s9l s9c) ∧
    cond (((s9l : Nat) : Int) == 0)
    (K (.tuple #[.float .f64 0, .int .i64 0]) w6)
    (∃ b10 : Bool, w6.cell? p1 = some (.bool b10) ∧
      ∃ (s11a : Option Addr) (s11l s11c : Nat), w6.cell? (p1.add 1) = some (.slice s11a s11l s11c) ∧
      ∃ n12 : Int, w6.cell? (p1.add 2) = some (.int .i64 n12) ∧
      CallsX P N.f_dyad_whole #[.agg #[.bool b10, .slice s11a s11l s11c, .int .i64 n12]] w6 fun v14 w13 =>
      ∃ p15 : (Option Addr), v14 = (.pointer p15) ∧
      CallsX P N.f_p_bignum_Int_Abs #[.pointer p15, .pointer p15] w13 fun v17 w16 =>
      ∃ p18 : (Option Addr), v17 = (.pointer p18) ∧
      ∃ b19 : Bool, w16.cell? p1 = some (.bool b19) ∧
      ∃ (s20a : Option Addr) (s20l s20c : Nat), w16.cell? (p1.add 1) = some (.slice s20a s20l s20c) ∧
      ∃ n21 : Int, w16.cell? (p1.add 2) = some (.int .i64 n21) ∧
      CallsX P N.f_dyad_top #[.agg #[.bool b19, .slice s20a s20l s20c, .int .i64 n21]] w16 fun v23 w22 =>
      ∃ n24 : Int, v23 = (.int .i64 n24) ∧
      ∃ n25 : Int, w22.cell? (p1.add 2) = some (.int .i64 n25) ∧
      cutM (σ := Int × Unit) (fun J26 =>
        cond (decide ((IntKind.i64.wrap ((if (-1074) > (IntKind.i64.wrap (n24 - 53)) then (-1074) else (IntKind.i64.wrap (n24 - 53))) - n25)) ≤ 0))
        (newM #[.bool false, .slice none 0 0] N.t_bignum_Int w22 fun p29 w30 =>
          CallsX P N.f_p_bignum_Int_Lsh #[.pointer (some p29), .pointer p15, .int .u64 (IntKind.u64.wrap (IntKind.i64.wrap (0 - (IntKind.i64.wrap ((if (-1074) > (IntKind.i64.wrap (n24 - 53)) then (-1074) else (IntKind.i64.wrap (n24 - 53))) - n25)))))] w30 fun v32 w31 =>
          ∃ p33 : (Option Addr), v32 = (.pointer p33) ∧
          CallsX P N.f_p_bignum_Int_Uint64 #[.pointer p33] w31 fun v35 w34 =>
          ∃ n36 : Int, v35 = (.int .u64 n36) ∧
          J26 (n36, ()) w34)
        (newM #[.bool false, .slice none 0 0] N.t_bignum_Int w22 fun p37 w38 =>
          CallsX P N.f_p_bignum_Int_Rsh #[.pointer (some p37), .pointer p15, .int .u64 (IntKind.u64.wrap (IntKind.i64.wrap ((if (-1074) > (IntKind.i64.wrap (n24 - 53)) then (-1074) else (IntKind.i64.wrap (n24 - 53))) - n25)))] w38 fun v40 w39 =>
          ∃ p41 : (Option Addr), v40 = (.pointer p41) ∧
          CallsX P N.f_p_bignum_Int_Uint64 #[.pointer p41] w39 fun v43 w42 =>
          ∃ n44 : Int, v43 = (.int .u64 n44) ∧
          CallsX P N.f_p_bignum_Int_Lsh #[.pointer p41, .pointer p41, .int .u64 (IntKind.u64.wrap (IntKind.i64.wrap ((if (-1074) > (IntKind.i64.wrap (n24 - 53)) then (-1074) else (IntKind.i64.wrap (n24 - 53))) - n25)))] w42 fun v46 w45 =>
          ∃ p47 : (Option Addr), v46 = (.pointer p47) ∧
          CallsX P N.f_p_bignum_Int_Sub #[.pointer p15, .pointer p15, .pointer p47] w45 fun v49 w48 =>
          ∃ p50 : (Option Addr), v49 = (.pointer p50) ∧
          newM #[.bool false, .slice none 0 0] N.t_bignum_Int w48 fun p51 w52 =>
          CallsX P N.f_bignum_NewInt #[.int .i64 1] w52 fun v54 w53 =>
          ∃ p55 : (Option Addr), v54 = (.pointer p55) ∧
          CallsX P N.f_p_bignum_Int_Lsh #[.pointer (some p51), .pointer p55, .int .u64 (IntKind.u64.wrap (IntKind.i64.wrap ((IntKind.i64.wrap ((if (-1074) > (IntKind.i64.wrap (n24 - 53)) then (-1074) else (IntKind.i64.wrap (n24 - 53))) - n25)) - 1)))] w53 fun v57 w56 =>
          ∃ p58 : (Option Addr), v57 = (.pointer p58) ∧
          CallsX P N.f_p_bignum_Int_Cmp #[.pointer p50, .pointer p58] w56 fun v60 w59 =>
          ∃ n61 : Int, v60 = (.int .i64 n61) ∧
          CallsX P N.f_p_bignum_Int_Sign #[.pointer p50] w59 fun v63 w62 =>
          ∃ n64 : Int, v63 = (.int .i64 n64) ∧
          cond (decide (n64 > 0))
          (∃ b65 : Bool, w62.cell? p1 = some (.bool b65) ∧
            CallsX P N.f_dyad_away #[.int .i8 q1, .bool b65, .int .i64 n61, .bool ((IntKind.u64.wrap (BitVec.ofInt IntKind.u64.bits n44 &&& BitVec.ofInt IntKind.u64.bits 1).toNat) == 1)] w62 fun v67 w66 =>
            ∃ b68 : Bool, v67 = (.bool b68) ∧
            cutM (σ := Int × Unit) (fun J69 =>
              cond b68
              (J69 ((IntKind.u64.wrap (n44 + 1)), ()) w66)
              (J69 (n44, ()) w66))
            (fun s70 w71 =>
              J26 (s70.1, ()) w71))
          (cutM (σ := Int × Unit) (fun J72 =>
              J72 (n44, ()) w62)
            (fun s73 w74 =>
              J26 (s73.1, ()) w74))))
      (fun s27 w28 =>
        ∃ b75 : Bool, w28.cell? p1 = some (.bool b75) ∧
        CallsX P N.f_dyad_float #[.bool b75, .int .u64 s27.1, .int .i64 (if (-1074) > (IntKind.i64.wrap (n24 - 53)) then (-1074) else (IntKind.i64.wrap (n24 - 53))), .int .i8 q1] w28 fun v77 w76 =>
        ∃ x78 : Nat, v77 = (.float .f64 x78) ∧
        K (.tuple #[.float .f64 x78, .int .i64 0]) w76)))

/-- girder/girderkit.SameFloat -/
def S_girderkit_SameFloat (N : Nums) (P : Program) (q0 : Nat) (q1 : Nat) (w : World) (K : Value → World → Prop) : Prop :=
  CallsX P N.f_math_Float64bits #[.float .f64 q0] w fun v2 w1 =>
  ∃ n3 : Int, v2 = (.int .u64 n3) ∧
  CallsX P N.f_math_Float64bits #[.float .f64 q1] w1 fun v5 w4 =>
  ∃ n6 : Int, v5 = (.int .u64 n6) ∧
  cond (!(n3 == n6))
  (cond (!feq q0 q0)
    (K (.bool (!feq q1 q1)) w4)
    (K (.bool false) w4))
  (K (.bool true) w4)

/-- girder/dyad.Sign -/
def S_dyad_Sign (N : Nums) (P : Program) (q0_0 : Bool) (q0_1 : Option Addr) (q0_1l q0_1c : Nat) (q0_2 : Int) (w : World) (K : Value → World → Prop) : Prop :=
  newM #[.bool q0_0, .slice q0_1 q0_1l q0_1c, .int .i64 q0_2] N.t_Dyad w fun p1 w2 =>
  ∃ b3 : Bool, w2.cell? p1 = some (.bool b3) ∧
  ∃ (s4a : Option Addr) (s4l s4c : Nat), w2.cell? (p1.add 1) = some (.slice s4a s4l s4c) ∧
  ∃ n5 : Int, w2.cell? (p1.add 2) = some (.int .i64 n5) ∧
  CallsX P N.f_dyad_Right #[.agg #[.bool b3, .slice s4a s4l s4c, .int .i64 n5]] w2 fun v7 w6 =>
  ∃ b8 : Bool, v7 = (.bool b8) ∧
  cond (!b8)
  (K (.tuple #[.int .i64 0, .int .i64 2]) w6)
  (∃ (s9a : Option Addr) (s9l s9c : Nat), w6.cell? (p1.add 1) = some (.slice s9a s9l s9c) ∧
    cond (((s9l : Nat) : Int) == 0)
    (K (.tuple #[.int .i64 0, .int .i64 0]) w6)
    (∃ b10 : Bool, w6.cell? p1 = some (.bool b10) ∧
      cond b10
      (K (.tuple #[.int .i64 (-1), .int .i64 0]) w6)
      (K (.tuple #[.int .i64 1, .int .i64 0]) w6)))

/-- girder/dyad.Fits -/
def S_dyad_Fits (N : Nums) (P : Program) (q0_0 : Bool) (q0_1 : Option Addr) (q0_1l q0_1c : Nat) (q0_2 : Int) (w : World) (K : Value → World → Prop) : Prop :=
  newM #[.bool q0_0, .slice q0_1 q0_1l q0_1c, .int .i64 q0_2] N.t_Dyad w fun p1 w2 =>
  ∃ b3 : Bool, w2.cell? p1 = some (.bool b3) ∧
  ∃ (s4a : Option Addr) (s4l s4c : Nat), w2.cell? (p1.add 1) = some (.slice s4a s4l s4c) ∧
  ∃ n5 : Int, w2.cell? (p1.add 2) = some (.int .i64 n5) ∧
  CallsX P N.f_dyad_Right #[.agg #[.bool b3, .slice s4a s4l s4c, .int .i64 n5]] w2 fun v7 w6 =>
  ∃ b8 : Bool, v7 = (.bool b8) ∧
  cond (!b8)
  (K (.bool false) w6)
  (∃ (s9a : Option Addr) (s9l s9c : Nat), w6.cell? (p1.add 1) = some (.slice s9a s9l s9c) ∧
    cond (((s9l : Nat) : Int) == 0)
    (K (.bool true) w6)
    (∃ n10 : Int, w6.cell? (p1.add 2) = some (.int .i64 n10) ∧
      cond (decide (n10 ≥ (-1074)))
      (∃ b11 : Bool, w6.cell? p1 = some (.bool b11) ∧
        ∃ (s12a : Option Addr) (s12l s12c : Nat), w6.cell? (p1.add 1) = some (.slice s12a s12l s12c) ∧
        ∃ n13 : Int, w6.cell? (p1.add 2) = some (.int .i64 n13) ∧
        CallsX P N.f_dyad_top #[.agg #[.bool b11, .slice s12a s12l s12c, .int .i64 n13]] w6 fun v15 w14 =>
        ∃ n16 : Int, v15 = (.int .i64 n16) ∧
        cond (decide (n16 ≤ 1024))
        (∃ (s17a : Option Addr) (s17l s17c : Nat), w14.cell? (p1.add 1) = some (.slice s17a s17l s17c) ∧
          cond (((s17l : Nat) : Int) == 1)
          (∃ (s18a : Option Addr) (s18l s18c : Nat), w14.cell? (p1.add 1) = some (.slice s18a s18l s18c) ∧
            (0 : Int) ≤ (0 : Int) ∧ (0 : Int) < (s18l : Nat) ∧
            optM s18a fun a19 =>
            ∃ n20 : Int, w14.cell? (a19.add ((0 : Int).toNat * 1)) = some (.int .u64 n20) ∧
            CallsX P N.f_math_bits_Len64 #[.int .u64 n20] w14 fun v22 w21 =>
            ∃ n23 : Int, v22 = (.int .i64 n23) ∧
            K (.bool (decide (n23 ≤ 53))) w21)
          (K (.bool false) w14))
        (K (.bool false) w14))
      (K (.bool false) w6)))

/-- girder/dyad.Right -/
def S_dyad_Right (N : Nums) (P : Program) (q0_0 : Bool) (q0_1 : Option Addr) (q0_1l q0_1c : Nat) (q0_2 : Int) (w : World) (K : Value → World → Prop) : Prop :=
  newM #[.bool q0_0, .slice q0_1 q0_1l q0_1c, .int .i64 q0_2] N.t_Dyad w fun p1 w2 =>
  ∃ (s3a : Option Addr) (s3l s3c : Nat), w2.cell? (p1.add 1) = some (.slice s3a s3l s3c) ∧
  cond (((s3l : Nat) : Int) == 0)
  (∃ b4 : Bool, w2.cell? p1 = some (.bool b4) ∧
    cond (!b4)
    (∃ n5 : Int, w2.cell? (p1.add 2) = some (.int .i64 n5) ∧
      K (.bool (n5 == 0)) w2)
    (K (.bool false) w2))
  (cond (decide (((s3l : Nat) : Int) ≤ 256))
    (∃ (s6a : Option Addr) (s6l s6c : Nat), w2.cell? (p1.add 1) = some (.slice s6a s6l s6c) ∧
      (0 : Int) ≤ (IntKind.i64.wrap (((s3l : Nat) : Int) - 1)) ∧ (IntKind.i64.wrap (((s3l : Nat) : Int) - 1)) < (s6l : Nat) ∧
      optM s6a fun a7 =>
      ∃ n8 : Int, w2.cell? (a7.add ((IntKind.i64.wrap (((s3l : Nat) : Int) - 1)).toNat * 1)) = some (.int .u64 n8) ∧
      cond (n8 != 0)
      (∃ (s9a : Option Addr) (s9l s9c : Nat), w2.cell? (p1.add 1) = some (.slice s9a s9l s9c) ∧
        (0 : Int) ≤ (0 : Int) ∧ (0 : Int) < (s9l : Nat) ∧
        optM s9a fun a10 =>
        ∃ n11 : Int, w2.cell? (a10.add ((0 : Int).toNat * 1)) = some (.int .u64 n11) ∧
        cond ((IntKind.u64.wrap (BitVec.ofInt IntKind.u64.bits n11 &&& BitVec.ofInt IntKind.u64.bits 1).toNat) == 1)
        (∃ n12 : Int, w2.cell? (p1.add 2) = some (.int .i64 n12) ∧
          cond (decide (((-65536) : Int) ≤ n12))
          (∃ n13 : Int, w2.cell? (p1.add 2) = some (.int .i64 n13) ∧
            K (.bool (decide (n13 ≤ 65536))) w2)
          (K (.bool false) w2))
        (K (.bool false) w2))
      (K (.bool false) w2))
    (K (.bool false) w2))

/-- girder/dyad.Cmp -/
def S_dyad_Cmp (N : Nums) (P : Program) (q0_0 : Bool) (q0_1 : Option Addr) (q0_1l q0_1c : Nat) (q0_2 : Int) (q1_0 : Bool) (q1_1 : Option Addr) (q1_1l q1_1c : Nat) (q1_2 : Int) (w : World) (K : Value → World → Prop) : Prop :=
  newM #[.bool q0_0, .slice q0_1 q0_1l q0_1c, .int .i64 q0_2] N.t_Dyad w fun p1 w2 =>
  newM #[.bool q1_0, .slice q1_1 q1_1l q1_1c, .int .i64 q1_2] N.t_Dyad w2 fun p3 w4 =>
  ∃ b5 : Bool, w4.cell? p1 = some (.bool b5) ∧
  ∃ (s6a : Option Addr) (s6l s6c : Nat), w4.cell? (p1.add 1) = some (.slice s6a s6l s6c) ∧
  ∃ n7 : Int, w4.cell? (p1.add 2) = some (.int .i64 n7) ∧
  CallsX P N.f_dyad_Sign #[.agg #[.bool b5, .slice s6a s6l s6c, .int .i64 n7]] w4 fun v9 w8 =>
  ∃ n10 : Int, ∃ n11 : Int, v9 = (.tuple #[.int .i64 n10, .int .i64 n11]) ∧
  ∃ b12 : Bool, w8.cell? p3 = some (.bool b12) ∧
  ∃ (s13a : Option Addr) (s13l s13c : Nat), w8.cell? (p3.add 1) = some (.slice s13a s13l s13c) ∧
  ∃ n14 : Int, w8.cell? (p3.add 2) = some (.int .i64 n14) ∧
  CallsX P N.f_dyad_Sign #[.agg #[.bool b12, .slice s13a s13l s13c, .int .i64 n14]] w8 fun v16 w15 =>
  ∃ n17 : Int, ∃ n18 : Int, v16 = (.tuple #[.int .i64 n17, .int .i64 n18]) ∧
  cutM (σ := Bool × Unit) (fun J19 =>
    cond (!(n11 != 0))
    (J19 ((n18 != 0), ()) w15)
    (J19 (true, ()) w15))
  (fun s20 w21 =>
    cond s20.1
    (K (.tuple #[.int .i64 0, .int .i64 2]) w21)
    (cond (n10 != n17)
      (cond (decide (n10 < n17))
        (K (.tuple #[.int .i64 (-1), .int .i64 0]) w21)
        (K (.tuple #[.int .i64 1, .int .i64 0]) w21))
      (cond (n10 == 0)
        (K (.tuple #[.int .i64 0, .int .i64 0]) w21)
        (∃ b22 : Bool, w21.cell? p1 = some (.bool b22) ∧
          ∃ (s23a : Option Addr) (s23l s23c : Nat), w21.cell? (p1.add 1) = some (.slice s23a s23l s23c) ∧
          ∃ n24 : Int, w21.cell? (p1.add 2) = some (.int .i64 n24) ∧
          ∃ b25 : Bool, w21.cell? p3 = some (.bool b25) ∧
          ∃ (s26a : Option Addr) (s26l s26c : Nat), w21.cell? (p3.add 1) = some (.slice s26a s26l s26c) ∧
          ∃ n27 : Int, w21.cell? (p3.add 2) = some (.int .i64 n27) ∧
          drM w21 fun w28 =>
          CallsX P N.f_dyad_top #[.agg #[.bool b22, .slice s23a s23l s23c, .int .i64 n24]] w28 fun v30 w29 =>
          ∃ n31 : Int, v30 = (.int .i64 n31) ∧
          w29.cell? p3 = some (.bool b25) ∧
          w29.cell? (p3.add 1) = some (.slice s26a s26l s26c) ∧
          w29.cell? (p3.add 2) = some (.int .i64 n27) ∧
          drM w29 fun w32 =>
          CallsX P N.f_dyad_top #[.agg #[.bool b25, .slice s26a s26l s26c, .int .i64 n27]] w32 fun v34 w33 =>
          ∃ n35 : Int, v34 = (.int .i64 n35) ∧
          drM w33 fun w36 =>
          cond (n31 != n35)
          (∃ b37 : Bool, w36.cell? p1 = some (.bool b37) ∧
            ∃ (s38a : Option Addr) (s38l s38c : Nat), w36.cell? (p1.add 1) = some (.slice s38a s38l s38c) ∧
            ∃ n39 : Int, w36.cell? (p1.add 2) = some (.int .i64 n39) ∧
            ∃ b40 : Bool, w36.cell? p3 = some (.bool b40) ∧
            ∃ (s41a : Option Addr) (s41l s41c : Nat), w36.cell? (p3.add 1) = some (.slice s41a s41l s41c) ∧
            ∃ n42 : Int, w36.cell? (p3.add 2) = some (.int .i64 n42) ∧
            drM w36 fun w43 =>
            CallsX P N.f_dyad_top #[.agg #[.bool b37, .slice s38a s38l s38c, .int .i64 n39]] w43 fun v45 w44 =>
            ∃ n46 : Int, v45 = (.int .i64 n46) ∧
            w44.cell? p3 = some (.bool b40) ∧
            w44.cell? (p3.add 1) = some (.slice s41a s41l s41c) ∧
            w44.cell? (p3.add 2) = some (.int .i64 n42) ∧
            drM w44 fun w47 =>
            CallsX P N.f_dyad_top #[.agg #[.bool b40, .slice s41a s41l s41c, .int .i64 n42]] w47 fun v49 w48 =>
            ∃ n50 : Int, v49 = (.int .i64 n50) ∧
            drM w48 fun w51 =>
            cond (decide (n46 < n50))
            (K (.tuple #[.int .i64 (IntKind.i64.wrap (0 - n10)), .int .i64 0]) w51)
            (K (.tuple #[.int .i64 n10, .int .i64 0]) w51))
          (∃ b52 : Bool, w36.cell? p1 = some (.bool b52) ∧
            ∃ (s53a : Option Addr) (s53l s53c : Nat), w36.cell? (p1.add 1) = some (.slice s53a s53l s53c) ∧
            ∃ n54 : Int, w36.cell? (p1.add 2) = some (.int .i64 n54) ∧
            ∃ b55 : Bool, w36.cell? p3 = some (.bool b55) ∧
            ∃ (s56a : Option Addr) (s56l s56c : Nat), w36.cell? (p3.add 1) = some (.slice s56a s56l s56c) ∧
            ∃ n57 : Int, w36.cell? (p3.add 2) = some (.int .i64 n57) ∧
            drM w36 fun w58 =>
            CallsX P N.f_dyad_whole #[.agg #[.bool b52, .slice s53a s53l s53c, .int .i64 n54]] w58 fun v60 w59 =>
            ∃ p61 : (Option Addr), v60 = (.pointer p61) ∧
            w59.cell? p3 = some (.bool b55) ∧
            w59.cell? (p3.add 1) = some (.slice s56a s56l s56c) ∧
            w59.cell? (p3.add 2) = some (.int .i64 n57) ∧
            drM w59 fun w62 =>
            CallsX P N.f_dyad_whole #[.agg #[.bool b55, .slice s56a s56l s56c, .int .i64 n57]] w62 fun v64 w63 =>
            ∃ p65 : (Option Addr), v64 = (.pointer p65) ∧
            drM w63 fun w66 =>
            ∃ n67 : Int, w66.cell? (p1.add 2) = some (.int .i64 n67) ∧
            ∃ n68 : Int, w66.cell? (p3.add 2) = some (.int .i64 n68) ∧
            cutM (σ := Unit) (fun J69 =>
              cond (decide (n67 > n68))
              (∃ n72 : Int, w66.cell? (p1.add 2) = some (.int .i64 n72) ∧
                ∃ n73 : Int, w66.cell? (p3.add 2) = some (.int .i64 n73) ∧
                CallsX P N.f_p_bignum_Int_Lsh #[.pointer p61, .pointer p61, .int .u64 (IntKind.u64.wrap (IntKind.i64.wrap (n72 - n73)))] w66 fun v75 w74 =>
                ∃ p76 : (Option Addr), v75 = (.pointer p76) ∧
                J69 (()) w74)
              (∃ n77 : Int, w66.cell? (p3.add 2) = some (.int .i64 n77) ∧
                ∃ n78 : Int, w66.cell? (p1.add 2) = some (.int .i64 n78) ∧
                CallsX P N.f_p_bignum_Int_Lsh #[.pointer p65, .pointer p65, .int .u64 (IntKind.u64.wrap (IntKind.i64.wrap (n77 - n78)))] w66 fun v80 w79 =>
                ∃ p81 : (Option Addr), v80 = (.pointer p81) ∧
                J69 (()) w79))
            (fun s70 w71 =>
              CallsX P N.f_p_bignum_Int_Cmp #[.pointer p61, .pointer p65] w71 fun v83 w82 =>
              ∃ n84 : Int, v83 = (.int .i64 n84) ∧
              K (.tuple #[.int .i64 n84, .int .i64 0]) w82))))))

/-- girder/dyad.Norm -/
def S_dyad_Norm (N : Nums) (P : Program) (q0_0 : Bool) (q0_1 : Option Addr) (q0_1l q0_1c : Nat) (q0_2 : Int) (w : World) (K : Value → World → Prop) : Prop :=
  newM #[.bool q0_0, .slice q0_1 q0_1l q0_1c, .int .i64 q0_2] N.t_Dyad w fun p1 w2 =>
  newM #[.bool false, .slice none 0 0, .int .i64 0] N.t_Dyad w2 fun p3 w4 =>
  ∃ b5 : Bool, w4.cell? p1 = some (.bool b5) ∧
  ∃ (s6a : Option Addr) (s6l s6c : Nat), w4.cell? (p1.add 1) = some (.slice s6a s6l s6c) ∧
  ∃ n7 : Int, w4.cell? (p1.add 2) = some (.int .i64 n7) ∧
  ∃ n8 : Int, w4.cell? (p1.add 2) = some (.int .i64 n8) ∧
  drM w4 fun w9 =>
  CallsX P N.f_dyad_whole #[.agg #[.bool b5, .slice s6a s6l s6c, .int .i64 n7]] w9 fun v11 w10 =>
  ∃ p12 : (Option Addr), v11 = (.pointer p12) ∧
  w10.cell? (p1.add 2) = some (.int .i64 n8) ∧
  drM w10 fun w13 =>
  CallsX P N.f_dyad_made #[.pointer p12, .int .i64 n8] w13 fun v15 w14 =>
  ∃ b16 : Bool, ∃ (s17a : Option Addr) (s17l s17c : Nat), ∃ n18 : Int, ∃ n19 : Int, v15 = (.tuple #[.agg #[.bool b16, .slice s17a s17l s17c, .int .i64 n18], .int .i64 n19]) ∧
  drM w14 fun w20 =>
  stM p3 (.bool b16) w20 fun w21 =>
  stM (p3.add 1) (.slice s17a s17l s17c) w21 fun w22 =>
  stM (p3.add 2) (.int .i64 n18) w22 fun w23 =>
  drM w23 fun w24 =>
  ∃ b25 : Bool, w24.cell? p3 = some (.bool b25) ∧
  ∃ (s26a : Option Addr) (s26l s26c : Nat), w24.cell? (p3.add 1) = some (.slice s26a s26l s26c) ∧
  ∃ n27 : Int, w24.cell? (p3.add 2) = some (.int .i64 n27) ∧
  K (.tuple #[.agg #[.bool b25, .slice s26a s26l s26c, .int .i64 n27], .int .i64 n19]) w24

/-- girder/girderkit.CopyDyad -/
def S_girderkit_CopyDyad (N : Nums) (P : Program) (q0_0 : Bool) (q0_1 : Option Addr) (q0_1l q0_1c : Nat) (q0_2 : Int) (w : World) (K : Value → World → Prop) : Prop :=
  newM #[.bool q0_0, .slice q0_1 q0_1l q0_1c, .int .i64 q0_2] N.t_Dyad w fun p1 w2 =>
  newM #[.bool false, .slice none 0 0, .int .i64 0] N.t_Dyad w2 fun p3 w4 =>
  ∃ (s5a : Option Addr) (s5l s5c : Nat), w4.cell? (p1.add 1) = some (.slice s5a s5l s5c) ∧
  CallsX P N.f_girderkit_CopyLimbs #[.slice s5a s5l s5c] w4 fun v7 w6 =>
  ∃ (s8a : Option Addr) (s8l s8c : Nat), v7 = (.slice s8a s8l s8c) ∧
  stM (p1.add 1) (.slice s8a s8l s8c) w6 fun w9 =>
  ∃ b10 : Bool, w9.cell? p1 = some (.bool b10) ∧
  ∃ (s11a : Option Addr) (s11l s11c : Nat), w9.cell? (p1.add 1) = some (.slice s11a s11l s11c) ∧
  ∃ n12 : Int, w9.cell? (p1.add 2) = some (.int .i64 n12) ∧
  stM p3 (.bool b10) w9 fun w13 =>
  stM (p3.add 1) (.slice s11a s11l s11c) w13 fun w14 =>
  stM (p3.add 2) (.int .i64 n12) w14 fun w15 =>
  ∃ b16 : Bool, w15.cell? p3 = some (.bool b16) ∧
  ∃ (s17a : Option Addr) (s17l s17c : Nat), w15.cell? (p3.add 1) = some (.slice s17a s17l s17c) ∧
  ∃ n18 : Int, w15.cell? (p3.add 2) = some (.int .i64 n18) ∧
  K (.agg #[.bool b16, .slice s17a s17l s17c, .int .i64 n18]) w15

/-- girder/bits.Between -/
def S_bits_Between (N : Nums) (P : Program) (q0 : Nat) (q1 : Nat) (w : World) (K : Value → World → Prop) : Prop :=
  CallsX P N.f_bits_Place #[.float .f64 q0] w fun v2 w1 =>
  ∃ n3 : Int, ∃ b4 : Bool, v2 = (.tuple #[.int .i64 n3, .bool b4]) ∧
  CallsX P N.f_bits_Place #[.float .f64 q1] w1 fun v6 w5 =>
  ∃ n7 : Int, ∃ b8 : Bool, v6 = (.tuple #[.int .i64 n7, .bool b8]) ∧
  cond (!(!b4))
  (cond (!(!b8))
    (cond (decide (n3 > n7))
      (K (.tuple #[.int .u64 0, .bool false]) w5)
      (K (.tuple #[.int .u64 (IntKind.u64.wrap ((IntKind.u64.wrap n7) - (IntKind.u64.wrap n3))), .bool true]) w5))
    (K (.tuple #[.int .u64 0, .bool false]) w5))
  (K (.tuple #[.int .u64 0, .bool false]) w5)

/-- girder/bits.Split -/
def S_bits_Split (N : Nums) (P : Program) (q0 : Nat) (w : World) (K : Value → World → Prop) : Prop :=
  newM #[.bool false, .int .u64 0, .int .i64 0] N.t_Parts w fun p1 w2 =>
  CallsX P N.f_bits_Kind #[.float .f64 q0] w2 fun v4 w3 =>
  ∃ n5 : Int, v4 = (.int .i64 n5) ∧
  cond (decide (n5 > 2))
  (stM p1 (.bool false) w3 fun w6 =>
    stM (p1.add 1) (.int .u64 0) w6 fun w7 =>
    stM (p1.add 2) (.int .i64 0) w7 fun w8 =>
    ∃ b9 : Bool, w8.cell? p1 = some (.bool b9) ∧
    ∃ n10 : Int, w8.cell? (p1.add 1) = some (.int .u64 n10) ∧
    ∃ n11 : Int, w8.cell? (p1.add 2) = some (.int .i64 n11) ∧
    K (.tuple #[.agg #[.bool b9, .int .u64 n10, .int .i64 n11], .bool false]) w8)
  (CallsX P N.f_math_Signbit #[.float .f64 q0] w3 fun v13 w12 =>
    ∃ b14 : Bool, v13 = (.bool b14) ∧
    newM #[.bool false, .int .u64 0, .int .i64 0] N.t_Parts w12 fun p15 w16 =>
    stM p15 (.bool b14) w16 fun w17 =>
    stM (p15.add 1) (.int .u64 0) w17 fun w18 =>
    stM (p15.add 2) (.int .i64 0) w18 fun w19 =>
    cond (feq q0 0)
    (∃ b20 : Bool, w19.cell? p15 = some (.bool b20) ∧
      ∃ n21 : Int, w19.cell? (p15.add 1) = some (.int .u64 n21) ∧
      ∃ n22 : Int, w19.cell? (p15.add 2) = some (.int .i64 n22) ∧
      stM p1 (.bool b20) w19 fun w23 =>
      stM (p1.add 1) (.int .u64 n21) w23 fun w24 =>
      stM (p1.add 2) (.int .i64 n22) w24 fun w25 =>
      ∃ b26 : Bool, w25.cell? p1 = some (.bool b26) ∧
      ∃ n27 : Int, w25.cell? (p1.add 1) = some (.int .u64 n27) ∧
      ∃ n28 : Int, w25.cell? (p1.add 2) = some (.int .i64 n28) ∧
      K (.tuple #[.agg #[.bool b26, .int .u64 n27, .int .i64 n28], .bool true]) w25)
    (CallsX P N.f_math_Abs #[.float .f64 q0] w19 fun v30 w29 =>
      ∃ x31 : Nat, v30 = (.float .f64 x31) ∧
      CallsX P N.f_math_Frexp #[.float .f64 x31] w29 fun v33 w32 =>
      ∃ x34 : Nat, ∃ n35 : Int, v33 = (.tuple #[.float .f64 x34, .int .i64 n35]) ∧
      CallsX P N.f_math_Ldexp #[.float .f64 x34, .int .i64 53] w32 fun v37 w36 =>
      ∃ x38 : Nat, v37 = (.float .f64 x38) ∧
      f2iM x38 .u64 w36 fun n39 w40 =>
      stM (p15.add 1) (.int .u64 n39) w40 fun w41 =>
      ∃ n42 : Int, w41.cell? (p15.add 1) = some (.int .u64 n42) ∧
      CallsX P N.f_math_bits_TrailingZeros64 #[.int .u64 n42] w41 fun v44 w43 =>
      ∃ n45 : Int, v44 = (.int .i64 n45) ∧
      ∃ n46 : Int, w43.cell? (p15.add 1) = some (.int .u64 n46) ∧
      (0 : Int) ≤ n45 ∧
      stM (p15.add 1) (.int .u64 (n46.fdiv (2 ^ (min n45.toNat IntKind.u64.bits)))) w43 fun w47 =>
      stM (p15.add 2) (.int .i64 (IntKind.i64.wrap ((IntKind.i64.wrap (n35 - 53)) + n45))) w47 fun w48 =>
      ∃ b49 : Bool, w48.cell? p15 = some (.bool b49) ∧
      ∃ n50 : Int, w48.cell? (p15.add 1) = some (.int .u64 n50) ∧
      ∃ n51 : Int, w48.cell? (p15.add 2) = some (.int .i64 n51) ∧
      stM p1 (.bool b49) w48 fun w52 =>
      stM (p1.add 1) (.int .u64 n50) w52 fun w53 =>
      stM (p1.add 2) (.int .i64 n51) w53 fun w54 =>
      ∃ b55 : Bool, w54.cell? p1 = some (.bool b55) ∧
      ∃ n56 : Int, w54.cell? (p1.add 1) = some (.int .u64 n56) ∧
      ∃ n57 : Int, w54.cell? (p1.add 2) = some (.int .i64 n57) ∧
      K (.tuple #[.agg #[.bool b55, .int .u64 n56, .int .i64 n57], .bool true]) w54))

/-- girder/girderref01.Split -/
def S_girderref01_Split (N : Nums) (P : Program) (q0 : Nat) (w : World) (K : Value → World → Prop) : Prop :=
  newM #[.bool false, .int .u64 0, .int .i64 0] N.t_Parts w fun p1 w2 =>
  CallsX P N.f_girderref01_Finite #[.float .f64 q0] w2 fun v4 w3 =>
  ∃ b5 : Bool, v4 = (.bool b5) ∧
  cond (!b5)
  (stM p1 (.bool false) w3 fun w6 =>
    stM (p1.add 1) (.int .u64 0) w6 fun w7 =>
    stM (p1.add 2) (.int .i64 0) w7 fun w8 =>
    ∃ b9 : Bool, w8.cell? p1 = some (.bool b9) ∧
    ∃ n10 : Int, w8.cell? (p1.add 1) = some (.int .u64 n10) ∧
    ∃ n11 : Int, w8.cell? (p1.add 2) = some (.int .i64 n11) ∧
    K (.tuple #[.agg #[.bool b9, .int .u64 n10, .int .i64 n11], .bool false]) w8)
  (CallsX P N.f_girderref01_fields #[.float .f64 q0] w3 fun v13 w12 =>
    ∃ b14 : Bool, ∃ n15 : Int, ∃ n16 : Int, v13 = (.tuple #[.bool b14, .int .i64 n15, .int .u64 n16]) ∧
    newM #[.bool false, .int .u64 0, .int .i64 0] N.t_Parts w12 fun p17 w18 =>
    stM p17 (.bool b14) w18 fun w19 =>
    stM (p17.add 1) (.int .u64 n16) w19 fun w20 =>
    stM (p17.add 2) (.int .i64 (-1074)) w20 fun w21 =>
    cutM (σ := Unit) (fun J22 =>
      cond (decide (n15 > 0))
      (stM (p17.add 1) (.int .u64 (IntKind.u64.wrap (n16 + 4503599627370496))) w21 fun w25 =>
        stM (p17.add 2) (.int .i64 (IntKind.i64.wrap (n15 - 1075))) w25 fun w26 =>
        J22 (()) w26)
      (J22 (()) w21))
    (fun s23 w24 =>
      ∃ n27 : Int, w24.cell? (p17.add 1) = some (.int .u64 n27) ∧
      cutM (σ := Unit) (fun J28 =>
        cond (n27 == 0)
        (stM (p17.add 2) (.int .i64 0) w24 fun w31 =>
          J28 (()) w31)
        (J28 (()) w24))
      (fun s29 w30 =>
        cutM (σ := Unit) (fun J32 =>
          loopM (σ := Unit) (fun s35 X36 w37 =>
            ∃ n38 : Int, w37.cell? (p17.add 1) = some (.int .u64 n38) ∧
            cond (n38 != 0)
            (∃ n39 : Int, w37.cell? (p17.add 1) = some (.int .u64 n39) ∧
              (2 : Int) ≠ 0 ∧
              cond ((n39.tmod 2) == 0)
              (∃ n40 : Int, w37.cell? (p17.add 1) = some (.int .u64 n40) ∧
                (2 : Int) ≠ 0 ∧
                stM (p17.add 1) (.int .u64 (IntKind.u64.wrap (n40.tdiv 2))) w37 fun w41 =>
                ∃ n42 : Int, w41.cell? (p17.add 2) = some (.int .i64 n42) ∧
                stM (p17.add 2) (.int .i64 (IntKind.i64.wrap (n42 + 1))) w41 fun w43 =>
                X36 (()) w43)
              (J32 (()) w37))
            (J32 (()) w37))
          (()) w30)
        (fun s33 w34 =>
          ∃ b44 : Bool, w34.cell? p17 = some (.bool b44) ∧
          ∃ n45 : Int, w34.cell? (p17.add 1) = some (.int .u64 n45) ∧
          ∃ n46 : Int, w34.cell? (p17.add 2) = some (.int .i64 n46) ∧
          stM p1 (.bool b44) w34 fun w47 =>
          stM (p1.add 1) (.int .u64 n45) w47 fun w48 =>
          stM (p1.add 2) (.int .i64 n46) w48 fun w49 =>
          ∃ b50 : Bool, w49.cell? p1 = some (.bool b50) ∧
          ∃ n51 : Int, w49.cell? (p1.add 1) = some (.int .u64 n51) ∧
          ∃ n52 : Int, w49.cell? (p1.add 2) = some (.int .i64 n52) ∧
          K (.tuple #[.agg #[.bool b50, .int .u64 n51, .int .i64 n52], .bool true]) w49))))

/-- girder/girderref02.Norm -/
def S_girderref02_Norm (N : Nums) (P : Program) (q0_0 : Bool) (q0_1 : Option Addr) (q0_1l q0_1c : Nat) (q0_2 : Int) (w : World) (K : Value → World → Prop) : Prop :=
  newM #[.bool q0_0, .slice q0_1 q0_1l q0_1c, .int .i64 q0_2] N.t_Dyad w fun p1 w2 =>
  newM #[.bool false, .slice none 0 0, .int .i64 0] N.t_Dyad w2 fun p3 w4 =>
  ∃ (s5a : Option Addr) (s5l s5c : Nat), w4.cell? (p1.add 1) = some (.slice s5a s5l s5c) ∧
  CallsX P N.f_girderref02_NatTrim #[.slice s5a s5l s5c] w4 fun v7 w6 =>
  ∃ (s8a : Option Addr) (s8l s8c : Nat), v7 = (.slice s8a s8l s8c) ∧
  cond (((s8l : Nat) : Int) == 0)
  (stM p3 (.bool false) w6 fun w9 =>
    stM (p3.add 1) (.slice none 0 0) w9 fun w10 =>
    stM (p3.add 2) (.int .i64 0) w10 fun w11 =>
    ∃ b12 : Bool, w11.cell? p3 = some (.bool b12) ∧
    ∃ (s13a : Option Addr) (s13l s13c : Nat), w11.cell? (p3.add 1) = some (.slice s13a s13l s13c) ∧
    ∃ n14 : Int, w11.cell? (p3.add 2) = some (.int .i64 n14) ∧
    K (.tuple #[.agg #[.bool b12, .slice s13a s13l s13c, .int .i64 n14], .int .i64 0]) w11)
  (cutM (σ := Int × Unit) (fun J15 =>
      loopM (σ := Int × Unit) (fun s18 X19 w20 =>
        (64 : Int) ≠ 0 ∧
        (0 : Int) ≤ (IntKind.i64.wrap (s18.1.tdiv 64)) ∧ (IntKind.i64.wrap (s18.1.tdiv 64)) < (s8l : Nat) ∧
        optM s8a fun a21 =>
        ∃ n22 : Int, w20.cell? (a21.add ((IntKind.i64.wrap (s18.1.tdiv 64)).toNat * 1)) = some (.int .u64 n22) ∧
        (64 : Int) ≠ 0 ∧
        (0 : Int) ≤ (IntKind.u64.wrap (s18.1.tmod 64)) ∧
        (2 : Int) ≠ 0 ∧
        cond (((n22.fdiv (2 ^ (min (IntKind.u64.wrap (s18.1.tmod 64)).toNat IntKind.u64.bits))).tmod 2) == 0)
        (X19 ((IntKind.i64.wrap (s18.1 + 1)), ()) w20)
        (J15 (s18.1, ()) w20))
      (0, ()) w6)
    (fun s16 w17 =>
      CallsX P N.f_girderref02_NatDown #[.slice s8a s8l s8c, .int .i64 s16.1] w17 fun v24 w23 =>
      ∃ (s25a : Option Addr) (s25l s25c : Nat), ∃ b26 : Bool, v24 = (.tuple #[.slice s25a s25l s25c, .bool b26]) ∧
      cutM (σ := Bool × Unit) (fun J27 =>
        cond (!(decide (((s25l : Nat) : Int) > 256)))
        (∃ n30 : Int, w23.cell? (p1.add 2) = some (.int .i64 n30) ∧
          cond (!(decide (n30 > 65536)))
          (∃ n31 : Int, w23.cell? (p1.add 2) = some (.int .i64 n31) ∧
            cond (!(decide (n31 < (IntKind.i64.wrap ((-65536) - s16.1)))))
            (∃ n32 : Int, w23.cell? (p1.add 2) = some (.int .i64 n32) ∧
              J27 ((decide ((IntKind.i64.wrap (n32 + s16.1)) > 65536)), ()) w23)
            (J27 (true, ()) w23))
          (J27 (true, ()) w23))
        (J27 (true, ()) w23))
      (fun s28 w29 =>
        cond s28.1
        (stM p3 (.bool false) w29 fun w33 =>
          stM (p3.add 1) (.slice none 0 0) w33 fun w34 =>
          stM (p3.add 2) (.int .i64 0) w34 fun w35 =>
          ∃ b36 : Bool, w35.cell? p3 = some (.bool b36) ∧
          ∃ (s37a : Option Addr) (s37l s37c : Nat), w35.cell? (p3.add 1) = some (.slice s37a s37l s37c) ∧
          ∃ n38 : Int, w35.cell? (p3.add 2) = some (.int .i64 n38) ∧
          K (.tuple #[.agg #[.bool b36, .slice s37a s37l s37c, .int .i64 n38], .int .i64 3]) w35)
        (∃ b39 : Bool, w29.cell? p1 = some (.bool b39) ∧
          ∃ n40 : Int, w29.cell? (p1.add 2) = some (.int .i64 n40) ∧
          stM p3 (.bool b39) w29 fun w41 =>
          stM (p3.add 1) (.slice s25a s25l s25c) w41 fun w42 =>
          stM (p3.add 2) (.int .i64 (IntKind.i64.wrap (n40 + s16.1))) w42 fun w43 =>
          ∃ b44 : Bool, w43.cell? p3 = some (.bool b44) ∧
          ∃ (s45a : Option Addr) (s45l s45c : Nat), w43.cell? (p3.add 1) = some (.slice s45a s45l s45c) ∧
          ∃ n46 : Int, w43.cell? (p3.add 2) = some (.int .i64 n46) ∧
          K (.tuple #[.agg #[.bool b44, .slice s45a s45l s45c, .int .i64 n46], .int .i64 0]) w43))))

/-- girder/girderkit.SameLimbs -/
def S_girderkit_SameLimbs (N : Nums) (P : Program) (q0 : Option Addr) (q0l q0c : Nat) (q1 : Option Addr) (q1l q1c : Nat) (w : World) (K : Value → World → Prop) : Prop :=
  cond (((q0l : Nat) : Int) != ((q1l : Nat) : Int))
  (K (.bool false) w)
  (cutM (σ := Unit) (fun J1 =>
      loopM (σ := Int × Unit) (fun s4 X5 w6 =>
        cond (decide (s4.1 < ((q0l : Nat) : Int)))
        ((0 : Int) ≤ s4.1 ∧ s4.1 < (q0l : Nat) ∧
          optM q0 fun a7 =>
          ∃ n8 : Int, w6.cell? (a7.add (s4.1.toNat * 1)) = some (.int .u64 n8) ∧
          (0 : Int) ≤ s4.1 ∧ s4.1 < (q1l : Nat) ∧
          optM q1 fun a9 =>
          ∃ n10 : Int, w6.cell? (a9.add (s4.1.toNat * 1)) = some (.int .u64 n10) ∧
          drM w6 fun w11 =>
          cond (n8 != n10)
          (K (.bool false) w11)
          (X5 ((IntKind.i64.wrap (s4.1 + 1)), ()) w11))
        (J1 (()) w6))
      (0, ()) w)
    (fun s2 w3 =>
      K (.bool true) w3))

/-- girder/dyad.made -/
def S_dyad_made (N : Nums) (P : Program) (q0 : Option Addr) (q1 : Int) (w : World) (K : Value → World → Prop) : Prop :=
  newM #[.bool false, .slice none 0 0, .int .i64 0] N.t_Dyad w fun p1 w2 =>
  CallsX P N.f_p_bignum_Int_Sign #[.pointer q0] w2 fun v4 w3 =>
  ∃ n5 : Int, v4 = (.int .i64 n5) ∧
  cond (n5 == 0)
  (stM p1 (.bool false) w3 fun w6 =>
    stM (p1.add 1) (.slice none 0 0) w6 fun w7 =>
    stM (p1.add 2) (.int .i64 0) w7 fun w8 =>
    ∃ b9 : Bool, w8.cell? p1 = some (.bool b9) ∧
    ∃ (s10a : Option Addr) (s10l s10c : Nat), w8.cell? (p1.add 1) = some (.slice s10a s10l s10c) ∧
    ∃ n11 : Int, w8.cell? (p1.add 2) = some (.int .i64 n11) ∧
    K (.tuple #[.agg #[.bool b9, .slice s10a s10l s10c, .int .i64 n11], .int .i64 0]) w8)
  (CallsX P N.f_p_bignum_Int_TrailingZeroBits #[.pointer q0] w3 fun v13 w12 =>
    ∃ n14 : Int, v13 = (.int .u64 n14) ∧
    cond (decide (q1 > 65536))
    (stM p1 (.bool false) w12 fun w15 =>
      stM (p1.add 1) (.slice none 0 0) w15 fun w16 =>
      stM (p1.add 2) (.int .i64 0) w16 fun w17 =>
      ∃ b18 : Bool, w17.cell? p1 = some (.bool b18) ∧
      ∃ (s19a : Option Addr) (s19l s19c : Nat), w17.cell? (p1.add 1) = some (.slice s19a s19l s19c) ∧
      ∃ n20 : Int, w17.cell? (p1.add 2) = some (.int .i64 n20) ∧
      K (.tuple #[.agg #[.bool b18, .slice s19a s19l s19c, .int .i64 n20], .int .i64 3]) w17)
    (cond (decide (q1 < (IntKind.i64.wrap ((-65536) - (IntKind.i64.wrap n14)))))
      (stM p1 (.bool false) w12 fun w21 =>
        stM (p1.add 1) (.slice none 0 0) w21 fun w22 =>
        stM (p1.add 2) (.int .i64 0) w22 fun w23 =>
        ∃ b24 : Bool, w23.cell? p1 = some (.bool b24) ∧
        ∃ (s25a : Option Addr) (s25l s25c : Nat), w23.cell? (p1.add 1) = some (.slice s25a s25l s25c) ∧
        ∃ n26 : Int, w23.cell? (p1.add 2) = some (.int .i64 n26) ∧
        K (.tuple #[.agg #[.bool b24, .slice s25a s25l s25c, .int .i64 n26], .int .i64 3]) w23)
      (cond (decide ((IntKind.i64.wrap (q1 + (IntKind.i64.wrap n14))) > 65536))
        (stM p1 (.bool false) w12 fun w27 =>
          stM (p1.add 1) (.slice none 0 0) w27 fun w28 =>
          stM (p1.add 2) (.int .i64 0) w28 fun w29 =>
          ∃ b30 : Bool, w29.cell? p1 = some (.bool b30) ∧
          ∃ (s31a : Option Addr) (s31l s31c : Nat), w29.cell? (p1.add 1) = some (.slice s31a s31l s31c) ∧
          ∃ n32 : Int, w29.cell? (p1.add 2) = some (.int .i64 n32) ∧
          K (.tuple #[.agg #[.bool b30, .slice s31a s31l s31c, .int .i64 n32], .int .i64 3]) w29)
        (CallsX P N.f_p_bignum_Int_BitLen #[.pointer q0] w12 fun v34 w33 =>
          ∃ n35 : Int, v34 = (.int .i64 n35) ∧
          cond (decide ((IntKind.i64.wrap (n35 - (IntKind.i64.wrap n14))) > 16384))
          (stM p1 (.bool false) w33 fun w36 =>
            stM (p1.add 1) (.slice none 0 0) w36 fun w37 =>
            stM (p1.add 2) (.int .i64 0) w37 fun w38 =>
            ∃ b39 : Bool, w38.cell? p1 = some (.bool b39) ∧
            ∃ (s40a : Option Addr) (s40l s40c : Nat), w38.cell? (p1.add 1) = some (.slice s40a s40l s40c) ∧
            ∃ n41 : Int, w38.cell? (p1.add 2) = some (.int .i64 n41) ∧
            K (.tuple #[.agg #[.bool b39, .slice s40a s40l s40c, .int .i64 n41], .int .i64 3]) w38)
          (CallsX P N.f_p_bignum_Int_Sign #[.pointer q0] w33 fun v43 w42 =>
            ∃ n44 : Int, v43 = (.int .i64 n44) ∧
            newM #[.bool false, .slice none 0 0] N.t_bignum_Int w42 fun p45 w46 =>
            newM #[.bool false, .slice none 0 0] N.t_bignum_Int w46 fun p47 w48 =>
            CallsX P N.f_p_bignum_Int_Abs #[.pointer (some p47), .pointer q0] w48 fun v50 w49 =>
            ∃ p51 : (Option Addr), v50 = (.pointer p51) ∧
            CallsX P N.f_p_bignum_Int_Rsh #[.pointer (some p45), .pointer p51, .int .u64 (IntKind.u64.wrap (IntKind.i64.wrap n14))] w49 fun v53 w52 =>
            ∃ p54 : (Option Addr), v53 = (.pointer p54) ∧
            CallsX P N.f_dyad_limbs #[.pointer p54] w52 fun v56 w55 =>
            ∃ (s57a : Option Addr) (s57l s57c : Nat), v56 = (.slice s57a s57l s57c) ∧
            stM p1 (.bool (decide (n44 < 0))) w55 fun w58 =>
            stM (p1.add 1) (.slice s57a s57l s57c) w58 fun w59 =>
            stM (p1.add 2) (.int .i64 (IntKind.i64.wrap (q1 + (IntKind.i64.wrap n14)))) w59 fun w60 =>
            ∃ b61 : Bool, w60.cell? p1 = some (.bool b61) ∧
            ∃ (s62a : Option Addr) (s62l s62c : Nat), w60.cell? (p1.add 1) = some (.slice s62a s62l s62c) ∧
            ∃ n63 : Int, w60.cell? (p1.add 2) = some (.int .i64 n63) ∧
            K (.tuple #[.agg #[.bool b61, .slice s62a s62l s62c, .int .i64 n63], .int .i64 0]) w60)))))

/-- girder/bignum.NewInt -/
def S_bignum_NewInt (N : Nums) (P : Program) (q0 : Int) (w : World) (K : Value → World → Prop) : Prop :=
  newM #[.bool false, .slice none 0 0] N.t_bignum_Int w fun p1 w2 =>
  CallsX P N.f_p_bignum_Int_SetInt64 #[.pointer (some p1), .int .i64 q0] w2 fun v4 w3 =>
  ∃ p5 : (Option Addr), v4 = (.pointer p5) ∧
  K (.pointer p5) w3

/-- girder/girderref02.Told -/
def S_girderref02_Told (N : Nums) (P : Program) (q0_0 : Bool) (q0_1 : Option Addr) (q0_1l q0_1c : Nat) (q0_2 : Int) (w : World) (K : Value → World → Prop) : Prop :=
  newM #[.bool q0_0, .slice q0_1 q0_1l q0_1c, .int .i64 q0_2] N.t_girderref02_Num w fun p1 w2 =>
  newM #[.bool false, .slice none 0 0, .int .i64 0] N.t_Dyad w2 fun p3 w4 =>
  ∃ b5 : Bool, w4.cell? p1 = some (.bool b5) ∧
  ∃ (s6a : Option Addr) (s6l s6c : Nat), w4.cell? (p1.add 1) = some (.slice s6a s6l s6c) ∧
  ∃ n7 : Int, w4.cell? (p1.add 2) = some (.int .i64 n7) ∧
  CallsX P N.f_girderref02_Norm #[.agg #[.bool b5, .slice s6a s6l s6c, .int .i64 n7]] w4 fun v9 w8 =>
  ∃ b10 : Bool, ∃ (s11a : Option Addr) (s11l s11c : Nat), ∃ n12 : Int, ∃ n13 : Int, v9 = (.tuple #[.agg #[.bool b10, .slice s11a s11l s11c, .int .i64 n12], .int .i64 n13]) ∧
  stM p3 (.bool b10) w8 fun w14 =>
  stM (p3.add 1) (.slice s11a s11l s11c) w14 fun w15 =>
  stM (p3.add 2) (.int .i64 n12) w15 fun w16 =>
  ∃ b17 : Bool, w16.cell? p3 = some (.bool b17) ∧
  ∃ (s18a : Option Addr) (s18l s18c : Nat), w16.cell? (p3.add 1) = some (.slice s18a s18l s18c) ∧
  ∃ n19 : Int, w16.cell? (p3.add 2) = some (.int .i64 n19) ∧
  K (.tuple #[.agg #[.bool b17, .slice s18a s18l s18c, .int .i64 n19], .int .i64 n13]) w16

/-- girder/girderref02.Whole -/
def S_girderref02_Whole (N : Nums) (P : Program) (q0 : Int) (w : World) (K : Value → World → Prop) : Prop :=
  newM #[.bool false, .slice none 0 0, .int .i64 0] N.t_girderref02_Num w fun p1 w2 =>
  newM #[.bool false, .slice none 0 0, .int .i64 0] N.t_girderref02_Num w2 fun p3 w4 =>
  stM p3 (.bool (decide (q0 < 0))) w4 fun w5 =>
  stM (p3.add 1) (.slice none 0 0) w5 fun w6 =>
  stM (p3.add 2) (.int .i64 0) w6 fun w7 =>
  cutM (σ := Int × Unit) (fun J8 =>
    cond (decide (q0 < 0))
    (J8 ((IntKind.u64.wrap (0 - (IntKind.u64.wrap q0))), ()) w7)
    (J8 ((IntKind.u64.wrap q0), ()) w7))
  (fun s9 w10 =>
    CallsX P N.f_girderref02_NatOf #[.int .u64 s9.1] w10 fun v12 w11 =>
    ∃ (s13a : Option Addr) (s13l s13c : Nat), v12 = (.slice s13a s13l s13c) ∧
    stM (p3.add 1) (.slice s13a s13l s13c) w11 fun w14 =>
    ∃ b15 : Bool, w14.cell? p3 = some (.bool b15) ∧
    ∃ (s16a : Option Addr) (s16l s16c : Nat), w14.cell? (p3.add 1) = some (.slice s16a s16l s16c) ∧
    ∃ n17 : Int, w14.cell? (p3.add 2) = some (.int .i64 n17) ∧
    stM p1 (.bool b15) w14 fun w18 =>
    stM (p1.add 1) (.slice s16a s16l s16c) w18 fun w19 =>
    stM (p1.add 2) (.int .i64 n17) w19 fun w20 =>
    ∃ b21 : Bool, w20.cell? p1 = some (.bool b21) ∧
    ∃ (s22a : Option Addr) (s22l s22c : Nat), w20.cell? (p1.add 1) = some (.slice s22a s22l s22c) ∧
    ∃ n23 : Int, w20.cell? (p1.add 2) = some (.int .i64 n23) ∧
    K (.agg #[.bool b21, .slice s22a s22l s22c, .int .i64 n23]) w20)

/-- girder/girderkit.LentLimbs -/
def S_girderkit_LentLimbs (N : Nums) (P : Program) (q0 : Option Addr) (q0l q0c : Nat) (w : World) (K : Value → World → Prop) : Prop :=
  mkM N.t_uint64 1 8 #[.int .u64 0] 0 (IntKind.i64.wrap (((q0l : Nat) : Int) + 12)) w fun p1 w2 =>
  appM N.t_uint64 1 8 #[.int .u64 0] (some p1) ((0 : Int).toNat) ((IntKind.i64.wrap (((q0l : Nat) : Int) + 12)).toNat) q0 q0l w2 fun s3a s3l s3c w4 =>
  cutM (σ := (Option Addr × Nat × Nat) × Unit) (fun J5 =>
    loopM (σ := (Option Addr × Nat × Nat) × Int × Unit) (fun s8 X9 w10 =>
      cond (decide (s8.2.1 < 12))
      (CallsX P N.f_girderkit_mark #[.int .i64 1, .int .i64 s8.2.1] w10 fun v12 w11 =>
        ∃ n13 : Int, v12 = (.int .i64 n13) ∧
        newM #[.int .u64 (IntKind.u64.wrap n13)] N.t_uint64 w11 fun p14 w15 =>
        appM N.t_uint64 1 8 #[.int .u64 0] s8.1.1 s8.1.2.1 s8.1.2.2 (some p14) 1 w15 fun s16a s16l s16c w17 =>
        X9 ((s16a, s16l, s16c), (IntKind.i64.wrap (s8.2.1 + 1)), ()) w17)
      (J5 ((s8.1.1, s8.1.2.1, s8.1.2.2), ()) w10))
    ((s3a, s3l, s3c), 0, ()) w4)
  (fun s6 w7 =>
    (0 : Int) ≤ ((q0l : Nat) : Int) ∧ ((q0l : Nat) : Int) ≤ (s6.1.2.2 : Nat) ∧
    K (.slice (slBase s6.1.1 0 s6.1.2.2 1) (((q0l : Nat) : Int).toNat) s6.1.2.2) w7)

/-- girder/dyad.whole -/
def S_dyad_whole (N : Nums) (P : Program) (q0_0 : Bool) (q0_1 : Option Addr) (q0_1l q0_1c : Nat) (q0_2 : Int) (w : World) (K : Value → World → Prop) : Prop :=
  newM #[.bool q0_0, .slice q0_1 q0_1l q0_1c, .int .i64 q0_2] N.t_Dyad w fun p1 w2 =>
  newM #[.bool false, .slice none 0 0] N.t_bignum_Int w2 fun p3 w4 =>
  ∃ (s5a : Option Addr) (s5l s5c : Nat), w4.cell? (p1.add 1) = some (.slice s5a s5l s5c) ∧
  cutM (σ := Unit) (fun J6 =>
    loopM (σ := Int × Unit) (fun s9 X10 w11 =>
      cond (decide (s9.1 < ((s5l : Nat) : Int)))
      (CallsX P N.f_p_bignum_Int_Lsh #[.pointer (some p3), .pointer (some p3), .int .u64 64] w11 fun v13 w12 =>
        ∃ p14 : (Option Addr), v13 = (.pointer p14) ∧
        newM #[.bool false, .slice none 0 0] N.t_bignum_Int w12 fun p15 w16 =>
        ∃ (s17a : Option Addr) (s17l s17c : Nat), w16.cell? (p1.add 1) = some (.slice s17a s17l s17c) ∧
        ∃ (s18a : Option Addr) (s18l s18c : Nat), w16.cell? (p1.add 1) = some (.slice s18a s18l s18c) ∧
        (0 : Int) ≤ (IntKind.i64.wrap ((IntKind.i64.wrap (((s18l : Nat) : Int) - 1)) - s9.1)) ∧ (IntKind.i64.wrap ((IntKind.i64.wrap (((s18l : Nat) : Int) - 1)) - s9.1)) < (s17l : Nat) ∧
        optM s17a fun a19 =>
        ∃ n20 : Int, w16.cell? (a19.add ((IntKind.i64.wrap ((IntKind.i64.wrap (((s18l : Nat) : Int) - 1)) - s9.1)).toNat * 1)) = some (.int .u64 n20) ∧
        CallsX P N.f_p_bignum_Int_SetUint64 #[.pointer (some p15), .int .u64 n20] w16 fun v22 w21 =>
        ∃ p23 : (Option Addr), v22 = (.pointer p23) ∧
        CallsX P N.f_p_bignum_Int_Or #[.pointer (some p3), .pointer (some p3), .pointer p23] w21 fun v25 w24 =>
        ∃ p26 : (Option Addr), v25 = (.pointer p26) ∧
        X10 ((IntKind.i64.wrap (s9.1 + 1)), ()) w24)
      (J6 (()) w11))
    (0, ()) w4)
  (fun s7 w8 =>
    ∃ b27 : Bool, w8.cell? p1 = some (.bool b27) ∧
    cutM (σ := Unit) (fun J28 =>
      cond b27
      (CallsX P N.f_p_bignum_Int_Neg #[.pointer (some p3), .pointer (some p3)] w8 fun v32 w31 =>
        ∃ p33 : (Option Addr), v32 = (.pointer p33) ∧
        J28 (()) w31)
      (J28 (()) w8))
    (fun s29 w30 =>
      K (.pointer (some p3)) w30))

/-- girder/girderkit.KeptLimbs -/
def S_girderkit_KeptLimbs (N : Nums) (P : Program) (q0 : Option Addr) (q0l q0c : Nat) (q1 : Option Addr) (q1l q1c : Nat) (w : World) (K : Value → World → Prop) : Prop :=
  cond (((q0l : Nat) : Int) != ((q1l : Nat) : Int))
  (K (.bool false) w)
  ((0 : Int) ≤ (IntKind.i64.wrap (((q1l : Nat) : Int) + 12)) ∧ (IntKind.i64.wrap (((q1l : Nat) : Int) + 12)) ≤ (q0c : Nat) ∧
    cutM (σ := Unit) (fun J1 =>
      loopM (σ := Int × Unit) (fun s4 X5 w6 =>
        cond (decide (s4.1 < (((IntKind.i64.wrap (((q1l : Nat) : Int) + 12)).toNat : Nat) : Int)))
        (cond (decide (s4.1 < ((q1l : Nat) : Int)))
          ((0 : Int) ≤ s4.1 ∧ s4.1 < ((IntKind.i64.wrap (((q1l : Nat) : Int) + 12)).toNat : Nat) ∧
            optM (slBase q0 0 q0c 1) fun a7 =>
            ∃ n8 : Int, w6.cell? (a7.add (s4.1.toNat * 1)) = some (.int .u64 n8) ∧
            (0 : Int) ≤ s4.1 ∧ s4.1 < (q1l : Nat) ∧
            optM q1 fun a9 =>
            ∃ n10 : Int, w6.cell? (a9.add (s4.1.toNat * 1)) = some (.int .u64 n10) ∧
            cond (!(!(n8 == n10)))
            (cond (decide (s4.1 ≥ ((q1l : Nat) : Int)))
              ((0 : Int) ≤ s4.1 ∧ s4.1 < ((IntKind.i64.wrap (((q1l : Nat) : Int) + 12)).toNat : Nat) ∧
                optM (slBase q0 0 q0c 1) fun a11 =>
                ∃ n12 : Int, w6.cell? (a11.add (s4.1.toNat * 1)) = some (.int .u64 n12) ∧
                drM w6 fun w13 =>
                CallsX P N.f_girderkit_mark #[.int .i64 1, .int .i64 (IntKind.i64.wrap (s4.1 - ((q1l : Nat) : Int)))] w13 fun v15 w14 =>
                ∃ n16 : Int, v15 = (.int .i64 n16) ∧
                w14.cell? (a11.add (s4.1.toNat * 1)) = some (.int .u64 n12) ∧
                w14.cell? (a9.add (s4.1.toNat * 1)) = some (.int .u64 n10) ∧
                w14.cell? (a7.add (s4.1.toNat * 1)) = some (.int .u64 n8) ∧
                drM w14 fun w17 =>
                cond (!(n12 == (IntKind.u64.wrap n16)))
                (K (.bool false) w17)
                (X5 ((IntKind.i64.wrap (s4.1 + 1)), ()) w17))
              (drM w6 fun w18 =>
                w18.cell? (a9.add (s4.1.toNat * 1)) = some (.int .u64 n10) ∧
                w18.cell? (a7.add (s4.1.toNat * 1)) = some (.int .u64 n8) ∧
                drM w18 fun w19 =>
                X5 ((IntKind.i64.wrap (s4.1 + 1)), ()) w19))
            (drM w6 fun w20 =>
              w20.cell? (a9.add (s4.1.toNat * 1)) = some (.int .u64 n10) ∧
              w20.cell? (a7.add (s4.1.toNat * 1)) = some (.int .u64 n8) ∧
              drM w20 fun w21 =>
              K (.bool false) w21))
          (cond (decide (s4.1 ≥ ((q1l : Nat) : Int)))
            ((0 : Int) ≤ s4.1 ∧ s4.1 < ((IntKind.i64.wrap (((q1l : Nat) : Int) + 12)).toNat : Nat) ∧
              optM (slBase q0 0 q0c 1) fun a22 =>
              ∃ n23 : Int, w6.cell? (a22.add (s4.1.toNat * 1)) = some (.int .u64 n23) ∧
              drM w6 fun w24 =>
              CallsX P N.f_girderkit_mark #[.int .i64 1, .int .i64 (IntKind.i64.wrap (s4.1 - ((q1l : Nat) : Int)))] w24 fun v26 w25 =>
              ∃ n27 : Int, v26 = (.int .i64 n27) ∧
              w25.cell? (a22.add (s4.1.toNat * 1)) = some (.int .u64 n23) ∧
              drM w25 fun w28 =>
              cond (!(n23 == (IntKind.u64.wrap n27)))
              (K (.bool false) w28)
              (X5 ((IntKind.i64.wrap (s4.1 + 1)), ()) w28))
            (drM w6 fun w29 =>
              drM w29 fun w30 =>
              X5 ((IntKind.i64.wrap (s4.1 + 1)), ()) w30)))
        (J1 (()) w6))
      (0, ()) w)
    (fun s2 w3 =>
      K (.bool true) w3))

/-- girder/girderkit.OverLimbs -/
def S_girderkit_OverLimbs (N : Nums) (P : Program) (q0 : Option Addr) (q0l q0c : Nat) (w : World) (K : Value → World → Prop) : Prop :=
  (0 : Int) ≤ (IntKind.i64.wrap (((q0l : Nat) : Int) + 12)) ∧ (IntKind.i64.wrap (((q0l : Nat) : Int) + 12)) ≤ (q0c : Nat) ∧
  cutM (σ := Unit) (fun J1 =>
    loopM (σ := Int × Unit) (fun s4 X5 w6 =>
      cond (decide (s4.1 < (((IntKind.i64.wrap (((q0l : Nat) : Int) + 12)).toNat : Nat) : Int)))
      (CallsX P N.f_girderkit_mark #[.int .i64 2, .int .i64 s4.1] w6 fun v8 w7 =>
        ∃ n9 : Int, v8 = (.int .i64 n9) ∧
        (0 : Int) ≤ s4.1 ∧ s4.1 < ((IntKind.i64.wrap (((q0l : Nat) : Int) + 12)).toNat : Nat) ∧
        optM (slBase q0 0 q0c 1) fun a10 =>
        stM (a10.add (s4.1.toNat * 1)) (.int .u64 (IntKind.u64.wrap n9)) w7 fun w11 =>
        X5 ((IntKind.i64.wrap (s4.1 + 1)), ()) w11)
      (J1 (()) w6))
    (0, ()) w)
  (fun s2 w3 =>
    K (.tuple #[]) w3)

/-- girder/girderref02.Right -/
def S_girderref02_Right (N : Nums) (P : Program) (q0_0 : Bool) (q0_1 : Option Addr) (q0_1l q0_1c : Nat) (q0_2 : Int) (w : World) (K : Value → World → Prop) : Prop :=
  newM #[.bool q0_0, .slice q0_1 q0_1l q0_1c, .int .i64 q0_2] N.t_Dyad w fun p1 w2 =>
  ∃ (s3a : Option Addr) (s3l s3c : Nat), w2.cell? (p1.add 1) = some (.slice s3a s3l s3c) ∧
  cond (((s3l : Nat) : Int) == 0)
  (∃ b4 : Bool, w2.cell? p1 = some (.bool b4) ∧
    cond (!b4)
    (∃ n5 : Int, w2.cell? (p1.add 2) = some (.int .i64 n5) ∧
      K (.bool (n5 == 0)) w2)
    (K (.bool false) w2))
  (∃ (s6a : Option Addr) (s6l s6c : Nat), w2.cell? (p1.add 1) = some (.slice s6a s6l s6c) ∧
    cond (decide (((s6l : Nat) : Int) ≤ 256))
    (∃ (s7a : Option Addr) (s7l s7c : Nat), w2.cell? (p1.add 1) = some (.slice s7a s7l s7c) ∧
      ∃ (s8a : Option Addr) (s8l s8c : Nat), w2.cell? (p1.add 1) = some (.slice s8a s8l s8c) ∧
      (0 : Int) ≤ (IntKind.i64.wrap (((s8l : Nat) : Int) - 1)) ∧ (IntKind.i64.wrap (((s8l : Nat) : Int) - 1)) < (s7l : Nat) ∧
      optM s7a fun a9 =>
      ∃ n10 : Int, w2.cell? (a9.add ((IntKind.i64.wrap (((s8l : Nat) : Int) - 1)).toNat * 1)) = some (.int .u64 n10) ∧
      cond (n10 != 0)
      (∃ (s11a : Option Addr) (s11l s11c : Nat), w2.cell? (p1.add 1) = some (.slice s11a s11l s11c) ∧
        (0 : Int) ≤ (0 : Int) ∧ (0 : Int) < (s11l : Nat) ∧
        optM s11a fun a12 =>
        ∃ n13 : Int, w2.cell? (a12.add ((0 : Int).toNat * 1)) = some (.int .u64 n13) ∧
        (2 : Int) ≠ 0 ∧
        cond ((n13.tmod 2) == 1)
        (∃ n14 : Int, w2.cell? (p1.add 2) = some (.int .i64 n14) ∧
          cond (decide (n14 ≥ (-65536)))
          (∃ n15 : Int, w2.cell? (p1.add 2) = some (.int .i64 n15) ∧
            K (.bool (decide (n15 ≤ 65536))) w2)
          (K (.bool false) w2))
        (K (.bool false) w2))
      (K (.bool false) w2))
    (K (.bool false) w2))

/-- girder/girderref02.Dyad -/
def S_girderref02_Dyad (N : Nums) (P : Program) (q0_0 : Bool) (q0_1 : Option Addr) (q0_1l q0_1c : Nat) (q0_2 : Int) (w : World) (K : Value → World → Prop) : Prop :=
  newM #[.bool q0_0, .slice q0_1 q0_1l q0_1c, .int .i64 q0_2] N.t_Dyad w fun p1 w2 =>
  newM #[.bool false, .slice none 0 0, .int .i64 0] N.t_girderref02_Num w2 fun p3 w4 =>
  ∃ b5 : Bool, w4.cell? p1 = some (.bool b5) ∧
  ∃ (s6a : Option Addr) (s6l s6c : Nat), w4.cell? (p1.add 1) = some (.slice s6a s6l s6c) ∧
  ∃ n7 : Int, w4.cell? (p1.add 2) = some (.int .i64 n7) ∧
  drM w4 fun w8 =>
  CallsX P N.f_girderref02_NatTrim #[.slice s6a s6l s6c] w8 fun v10 w9 =>
  ∃ (s11a : Option Addr) (s11l s11c : Nat), v10 = (.slice s11a s11l s11c) ∧
  w9.cell? (p1.add 2) = some (.int .i64 n7) ∧
  w9.cell? p1 = some (.bool b5) ∧
  drM w9 fun w12 =>
  stM p3 (.bool b5) w12 fun w13 =>
  stM (p3.add 1) (.slice s11a s11l s11c) w13 fun w14 =>
  stM (p3.add 2) (.int .i64 n7) w14 fun w15 =>
  drM w15 fun w16 =>
  ∃ b17 : Bool, w16.cell? p3 = some (.bool b17) ∧
  ∃ (s18a : Option Addr) (s18l s18c : Nat), w16.cell? (p3.add 1) = some (.slice s18a s18l s18c) ∧
  ∃ n19 : Int, w16.cell? (p3.add 2) = some (.int .i64 n19) ∧
  K (.agg #[.bool b17, .slice s18a s18l s18c, .int .i64 n19]) w16

/-- girder/dyad.both -/
def S_dyad_both (N : Nums) (P : Program) (q0_0 : Bool) (q0_1 : Option Addr) (q0_1l q0_1c : Nat) (q0_2 : Int) (q1_0 : Bool) (q1_1 : Option Addr) (q1_1l q1_1c : Nat) (q1_2 : Int) (w : World) (K : Value → World → Prop) : Prop :=
  newM #[.bool q0_0, .slice q0_1 q0_1l q0_1c, .int .i64 q0_2] N.t_Dyad w fun p1 w2 =>
  newM #[.bool q1_0, .slice q1_1 q1_1l q1_1c, .int .i64 q1_2] N.t_Dyad w2 fun p3 w4 =>
  ∃ b5 : Bool, w4.cell? p1 = some (.bool b5) ∧
  ∃ (s6a : Option Addr) (s6l s6c : Nat), w4.cell? (p1.add 1) = some (.slice s6a s6l s6c) ∧
  ∃ n7 : Int, w4.cell? (p1.add 2) = some (.int .i64 n7) ∧
  CallsX P N.f_dyad_Right #[.agg #[.bool b5, .slice s6a s6l s6c, .int .i64 n7]] w4 fun v9 w8 =>
  ∃ b10 : Bool, v9 = (.bool b10) ∧
  cond b10
  (∃ b11 : Bool, w8.cell? p3 = some (.bool b11) ∧
    ∃ (s12a : Option Addr) (s12l s12c : Nat), w8.cell? (p3.add 1) = some (.slice s12a s12l s12c) ∧
    ∃ n13 : Int, w8.cell? (p3.add 2) = some (.int .i64 n13) ∧
    CallsX P N.f_dyad_Right #[.agg #[.bool b11, .slice s12a s12l s12c, .int .i64 n13]] w8 fun v15 w14 =>
    ∃ b16 : Bool, v15 = (.bool b16) ∧
    K (.bool b16) w14)
  (K (.bool false) w8)

/-- (*girder/bignum.Int).Sign -/
def S_p_bignum_Int_Sign (N : Nums) (P : Program) (q0 : Option Addr) (w : World) (K : Value → World → Prop) : Prop :=
  optM q0 fun a1 =>
  ∃ (s2a : Option Addr) (s2l s2c : Nat), w.cell? (a1.add 1) = some (.slice s2a s2l s2c) ∧
  cond (((s2l : Nat) : Int) == 0)
  (K (.int .i64 0) w)
  (optM q0 fun a3 =>
    ∃ b4 : Bool, w.cell? a3 = some (.bool b4) ∧
    cond b4
    (K (.int .i64 (-1)) w)
    (K (.int .i64 1) w))

/-- (*girder/bignum.Int).Add -/
def S_p_bignum_Int_Add (N : Nums) (P : Program) (q0 : Option Addr) (q1 : Option Addr) (q2 : Option Addr) (w : World) (K : Value → World → Prop) : Prop :=
  optM q1 fun a1 =>
  ∃ b2 : Bool, w.cell? a1 = some (.bool b2) ∧
  optM q1 fun a3 =>
  ∃ (s4a : Option Addr) (s4l s4c : Nat), w.cell? (a3.add 1) = some (.slice s4a s4l s4c) ∧
  optM q2 fun a5 =>
  ∃ b6 : Bool, w.cell? a5 = some (.bool b6) ∧
  optM q2 fun a7 =>
  ∃ (s8a : Option Addr) (s8l s8c : Nat), w.cell? (a7.add 1) = some (.slice s8a s8l s8c) ∧
  drM w fun w9 =>
  CallsX P N.f_bignum_sum #[.bool b2, .slice s4a s4l s4c, .bool b6, .slice s8a s8l s8c] w9 fun v11 w10 =>
  ∃ b12 : Bool, ∃ (s13a : Option Addr) (s13l s13c : Nat), v11 = (.tuple #[.bool b12, .slice s13a s13l s13c]) ∧
  drM w10 fun w14 =>
  CallsX P N.f_p_bignum_Int_give #[.pointer q0, .bool b12, .slice s13a s13l s13c] w14 fun v16 w15 =>
  ∃ p17 : (Option Addr), v16 = (.pointer p17) ∧
  drM w15 fun w18 =>
  K (.pointer p17) w18

/-- (*girder/bignum.Int).Lsh -/
def S_p_bignum_Int_Lsh (N : Nums) (P : Program) (q0 : Option Addr) (q1 : Option Addr) (q2 : Int) (w : World) (K : Value → World → Prop) : Prop :=
  optM q1 fun a1 =>
  ∃ b2 : Bool, w.cell? a1 = some (.bool b2) ∧
  optM q1 fun a3 =>
  ∃ (s4a : Option Addr) (s4l s4c : Nat), w.cell? (a3.add 1) = some (.slice s4a s4l s4c) ∧
  drM w fun w5 =>
  CallsX P N.f_bignum_left #[.slice s4a s4l s4c, .int .u64 q2] w5 fun v7 w6 =>
  ∃ (s8a : Option Addr) (s8l s8c : Nat), v7 = (.slice s8a s8l s8c) ∧
  w6.cell? a1 = some (.bool b2) ∧
  drM w6 fun w9 =>
  CallsX P N.f_p_bignum_Int_give #[.pointer q0, .bool b2, .slice s8a s8l s8c] w9 fun v11 w10 =>
  ∃ p12 : (Option Addr), v11 = (.pointer p12) ∧
  drM w10 fun w13 =>
  K (.pointer p12) w13

/-- (*girder/bignum.Int).Mul -/
def S_p_bignum_Int_Mul (N : Nums) (P : Program) (q0 : Option Addr) (q1 : Option Addr) (q2 : Option Addr) (w : World) (K : Value → World → Prop) : Prop :=
  optM q1 fun a1 =>
  ∃ b2 : Bool, w.cell? a1 = some (.bool b2) ∧
  optM q2 fun a3 =>
  ∃ b4 : Bool, w.cell? a3 = some (.bool b4) ∧
  optM q1 fun a5 =>
  ∃ (s6a : Option Addr) (s6l s6c : Nat), w.cell? (a5.add 1) = some (.slice s6a s6l s6c) ∧
  optM q2 fun a7 =>
  ∃ (s8a : Option Addr) (s8l s8c : Nat), w.cell? (a7.add 1) = some (.slice s8a s8l s8c) ∧
  drM w fun w9 =>
  CallsX P N.f_bignum_mul #[.slice s6a s6l s6c, .slice s8a s8l s8c] w9 fun v11 w10 =>
  ∃ (s12a : Option Addr) (s12l s12c : Nat), v11 = (.slice s12a s12l s12c) ∧
  w10.cell? a3 = some (.bool b4) ∧
  w10.cell? a1 = some (.bool b2) ∧
  drM w10 fun w13 =>
  CallsX P N.f_p_bignum_Int_give #[.pointer q0, .bool (!(b2 == b4)), .slice s12a s12l s12c] w13 fun v15 w14 =>
  ∃ p16 : (Option Addr), v15 = (.pointer p16) ∧
  drM w14 fun w17 =>
  K (.pointer p16) w17

/-- girder/dyad.Neg -/
def S_dyad_Neg (N : Nums) (P : Program) (q0_0 : Bool) (q0_1 : Option Addr) (q0_1l q0_1c : Nat) (q0_2 : Int) (w : World) (K : Value → World → Prop) : Prop :=
  newM #[.bool q0_0, .slice q0_1 q0_1l q0_1c, .int .i64 q0_2] N.t_Dyad w fun p1 w2 =>
  newM #[.bool false, .slice none 0 0, .int .i64 0] N.t_Dyad w2 fun p3 w4 =>
  ∃ b5 : Bool, w4.cell? p1 = some (.bool b5) ∧
  ∃ (s6a : Option Addr) (s6l s6c : Nat), w4.cell? (p1.add 1) = some (.slice s6a s6l s6c) ∧
  ∃ n7 : Int, w4.cell? (p1.add 2) = some (.int .i64 n7) ∧
  CallsX P N.f_dyad_Right #[.agg #[.bool b5, .slice s6a s6l s6c, .int .i64 n7]] w4 fun v9 w8 =>
  ∃ b10 : Bool, v9 = (.bool b10) ∧
  cond (!b10)
  (stM p3 (.bool false) w8 fun w11 =>
    stM (p3.add 1) (.slice none 0 0) w11 fun w12 =>
    stM (p3.add 2) (.int .i64 0) w12 fun w13 =>
    ∃ b14 : Bool, w13.cell? p3 = some (.bool b14) ∧
    ∃ (s15a : Option Addr) (s15l s15c : Nat), w13.cell? (p3.add 1) = some (.slice s15a s15l s15c) ∧
    ∃ n16 : Int, w13.cell? (p3.add 2) = some (.int .i64 n16) ∧
    K (.tuple #[.agg #[.bool b14, .slice s15a s15l s15c, .int .i64 n16], .int .i64 2]) w13)
  (∃ b17 : Bool, w8.cell? p1 = some (.bool b17) ∧
    cond (!b17)
    (∃ (s18a : Option Addr) (s18l s18c : Nat), w8.cell? (p1.add 1) = some (.slice s18a s18l s18c) ∧
      ∃ n19 : Int, w8.cell? (p1.add 2) = some (.int .i64 n19) ∧
      newM #[.bool false, .slice none 0 0, .int .i64 0] N.t_Dyad w8 fun p20 w21 =>
      stM p20 (.bool (decide (((s18l : Nat) : Int) > 0))) w21 fun w22 =>
      stM (p20.add 1) (.slice none 0 0) w22 fun w23 =>
      stM (p20.add 2) (.int .i64 n19) w23 fun w24 =>
      ∃ (s25a : Option Addr) (s25l s25c : Nat), w24.cell? (p20.add 1) = some (.slice s25a s25l s25c) ∧
      ∃ (s26a : Option Addr) (s26l s26c : Nat), w24.cell? (p1.add 1) = some (.slice s26a s26l s26c) ∧
      appM N.t_uint64 1 8 #[.int .u64 0] s25a s25l s25c s26a s26l w24 fun s27a s27l s27c w28 =>
      stM (p20.add 1) (.slice s27a s27l s27c) w28 fun w29 =>
      ∃ b30 : Bool, w29.cell? p20 = some (.bool b30) ∧
      ∃ (s31a : Option Addr) (s31l s31c : Nat), w29.cell? (p20.add 1) = some (.slice s31a s31l s31c) ∧
      ∃ n32 : Int, w29.cell? (p20.add 2) = some (.int .i64 n32) ∧
      stM p3 (.bool b30) w29 fun w33 =>
      stM (p3.add 1) (.slice s31a s31l s31c) w33 fun w34 =>
      stM (p3.add 2) (.int .i64 n32) w34 fun w35 =>
      ∃ b36 : Bool, w35.cell? p3 = some (.bool b36) ∧
      ∃ (s37a : Option Addr) (s37l s37c : Nat), w35.cell? (p3.add 1) = some (.slice s37a s37l s37c) ∧
      ∃ n38 : Int, w35.cell? (p3.add 2) = some (.int .i64 n38) ∧
      K (.tuple #[.agg #[.bool b36, .slice s37a s37l s37c, .int .i64 n38], .int .i64 0]) w35)
    (∃ n39 : Int, w8.cell? (p1.add 2) = some (.int .i64 n39) ∧
      newM #[.bool false, .slice none 0 0, .int .i64 0] N.t_Dyad w8 fun p40 w41 =>
      stM p40 (.bool false) w41 fun w42 =>
      stM (p40.add 1) (.slice none 0 0) w42 fun w43 =>
      stM (p40.add 2) (.int .i64 n39) w43 fun w44 =>
      ∃ (s45a : Option Addr) (s45l s45c : Nat), w44.cell? (p40.add 1) = some (.slice s45a s45l s45c) ∧
      ∃ (s46a : Option Addr) (s46l s46c : Nat), w44.cell? (p1.add 1) = some (.slice s46a s46l s46c) ∧
      appM N.t_uint64 1 8 #[.int .u64 0] s45a s45l s45c s46a s46l w44 fun s47a s47l s47c w48 =>
      stM (p40.add 1) (.slice s47a s47l s47c) w48 fun w49 =>
      ∃ b50 : Bool, w49.cell? p40 = some (.bool b50) ∧
      ∃ (s51a : Option Addr) (s51l s51c : Nat), w49.cell? (p40.add 1) = some (.slice s51a s51l s51c) ∧
      ∃ n52 : Int, w49.cell? (p40.add 2) = some (.int .i64 n52) ∧
      stM p3 (.bool b50) w49 fun w53 =>
      stM (p3.add 1) (.slice s51a s51l s51c) w53 fun w54 =>
      stM (p3.add 2) (.int .i64 n52) w54 fun w55 =>
      ∃ b56 : Bool, w55.cell? p3 = some (.bool b56) ∧
      ∃ (s57a : Option Addr) (s57l s57c : Nat), w55.cell? (p3.add 1) = some (.slice s57a s57l s57c) ∧
      ∃ n58 : Int, w55.cell? (p3.add 2) = some (.int .i64 n58) ∧
      K (.tuple #[.agg #[.bool b56, .slice s57a s57l s57c, .int .i64 n58], .int .i64 0]) w55))

/-- (*girder/bignum.Int).Abs -/
def S_p_bignum_Int_Abs (N : Nums) (P : Program) (q0 : Option Addr) (q1 : Option Addr) (w : World) (K : Value → World → Prop) : Prop :=
  optM q1 fun a1 =>
  ∃ (s2a : Option Addr) (s2l s2c : Nat), w.cell? (a1.add 1) = some (.slice s2a s2l s2c) ∧
  CallsX P N.f_bignum_twin #[.slice s2a s2l s2c] w fun v4 w3 =>
  ∃ (s5a : Option Addr) (s5l s5c : Nat), v4 = (.slice s5a s5l s5c) ∧
  CallsX P N.f_p_bignum_Int_give #[.pointer q0, .bool false, .slice s5a s5l s5c] w3 fun v7 w6 =>
  ∃ p8 : (Option Addr), v7 = (.pointer p8) ∧
  K (.pointer p8) w6

/-- girder/dyad.top -/
def S_dyad_top (N : Nums) (P : Program) (q0_0 : Bool) (q0_1 : Option Addr) (q0_1l q0_1c : Nat) (q0_2 : Int) (w : World) (K : Value → World → Prop) : Prop :=
  newM #[.bool q0_0, .slice q0_1 q0_1l q0_1c, .int .i64 q0_2] N.t_Dyad w fun p1 w2 =>
  ∃ (s3a : Option Addr) (s3l s3c : Nat), w2.cell? (p1.add 1) = some (.slice s3a s3l s3c) ∧
  ∃ n4 : Int, w2.cell? (p1.add 2) = some (.int .i64 n4) ∧
  ∃ (s5a : Option Addr) (s5l s5c : Nat), w2.cell? (p1.add 1) = some (.slice s5a s5l s5c) ∧
  (0 : Int) ≤ (IntKind.i64.wrap (((s3l : Nat) : Int) - 1)) ∧ (IntKind.i64.wrap (((s3l : Nat) : Int) - 1)) < (s5l : Nat) ∧
  optM s5a fun a6 =>
  ∃ n7 : Int, w2.cell? (a6.add ((IntKind.i64.wrap (((s3l : Nat) : Int) - 1)).toNat * 1)) = some (.int .u64 n7) ∧
  drM w2 fun w8 =>
  CallsX P N.f_math_bits_Len64 #[.int .u64 n7] w8 fun v10 w9 =>
  ∃ n11 : Int, v10 = (.int .i64 n11) ∧
  w9.cell? (p1.add 2) = some (.int .i64 n4) ∧
  drM w9 fun w12 =>
  K (.int .i64 (IntKind.i64.wrap ((IntKind.i64.wrap (n4 + (IntKind.i64.wrap (64 * (IntKind.i64.wrap (((s3l : Nat) : Int) - 1)))))) + n11))) w12

/-- (*girder/bignum.Int).Uint64 -/
def S_p_bignum_Int_Uint64 (N : Nums) (P : Program) (q0 : Option Addr) (w : World) (K : Value → World → Prop) : Prop :=
  optM q0 fun a1 =>
  ∃ (s2a : Option Addr) (s2l s2c : Nat), w.cell? (a1.add 1) = some (.slice s2a s2l s2c) ∧
  cutM (σ := Int × Unit) (fun J3 =>
    cond (decide (((s2l : Nat) : Int) > 0))
    (optM q0 fun a6 =>
      ∃ (s7a : Option Addr) (s7l s7c : Nat), w.cell? (a6.add 1) = some (.slice s7a s7l s7c) ∧
      (0 : Int) ≤ (0 : Int) ∧ (0 : Int) < (s7l : Nat) ∧
      optM s7a fun a8 =>
      ∃ n9 : Int, w.cell? (a8.add ((0 : Int).toNat * 1)) = some (.int .u32 n9) ∧
      J3 ((IntKind.u64.wrap n9), ()) w)
    (J3 (0, ()) w))
  (fun s4 w5 =>
    optM q0 fun a10 =>
    ∃ (s11a : Option Addr) (s11l s11c : Nat), w5.cell? (a10.add 1) = some (.slice s11a s11l s11c) ∧
    cutM (σ := Int × Unit) (fun J12 =>
      cond (decide (((s11l : Nat) : Int) > 1))
      (optM q0 fun a15 =>
        ∃ (s16a : Option Addr) (s16l s16c : Nat), w5.cell? (a15.add 1) = some (.slice s16a s16l s16c) ∧
        (0 : Int) ≤ (1 : Int) ∧ (1 : Int) < (s16l : Nat) ∧
        optM s16a fun a17 =>
        ∃ n18 : Int, w5.cell? (a17.add ((1 : Int).toNat * 1)) = some (.int .u32 n18) ∧
        (0 : Int) ≤ 32 ∧
        J12 ((IntKind.u64.wrap (BitVec.ofInt IntKind.u64.bits s4.1 ||| BitVec.ofInt IntKind.u64.bits (IntKind.u64.wrap ((IntKind.u64.wrap n18) * 2 ^ (min (32 : Int).toNat IntKind.u64.bits)))).toNat), ()) w5)
      (J12 (s4.1, ()) w5))
    (fun s13 w14 =>
      K (.int .u64 s13.1) w14))

/-- (*girder/bignum.Int).Rsh -/
def S_p_bignum_Int_Rsh (N : Nums) (P : Program) (q0 : Option Addr) (q1 : Option Addr) (q2 : Int) (w : World) (K : Value → World → Prop) : Prop :=
  optM q1 fun a1 =>
  ∃ b2 : Bool, w.cell? a1 = some (.bool b2) ∧
  cond b2
  (optM q1 fun a3 =>
    ∃ (s4a : Option Addr) (s4l s4c : Nat), w.cell? (a3.add 1) = some (.slice s4a s4l s4c) ∧
    newM #[.int .u32 1] N.t_uint32 w fun p5 w6 =>
    CallsX P N.f_bignum_sub #[.slice s4a s4l s4c, .slice (some p5) 1 1] w6 fun v8 w7 =>
    ∃ (s9a : Option Addr) (s9l s9c : Nat), v8 = (.slice s9a s9l s9c) ∧
    CallsX P N.f_bignum_right #[.slice s9a s9l s9c, .int .u64 q2] w7 fun v11 w10 =>
    ∃ (s12a : Option Addr) (s12l s12c : Nat), v11 = (.slice s12a s12l s12c) ∧
    newM #[.int .u32 1] N.t_uint32 w10 fun p13 w14 =>
    CallsX P N.f_bignum_add #[.slice s12a s12l s12c, .slice (some p13) 1 1] w14 fun v16 w15 =>
    ∃ (s17a : Option Addr) (s17l s17c : Nat), v16 = (.slice s17a s17l s17c) ∧
    CallsX P N.f_p_bignum_Int_give #[.pointer q0, .bool true, .slice s17a s17l s17c] w15 fun v19 w18 =>
    ∃ p20 : (Option Addr), v19 = (.pointer p20) ∧
    K (.pointer p20) w18)
  (optM q1 fun a21 =>
    ∃ (s22a : Option Addr) (s22l s22c : Nat), w.cell? (a21.add 1) = some (.slice s22a s22l s22c) ∧
    CallsX P N.f_bignum_right #[.slice s22a s22l s22c, .int .u64 q2] w fun v24 w23 =>
    ∃ (s25a : Option Addr) (s25l s25c : Nat), v24 = (.slice s25a s25l s25c) ∧
    CallsX P N.f_p_bignum_Int_give #[.pointer q0, .bool false, .slice s25a s25l s25c] w23 fun v27 w26 =>
    ∃ p28 : (Option Addr), v27 = (.pointer p28) ∧
    K (.pointer p28) w26)

/-- (*girder/bignum.Int).Sub -/
def S_p_bignum_Int_Sub (N : Nums) (P : Program) (q0 : Option Addr) (q1 : Option Addr) (q2 : Option Addr) (w : World) (K : Value → World → Prop) : Prop :=
  optM q1 fun a1 =>
  ∃ b2 : Bool, w.cell? a1 = some (.bool b2) ∧
  optM q1 fun a3 =>
  ∃ (s4a : Option Addr) (s4l s4c : Nat), w.cell? (a3.add 1) = some (.slice s4a s4l s4c) ∧
  optM q2 fun a5 =>
  ∃ b6 : Bool, w.cell? a5 = some (.bool b6) ∧
  optM q2 fun a7 =>
  ∃ (s8a : Option Addr) (s8l s8c : Nat), w.cell? (a7.add 1) = some (.slice s8a s8l s8c) ∧
  drM w fun w9 =>
  CallsX P N.f_bignum_sum #[.bool b2, .slice s4a s4l s4c, .bool (!b6), .slice s8a s8l s8c] w9 fun v11 w10 =>
  ∃ b12 : Bool, ∃ (s13a : Option Addr) (s13l s13c : Nat), v11 = (.tuple #[.bool b12, .slice s13a s13l s13c]) ∧
  drM w10 fun w14 =>
  CallsX P N.f_p_bignum_Int_give #[.pointer q0, .bool b12, .slice s13a s13l s13c] w14 fun v16 w15 =>
  ∃ p17 : (Option Addr), v16 = (.pointer p17) ∧
  drM w15 fun w18 =>
  K (.pointer p17) w18

/-- (*girder/bignum.Int).Cmp -/
def S_p_bignum_Int_Cmp (N : Nums) (P : Program) (q0 : Option Addr) (q1 : Option Addr) (w : World) (K : Value → World → Prop) : Prop :=
  optM q0 fun a1 =>
  ∃ b2 : Bool, w.cell? a1 = some (.bool b2) ∧
  optM q1 fun a3 =>
  ∃ b4 : Bool, w.cell? a3 = some (.bool b4) ∧
  drM w fun w5 =>
  cond (!(b2 == b4))
  (optM q0 fun a6 =>
    ∃ b7 : Bool, w5.cell? a6 = some (.bool b7) ∧
    cond b7
    (K (.int .i64 (-1)) w5)
    (K (.int .i64 1) w5))
  (optM q0 fun a8 =>
    ∃ (s9a : Option Addr) (s9l s9c : Nat), w5.cell? (a8.add 1) = some (.slice s9a s9l s9c) ∧
    optM q1 fun a10 =>
    ∃ (s11a : Option Addr) (s11l s11c : Nat), w5.cell? (a10.add 1) = some (.slice s11a s11l s11c) ∧
    drM w5 fun w12 =>
    CallsX P N.f_bignum_cmp #[.slice s9a s9l s9c, .slice s11a s11l s11c] w12 fun v14 w13 =>
    ∃ n15 : Int, v14 = (.int .i64 n15) ∧
    drM w13 fun w16 =>
    optM q0 fun a17 =>
    ∃ b18 : Bool, w16.cell? a17 = some (.bool b18) ∧
    cond b18
    (K (.int .i64 (IntKind.i64.wrap (0 - n15))) w16)
    (K (.int .i64 n15) w16))

/-- girder/dyad.away -/
def S_dyad_away (N : Nums) (P : Program) (q0 : Int) (q1 : Bool) (q2 : Int) (q3 : Bool) (w : World) (K : Value → World → Prop) : Prop :=
  cond (q0 == 1)
  (K (.bool q1) w)
  (cond (q0 == 2)
    (K (.bool (!q1)) w)
    (cond (q0 == 3)
      (K (.bool false) w)
      (cond (!(decide (q2 > 0)))
        (cond (q2 == 0)
          (K (.bool q3) w)
          (K (.bool false) w))
        (K (.bool true) w))))

end Go.Eng
