/-
 Some of the functions as propositions in the manner of a weakest precondition, printed off the structured code by a program of the session. No condition.
-/
import Derived.Test.YtdephdnkkljfeaaDoorTbl
import Derived.Test.YtdephdnkkljfeaaDoorNm
set_option linter.all false
set_option maxRecDepth 100000
namespace Go.Eng
open Go
def S_w09_VectorNorm (N : Nums) (P : Program) (q0 : Option Addr) (q0l q0c : Nat) (w : World) (K : Value → World → Prop) : Prop :=
 CallsX P N.f_w09_awake #[] w fun v2 w1 =>
 vB_ v2 fun b3 =>
 cond (!b3)
 (K (.bool false) w1)
 (cutM (σ := (Option Addr × Nat × Nat) × Unit) (fun J4 =>
   cond (decide (((q0l : Nat) : Int) > 300))
   ((0 : Int) ≤ (300 : Int) ∧ (300 : Int) ≤ (q0c : Nat) ∧
    J4 (((slBase q0 0 q0c 1), (300 : Int).toNat, q0c), ()) w1)
   (J4 ((q0, q0l, q0c), ()) w1))
  (fun s5 w6 =>
   CallsX P N.f_vector_Norm #[.slice s5.1.1 s5.1.2.1 s5.1.2.2] w6 fun v8 w7 =>
   ∃ x9, v8 = (.float .f64 x9) ∧
   CallsX P N.f_vector_Most #[.slice s5.1.1 s5.1.2.1 s5.1.2.2] w7 fun v11 w10 =>
   ∃ n12, ∃ x13, v11 = (.tuple #[.int .i64 n12, .float .f64 x13]) ∧
   CallsX P N.f_dyad_Int #[.int .i64 0] w10 fun v15 w14 =>
   ∃ b16, ∃ s17a s17l s17c, ∃ n18, v15 = (.agg #[.bool b16, .slice s17a s17l s17c, .int .i64 n18]) ∧
   newM #[.bool false, .slice none 0 0, .int .i64 0] N.t_Dyad w14 fun p19 w20 =>
   stM p19 (.bool b16) w20 fun w21 =>
   stM (p19.add 1) (.slice s17a s17l s17c) w21 fun w22 =>
   stM (p19.add 2) (.int .i64 n18) w22 fun w23 =>
   cutM (σ := Bool × Unit) (fun J24 =>
    loopM (σ := Bool × Int × Unit) (fun s27 X28 w29 =>
     cond (decide (s27.2.1 < ((s5.1.2.1 : Nat) : Int)))
     ((0 : Int) ≤ s27.2.1 ∧ s27.2.1 < (s5.1.2.1 : Nat) ∧
      optM s5.1.1 fun a30 =>
      cF_ w29 (a30.add (s27.2.1.toNat * 1)) fun x31 =>
      (0 : Int) ≤ s27.2.1 ∧ s27.2.1 < (s5.1.2.1 : Nat) ∧
      optM s5.1.1 fun a32 =>
      cF_ w29 (a32.add (s27.2.1.toNat * 1)) fun x33 =>
      drM w29 fun w34 =>
      cond (!feq x31 x33)
      (cond (!feq x9 x9)
       (K (.bool (n12 != s27.2.1)) w34)
       (K (.bool false) w34))
      ((0 : Int) ≤ s27.2.1 ∧ s27.2.1 < (s5.1.2.1 : Nat) ∧
       optM s5.1.1 fun a35 =>
       cF_ w34 (a35.add (s27.2.1.toNat * 1)) fun x36 =>
       CallsX P N.f_math_Abs #[.float .f64 x36] w34 fun v38 w37 =>
       ∃ x39, v38 = (.float .f64 x39) ∧
       cond (!(fgt x39 x13))
       (cond (!(decide (n12 < 0)))
        (cond (decide (s27.2.1 < n12))
         ((0 : Int) ≤ s27.2.1 ∧ s27.2.1 < (s5.1.2.1 : Nat) ∧
          optM s5.1.1 fun a40 =>
          cF_ w37 (a40.add (s27.2.1.toNat * 1)) fun x41 =>
          CallsX P N.f_math_Abs #[.float .f64 x41] w37 fun v43 w42 =>
          ∃ x44, v43 = (.float .f64 x44) ∧
          cond (feq x44 x13)
          (K (.bool false) w42)
          (cond s27.1
           ((0 : Int) ≤ s27.2.1 ∧ s27.2.1 < (s5.1.2.1 : Nat) ∧
            optM s5.1.1 fun a45 =>
            cF_ w42 (a45.add (s27.2.1.toNat * 1)) fun x46 =>
            CallsX P N.f_k_Finite #[.float .f64 x46] w42 fun v48 w47 =>
            vB_ v48 fun b49 =>
            X28 (b49, (IntKind.i64.wrap (s27.2.1 + 1)), ()) w47)
           (X28 (false, (IntKind.i64.wrap (s27.2.1 + 1)), ()) w42)))
         (cond s27.1
          ((0 : Int) ≤ s27.2.1 ∧ s27.2.1 < (s5.1.2.1 : Nat) ∧
           optM s5.1.1 fun a50 =>
           cF_ w37 (a50.add (s27.2.1.toNat * 1)) fun x51 =>
           CallsX P N.f_k_Finite #[.float .f64 x51] w37 fun v53 w52 =>
           vB_ v53 fun b54 =>
           X28 (b54, (IntKind.i64.wrap (s27.2.1 + 1)), ()) w52)
          (X28 (false, (IntKind.i64.wrap (s27.2.1 + 1)), ()) w37)))
        (K (.bool false) w37))
       (K (.bool false) w37)))
     (J24 (s27.1, ()) w29))
    (true, 0, ()) w23)
   (fun s25 w26 =>
    cutM (σ := Bool × Unit) (fun J55 =>
     cond (!(decide (n12 ≥ ((s5.1.2.1 : Nat) : Int))))
     (cond (!(!((decide (n12 < 0)) == (((s5.1.2.1 : Nat) : Int) == 0))))
      (cond (decide (n12 ≥ 0))
       ((0 : Int) ≤ n12 ∧ n12 < (s5.1.2.1 : Nat) ∧
        optM s5.1.1 fun a58 =>
        cF_ w26 (a58.add (n12.toNat * 1)) fun x59 =>
        CallsX P N.f_math_Abs #[.float .f64 x59] w26 fun v61 w60 =>
        ∃ x62, v61 = (.float .f64 x62) ∧
        cond (!(!feq x62 x13))
        (cond (!(!(flt x13 x9 || feq x13 x9)))
         (CallsX P N.f_math_Signbit #[.float .f64 x9] w60 fun v64 w63 =>
          vB_ v64 fun b65 =>
          cond (!b65)
          (CallsX P N.f_math_Signbit #[.float .f64 x13] w63 fun v67 w66 =>
           vB_ v67 fun b68 =>
           J55 (b68, ()) w66)
          (J55 (true, ()) w63))
         (J55 (true, ()) w60))
        (J55 (true, ()) w60))
       (cond (!(!(flt x13 x9 || feq x13 x9)))
        (CallsX P N.f_math_Signbit #[.float .f64 x9] w26 fun v70 w69 =>
         vB_ v70 fun b71 =>
         cond (!b71)
         (CallsX P N.f_math_Signbit #[.float .f64 x13] w69 fun v73 w72 =>
          vB_ v73 fun b74 =>
          J55 (b74, ()) w72)
         (J55 (true, ()) w69))
        (J55 (true, ()) w26)))
      (J55 (true, ()) w26))
     (J55 (true, ()) w26))
    (fun s56 w57 =>
     cond s56.1
     (K (.bool false) w57)
     (cond (!s25.1)
      (CallsX P N.f_math_IsInf #[.float .f64 x9, .int .i64 1] w57 fun v76 w75 =>
       vB_ v76 fun b77 =>
       K (.bool b77) w75)
      (cutM (σ := Int × Unit) (fun J78 =>
        loopM (σ := Int × Int × Unit) (fun s81 X82 w83 =>
         cutM (σ := Bool × Unit) (fun J84 =>
          cond (decide (s81.2.1 < ((s5.1.2.1 : Nat) : Int)))
          (J84 ((s81.1 == 0), ()) w83)
          (J84 (false, ()) w83))
         (fun s85 w86 =>
          cond s85.1
          (cutM (σ := Int × Unit) (fun J87 =>
            newM #[.bool false, .slice none 0 0, .int .i64 0] N.t_Dyad w86 fun p90 w91 =>
            (0 : Int) ≤ s81.2.1 ∧ s81.2.1 < (s5.1.2.1 : Nat) ∧
            optM s5.1.1 fun a92 =>
            cF_ w91 (a92.add (s81.2.1.toNat * 1)) fun x93 =>
            CallsX P N.f_math_Abs #[.float .f64 x93] w91 fun v95 w94 =>
            ∃ x96, v95 = (.float .f64 x96) ∧
            CallsX P N.f_dyad_Of #[.float .f64 x96] w94 fun v98 w97 =>
            ∃ b99, ∃ s100a s100l s100c, ∃ n101, ∃ n102, v98 = (.tuple #[.agg #[.bool b99, .slice s100a s100l s100c, .int .i64 n101], .int .i64 n102]) ∧
            stM p90 (.bool b99) w97 fun w103 =>
            stM (p90.add 1) (.slice s100a s100l s100c) w103 fun w104 =>
            stM (p90.add 2) (.int .i64 n101) w104 fun w105 =>
            cutM (σ := Int × Unit) (fun J106 =>
             cond (n102 == 0)
             (cB_ w105 p19 fun b109 =>
             cS_ w105 (p19.add 1) fun s110a s110l s110c =>
             cI_ w105 (p19.add 2) fun n111 =>
             cB_ w105 p90 fun b112 =>
             cS_ w105 (p90.add 1) fun s113a s113l s113c =>
             cI_ w105 (p90.add 2) fun n114 =>
             CallsX P N.f_dyad_Add #[.agg #[.bool b109, .slice s110a s110l s110c, .int .i64 n111], .agg #[.bool b112, .slice s113a s113l s113c, .int .i64 n114]] w105 fun v116 w115 =>
             ∃ b117, ∃ s118a s118l s118c, ∃ n119, ∃ n120, v116 = (.tuple #[.agg #[.bool b117, .slice s118a s118l s118c, .int .i64 n119], .int .i64 n120]) ∧
             stM p19 (.bool b117) w115 fun w121 =>
             stM (p19.add 1) (.slice s118a s118l s118c) w121 fun w122 =>
             stM (p19.add 2) (.int .i64 n119) w122 fun w123 =>
             J106 (n120, ()) w123)
             (J106 (n102, ()) w105))
            (fun s107 w108 =>
             J87 (s107.1, ()) w108))
           (fun s88 w89 =>
            X82 (s88.1, (IntKind.i64.wrap (s81.2.1 + 1)), ()) w89))
          (J78 (s81.1, ()) w86)))
        (0, 0, ()) w57)
       (fun s79 w80 =>
        cond (s79.1 != 0)
        (K (.bool false) w80)
        (CallsX P N.f_k_Finite #[.float .f64 x9] w80 fun v125 w124 =>
         vB_ v125 fun b126 =>
         cond (!b126)
         (K (.bool true) w124)
         (CallsX P N.f_dyad_Of #[.float .f64 x9] w124 fun v128 w127 =>
          ∃ b129, ∃ s130a s130l s130c, ∃ n131, ∃ n132, v128 = (.tuple #[.agg #[.bool b129, .slice s130a s130l s130c, .int .i64 n131], .int .i64 n132]) ∧
          newM #[.bool false, .slice none 0 0, .int .i64 0] N.t_Dyad w127 fun p133 w134 =>
          stM p133 (.bool b129) w134 fun w135 =>
          stM (p133.add 1) (.slice s130a s130l s130c) w135 fun w136 =>
          stM (p133.add 2) (.int .i64 n131) w136 fun w137 =>
          cB_ w137 p19 fun b138 =>
          cS_ w137 (p19.add 1) fun s139a s139l s139c =>
          cI_ w137 (p19.add 2) fun n140 =>
          CallsX P N.f_dyad_Scale #[.agg #[.bool b138, .slice s139a s139l s139c, .int .i64 n140], .int .i64 (-39)] w137 fun v142 w141 =>
          ∃ b143, ∃ s144a s144l s144c, ∃ n145, ∃ n146, v142 = (.tuple #[.agg #[.bool b143, .slice s144a s144l s144c, .int .i64 n145], .int .i64 n146]) ∧
          newM #[.bool false, .slice none 0 0, .int .i64 0] N.t_Dyad w141 fun p147 w148 =>
          stM p147 (.bool b143) w148 fun w149 =>
          stM (p147.add 1) (.slice s144a s144l s144c) w149 fun w150 =>
          stM (p147.add 2) (.int .i64 n145) w150 fun w151 =>
          cutM (σ := Bool × Unit) (fun J152 =>
           cond (!(n132 != 0))
           (J152 ((n146 != 0), ()) w151)
           (J152 (true, ()) w151))
          (fun s153 w154 =>
           cond s153.1
           (K (.bool false) w154)
           (cB_ w154 p19 fun b155 =>
            cS_ w154 (p19.add 1) fun s156a s156l s156c =>
            cI_ w154 (p19.add 2) fun n157 =>
            cB_ w154 p147 fun b158 =>
            cS_ w154 (p147.add 1) fun s159a s159l s159c =>
            cI_ w154 (p147.add 2) fun n160 =>
            CallsX P N.f_dyad_Add #[.agg #[.bool b155, .slice s156a s156l s156c, .int .i64 n157], .agg #[.bool b158, .slice s159a s159l s159c, .int .i64 n160]] w154 fun v162 w161 =>
            ∃ b163, ∃ s164a s164l s164c, ∃ n165, ∃ n166, v162 = (.tuple #[.agg #[.bool b163, .slice s164a s164l s164c, .int .i64 n165], .int .i64 n166]) ∧
            stM p147 (.bool b163) w161 fun w167 =>
            stM (p147.add 1) (.slice s164a s164l s164c) w167 fun w168 =>
            stM (p147.add 2) (.int .i64 n165) w168 fun w169 =>
            cB_ w169 p19 fun b170 =>
            cS_ w169 (p19.add 1) fun s171a s171l s171c =>
            cI_ w169 (p19.add 2) fun n172 =>
            cB_ w169 p133 fun b173 =>
            cS_ w169 (p133.add 1) fun s174a s174l s174c =>
            cI_ w169 (p133.add 2) fun n175 =>
            CallsX P N.f_dyad_Cmp #[.agg #[.bool b170, .slice s171a s171l s171c, .int .i64 n172], .agg #[.bool b173, .slice s174a s174l s174c, .int .i64 n175]] w169 fun v177 w176 =>
            ∃ n178, ∃ n179, v177 = (.tuple #[.int .i64 n178, .int .i64 n179]) ∧
            cB_ w176 p133 fun b180 =>
            cS_ w176 (p133.add 1) fun s181a s181l s181c =>
            cI_ w176 (p133.add 2) fun n182 =>
            cB_ w176 p147 fun b183 =>
            cS_ w176 (p147.add 1) fun s184a s184l s184c =>
            cI_ w176 (p147.add 2) fun n185 =>
            CallsX P N.f_dyad_Cmp #[.agg #[.bool b180, .slice s181a s181l s181c, .int .i64 n182], .agg #[.bool b183, .slice s184a s184l s184c, .int .i64 n185]] w176 fun v187 w186 =>
            ∃ n188, ∃ n189, v187 = (.tuple #[.int .i64 n188, .int .i64 n189]) ∧
            cond (n166 == 0)
            (cond (n179 == 0)
             (cond (n189 == 0)
             (cond (decide (n178 ≤ 0))
             (K (.bool (decide (n188 ≤ 0))) w186)
             (K (.bool false) w186))
             (K (.bool false) w186))
             (K (.bool false) w186))
            (K (.bool false) w186))))))))))))
def S_math_IsInf (N : Nums) (P : Program) (q0 : Nat) (q1 : Int) (w : World) (K : Value → World → Prop) : Prop :=
 cutM (σ := Nat × Unit) (fun J1 =>
  cond (q1 == 0)
  (CallsX P N.f_math_Abs #[.float .f64 q0] w fun v5 w4 =>
   ∃ x6, v5 = (.float .f64 x6) ∧
   J1 (x6, ()) w4)
  (cutM (σ := Nat × Unit) (fun J7 =>
    cond (decide (q1 < 0))
    (J7 ((fneg q0), ()) w)
    (J7 (q0, ()) w))
   (fun s8 w9 =>
    J1 (s8.1, ()) w9)))
 (fun s2 w3 =>
  K (.bool (fgt s2.1 9218868437227405311)) w3)
def S_w09_awake (N : Nums) (P : Program)  (w : World) (K : Value → World → Prop) : Prop :=
 newM #[.float .f64 4607182418800017408, .float .f64 4611686018427387904] N.t_float64 w fun p1 w2 =>
 newM #[.float .f64 4613937818241073152, .float .f64 4616189618054758400] N.t_float64 w2 fun p3 w4 =>
 CallsX P N.f_vector_Axpy #[.float .f64 4611686018427387904, .slice (some p1) 2 2, .slice (some p3) 2 2] w4 fun v6 w5 =>
 ∃ s7a s7l s7c, ∃ n8, v6 = (.tuple #[.slice s7a s7l s7c, .int .i64 n8]) ∧
 CallsX P N.f_vector_Dot #[.slice (some p1) 2 2, .slice (some p3) 2 2] w5 fun v10 w9 =>
 ∃ x11, ∃ n12, v10 = (.tuple #[.float .f64 x11, .int .i64 n12]) ∧
 newM #[.float .f64 4613937818241073152, .float .f64 13839561654909534208, .float .f64 4616189618054758400] N.t_float64 w9 fun p13 w14 =>
 CallsX P N.f_vector_Most #[.slice (some p13) 3 3] w14 fun v16 w15 =>
 ∃ n17, ∃ x18, v16 = (.tuple #[.int .i64 n17, .float .f64 x18]) ∧
 cond (n8 == 0)
 (cond (n12 == 0)
  (newM #[.float .f64 4617315517961601024, .float .f64 4620693217682128896] N.t_float64 w15 fun p19 w20 =>
   CallsX P N.f_k_SameReals #[.slice s7a s7l s7c, .slice (some p19) 2 2] w20 fun v22 w21 =>
   vB_ v22 fun b23 =>
   cond b23
   (cond (feq x11 4622382067542392832)
    (cond (n17 == 1)
     (cond (feq x18 4616189618054758400)
      (newM #[.float .f64 4613937818241073152, .float .f64 13839561654909534208] N.t_float64 w21 fun p24 w25 =>
       CallsX P N.f_vector_Norm #[.slice (some p24) 2 2] w25 fun v27 w26 =>
       ∃ x28, v27 = (.float .f64 x28) ∧
       cond (feq x28 4619567317775286272)
       (newM #[.float .f64 0] N.t_float64 w26 fun p29 w30 =>
        CallsX P N.f_math_Copysign #[.float .f64 0, .float .f64 13830554455654793216] w30 fun v32 w31 =>
        ∃ x33, v32 = (.float .f64 x33) ∧
        newM #[.float .f64 x33] N.t_float64 w31 fun p34 w35 =>
        CallsX P N.f_vector_Same #[.slice (some p29) 1 1, .slice (some p34) 1 1] w35 fun v37 w36 =>
        vB_ v37 fun b38 =>
        K (.bool (!b38)) w36)
       (K (.bool false) w26))
      (K (.bool false) w21))
     (K (.bool false) w21))
    (K (.bool false) w21))
   (K (.bool false) w21))
  (K (.bool false) w15))
 (K (.bool false) w15)
def S_vector_Norm (N : Nums) (P : Program) (q0 : Option Addr) (q0l q0c : Nat) (w : World) (K : Value → World → Prop) : Prop :=
 cutM (σ := Nat × Unit) (fun J1 =>
  loopM (σ := Nat × Int × Unit) (fun s4 X5 w6 =>
   cond (decide (s4.2.1 < ((q0l : Nat) : Int)))
   ((0 : Int) ≤ s4.2.1 ∧ s4.2.1 < (q0l : Nat) ∧
    optM q0 fun a7 =>
    cF_ w6 (a7.add (s4.2.1.toNat * 1)) fun x8 =>
    CallsX P N.f_math_Abs #[.float .f64 x8] w6 fun v10 w9 =>
    ∃ x11, v10 = (.float .f64 x11) ∧
    CallsX P N.f_round_Add #[.float .f64 s4.1, .float .f64 x11, .int .i8 2] w9 fun v13 w12 =>
    ∃ x14, v13 = (.float .f64 x14) ∧
    X5 (x14, (IntKind.i64.wrap (s4.2.1 + 1)), ()) w12)
   (J1 (s4.1, ()) w6))
  (0, 0, ()) w)
 (fun s2 w3 =>
  K (.float .f64 s2.1) w3)
def S_vector_Most (N : Nums) (P : Program) (q0 : Option Addr) (q0l q0c : Nat) (w : World) (K : Value → World → Prop) : Prop :=
 cutM (σ := Int × Nat × Unit) (fun J1 =>
  loopM (σ := Int × Nat × Int × Unit) (fun s4 X5 w6 =>
   cond (decide (s4.2.2.1 < ((q0l : Nat) : Int)))
   (cutM (σ := Int × Nat × Unit) (fun J7 =>
     (0 : Int) ≤ s4.2.2.1 ∧ s4.2.2.1 < (q0l : Nat) ∧
     optM q0 fun a10 =>
     cF_ w6 (a10.add (s4.2.2.1.toNat * 1)) fun x11 =>
     CallsX P N.f_math_Abs #[.float .f64 x11] w6 fun v13 w12 =>
     ∃ x14, v13 = (.float .f64 x14) ∧
     cond (!(fgt x14 s4.2.1))
     (cond (decide (s4.1 < 0))
      (cutM (σ := Int × Nat × Unit) (fun J15 =>
        cond (feq x14 0)
        (J15 (s4.2.2.1, x14, ()) w12)
        (J15 (s4.1, s4.2.1, ()) w12))
       (fun s16 w17 =>
        J7 (s16.1, s16.2.1, ()) w17))
      (cutM (σ := Int × Nat × Unit) (fun J18 =>
        J18 (s4.1, s4.2.1, ()) w12)
       (fun s19 w20 =>
        J7 (s19.1, s19.2.1, ()) w20)))
     (cutM (σ := Int × Nat × Unit) (fun J21 =>
       J21 (s4.2.2.1, x14, ()) w12)
      (fun s22 w23 =>
       J7 (s22.1, s22.2.1, ()) w23)))
    (fun s8 w9 =>
     X5 (s8.1, s8.2.1, (IntKind.i64.wrap (s4.2.2.1 + 1)), ()) w9))
   (J1 (s4.1, s4.2.1, ()) w6))
  ((-1), 0, 0, ()) w)
 (fun s2 w3 =>
  K (.tuple #[.int .i64 s2.1, .float .f64 s2.2.1]) w3)
def S_dyad_Int (N : Nums) (P : Program) (q0 : Int) (w : World) (K : Value → World → Prop) : Prop :=
 newM #[.bool false, .slice none 0 0, .int .i64 0] N.t_Dyad w fun p1 w2 =>
 CallsX P N.f_bn_NewInt #[.int .i64 q0] w2 fun v4 w3 =>
 ∃ p5 : (Option Addr), v4 = (.pointer p5) ∧
 CallsX P N.f_dyad_made #[.pointer p5, .int .i64 0] w3 fun v7 w6 =>
 ∃ b8, ∃ s9a s9l s9c, ∃ n10, ∃ n11, v7 = (.tuple #[.agg #[.bool b8, .slice s9a s9l s9c, .int .i64 n10], .int .i64 n11]) ∧
 newM #[.bool false, .slice none 0 0, .int .i64 0] N.t_Dyad w6 fun p12 w13 =>
 stM p12 (.bool b8) w13 fun w14 =>
 stM (p12.add 1) (.slice s9a s9l s9c) w14 fun w15 =>
 stM (p12.add 2) (.int .i64 n10) w15 fun w16 =>
 cB_ w16 p12 fun b17 =>
 cS_ w16 (p12.add 1) fun s18a s18l s18c =>
 cI_ w16 (p12.add 2) fun n19 =>
 stM p1 (.bool b17) w16 fun w20 =>
 stM (p1.add 1) (.slice s18a s18l s18c) w20 fun w21 =>
 stM (p1.add 2) (.int .i64 n19) w21 fun w22 =>
 cB_ w22 p1 fun b23 =>
 cS_ w22 (p1.add 1) fun s24a s24l s24c =>
 cI_ w22 (p1.add 2) fun n25 =>
 K (.agg #[.bool b23, .slice s24a s24l s24c, .int .i64 n25]) w22
def S_math_Abs (N : Nums) (P : Program) (q0 : Nat) (w : World) (K : Value → World → Prop) : Prop :=
 CallsX P N.f_math_Float64bits #[.float .f64 q0] w fun v2 w1 =>
 ∃ n3, v2 = (.int .u64 n3) ∧
 CallsX P N.f_math_Float64frombits #[.int .u64 (IntKind.u64.wrap (BitVec.ofInt IntKind.u64.bits n3 &&& ~~~BitVec.ofInt IntKind.u64.bits 9223372036854775808).toNat)] w1 fun v5 w4 =>
 ∃ x6, v5 = (.float .f64 x6) ∧
 K (.float .f64 x6) w4
def S_k_Finite (N : Nums) (P : Program) (q0 : Nat) (w : World) (K : Value → World → Prop) : Prop :=
 fresM (fsub q0 q0) w fun x1 w2 =>
 K (.bool (feq x1 0)) w2
def S_math_Signbit (N : Nums) (P : Program) (q0 : Nat) (w : World) (K : Value → World → Prop) : Prop :=
 CallsX P N.f_math_Float64bits #[.float .f64 q0] w fun v2 w1 =>
 ∃ n3, v2 = (.int .u64 n3) ∧
 K (.bool (decide ((IntKind.i64.wrap n3) < 0))) w1
def S_dyad_Of (N : Nums) (P : Program) (q0 : Nat) (w : World) (K : Value → World → Prop) : Prop :=
 newM #[.bool false, .slice none 0 0, .int .i64 0] N.t_Dyad w fun p1 w2 =>
 CallsX P N.f_bits_Split #[.float .f64 q0] w2 fun v4 w3 =>
 ∃ b5, ∃ n6, ∃ n7, ∃ b8, v4 = (.tuple #[.agg #[.bool b5, .int .u64 n6, .int .i64 n7], .bool b8]) ∧
 newM #[.bool false, .int .u64 0, .int .i64 0] N.t_Parts w3 fun p9 w10 =>
 stM p9 (.bool b5) w10 fun w11 =>
 stM (p9.add 1) (.int .u64 n6) w11 fun w12 =>
 stM (p9.add 2) (.int .i64 n7) w12 fun w13 =>
 cond (!b8)
 (stM p1 (.bool false) w13 fun w14 =>
  stM (p1.add 1) (.slice none 0 0) w14 fun w15 =>
  stM (p1.add 2) (.int .i64 0) w15 fun w16 =>
  cB_ w16 p1 fun b17 =>
  cS_ w16 (p1.add 1) fun s18a s18l s18c =>
  cI_ w16 (p1.add 2) fun n19 =>
  K (.tuple #[.agg #[.bool b17, .slice s18a s18l s18c, .int .i64 n19], .int .i64 5]) w16)
 (cU_ w13 (p9.add 1) fun n20 =>
  cond (n20 == 0)
  (stM p1 (.bool false) w13 fun w21 =>
   stM (p1.add 1) (.slice none 0 0) w21 fun w22 =>
   stM (p1.add 2) (.int .i64 0) w22 fun w23 =>
   cB_ w23 p1 fun b24 =>
   cS_ w23 (p1.add 1) fun s25a s25l s25c =>
   cI_ w23 (p1.add 2) fun n26 =>
   K (.tuple #[.agg #[.bool b24, .slice s25a s25l s25c, .int .i64 n26], .int .i64 0]) w23)
  (cB_ w13 p9 fun b27 =>
   cU_ w13 (p9.add 1) fun n28 =>
   newM #[.int .u64 n28] N.t_uint64 w13 fun p29 w30 =>
   cI_ w30 (p9.add 2) fun n31 =>
   stM p1 (.bool b27) w30 fun w32 =>
   stM (p1.add 1) (.slice (some p29) 1 1) w32 fun w33 =>
   stM (p1.add 2) (.int .i64 n31) w33 fun w34 =>
   cB_ w34 p1 fun b35 =>
   cS_ w34 (p1.add 1) fun s36a s36l s36c =>
   cI_ w34 (p1.add 2) fun n37 =>
   K (.tuple #[.agg #[.bool b35, .slice s36a s36l s36c, .int .i64 n37], .int .i64 0]) w34))
def S_dyad_Add (N : Nums) (P : Program) (q0_0 : Bool) (q0_1 : Option Addr) (q0_1l q0_1c : Nat) (q0_2 : Int) (q1_0 : Bool) (q1_1 : Option Addr) (q1_1l q1_1c : Nat) (q1_2 : Int) (w : World) (K : Value → World → Prop) : Prop :=
 newM #[.bool q0_0, .slice q0_1 q0_1l q0_1c, .int .i64 q0_2] N.t_Dyad w fun p1 w2 =>
 newM #[.bool q1_0, .slice q1_1 q1_1l q1_1c, .int .i64 q1_2] N.t_Dyad w2 fun p3 w4 =>
 newM #[.bool false, .slice none 0 0, .int .i64 0] N.t_Dyad w4 fun p5 w6 =>
 cB_ w6 p1 fun b7 =>
 cS_ w6 (p1.add 1) fun s8a s8l s8c =>
 cI_ w6 (p1.add 2) fun n9 =>
 cB_ w6 p3 fun b10 =>
 cS_ w6 (p3.add 1) fun s11a s11l s11c =>
 cI_ w6 (p3.add 2) fun n12 =>
 CallsX P N.f_dyad_both #[.agg #[.bool b7, .slice s8a s8l s8c, .int .i64 n9], .agg #[.bool b10, .slice s11a s11l s11c, .int .i64 n12]] w6 fun v14 w13 =>
 vB_ v14 fun b15 =>
 cond (!b15)
 (stM p5 (.bool false) w13 fun w16 =>
  stM (p5.add 1) (.slice none 0 0) w16 fun w17 =>
  stM (p5.add 2) (.int .i64 0) w17 fun w18 =>
  cB_ w18 p5 fun b19 =>
  cS_ w18 (p5.add 1) fun s20a s20l s20c =>
  cI_ w18 (p5.add 2) fun n21 =>
  K (.tuple #[.agg #[.bool b19, .slice s20a s20l s20c, .int .i64 n21], .int .i64 2]) w18)
 (cB_ w13 p1 fun b22 =>
  cS_ w13 (p1.add 1) fun s23a s23l s23c =>
  cI_ w13 (p1.add 2) fun n24 =>
  cB_ w13 p3 fun b25 =>
  cS_ w13 (p3.add 1) fun s26a s26l s26c =>
  cI_ w13 (p3.add 2) fun n27 =>
  drM w13 fun w28 =>
  CallsX P N.f_dyad_whole #[.agg #[.bool b22, .slice s23a s23l s23c, .int .i64 n24]] w28 fun v30 w29 =>
  ∃ p31 : (Option Addr), v30 = (.pointer p31) ∧
  w29.cell? p3 = some (.bool b25) ∧
  w29.cell? (p3.add 1) = some (.slice s26a s26l s26c) ∧
  w29.cell? (p3.add 2) = some (.int .i64 n27) ∧
  drM w29 fun w32 =>
  CallsX P N.f_dyad_whole #[.agg #[.bool b25, .slice s26a s26l s26c, .int .i64 n27]] w32 fun v34 w33 =>
  ∃ p35 : (Option Addr), v34 = (.pointer p35) ∧
  drM w33 fun w36 =>
  cutM (σ := Bool × Unit) (fun J37 =>
   CallsX P N.f_bI_Sign #[.pointer p31] w36 fun v41 w40 =>
   ∃ n42, v41 = (.int .i64 n42) ∧
   cond (!(n42 == 0))
   (CallsX P N.f_bI_Sign #[.pointer p35] w40 fun v44 w43 =>
    ∃ n45, v44 = (.int .i64 n45) ∧
    J37 ((n45 == 0), ()) w43)
   (J37 (true, ()) w40))
  (fun s38 w39 =>
   cond s38.1
   (cI_ w39 (p1.add 2) fun n46 =>
    cI_ w39 (p3.add 2) fun n47 =>
    drM w39 fun w48 =>
    CallsX P N.f_bI_Add #[.pointer p31, .pointer p31, .pointer p35] w48 fun v50 w49 =>
    ∃ p51 : (Option Addr), v50 = (.pointer p51) ∧
    w49.cell? (p3.add 2) = some (.int .i64 n47) ∧
    w49.cell? (p1.add 2) = some (.int .i64 n46) ∧
    drM w49 fun w52 =>
    CallsX P N.f_dyad_made #[.pointer p51, .int .i64 (IntKind.i64.wrap (n46 + n47))] w52 fun v54 w53 =>
    ∃ b55, ∃ s56a s56l s56c, ∃ n57, ∃ n58, v54 = (.tuple #[.agg #[.bool b55, .slice s56a s56l s56c, .int .i64 n57], .int .i64 n58]) ∧
    drM w53 fun w59 =>
    stM p5 (.bool b55) w59 fun w60 =>
    stM (p5.add 1) (.slice s56a s56l s56c) w60 fun w61 =>
    stM (p5.add 2) (.int .i64 n57) w61 fun w62 =>
    drM w62 fun w63 =>
    cB_ w63 p5 fun b64 =>
    cS_ w63 (p5.add 1) fun s65a s65l s65c =>
    cI_ w63 (p5.add 2) fun n66 =>
    K (.tuple #[.agg #[.bool b64, .slice s65a s65l s65c, .int .i64 n66], .int .i64 n58]) w63)
   (cI_ w39 (p1.add 2) fun n67 =>
    cI_ w39 (p3.add 2) fun n68 =>
    cutM (σ := (Option Addr) × (Option Addr) × Unit) (fun J69 =>
     cond (decide (n67 < n68))
     (cB_ w39 p3 fun b72 =>
      cS_ w39 (p3.add 1) fun s73a s73l s73c =>
      cI_ w39 (p3.add 2) fun n74 =>
      cB_ w39 p1 fun b75 =>
      cS_ w39 (p1.add 1) fun s76a s76l s76c =>
      cI_ w39 (p1.add 2) fun n77 =>
      stM p1 (.bool b72) w39 fun w78 =>
      stM (p1.add 1) (.slice s73a s73l s73c) w78 fun w79 =>
      stM (p1.add 2) (.int .i64 n74) w79 fun w80 =>
      stM p3 (.bool b75) w80 fun w81 =>
      stM (p3.add 1) (.slice s76a s76l s76c) w81 fun w82 =>
      stM (p3.add 2) (.int .i64 n77) w82 fun w83 =>
      J69 (p35, p31, ()) w83)
     (J69 (p31, p35, ()) w39))
    (fun s70 w71 =>
     cI_ w71 (p1.add 2) fun n84 =>
     cI_ w71 (p3.add 2) fun n85 =>
     cond (decide ((IntKind.i64.wrap (n84 - n85)) > 16385))
     (stM p5 (.bool false) w71 fun w86 =>
      stM (p5.add 1) (.slice none 0 0) w86 fun w87 =>
      stM (p5.add 2) (.int .i64 0) w87 fun w88 =>
      cB_ w88 p5 fun b89 =>
      cS_ w88 (p5.add 1) fun s90a s90l s90c =>
      cI_ w88 (p5.add 2) fun n91 =>
      K (.tuple #[.agg #[.bool b89, .slice s90a s90l s90c, .int .i64 n91], .int .i64 3]) w88)
     (cI_ w71 (p3.add 2) fun n92 =>
      drM w71 fun w93 =>
      CallsX P N.f_bI_Lsh #[.pointer s70.1, .pointer s70.1, .int .u64 (IntKind.u64.wrap (IntKind.i64.wrap (n84 - n85)))] w93 fun v95 w94 =>
      ∃ p96 : (Option Addr), v95 = (.pointer p96) ∧
      w94.cell? (p3.add 2) = some (.int .i64 n92) ∧
      drM w94 fun w97 =>
      CallsX P N.f_bI_Add #[.pointer s70.1, .pointer p96, .pointer s70.2.1] w97 fun v99 w98 =>
      ∃ p100 : (Option Addr), v99 = (.pointer p100) ∧
      w98.cell? (p3.add 2) = some (.int .i64 n92) ∧
      drM w98 fun w101 =>
      CallsX P N.f_dyad_made #[.pointer p100, .int .i64 n92] w101 fun v103 w102 =>
      ∃ b104, ∃ s105a s105l s105c, ∃ n106, ∃ n107, v103 = (.tuple #[.agg #[.bool b104, .slice s105a s105l s105c, .int .i64 n106], .int .i64 n107]) ∧
      drM w102 fun w108 =>
      stM p5 (.bool b104) w108 fun w109 =>
      stM (p5.add 1) (.slice s105a s105l s105c) w109 fun w110 =>
      stM (p5.add 2) (.int .i64 n106) w110 fun w111 =>
      drM w111 fun w112 =>
      cB_ w112 p5 fun b113 =>
      cS_ w112 (p5.add 1) fun s114a s114l s114c =>
      cI_ w112 (p5.add 2) fun n115 =>
      K (.tuple #[.agg #[.bool b113, .slice s114a s114l s114c, .int .i64 n115], .int .i64 n107]) w112)))))
def S_dyad_Scale (N : Nums) (P : Program) (q0_0 : Bool) (q0_1 : Option Addr) (q0_1l q0_1c : Nat) (q0_2 : Int) (q1 : Int) (w : World) (K : Value → World → Prop) : Prop :=
 newM #[.bool q0_0, .slice q0_1 q0_1l q0_1c, .int .i64 q0_2] N.t_Dyad w fun p1 w2 =>
 newM #[.bool false, .slice none 0 0, .int .i64 0] N.t_Dyad w2 fun p3 w4 =>
 cB_ w4 p1 fun b5 =>
 cS_ w4 (p1.add 1) fun s6a s6l s6c =>
 cI_ w4 (p1.add 2) fun n7 =>
 CallsX P N.f_dyad_Right #[.agg #[.bool b5, .slice s6a s6l s6c, .int .i64 n7]] w4 fun v9 w8 =>
 vB_ v9 fun b10 =>
 cond (!b10)
 (stM p3 (.bool false) w8 fun w11 =>
  stM (p3.add 1) (.slice none 0 0) w11 fun w12 =>
  stM (p3.add 2) (.int .i64 0) w12 fun w13 =>
  cB_ w13 p3 fun b14 =>
  cS_ w13 (p3.add 1) fun s15a s15l s15c =>
  cI_ w13 (p3.add 2) fun n16 =>
  K (.tuple #[.agg #[.bool b14, .slice s15a s15l s15c, .int .i64 n16], .int .i64 2]) w13)
 (cS_ w8 (p1.add 1) fun s17a s17l s17c =>
  cond (((s17l : Nat) : Int) == 0)
  (stM p3 (.bool false) w8 fun w18 =>
   stM (p3.add 1) (.slice none 0 0) w18 fun w19 =>
   stM (p3.add 2) (.int .i64 0) w19 fun w20 =>
   cB_ w20 p3 fun b21 =>
   cS_ w20 (p3.add 1) fun s22a s22l s22c =>
   cI_ w20 (p3.add 2) fun n23 =>
   K (.tuple #[.agg #[.bool b21, .slice s22a s22l s22c, .int .i64 n23], .int .i64 0]) w20)
  (cutM (σ := Bool × Unit) (fun J24 =>
    cond (!(decide (q1 > 131072)))
    (J24 ((decide (q1 < (-131072))), ()) w8)
    (J24 (true, ()) w8))
   (fun s25 w26 =>
    cond s25.1
    (stM p3 (.bool false) w26 fun w27 =>
     stM (p3.add 1) (.slice none 0 0) w27 fun w28 =>
     stM (p3.add 2) (.int .i64 0) w28 fun w29 =>
     cB_ w29 p3 fun b30 =>
     cS_ w29 (p3.add 1) fun s31a s31l s31c =>
     cI_ w29 (p3.add 2) fun n32 =>
     K (.tuple #[.agg #[.bool b30, .slice s31a s31l s31c, .int .i64 n32], .int .i64 3]) w29)
    (cB_ w26 p1 fun b33 =>
     cS_ w26 (p1.add 1) fun s34a s34l s34c =>
     cI_ w26 (p1.add 2) fun n35 =>
     cI_ w26 (p1.add 2) fun n36 =>
     drM w26 fun w37 =>
     CallsX P N.f_dyad_whole #[.agg #[.bool b33, .slice s34a s34l s34c, .int .i64 n35]] w37 fun v39 w38 =>
     ∃ p40 : (Option Addr), v39 = (.pointer p40) ∧
     w38.cell? (p1.add 2) = some (.int .i64 n36) ∧
     drM w38 fun w41 =>
     CallsX P N.f_dyad_made #[.pointer p40, .int .i64 (IntKind.i64.wrap (n36 + q1))] w41 fun v43 w42 =>
     ∃ b44, ∃ s45a s45l s45c, ∃ n46, ∃ n47, v43 = (.tuple #[.agg #[.bool b44, .slice s45a s45l s45c, .int .i64 n46], .int .i64 n47]) ∧
     drM w42 fun w48 =>
     stM p3 (.bool b44) w48 fun w49 =>
     stM (p3.add 1) (.slice s45a s45l s45c) w49 fun w50 =>
     stM (p3.add 2) (.int .i64 n46) w50 fun w51 =>
     drM w51 fun w52 =>
     cB_ w52 p3 fun b53 =>
     cS_ w52 (p3.add 1) fun s54a s54l s54c =>
     cI_ w52 (p3.add 2) fun n55 =>
     K (.tuple #[.agg #[.bool b53, .slice s54a s54l s54c, .int .i64 n55], .int .i64 n47]) w52))))
def S_dyad_Cmp (N : Nums) (P : Program) (q0_0 : Bool) (q0_1 : Option Addr) (q0_1l q0_1c : Nat) (q0_2 : Int) (q1_0 : Bool) (q1_1 : Option Addr) (q1_1l q1_1c : Nat) (q1_2 : Int) (w : World) (K : Value → World → Prop) : Prop :=
 newM #[.bool q0_0, .slice q0_1 q0_1l q0_1c, .int .i64 q0_2] N.t_Dyad w fun p1 w2 =>
 newM #[.bool q1_0, .slice q1_1 q1_1l q1_1c, .int .i64 q1_2] N.t_Dyad w2 fun p3 w4 =>
 cB_ w4 p1 fun b5 =>
 cS_ w4 (p1.add 1) fun s6a s6l s6c =>
 cI_ w4 (p1.add 2) fun n7 =>
 CallsX P N.f_dyad_Sign #[.agg #[.bool b5, .slice s6a s6l s6c, .int .i64 n7]] w4 fun v9 w8 =>
 ∃ n10, ∃ n11, v9 = (.tuple #[.int .i64 n10, .int .i64 n11]) ∧
 cB_ w8 p3 fun b12 =>
 cS_ w8 (p3.add 1) fun s13a s13l s13c =>
 cI_ w8 (p3.add 2) fun n14 =>
 CallsX P N.f_dyad_Sign #[.agg #[.bool b12, .slice s13a s13l s13c, .int .i64 n14]] w8 fun v16 w15 =>
 ∃ n17, ∃ n18, v16 = (.tuple #[.int .i64 n17, .int .i64 n18]) ∧
 cutM (σ := Bool × Unit) (fun J19 =>
  cond (!(n11 != 0))
  (J19 ((n18 != 0), ()) w15)
  (J19 (true, ()) w15))
 (fun s20 w21 =>
  cond s20.1
  (K (.tuple #[.int .i64 0, .int .i64 2]) w21)
  (cond (n10 != n17)
   (cond (decide (n10 < n17))
    (K (.tuple #[.int .i64 (-1), .int .i64 0]) w21)
    (K (.tuple #[.int .i64 1, .int .i64 0]) w21))
   (cond (n10 == 0)
    (K (.tuple #[.int .i64 0, .int .i64 0]) w21)
    (cB_ w21 p1 fun b22 =>
     cS_ w21 (p1.add 1) fun s23a s23l s23c =>
     cI_ w21 (p1.add 2) fun n24 =>
     cB_ w21 p3 fun b25 =>
     cS_ w21 (p3.add 1) fun s26a s26l s26c =>
     cI_ w21 (p3.add 2) fun n27 =>
     drM w21 fun w28 =>
     CallsX P N.f_dyad_top #[.agg #[.bool b22, .slice s23a s23l s23c, .int .i64 n24]] w28 fun v30 w29 =>
     ∃ n31, v30 = (.int .i64 n31) ∧
     w29.cell? p3 = some (.bool b25) ∧
     w29.cell? (p3.add 1) = some (.slice s26a s26l s26c) ∧
     w29.cell? (p3.add 2) = some (.int .i64 n27) ∧
     drM w29 fun w32 =>
     CallsX P N.f_dyad_top #[.agg #[.bool b25, .slice s26a s26l s26c, .int .i64 n27]] w32 fun v34 w33 =>
     ∃ n35, v34 = (.int .i64 n35) ∧
     drM w33 fun w36 =>
     cond (n31 != n35)
     (cB_ w36 p1 fun b37 =>
      cS_ w36 (p1.add 1) fun s38a s38l s38c =>
      cI_ w36 (p1.add 2) fun n39 =>
      cB_ w36 p3 fun b40 =>
      cS_ w36 (p3.add 1) fun s41a s41l s41c =>
      cI_ w36 (p3.add 2) fun n42 =>
      drM w36 fun w43 =>
      CallsX P N.f_dyad_top #[.agg #[.bool b37, .slice s38a s38l s38c, .int .i64 n39]] w43 fun v45 w44 =>
      ∃ n46, v45 = (.int .i64 n46) ∧
      w44.cell? p3 = some (.bool b40) ∧
      w44.cell? (p3.add 1) = some (.slice s41a s41l s41c) ∧
      w44.cell? (p3.add 2) = some (.int .i64 n42) ∧
      drM w44 fun w47 =>
      CallsX P N.f_dyad_top #[.agg #[.bool b40, .slice s41a s41l s41c, .int .i64 n42]] w47 fun v49 w48 =>
      ∃ n50, v49 = (.int .i64 n50) ∧
      drM w48 fun w51 =>
      cond (decide (n46 < n50))
      (K (.tuple #[.int .i64 (IntKind.i64.wrap (0 - n10)), .int .i64 0]) w51)
      (K (.tuple #[.int .i64 n10, .int .i64 0]) w51))
     (cB_ w36 p1 fun b52 =>
      cS_ w36 (p1.add 1) fun s53a s53l s53c =>
      cI_ w36 (p1.add 2) fun n54 =>
      cB_ w36 p3 fun b55 =>
      cS_ w36 (p3.add 1) fun s56a s56l s56c =>
      cI_ w36 (p3.add 2) fun n57 =>
      drM w36 fun w58 =>
      CallsX P N.f_dyad_whole #[.agg #[.bool b52, .slice s53a s53l s53c, .int .i64 n54]] w58 fun v60 w59 =>
      ∃ p61 : (Option Addr), v60 = (.pointer p61) ∧
      w59.cell? p3 = some (.bool b55) ∧
      w59.cell? (p3.add 1) = some (.slice s56a s56l s56c) ∧
      w59.cell? (p3.add 2) = some (.int .i64 n57) ∧
      drM w59 fun w62 =>
      CallsX P N.f_dyad_whole #[.agg #[.bool b55, .slice s56a s56l s56c, .int .i64 n57]] w62 fun v64 w63 =>
      ∃ p65 : (Option Addr), v64 = (.pointer p65) ∧
      drM w63 fun w66 =>
      cI_ w66 (p1.add 2) fun n67 =>
      cI_ w66 (p3.add 2) fun n68 =>
      cutM (σ := Unit) (fun J69 =>
       cond (decide (n67 > n68))
       (cI_ w66 (p1.add 2) fun n72 =>
        cI_ w66 (p3.add 2) fun n73 =>
        CallsX P N.f_bI_Lsh #[.pointer p61, .pointer p61, .int .u64 (IntKind.u64.wrap (IntKind.i64.wrap (n72 - n73)))] w66 fun v75 w74 =>
        ∃ p76 : (Option Addr), v75 = (.pointer p76) ∧
        J69 (()) w74)
       (cI_ w66 (p3.add 2) fun n77 =>
        cI_ w66 (p1.add 2) fun n78 =>
        CallsX P N.f_bI_Lsh #[.pointer p65, .pointer p65, .int .u64 (IntKind.u64.wrap (IntKind.i64.wrap (n77 - n78)))] w66 fun v80 w79 =>
        ∃ p81 : (Option Addr), v80 = (.pointer p81) ∧
        J69 (()) w79))
      (fun s70 w71 =>
       CallsX P N.f_bI_Cmp #[.pointer p61, .pointer p65] w71 fun v83 w82 =>
       ∃ n84, v83 = (.int .i64 n84) ∧
       K (.tuple #[.int .i64 n84, .int .i64 0]) w82))))))
def S_vector_Axpy (N : Nums) (P : Program) (q0 : Nat) (q1 : Option Addr) (q1l q1c : Nat) (q2 : Option Addr) (q2l q2c : Nat) (w : World) (K : Value → World → Prop) : Prop :=
 newM #[.float .f64 q0] N.t_float64 w fun p1 w2 =>
 CallsX P N.f_vector_each #[.slice q1 q1l q1c, .slice q2 q2l q2c, .func (.func N.f_vector_Axpy_1) #[] #[.pointer (some p1)]] w2 fun v4 w3 =>
 ∃ s5a s5l s5c, ∃ n6, v4 = (.tuple #[.slice s5a s5l s5c, .int .i64 n6]) ∧
 K (.tuple #[.slice s5a s5l s5c, .int .i64 n6]) w3
def S_vector_Dot (N : Nums) (P : Program) (q0 : Option Addr) (q0l q0c : Nat) (q1 : Option Addr) (q1l q1c : Nat) (w : World) (K : Value → World → Prop) : Prop :=
 CallsX P N.f_vector_fit #[.slice q0 q0l q0c, .slice q1 q1l q1c] w fun v2 w1 =>
 ∃ n3, v2 = (.int .i64 n3) ∧
 cond (n3 != 0)
 (K (.tuple #[.float .f64 0, .int .i64 n3]) w1)
 (cutM (σ := Nat × Unit) (fun J4 =>
   loopM (σ := Nat × Int × Unit) (fun s7 X8 w9 =>
    cond (decide (s7.2.1 < ((q0l : Nat) : Int)))
    ((0 : Int) ≤ s7.2.1 ∧ s7.2.1 < (q0l : Nat) ∧
     optM q0 fun a10 =>
     cF_ w9 (a10.add (s7.2.1.toNat * 1)) fun x11 =>
     (0 : Int) ≤ s7.2.1 ∧ s7.2.1 < (q1l : Nat) ∧
     optM q1 fun a12 =>
     cF_ w9 (a12.add (s7.2.1.toNat * 1)) fun x13 =>
     fresM (fmul x11 x13) w9 fun x14 w15 =>
     fresM (fadd s7.1 x14) w9 fun x16 w17 =>
     drM w9 fun w18 =>
     X8 (x16, (IntKind.i64.wrap (s7.2.1 + 1)), ()) w18)
    (J4 (s7.1, ()) w9))
   (0, 0, ()) w1)
  (fun s5 w6 =>
   K (.tuple #[.float .f64 s5.1, .int .i64 0]) w6))
def S_k_SameReals (N : Nums) (P : Program) (q0 : Option Addr) (q0l q0c : Nat) (q1 : Option Addr) (q1l q1c : Nat) (w : World) (K : Value → World → Prop) : Prop :=
 cond (((q0l : Nat) : Int) != ((q1l : Nat) : Int))
 (K (.bool false) w)
 (cutM (σ := Unit) (fun J1 =>
   loopM (σ := Int × Unit) (fun s4 X5 w6 =>
    cond (decide (s4.1 < ((q0l : Nat) : Int)))
    ((0 : Int) ≤ s4.1 ∧ s4.1 < (q0l : Nat) ∧
     optM q0 fun a7 =>
     cF_ w6 (a7.add (s4.1.toNat * 1)) fun x8 =>
     (0 : Int) ≤ s4.1 ∧ s4.1 < (q1l : Nat) ∧
     optM q1 fun a9 =>
     cF_ w6 (a9.add (s4.1.toNat * 1)) fun x10 =>
     drM w6 fun w11 =>
     CallsX P N.f_k_SameFloat #[.float .f64 x8, .float .f64 x10] w11 fun v13 w12 =>
     vB_ v13 fun b14 =>
     drM w12 fun w15 =>
     cond (!b14)
     (K (.bool false) w15)
     (X5 ((IntKind.i64.wrap (s4.1 + 1)), ()) w15))
    (J1 (()) w6))
   (0, ()) w)
  (fun s2 w3 =>
   K (.bool true) w3))
def S_vector_Same (N : Nums) (P : Program) (q0 : Option Addr) (q0l q0c : Nat) (q1 : Option Addr) (q1l q1c : Nat) (w : World) (K : Value → World → Prop) : Prop :=
 cond (((q0l : Nat) : Int) != ((q1l : Nat) : Int))
 (K (.bool false) w)
 (cutM (σ := Unit) (fun J1 =>
   loopM (σ := Int × Unit) (fun s4 X5 w6 =>
    cond (decide (s4.1 < ((q0l : Nat) : Int)))
    ((0 : Int) ≤ s4.1 ∧ s4.1 < (q0l : Nat) ∧
     optM q0 fun a7 =>
     cF_ w6 (a7.add (s4.1.toNat * 1)) fun x8 =>
     (0 : Int) ≤ s4.1 ∧ s4.1 < (q1l : Nat) ∧
     optM q1 fun a9 =>
     cF_ w6 (a9.add (s4.1.toNat * 1)) fun x10 =>
     drM w6 fun w11 =>
     CallsX P N.f_math_Float64bits #[.float .f64 x8] w11 fun v13 w12 =>
     ∃ n14, v13 = (.int .u64 n14) ∧
     w12.cell? (a9.add (s4.1.toNat * 1)) = some (.float .f64 x10) ∧
     drM w12 fun w15 =>
     CallsX P N.f_math_Float64bits #[.float .f64 x10] w15 fun v17 w16 =>
     ∃ n18, v17 = (.int .u64 n18) ∧
     cond (n14 != n18)
     (drM w16 fun w19 =>
      CallsX P N.f_math_IsNaN #[.float .f64 x8] w19 fun v21 w20 =>
      vB_ v21 fun b22 =>
      cond b22
      ((0 : Int) ≤ s4.1 ∧ s4.1 < (q1l : Nat) ∧
       optM q1 fun a23 =>
       cF_ w20 (a23.add (s4.1.toNat * 1)) fun x24 =>
       drM w20 fun w25 =>
       CallsX P N.f_math_IsNaN #[.float .f64 x24] w25 fun v27 w26 =>
       vB_ v27 fun b28 =>
       drM w26 fun w29 =>
       cond (!b28)
       (K (.bool false) w29)
       (X5 ((IntKind.i64.wrap (s4.1 + 1)), ()) w29))
      (drM w20 fun w30 =>
       drM w30 fun w31 =>
       K (.bool false) w31))
     (drM w16 fun w32 =>
      drM w32 fun w33 =>
      drM w33 fun w34 =>
      X5 ((IntKind.i64.wrap (s4.1 + 1)), ()) w34))
    (J1 (()) w6))
   (0, ()) w)
  (fun s2 w3 =>
   K (.bool true) w3))
def S_math_Copysign (N : Nums) (P : Program) (q0 : Nat) (q1 : Nat) (w : World) (K : Value → World → Prop) : Prop :=
 CallsX P N.f_math_Float64bits #[.float .f64 q0] w fun v2 w1 =>
 ∃ n3, v2 = (.int .u64 n3) ∧
 CallsX P N.f_math_Float64bits #[.float .f64 q1] w1 fun v5 w4 =>
 ∃ n6, v5 = (.int .u64 n6) ∧
 CallsX P N.f_math_Float64frombits #[.int .u64 (IntKind.u64.wrap (BitVec.ofInt IntKind.u64.bits (IntKind.u64.wrap (BitVec.ofInt IntKind.u64.bits n3 &&& ~~~BitVec.ofInt IntKind.u64.bits 9223372036854775808).toNat) ||| BitVec.ofInt IntKind.u64.bits (IntKind.u64.wrap (BitVec.ofInt IntKind.u64.bits n6 &&& BitVec.ofInt IntKind.u64.bits 9223372036854775808).toNat)).toNat)] w4 fun v8 w7 =>
 ∃ x9, v8 = (.float .f64 x9) ∧
 K (.float .f64 x9) w7
def S_round_Add (N : Nums) (P : Program) (q0 : Nat) (q1 : Nat) (q2 : Int) (w : World) (K : Value → World → Prop) : Prop :=
 CallsX P N.f_round_way #[.int .i8 q2] w fun v2 w1 =>
 ∃ n3, v2 = (.int .i8 n3) ∧
 fresM (fadd q0 q1) w1 fun x4 w5 =>
 newM #[.float .f64 q0, .float .f64 q1] N.t_float64 w5 fun p6 w7 =>
 CallsX P N.f_round_finite #[.slice (some p6) 2 2] w7 fun v9 w8 =>
 vB_ v9 fun b10 =>
 cond (!b10)
 (K (.float .f64 x4) w8)
 (cutM (σ := Bool × Unit) (fun J11 =>
   cond (feq x4 0)
   (cond (!(!feq q0 0))
    (cond (feq x4 0)
     (CallsX P N.f_math_Signbit #[.float .f64 q0] w8 fun v15 w14 =>
      vB_ v15 fun b16 =>
      CallsX P N.f_math_Signbit #[.float .f64 q1] w14 fun v18 w17 =>
      vB_ v18 fun b19 =>
      J11 ((!(b16 == b19)), ()) w17)
     (J11 (false, ()) w8))
    (J11 (true, ()) w8))
   (cond (feq x4 0)
    (CallsX P N.f_math_Signbit #[.float .f64 q0] w8 fun v21 w20 =>
     vB_ v21 fun b22 =>
     CallsX P N.f_math_Signbit #[.float .f64 q1] w20 fun v24 w23 =>
     vB_ v24 fun b25 =>
     J11 ((!(b22 == b25)), ()) w23)
    (J11 (false, ()) w8)))
  (fun s12 w13 =>
   cond s12.1
   (CallsX P N.f_round_none #[.int .i8 n3] w13 fun v27 w26 =>
    ∃ x28, v27 = (.float .f64 x28) ∧
    K (.float .f64 x28) w26)
   (cond (feq x4 0)
    (K (.float .f64 x4) w13)
    (CallsX P N.f_math_IsInf #[.float .f64 x4, .int .i64 0] w13 fun v30 w29 =>
     vB_ v30 fun b31 =>
     cond b31
     (CallsX P N.f_round_settle #[.float .f64 x4, .int .i64 0, .int .i8 n3] w29 fun v33 w32 =>
      ∃ x34, v33 = (.float .f64 x34) ∧
      K (.float .f64 x34) w32)
     (CallsX P N.f_math_Abs #[.float .f64 q0] w29 fun v36 w35 =>
      ∃ x37, v36 = (.float .f64 x37) ∧
      CallsX P N.f_math_Abs #[.float .f64 q1] w35 fun v39 w38 =>
      ∃ x40, v39 = (.float .f64 x40) ∧
      cutM (σ := Nat × Nat × Unit) (fun J41 =>
       cond (flt x37 x40)
       (J41 (q1, q0, ()) w38)
       (J41 (q0, q1, ()) w38))
      (fun s42 w43 =>
       fresM (fsub x4 s42.1) w43 fun x44 w45 =>
       fresM (fsub s42.2.1 x44) w45 fun x46 w47 =>
       CallsX P N.f_round_sign #[.float .f64 x46] w47 fun v49 w48 =>
       ∃ n50, v49 = (.int .i64 n50) ∧
       CallsX P N.f_round_settle #[.float .f64 x4, .int .i64 n50, .int .i8 n3] w48 fun v52 w51 =>
       ∃ x53, v52 = (.float .f64 x53) ∧
       K (.float .f64 x53) w51))))))
def S_dyad_made (N : Nums) (P : Program) (q0 : Option Addr) (q1 : Int) (w : World) (K : Value → World → Prop) : Prop :=
 newM #[.bool false, .slice none 0 0, .int .i64 0] N.t_Dyad w fun p1 w2 =>
 CallsX P N.f_bI_Sign #[.pointer q0] w2 fun v4 w3 =>
 ∃ n5, v4 = (.int .i64 n5) ∧
 cond (n5 == 0)
 (stM p1 (.bool false) w3 fun w6 =>
  stM (p1.add 1) (.slice none 0 0) w6 fun w7 =>
  stM (p1.add 2) (.int .i64 0) w7 fun w8 =>
  cB_ w8 p1 fun b9 =>
  cS_ w8 (p1.add 1) fun s10a s10l s10c =>
  cI_ w8 (p1.add 2) fun n11 =>
  K (.tuple #[.agg #[.bool b9, .slice s10a s10l s10c, .int .i64 n11], .int .i64 0]) w8)
 (CallsX P N.f_bI_TrailingZeroBits #[.pointer q0] w3 fun v13 w12 =>
  ∃ n14, v13 = (.int .u64 n14) ∧
  cond (decide (q1 > 65536))
  (stM p1 (.bool false) w12 fun w15 =>
   stM (p1.add 1) (.slice none 0 0) w15 fun w16 =>
   stM (p1.add 2) (.int .i64 0) w16 fun w17 =>
   cB_ w17 p1 fun b18 =>
   cS_ w17 (p1.add 1) fun s19a s19l s19c =>
   cI_ w17 (p1.add 2) fun n20 =>
   K (.tuple #[.agg #[.bool b18, .slice s19a s19l s19c, .int .i64 n20], .int .i64 3]) w17)
  (cond (decide (q1 < (IntKind.i64.wrap ((-65536) - (IntKind.i64.wrap n14)))))
   (stM p1 (.bool false) w12 fun w21 =>
    stM (p1.add 1) (.slice none 0 0) w21 fun w22 =>
    stM (p1.add 2) (.int .i64 0) w22 fun w23 =>
    cB_ w23 p1 fun b24 =>
    cS_ w23 (p1.add 1) fun s25a s25l s25c =>
    cI_ w23 (p1.add 2) fun n26 =>
    K (.tuple #[.agg #[.bool b24, .slice s25a s25l s25c, .int .i64 n26], .int .i64 3]) w23)
   (cond (decide ((IntKind.i64.wrap (q1 + (IntKind.i64.wrap n14))) > 65536))
    (stM p1 (.bool false) w12 fun w27 =>
     stM (p1.add 1) (.slice none 0 0) w27 fun w28 =>
     stM (p1.add 2) (.int .i64 0) w28 fun w29 =>
     cB_ w29 p1 fun b30 =>
     cS_ w29 (p1.add 1) fun s31a s31l s31c =>
     cI_ w29 (p1.add 2) fun n32 =>
     K (.tuple #[.agg #[.bool b30, .slice s31a s31l s31c, .int .i64 n32], .int .i64 3]) w29)
    (CallsX P N.f_bI_BitLen #[.pointer q0] w12 fun v34 w33 =>
     ∃ n35, v34 = (.int .i64 n35) ∧
     cond (decide ((IntKind.i64.wrap (n35 - (IntKind.i64.wrap n14))) > 16384))
     (stM p1 (.bool false) w33 fun w36 =>
      stM (p1.add 1) (.slice none 0 0) w36 fun w37 =>
      stM (p1.add 2) (.int .i64 0) w37 fun w38 =>
      cB_ w38 p1 fun b39 =>
      cS_ w38 (p1.add 1) fun s40a s40l s40c =>
      cI_ w38 (p1.add 2) fun n41 =>
      K (.tuple #[.agg #[.bool b39, .slice s40a s40l s40c, .int .i64 n41], .int .i64 3]) w38)
     (CallsX P N.f_bI_Sign #[.pointer q0] w33 fun v43 w42 =>
      ∃ n44, v43 = (.int .i64 n44) ∧
      newM #[.bool false, .slice none 0 0] N.t_bn_Int w42 fun p45 w46 =>
      newM #[.bool false, .slice none 0 0] N.t_bn_Int w46 fun p47 w48 =>
      CallsX P N.f_bI_Abs #[.pointer (some p47), .pointer q0] w48 fun v50 w49 =>
      ∃ p51 : (Option Addr), v50 = (.pointer p51) ∧
      CallsX P N.f_bI_Rsh #[.pointer (some p45), .pointer p51, .int .u64 (IntKind.u64.wrap (IntKind.i64.wrap n14))] w49 fun v53 w52 =>
      ∃ p54 : (Option Addr), v53 = (.pointer p54) ∧
      CallsX P N.f_dyad_limbs #[.pointer p54] w52 fun v56 w55 =>
      vS_ v56 fun s57a s57l s57c =>
      stM p1 (.bool (decide (n44 < 0))) w55 fun w58 =>
      stM (p1.add 1) (.slice s57a s57l s57c) w58 fun w59 =>
      stM (p1.add 2) (.int .i64 (IntKind.i64.wrap (q1 + (IntKind.i64.wrap n14)))) w59 fun w60 =>
      cB_ w60 p1 fun b61 =>
      cS_ w60 (p1.add 1) fun s62a s62l s62c =>
      cI_ w60 (p1.add 2) fun n63 =>
      K (.tuple #[.agg #[.bool b61, .slice s62a s62l s62c, .int .i64 n63], .int .i64 0]) w60)))))
def S_bn_NewInt (N : Nums) (P : Program) (q0 : Int) (w : World) (K : Value → World → Prop) : Prop :=
 newM #[.bool false, .slice none 0 0] N.t_bn_Int w fun p1 w2 =>
 CallsX P N.f_bI_SetInt64 #[.pointer (some p1), .int .i64 q0] w2 fun v4 w3 =>
 ∃ p5 : (Option Addr), v4 = (.pointer p5) ∧
 K (.pointer p5) w3
def S_bits_Split (N : Nums) (P : Program) (q0 : Nat) (w : World) (K : Value → World → Prop) : Prop :=
 newM #[.bool false, .int .u64 0, .int .i64 0] N.t_Parts w fun p1 w2 =>
 CallsX P N.f_bits_Kind #[.float .f64 q0] w2 fun v4 w3 =>
 ∃ n5, v4 = (.int .i64 n5) ∧
 cond (decide (n5 > 2))
 (stM p1 (.bool false) w3 fun w6 =>
  stM (p1.add 1) (.int .u64 0) w6 fun w7 =>
  stM (p1.add 2) (.int .i64 0) w7 fun w8 =>
  cB_ w8 p1 fun b9 =>
  cU_ w8 (p1.add 1) fun n10 =>
  cI_ w8 (p1.add 2) fun n11 =>
  K (.tuple #[.agg #[.bool b9, .int .u64 n10, .int .i64 n11], .bool false]) w8)
 (CallsX P N.f_math_Signbit #[.float .f64 q0] w3 fun v13 w12 =>
  vB_ v13 fun b14 =>
  newM #[.bool false, .int .u64 0, .int .i64 0] N.t_Parts w12 fun p15 w16 =>
  stM p15 (.bool b14) w16 fun w17 =>
  stM (p15.add 1) (.int .u64 0) w17 fun w18 =>
  stM (p15.add 2) (.int .i64 0) w18 fun w19 =>
  cond (feq q0 0)
  (cB_ w19 p15 fun b20 =>
   cU_ w19 (p15.add 1) fun n21 =>
   cI_ w19 (p15.add 2) fun n22 =>
   stM p1 (.bool b20) w19 fun w23 =>
   stM (p1.add 1) (.int .u64 n21) w23 fun w24 =>
   stM (p1.add 2) (.int .i64 n22) w24 fun w25 =>
   cB_ w25 p1 fun b26 =>
   cU_ w25 (p1.add 1) fun n27 =>
   cI_ w25 (p1.add 2) fun n28 =>
   K (.tuple #[.agg #[.bool b26, .int .u64 n27, .int .i64 n28], .bool true]) w25)
  (CallsX P N.f_math_Abs #[.float .f64 q0] w19 fun v30 w29 =>
   ∃ x31, v30 = (.float .f64 x31) ∧
   CallsX P N.f_math_Frexp #[.float .f64 x31] w29 fun v33 w32 =>
   ∃ x34, ∃ n35, v33 = (.tuple #[.float .f64 x34, .int .i64 n35]) ∧
   CallsX P N.f_math_Ldexp #[.float .f64 x34, .int .i64 53] w32 fun v37 w36 =>
   ∃ x38, v37 = (.float .f64 x38) ∧
   f2iM x38 .u64 w36 fun n39 w40 =>
   stM (p15.add 1) (.int .u64 n39) w40 fun w41 =>
   cU_ w41 (p15.add 1) fun n42 =>
   CallsX P N.f_math_bits_TrailingZeros64 #[.int .u64 n42] w41 fun v44 w43 =>
   ∃ n45, v44 = (.int .i64 n45) ∧
   cU_ w43 (p15.add 1) fun n46 =>
   (0 : Int) ≤ n45 ∧
   stM (p15.add 1) (.int .u64 (n46.fdiv (2 ^ (min n45.toNat IntKind.u64.bits)))) w43 fun w47 =>
   stM (p15.add 2) (.int .i64 (IntKind.i64.wrap ((IntKind.i64.wrap (n35 - 53)) + n45))) w47 fun w48 =>
   cB_ w48 p15 fun b49 =>
   cU_ w48 (p15.add 1) fun n50 =>
   cI_ w48 (p15.add 2) fun n51 =>
   stM p1 (.bool b49) w48 fun w52 =>
   stM (p1.add 1) (.int .u64 n50) w52 fun w53 =>
   stM (p1.add 2) (.int .i64 n51) w53 fun w54 =>
   cB_ w54 p1 fun b55 =>
   cU_ w54 (p1.add 1) fun n56 =>
   cI_ w54 (p1.add 2) fun n57 =>
   K (.tuple #[.agg #[.bool b55, .int .u64 n56, .int .i64 n57], .bool true]) w54))
def S_dyad_both (N : Nums) (P : Program) (q0_0 : Bool) (q0_1 : Option Addr) (q0_1l q0_1c : Nat) (q0_2 : Int) (q1_0 : Bool) (q1_1 : Option Addr) (q1_1l q1_1c : Nat) (q1_2 : Int) (w : World) (K : Value → World → Prop) : Prop :=
 newM #[.bool q0_0, .slice q0_1 q0_1l q0_1c, .int .i64 q0_2] N.t_Dyad w fun p1 w2 =>
 newM #[.bool q1_0, .slice q1_1 q1_1l q1_1c, .int .i64 q1_2] N.t_Dyad w2 fun p3 w4 =>
 cB_ w4 p1 fun b5 =>
 cS_ w4 (p1.add 1) fun s6a s6l s6c =>
 cI_ w4 (p1.add 2) fun n7 =>
 CallsX P N.f_dyad_Right #[.agg #[.bool b5, .slice s6a s6l s6c, .int .i64 n7]] w4 fun v9 w8 =>
 vB_ v9 fun b10 =>
 cond b10
 (cB_ w8 p3 fun b11 =>
  cS_ w8 (p3.add 1) fun s12a s12l s12c =>
  cI_ w8 (p3.add 2) fun n13 =>
  CallsX P N.f_dyad_Right #[.agg #[.bool b11, .slice s12a s12l s12c, .int .i64 n13]] w8 fun v15 w14 =>
  vB_ v15 fun b16 =>
  K (.bool b16) w14)
 (K (.bool false) w8)
def S_dyad_whole (N : Nums) (P : Program) (q0_0 : Bool) (q0_1 : Option Addr) (q0_1l q0_1c : Nat) (q0_2 : Int) (w : World) (K : Value → World → Prop) : Prop :=
 newM #[.bool q0_0, .slice q0_1 q0_1l q0_1c, .int .i64 q0_2] N.t_Dyad w fun p1 w2 =>
 newM #[.bool false, .slice none 0 0] N.t_bn_Int w2 fun p3 w4 =>
 cS_ w4 (p1.add 1) fun s5a s5l s5c =>
 cutM (σ := Unit) (fun J6 =>
  loopM (σ := Int × Unit) (fun s9 X10 w11 =>
   cond (decide (s9.1 < ((s5l : Nat) : Int)))
   (CallsX P N.f_bI_Lsh #[.pointer (some p3), .pointer (some p3), .int .u64 64] w11 fun v13 w12 =>
    ∃ p14 : (Option Addr), v13 = (.pointer p14) ∧
    newM #[.bool false, .slice none 0 0] N.t_bn_Int w12 fun p15 w16 =>
    cS_ w16 (p1.add 1) fun s17a s17l s17c =>
    cS_ w16 (p1.add 1) fun s18a s18l s18c =>
    (0 : Int) ≤ (IntKind.i64.wrap ((IntKind.i64.wrap (((s18l : Nat) : Int) - 1)) - s9.1)) ∧ (IntKind.i64.wrap ((IntKind.i64.wrap (((s18l : Nat) : Int) - 1)) - s9.1)) < (s17l : Nat) ∧
    optM s17a fun a19 =>
    ∃ n20, w16.cell? (a19.add ((IntKind.i64.wrap ((IntKind.i64.wrap (((s18l : Nat) : Int) - 1)) - s9.1)).toNat * 1)) = some (.int .u64 n20) ∧
    CallsX P N.f_bI_SetUint64 #[.pointer (some p15), .int .u64 n20] w16 fun v22 w21 =>
    ∃ p23 : (Option Addr), v22 = (.pointer p23) ∧
    CallsX P N.f_bI_Or #[.pointer (some p3), .pointer (some p3), .pointer p23] w21 fun v25 w24 =>
    ∃ p26 : (Option Addr), v25 = (.pointer p26) ∧
    X10 ((IntKind.i64.wrap (s9.1 + 1)), ()) w24)
   (J6 (()) w11))
  (0, ()) w4)
 (fun s7 w8 =>
  cB_ w8 p1 fun b27 =>
  cutM (σ := Unit) (fun J28 =>
   cond b27
   (CallsX P N.f_bI_Neg #[.pointer (some p3), .pointer (some p3)] w8 fun v32 w31 =>
    ∃ p33 : (Option Addr), v32 = (.pointer p33) ∧
    J28 (()) w31)
   (J28 (()) w8))
  (fun s29 w30 =>
   K (.pointer (some p3)) w30))
def S_bI_Sign (N : Nums) (P : Program) (q0 : Option Addr) (w : World) (K : Value → World → Prop) : Prop :=
 optM q0 fun a1 =>
 cS_ w (a1.add 1) fun s2a s2l s2c =>
 cond (((s2l : Nat) : Int) == 0)
 (K (.int .i64 0) w)
 (optM q0 fun a3 =>
  cB_ w a3 fun b4 =>
  cond b4
  (K (.int .i64 (-1)) w)
  (K (.int .i64 1) w))
def S_bI_Add (N : Nums) (P : Program) (q0 : Option Addr) (q1 : Option Addr) (q2 : Option Addr) (w : World) (K : Value → World → Prop) : Prop :=
 optM q1 fun a1 =>
 cB_ w a1 fun b2 =>
 optM q1 fun a3 =>
 cS_ w (a3.add 1) fun s4a s4l s4c =>
 optM q2 fun a5 =>
 cB_ w a5 fun b6 =>
 optM q2 fun a7 =>
 cS_ w (a7.add 1) fun s8a s8l s8c =>
 drM w fun w9 =>
 CallsX P N.f_bn_sum #[.bool b2, .slice s4a s4l s4c, .bool b6, .slice s8a s8l s8c] w9 fun v11 w10 =>
 ∃ b12, ∃ s13a s13l s13c, v11 = (.tuple #[.bool b12, .slice s13a s13l s13c]) ∧
 drM w10 fun w14 =>
 CallsX P N.f_bI_give #[.pointer q0, .bool b12, .slice s13a s13l s13c] w14 fun v16 w15 =>
 ∃ p17 : (Option Addr), v16 = (.pointer p17) ∧
 drM w15 fun w18 =>
 K (.pointer p17) w18
def S_bI_Lsh (N : Nums) (P : Program) (q0 : Option Addr) (q1 : Option Addr) (q2 : Int) (w : World) (K : Value → World → Prop) : Prop :=
 optM q1 fun a1 =>
 cB_ w a1 fun b2 =>
 optM q1 fun a3 =>
 cS_ w (a3.add 1) fun s4a s4l s4c =>
 drM w fun w5 =>
 CallsX P N.f_bn_left #[.slice s4a s4l s4c, .int .u64 q2] w5 fun v7 w6 =>
 vS_ v7 fun s8a s8l s8c =>
 w6.cell? a1 = some (.bool b2) ∧
 drM w6 fun w9 =>
 CallsX P N.f_bI_give #[.pointer q0, .bool b2, .slice s8a s8l s8c] w9 fun v11 w10 =>
 ∃ p12 : (Option Addr), v11 = (.pointer p12) ∧
 drM w10 fun w13 =>
 K (.pointer p12) w13
def S_dyad_Right (N : Nums) (P : Program) (q0_0 : Bool) (q0_1 : Option Addr) (q0_1l q0_1c : Nat) (q0_2 : Int) (w : World) (K : Value → World → Prop) : Prop :=
 newM #[.bool q0_0, .slice q0_1 q0_1l q0_1c, .int .i64 q0_2] N.t_Dyad w fun p1 w2 =>
 cS_ w2 (p1.add 1) fun s3a s3l s3c =>
 cond (((s3l : Nat) : Int) == 0)
 (cB_ w2 p1 fun b4 =>
  cond (!b4)
  (cI_ w2 (p1.add 2) fun n5 =>
   K (.bool (n5 == 0)) w2)
  (K (.bool false) w2))
 (cond (decide (((s3l : Nat) : Int) ≤ 256))
  (cS_ w2 (p1.add 1) fun s6a s6l s6c =>
   (0 : Int) ≤ (IntKind.i64.wrap (((s3l : Nat) : Int) - 1)) ∧ (IntKind.i64.wrap (((s3l : Nat) : Int) - 1)) < (s6l : Nat) ∧
   optM s6a fun a7 =>
   ∃ n8, w2.cell? (a7.add ((IntKind.i64.wrap (((s3l : Nat) : Int) - 1)).toNat * 1)) = some (.int .u64 n8) ∧
   cond (n8 != 0)
   (cS_ w2 (p1.add 1) fun s9a s9l s9c =>
    (0 : Int) ≤ (0 : Int) ∧ (0 : Int) < (s9l : Nat) ∧
    optM s9a fun a10 =>
    cU_ w2 (a10.add ((0 : Int).toNat * 1)) fun n11 =>
    cond ((IntKind.u64.wrap (BitVec.ofInt IntKind.u64.bits n11 &&& BitVec.ofInt IntKind.u64.bits 1).toNat) == 1)
    (cI_ w2 (p1.add 2) fun n12 =>
     cond (decide (((-65536) : Int) ≤ n12))
     (cI_ w2 (p1.add 2) fun n13 =>
      K (.bool (decide (n13 ≤ 65536))) w2)
     (K (.bool false) w2))
    (K (.bool false) w2))
   (K (.bool false) w2))
  (K (.bool false) w2))
def S_dyad_Sign (N : Nums) (P : Program) (q0_0 : Bool) (q0_1 : Option Addr) (q0_1l q0_1c : Nat) (q0_2 : Int) (w : World) (K : Value → World → Prop) : Prop :=
 newM #[.bool q0_0, .slice q0_1 q0_1l q0_1c, .int .i64 q0_2] N.t_Dyad w fun p1 w2 =>
 cB_ w2 p1 fun b3 =>
 cS_ w2 (p1.add 1) fun s4a s4l s4c =>
 cI_ w2 (p1.add 2) fun n5 =>
 CallsX P N.f_dyad_Right #[.agg #[.bool b3, .slice s4a s4l s4c, .int .i64 n5]] w2 fun v7 w6 =>
 vB_ v7 fun b8 =>
 cond (!b8)
 (K (.tuple #[.int .i64 0, .int .i64 2]) w6)
 (cS_ w6 (p1.add 1) fun s9a s9l s9c =>
  cond (((s9l : Nat) : Int) == 0)
  (K (.tuple #[.int .i64 0, .int .i64 0]) w6)
  (cB_ w6 p1 fun b10 =>
   cond b10
   (K (.tuple #[.int .i64 (-1), .int .i64 0]) w6)
   (K (.tuple #[.int .i64 1, .int .i64 0]) w6)))
def S_dyad_top (N : Nums) (P : Program) (q0_0 : Bool) (q0_1 : Option Addr) (q0_1l q0_1c : Nat) (q0_2 : Int) (w : World) (K : Value → World → Prop) : Prop :=
 newM #[.bool q0_0, .slice q0_1 q0_1l q0_1c, .int .i64 q0_2] N.t_Dyad w fun p1 w2 =>
 cS_ w2 (p1.add 1) fun s3a s3l s3c =>
 cI_ w2 (p1.add 2) fun n4 =>
 cS_ w2 (p1.add 1) fun s5a s5l s5c =>
 (0 : Int) ≤ (IntKind.i64.wrap (((s3l : Nat) : Int) - 1)) ∧ (IntKind.i64.wrap (((s3l : Nat) : Int) - 1)) < (s5l : Nat) ∧
 optM s5a fun a6 =>
 ∃ n7, w2.cell? (a6.add ((IntKind.i64.wrap (((s3l : Nat) : Int) - 1)).toNat * 1)) = some (.int .u64 n7) ∧
 drM w2 fun w8 =>
 CallsX P N.f_math_bits_Len64 #[.int .u64 n7] w8 fun v10 w9 =>
 ∃ n11, v10 = (.int .i64 n11) ∧
 w9.cell? (p1.add 2) = some (.int .i64 n4) ∧
 drM w9 fun w12 =>
 K (.int .i64 (IntKind.i64.wrap ((IntKind.i64.wrap (n4 + (IntKind.i64.wrap (64 * (IntKind.i64.wrap (((s3l : Nat) : Int) - 1)))))) + n11))) w12
def S_bI_Cmp (N : Nums) (P : Program) (q0 : Option Addr) (q1 : Option Addr) (w : World) (K : Value → World → Prop) : Prop :=
 optM q0 fun a1 =>
 cB_ w a1 fun b2 =>
 optM q1 fun a3 =>
 cB_ w a3 fun b4 =>
 drM w fun w5 =>
 cond (!(b2 == b4))
 (optM q0 fun a6 =>
  cB_ w5 a6 fun b7 =>
  cond b7
  (K (.int .i64 (-1)) w5)
  (K (.int .i64 1) w5))
 (optM q0 fun a8 =>
  cS_ w5 (a8.add 1) fun s9a s9l s9c =>
  optM q1 fun a10 =>
  cS_ w5 (a10.add 1) fun s11a s11l s11c =>
  drM w5 fun w12 =>
  CallsX P N.f_bn_cmp #[.slice s9a s9l s9c, .slice s11a s11l s11c] w12 fun v14 w13 =>
  ∃ n15, v14 = (.int .i64 n15) ∧
  drM w13 fun w16 =>
  optM q0 fun a17 =>
  cB_ w16 a17 fun b18 =>
  cond b18
  (K (.int .i64 (IntKind.i64.wrap (0 - n15))) w16)
  (K (.int .i64 n15) w16))
def S_math_IsNaN (N : Nums) (P : Program) (q0 : Nat) (w : World) (K : Value → World → Prop) : Prop :=
 K (.bool (!feq q0 q0)) w
def S_bI_Mul (N : Nums) (P : Program) (q0 : Option Addr) (q1 : Option Addr) (q2 : Option Addr) (w : World) (K : Value → World → Prop) : Prop :=
 optM q1 fun a1 =>
 cB_ w a1 fun b2 =>
 optM q2 fun a3 =>
 cB_ w a3 fun b4 =>
 optM q1 fun a5 =>
 cS_ w (a5.add 1) fun s6a s6l s6c =>
 optM q2 fun a7 =>
 cS_ w (a7.add 1) fun s8a s8l s8c =>
 drM w fun w9 =>
 CallsX P N.f_bn_mul #[.slice s6a s6l s6c, .slice s8a s8l s8c] w9 fun v11 w10 =>
 vS_ v11 fun s12a s12l s12c =>
 w10.cell? a3 = some (.bool b4) ∧
 w10.cell? a1 = some (.bool b2) ∧
 drM w10 fun w13 =>
 CallsX P N.f_bI_give #[.pointer q0, .bool (!(b2 == b4)), .slice s12a s12l s12c] w13 fun v15 w14 =>
 ∃ p16 : (Option Addr), v15 = (.pointer p16) ∧
 drM w14 fun w17 =>
 K (.pointer p16) w17
def S_vector_each (N : Nums) (P : Program) (q0 : Option Addr) (q0l q0c : Nat) (q1 : Option Addr) (q1l q1c : Nat) (q2 : Value) (w : World) (K : Value → World → Prop) : Prop :=
 CallsX P N.f_vector_fit #[.slice q0 q0l q0c, .slice q1 q1l q1c] w fun v2 w1 =>
 ∃ n3, v2 = (.int .i64 n3) ∧
 cond (n3 != 0)
 (K (.tuple #[.slice none 0 0, .int .i64 n3]) w1)
 (mkM N.t_float64 1 8 #[.float .f64 0] ((q0l : Nat) : Int) ((q0l : Nat) : Int) w1 fun p4 w5 =>
  cutM (σ := Unit) (fun J6 =>
   loopM (σ := Int × Unit) (fun s9 X10 w11 =>
    cond (decide (s9.1 < ((q0l : Nat) : Int)))
    ((0 : Int) ≤ s9.1 ∧ s9.1 < (q0l : Nat) ∧
     optM q0 fun a12 =>
     cF_ w11 (a12.add (s9.1.toNat * 1)) fun x13 =>
     (0 : Int) ≤ s9.1 ∧ s9.1 < (q1l : Nat) ∧
     optM q1 fun a14 =>
     cF_ w11 (a14.add (s9.1.toNat * 1)) fun x15 =>
     drM w11 fun w16 =>
     fnM q2 fun f19 f19p f19q => CallsX P f19 (f19p.toList ++ (([.float .f64 x13, .float .f64 x15] : List Value) ++ f19q.toList)).toArray w16 fun v18 w17 =>
     ∃ x20, v18 = (.float .f64 x20) ∧
     (0 : Int) ≤ s9.1 ∧ s9.1 < (((q0l : Nat) : Int).toNat : Nat) ∧
     drM w17 fun w21 =>
     stM (p4.add (s9.1.toNat * 1)) (.float .f64 x20) w21 fun w22 =>
     drM w22 fun w23 =>
     X10 ((IntKind.i64.wrap (s9.1 + 1)), ()) w23)
    (J6 (()) w11))
   (0, ()) w5)
  (fun s7 w8 =>
   K (.tuple #[.slice (some p4) (((q0l : Nat) : Int).toNat) (((q0l : Nat) : Int).toNat), .int .i64 0]) w8))
def S_vector_Axpy_1 (N : Nums) (P : Program) (q0 : Nat) (q1 : Nat) (q2 : Option Addr) (w : World) (K : Value → World → Prop) : Prop :=
 optM q2 fun a1 =>
 cF_ w a1 fun x2 =>
 fresM (fmul x2 q0) w fun x3 w4 =>
 fresM (fadd x3 q1) w4 fun x5 w6 =>
 K (.float .f64 x5) w6
def S_vector_fit (N : Nums) (P : Program) (q0 : Option Addr) (q0l q0c : Nat) (q1 : Option Addr) (q1l q1c : Nat) (w : World) (K : Value → World → Prop) : Prop :=
 cond (((q0l : Nat) : Int) != ((q1l : Nat) : Int))
 (K (.int .i64 4) w)
 (cond (decide (((q0l : Nat) : Int) > 4096))
  (K (.int .i64 3) w)
  (K (.int .i64 0) w))
def S_k_SameFloat (N : Nums) (P : Program) (q0 : Nat) (q1 : Nat) (w : World) (K : Value → World → Prop) : Prop :=
 CallsX P N.f_math_Float64bits #[.float .f64 q0] w fun v2 w1 =>
 ∃ n3, v2 = (.int .u64 n3) ∧
 CallsX P N.f_math_Float64bits #[.float .f64 q1] w1 fun v5 w4 =>
 ∃ n6, v5 = (.int .u64 n6) ∧
 cond (!(n3 == n6))
 (cond (!feq q0 q0)
  (K (.bool (!feq q1 q1)) w4)
  (K (.bool false) w4))
 (K (.bool true) w4)
def S_round_way (N : Nums) (P : Program) (q0 : Int) (w : World) (K : Value → World → Prop) : Prop :=
 cond (!(decide (q0 < 0)))
 (cond (decide (q0 > 3))
  (K (.int .i8 0) w)
  (K (.int .i8 q0) w))
 (K (.int .i8 0) w)
def S_round_finite (N : Nums) (P : Program) (q0 : Option Addr) (q0l q0c : Nat) (w : World) (K : Value → World → Prop) : Prop :=
 cutM (σ := Unit) (fun J1 =>
  loopM (σ := Int × Unit) (fun s4 X5 w6 =>
   cond (decide (s4.1 < ((q0l : Nat) : Int)))
   ((0 : Int) ≤ s4.1 ∧ s4.1 < (q0l : Nat) ∧
    optM q0 fun a7 =>
    cF_ w6 (a7.add (s4.1.toNat * 1)) fun x8 =>
    CallsX P N.f_math_IsNaN #[.float .f64 x8] w6 fun v10 w9 =>
    vB_ v10 fun b11 =>
    cond (!b11)
    (CallsX P N.f_math_IsInf #[.float .f64 x8, .int .i64 0] w9 fun v13 w12 =>
     vB_ v13 fun b14 =>
     cond b14
     (K (.bool false) w12)
     (X5 ((IntKind.i64.wrap (s4.1 + 1)), ()) w12))
    (K (.bool false) w9))
   (J1 (()) w6))
  (0, ()) w)
 (fun s2 w3 =>
  K (.bool true) w3)
def S_round_none (N : Nums) (P : Program) (q0 : Int) (w : World) (K : Value → World → Prop) : Prop :=
 cond (q0 == 1)
 (CallsX P N.f_math_Copysign #[.float .f64 0, .float .f64 13830554455654793216] w fun v2 w1 =>
  ∃ x3, v2 = (.float .f64 x3) ∧
  K (.float .f64 x3) w1)
 (K (.float .f64 0) w)
def S_round_settle (N : Nums) (P : Program) (q0 : Nat) (q1 : Int) (q2 : Int) (w : World) (K : Value → World → Prop) : Prop :=
 cutM (σ := Int × Unit) (fun J1 =>
  cond (q2 == 3)
  (CallsX P N.f_math_Signbit #[.float .f64 q0] w fun v5 w4 =>
   vB_ v5 fun b6 =>
   cutM (σ := Int × Unit) (fun J7 =>
    cond b6
    (J7 (2, ()) w4)
    (J7 (1, ()) w4))
   (fun s8 w9 =>
    J1 (s8.1, ()) w9))
  (J1 (q2, ()) w))
 (fun s2 w3 =>
  CallsX P N.f_math_IsInf #[.float .f64 q0, .int .i64 0] w3 fun v11 w10 =>
  vB_ v11 fun b12 =>
  cond b12
  (cond (fgt q0 0)
   (cond (!(s2.1 == 1))
    (cond (flt q0 0)
     (cond (s2.1 == 2)
      (CallsX P N.f_math_Copysign #[.float .f64 9218868437227405311, .float .f64 q0] w10 fun v14 w13 =>
       ∃ x15, v14 = (.float .f64 x15) ∧
       K (.float .f64 x15) w13)
      (K (.float .f64 q0) w10))
     (K (.float .f64 q0) w10))
    (CallsX P N.f_math_Copysign #[.float .f64 9218868437227405311, .float .f64 q0] w10 fun v17 w16 =>
     ∃ x18, v17 = (.float .f64 x18) ∧
     K (.float .f64 x18) w16))
   (cond (flt q0 0)
    (cond (s2.1 == 2)
     (CallsX P N.f_math_Copysign #[.float .f64 9218868437227405311, .float .f64 q0] w10 fun v20 w19 =>
      ∃ x21, v20 = (.float .f64 x21) ∧
      K (.float .f64 x21) w19)
     (K (.float .f64 q0) w10))
    (K (.float .f64 q0) w10)))
  (cond (decide (q1 < 0))
   (cond (!(s2.1 == 1))
    (cond (decide (q1 > 0))
     (cond (s2.1 == 2)
      (CallsX P N.f_round_step #[.float .f64 q0, .bool (decide (q1 > 0))] w10 fun v23 w22 =>
       ∃ x24, v23 = (.float .f64 x24) ∧
       K (.float .f64 x24) w22)
      (K (.float .f64 q0) w10))
     (K (.float .f64 q0) w10))
    (CallsX P N.f_round_step #[.float .f64 q0, .bool (decide (q1 > 0))] w10 fun v26 w25 =>
     ∃ x27, v26 = (.float .f64 x27) ∧
     K (.float .f64 x27) w25))
   (cond (decide (q1 > 0))
    (cond (s2.1 == 2)
     (CallsX P N.f_round_step #[.float .f64 q0, .bool (decide (q1 > 0))] w10 fun v29 w28 =>
      ∃ x30, v29 = (.float .f64 x30) ∧
      K (.float .f64 x30) w28)
     (K (.float .f64 q0) w10))
    (K (.float .f64 q0) w10))))
def S_round_sign (N : Nums) (P : Program) (q0 : Nat) (w : World) (K : Value → World → Prop) : Prop :=
 cond (fgt q0 0)
 (K (.int .i64 1) w)
 (cond (flt q0 0)
  (K (.int .i64 (-1)) w)
  (K (.int .i64 0) w))
def S_bI_TrailingZeroBits (N : Nums) (P : Program) (q0 : Option Addr) (w : World) (K : Value → World → Prop) : Prop :=
 optM q0 fun a1 =>
 cS_ w (a1.add 1) fun s2a s2l s2c =>
 cond (((s2l : Nat) : Int) == 0)
 (K (.int .u64 0) w)
 (cutM (σ := Int × Unit) (fun J3 =>
   loopM (σ := Int × Unit) (fun s6 X7 w8 =>
    optM q0 fun a9 =>
    cS_ w8 (a9.add 1) fun s10a s10l s10c =>
    CallsX P N.f_bn_bit #[.slice s10a s10l s10c, .int .i64 (IntKind.i64.wrap s6.1)] w8 fun v12 w11 =>
    ∃ n13, v12 = (.int .u64 n13) ∧
    cond (n13 == 0)
    (X7 ((IntKind.u64.wrap (s6.1 + 1)), ()) w11)
    (J3 (s6.1, ()) w11))
   (0, ()) w)
  (fun s4 w5 =>
   K (.int .u64 s4.1) w5))
def S_bI_BitLen (N : Nums) (P : Program) (q0 : Option Addr) (w : World) (K : Value → World → Prop) : Prop :=
 optM q0 fun a1 =>
 cS_ w (a1.add 1) fun s2a s2l s2c =>
 CallsX P N.f_bn_length #[.slice s2a s2l s2c] w fun v4 w3 =>
 ∃ n5, v4 = (.int .i64 n5) ∧
 K (.int .i64 n5) w3
def S_dyad_limbs (N : Nums) (P : Program) (q0 : Option Addr) (w : World) (K : Value → World → Prop) : Prop :=
 newM #[.bool false, .slice none 0 0] N.t_bn_Int w fun p1 w2 =>
 CallsX P N.f_bI_Abs #[.pointer (some p1), .pointer q0] w2 fun v4 w3 =>
 ∃ p5 : (Option Addr), v4 = (.pointer p5) ∧
 newM #[.bool false, .slice none 0 0] N.t_bn_Int w3 fun p6 w7 =>
 newM #[.bool false, .slice none 0 0] N.t_bn_Int w7 fun p8 w9 =>
 CallsX P N.f_bI_SetUint64 #[.pointer (some p8), .int .u64 18446744073709551615] w9 fun v11 w10 =>
 ∃ p12 : (Option Addr), v11 = (.pointer p12) ∧
 cutM (σ := (Option Addr × Nat × Nat) × Unit) (fun J13 =>
  loopM (σ := (Option Addr × Nat × Nat) × Unit) (fun s16 X17 w18 =>
   CallsX P N.f_bI_Sign #[.pointer p5] w18 fun v20 w19 =>
   ∃ n21, v20 = (.int .i64 n21) ∧
   cond (decide (n21 > 0))
   (CallsX P N.f_bI_And #[.pointer (some p6), .pointer p5, .pointer p12] w19 fun v23 w22 =>
    ∃ p24 : (Option Addr), v23 = (.pointer p24) ∧
    CallsX P N.f_bI_Uint64 #[.pointer p24] w22 fun v26 w25 =>
    ∃ n27, v26 = (.int .u64 n27) ∧
    newM #[.int .u64 n27] N.t_uint64 w25 fun p28 w29 =>
    appM N.t_uint64 1 8 #[.int .u64 0] s16.1.1 s16.1.2.1 s16.1.2.2 (some p28) 1 w29 fun s30a s30l s30c w31 =>
    CallsX P N.f_bI_Rsh #[.pointer p5, .pointer p5, .int .u64 64] w31 fun v33 w32 =>
    ∃ p34 : (Option Addr), v33 = (.pointer p34) ∧
    X17 ((s30a, s30l, s30c), ()) w32)
   (J13 ((s16.1.1, s16.1.2.1, s16.1.2.2), ()) w19))
  ((none, 0, 0), ()) w10)
 (fun s14 w15 =>
  K (.slice s14.1.1 s14.1.2.1 s14.1.2.2) w15)
def S_bI_Rsh (N : Nums) (P : Program) (q0 : Option Addr) (q1 : Option Addr) (q2 : Int) (w : World) (K : Value → World → Prop) : Prop :=
 optM q1 fun a1 =>
 cB_ w a1 fun b2 =>
 cond b2
 (optM q1 fun a3 =>
  cS_ w (a3.add 1) fun s4a s4l s4c =>
  newM #[.int .u32 1] N.t_uint32 w fun p5 w6 =>
  CallsX P N.f_bn_sub #[.slice s4a s4l s4c, .slice (some p5) 1 1] w6 fun v8 w7 =>
  vS_ v8 fun s9a s9l s9c =>
  CallsX P N.f_bn_right #[.slice s9a s9l s9c, .int .u64 q2] w7 fun v11 w10 =>
  vS_ v11 fun s12a s12l s12c =>
  newM #[.int .u32 1] N.t_uint32 w10 fun p13 w14 =>
  CallsX P N.f_bn_add #[.slice s12a s12l s12c, .slice (some p13) 1 1] w14 fun v16 w15 =>
  vS_ v16 fun s17a s17l s17c =>
  CallsX P N.f_bI_give #[.pointer q0, .bool true, .slice s17a s17l s17c] w15 fun v19 w18 =>
  ∃ p20 : (Option Addr), v19 = (.pointer p20) ∧
  K (.pointer p20) w18)
 (optM q1 fun a21 =>
  cS_ w (a21.add 1) fun s22a s22l s22c =>
  CallsX P N.f_bn_right #[.slice s22a s22l s22c, .int .u64 q2] w fun v24 w23 =>
  vS_ v24 fun s25a s25l s25c =>
  CallsX P N.f_bI_give #[.pointer q0, .bool false, .slice s25a s25l s25c] w23 fun v27 w26 =>
  ∃ p28 : (Option Addr), v27 = (.pointer p28) ∧
  K (.pointer p28) w26)
def S_bI_Abs (N : Nums) (P : Program) (q0 : Option Addr) (q1 : Option Addr) (w : World) (K : Value → World → Prop) : Prop :=
 optM q1 fun a1 =>
 cS_ w (a1.add 1) fun s2a s2l s2c =>
 CallsX P N.f_bn_twin #[.slice s2a s2l s2c] w fun v4 w3 =>
 vS_ v4 fun s5a s5l s5c =>
 CallsX P N.f_bI_give #[.pointer q0, .bool false, .slice s5a s5l s5c] w3 fun v7 w6 =>
 ∃ p8 : (Option Addr), v7 = (.pointer p8) ∧
 K (.pointer p8) w6
def S_bI_SetInt64 (N : Nums) (P : Program) (q0 : Option Addr) (q1 : Int) (w : World) (K : Value → World → Prop) : Prop :=
 cutM (σ := Int × Unit) (fun J1 =>
  cond (decide (q1 < 0))
  (J1 ((IntKind.u64.wrap (0 - (IntKind.u64.wrap q1))), ()) w)
  (J1 ((IntKind.u64.wrap q1), ()) w))
 (fun s2 w3 =>
  CallsX P N.f_bn_words #[.int .u64 s2.1] w3 fun v5 w4 =>
  vS_ v5 fun s6a s6l s6c =>
  CallsX P N.f_bI_give #[.pointer q0, .bool (decide (q1 < 0)), .slice s6a s6l s6c] w4 fun v8 w7 =>
  ∃ p9 : (Option Addr), v8 = (.pointer p9) ∧
  K (.pointer p9) w7)
def S_bits_Kind (N : Nums) (P : Program) (q0 : Nat) (w : World) (K : Value → World → Prop) : Prop :=
 CallsX P N.f_math_Abs #[.float .f64 q0] w fun v2 w1 =>
 ∃ x3, v2 = (.float .f64 x3) ∧
 cond (!feq q0 q0)
 (K (.int .i64 4) w1)
 (CallsX P N.f_math_IsInf #[.float .f64 q0, .int .i64 0] w1 fun v5 w4 =>
  vB_ v5 fun b6 =>
  cond b6
  (K (.int .i64 3) w4)
  (cond (fgt x3 4503599627370496 || feq x3 4503599627370496)
   (K (.int .i64 2) w4)
   (cond (fgt x3 0)
    (K (.int .i64 1) w4)
    (K (.int .i64 0) w4))))
def S_math_Frexp (N : Nums) (P : Program) (q0 : Nat) (w : World) (K : Value → World → Prop) : Prop :=
 CallsX P N.f_math_frexp #[.float .f64 q0] w fun v2 w1 =>
 ∃ x3, ∃ n4, v2 = (.tuple #[.float .f64 x3, .int .i64 n4]) ∧
 K (.tuple #[.float .f64 x3, .int .i64 n4]) w1
def S_math_Ldexp (N : Nums) (P : Program) (q0 : Nat) (q1 : Int) (w : World) (K : Value → World → Prop) : Prop :=
 CallsX P N.f_math_ldexp #[.float .f64 q0, .int .i64 q1] w fun v2 w1 =>
 ∃ x3, v2 = (.float .f64 x3) ∧
 K (.float .f64 x3) w1
def S_math_bits_TrailingZeros64 (N : Nums) (P : Program) (q0 : Int) (w : World) (K : Value → World → Prop) : Prop :=
 cond (q0 == 0)
 (K (.int .i64 64) w)
 ((0 : Int) ≤ 58 ∧
  (0 : Int) ≤ ((IntKind.u64.wrap ((IntKind.u64.wrap (BitVec.ofInt IntKind.u64.bits q0 &&& BitVec.ofInt IntKind.u64.bits (IntKind.u64.wrap (0 - q0))).toNat) * 285870213051353865)).fdiv (2 ^ (min (58 : Int).toNat IntKind.u64.bits))) ∧ ((IntKind.u64.wrap ((IntKind.u64.wrap (BitVec.ofInt IntKind.u64.bits q0 &&& BitVec.ofInt IntKind.u64.bits (IntKind.u64.wrap (0 - q0))).toNat) * 285870213051353865)).fdiv (2 ^ (min (58 : Int).toNat IntKind.u64.bits))) < (64 : Nat) ∧
  ∃ n1, w.cell? ((⟨N.g_1, 0, none⟩ : Addr).add (((IntKind.u64.wrap ((IntKind.u64.wrap (BitVec.ofInt IntKind.u64.bits q0 &&& BitVec.ofInt IntKind.u64.bits (IntKind.u64.wrap (0 - q0))).toNat) * 285870213051353865)).fdiv (2 ^ (min (58 : Int).toNat IntKind.u64.bits))).toNat * 1)) = some (.int .u8 n1) ∧
  K (.int .i64 (IntKind.i64.wrap n1)) w)
def S_bI_Or (N : Nums) (P : Program) (q0 : Option Addr) (q1 : Option Addr) (q2 : Option Addr) (w : World) (K : Value → World → Prop) : Prop :=
 optM q1 fun a1 =>
 cS_ w (a1.add 1) fun s2a s2l s2c =>
 optM q2 fun a3 =>
 cS_ w (a3.add 1) fun s4a s4l s4c =>
 drM w fun w5 =>
 CallsX P N.f_bI_low #[.pointer q1, .int .i64 (IntKind.i64.wrap ((if ((s4l : Nat) : Int) > ((s2l : Nat) : Int) then ((s4l : Nat) : Int) else ((s2l : Nat) : Int)) + 1))] w5 fun v7 w6 =>
 vS_ v7 fun s8a s8l s8c =>
 CallsX P N.f_bI_low #[.pointer q2, .int .i64 (IntKind.i64.wrap ((if ((s4l : Nat) : Int) > ((s2l : Nat) : Int) then ((s4l : Nat) : Int) else ((s2l : Nat) : Int)) + 1))] w6 fun v10 w9 =>
 vS_ v10 fun s11a s11l s11c =>
 cutM (σ := Unit) (fun J12 =>
  loopM (σ := Int × Unit) (fun s15 X16 w17 =>
   cond (decide (s15.1 < (IntKind.i64.wrap ((if ((s4l : Nat) : Int) > ((s2l : Nat) : Int) then ((s4l : Nat) : Int) else ((s2l : Nat) : Int)) + 1))))
   ((0 : Int) ≤ s15.1 ∧ s15.1 < (s8l : Nat) ∧
    optM s8a fun a18 =>
    cW_ w17 (a18.add (s15.1.toNat * 1)) fun n19 =>
    (0 : Int) ≤ s15.1 ∧ s15.1 < (s11l : Nat) ∧
    optM s11a fun a20 =>
    cW_ w17 (a20.add (s15.1.toNat * 1)) fun n21 =>
    (0 : Int) ≤ s15.1 ∧ s15.1 < (s8l : Nat) ∧
    optM s8a fun a22 =>
    drM w17 fun w23 =>
    stM (a22.add (s15.1.toNat * 1)) (.int .u32 (IntKind.u32.wrap (BitVec.ofInt IntKind.u32.bits n19 ||| BitVec.ofInt IntKind.u32.bits n21).toNat)) w23 fun w24 =>
    drM w24 fun w25 =>
    X16 ((IntKind.i64.wrap (s15.1 + 1)), ()) w25)
   (J12 (()) w17))
  (0, ()) w9)
 (fun s13 w14 =>
  CallsX P N.f_bI_of #[.pointer q0, .slice s8a s8l s8c] w14 fun v27 w26 =>
  ∃ p28 : (Option Addr), v27 = (.pointer p28) ∧
  K (.pointer p28) w26)
def S_bI_SetUint64 (N : Nums) (P : Program) (q0 : Option Addr) (q1 : Int) (w : World) (K : Value → World → Prop) : Prop :=
 CallsX P N.f_bn_words #[.int .u64 q1] w fun v2 w1 =>
 vS_ v2 fun s3a s3l s3c =>
 CallsX P N.f_bI_give #[.pointer q0, .bool false, .slice s3a s3l s3c] w1 fun v5 w4 =>
 ∃ p6 : (Option Addr), v5 = (.pointer p6) ∧
 K (.pointer p6) w4
def S_bI_Neg (N : Nums) (P : Program) (q0 : Option Addr) (q1 : Option Addr) (w : World) (K : Value → World → Prop) : Prop :=
 optM q1 fun a1 =>
 cB_ w a1 fun b2 =>
 optM q1 fun a3 =>
 cS_ w (a3.add 1) fun s4a s4l s4c =>
 drM w fun w5 =>
 CallsX P N.f_bn_twin #[.slice s4a s4l s4c] w5 fun v7 w6 =>
 vS_ v7 fun s8a s8l s8c =>
 w6.cell? a1 = some (.bool b2) ∧
 drM w6 fun w9 =>
 CallsX P N.f_bI_give #[.pointer q0, .bool (!b2), .slice s8a s8l s8c] w9 fun v11 w10 =>
 ∃ p12 : (Option Addr), v11 = (.pointer p12) ∧
 drM w10 fun w13 =>
 K (.pointer p12) w13
def S_bI_give (N : Nums) (P : Program) (q0 : Option Addr) (q1 : Bool) (q2 : Option Addr) (q2l q2c : Nat) (w : World) (K : Value → World → Prop) : Prop :=
 optM q0 fun a1 =>
 stM (a1.add 1) (.slice q2 q2l q2c) w fun w2 =>
 cond q1
 (optM q0 fun a3 =>
  stM a3 (.bool (decide (((q2l : Nat) : Int) > 0))) w2 fun w4 =>
  K (.pointer q0) w4)
 (optM q0 fun a5 =>
  stM a5 (.bool false) w2 fun w6 =>
  K (.pointer q0) w6)
def S_bn_sum (N : Nums) (P : Program) (q0 : Bool) (q1 : Option Addr) (q1l q1c : Nat) (q2 : Bool) (q3 : Option Addr) (q3l q3c : Nat) (w : World) (K : Value → World → Prop) : Prop :=
 cond (q0 == q2)
 (CallsX P N.f_bn_add #[.slice q1 q1l q1c, .slice q3 q3l q3c] w fun v2 w1 =>
  vS_ v2 fun s3a s3l s3c =>
  K (.tuple #[.bool q0, .slice s3a s3l s3c]) w1)
 (CallsX P N.f_bn_cmp #[.slice q1 q1l q1c, .slice q3 q3l q3c] w fun v5 w4 =>
  ∃ n6, v5 = (.int .i64 n6) ∧
  cond (decide (n6 ≥ 0))
  (CallsX P N.f_bn_sub #[.slice q1 q1l q1c, .slice q3 q3l q3c] w4 fun v8 w7 =>
   vS_ v8 fun s9a s9l s9c =>
   K (.tuple #[.bool q0, .slice s9a s9l s9c]) w7)
  (CallsX P N.f_bn_sub #[.slice q3 q3l q3c, .slice q1 q1l q1c] w4 fun v11 w10 =>
   vS_ v11 fun s12a s12l s12c =>
   K (.tuple #[.bool q2, .slice s12a s12l s12c]) w10))
def S_bn_left (N : Nums) (P : Program) (q0 : Option Addr) (q0l q0c : Nat) (q1 : Int) (w : World) (K : Value → World → Prop) : Prop :=
 cond (((q0l : Nat) : Int) == 0)
 (K (.slice none 0 0) w)
 ((32 : Int) ≠ 0 ∧
  (32 : Int) ≠ 0 ∧
  mkM N.t_uint32 1 4 #[.int .u32 0] (IntKind.i64.wrap ((IntKind.i64.wrap (((q0l : Nat) : Int) + (IntKind.i64.wrap (IntKind.u64.wrap (q1.tdiv 32))))) + 1)) (IntKind.i64.wrap ((IntKind.i64.wrap (((q0l : Nat) : Int) + (IntKind.i64.wrap (IntKind.u64.wrap (q1.tdiv 32))))) + 1)) w fun p1 w2 =>
  cutM (σ := Unit) (fun J3 =>
   loopM (σ := Int × Unit) (fun s6 X7 w8 =>
    cond (decide (s6.1 < ((q0l : Nat) : Int)))
    ((0 : Int) ≤ s6.1 ∧ s6.1 < (q0l : Nat) ∧
     optM q0 fun a9 =>
     cW_ w8 (a9.add (s6.1.toNat * 1)) fun n10 =>
     (0 : Int) ≤ (q1.tmod 32) ∧
     (0 : Int) ≤ (IntKind.i64.wrap (s6.1 + (IntKind.i64.wrap (IntKind.u64.wrap (q1.tdiv 32))))) ∧ (IntKind.i64.wrap (s6.1 + (IntKind.i64.wrap (IntKind.u64.wrap (q1.tdiv 32))))) < ((IntKind.i64.wrap ((IntKind.i64.wrap (((q0l : Nat) : Int) + (IntKind.i64.wrap (IntKind.u64.wrap (q1.tdiv 32))))) + 1)).toNat : Nat) ∧
     ∃ n11, w8.cell? (p1.add ((IntKind.i64.wrap (s6.1 + (IntKind.i64.wrap (IntKind.u64.wrap (q1.tdiv 32))))).toNat * 1)) = some (.int .u32 n11) ∧
     (0 : Int) ≤ (IntKind.i64.wrap (s6.1 + (IntKind.i64.wrap (IntKind.u64.wrap (q1.tdiv 32))))) ∧ (IntKind.i64.wrap (s6.1 + (IntKind.i64.wrap (IntKind.u64.wrap (q1.tdiv 32))))) < ((IntKind.i64.wrap ((IntKind.i64.wrap (((q0l : Nat) : Int) + (IntKind.i64.wrap (IntKind.u64.wrap (q1.tdiv 32))))) + 1)).toNat : Nat) ∧
     stM (p1.add ((IntKind.i64.wrap (s6.1 + (IntKind.i64.wrap (IntKind.u64.wrap (q1.tdiv 32))))).toNat * 1)) (.int .u32 (IntKind.u32.wrap (BitVec.ofInt IntKind.u32.bits n11 ||| BitVec.ofInt IntKind.u32.bits (IntKind.u32.wrap (IntKind.u64.wrap ((IntKind.u64.wrap n10) * 2 ^ (min (q1.tmod 32).toNat IntKind.u64.bits))))).toNat)) w8 fun w12 =>
     (0 : Int) ≤ (IntKind.i64.wrap ((IntKind.i64.wrap (s6.1 + (IntKind.i64.wrap (IntKind.u64.wrap (q1.tdiv 32))))) + 1)) ∧ (IntKind.i64.wrap ((IntKind.i64.wrap (s6.1 + (IntKind.i64.wrap (IntKind.u64.wrap (q1.tdiv 32))))) + 1)) < ((IntKind.i64.wrap ((IntKind.i64.wrap (((q0l : Nat) : Int) + (IntKind.i64.wrap (IntKind.u64.wrap (q1.tdiv 32))))) + 1)).toNat : Nat) ∧
     ∃ n13, w12.cell? (p1.add ((IntKind.i64.wrap ((IntKind.i64.wrap (s6.1 + (IntKind.i64.wrap (IntKind.u64.wrap (q1.tdiv 32))))) + 1)).toNat * 1)) = some (.int .u32 n13) ∧
     (0 : Int) ≤ 32 ∧
     (0 : Int) ≤ (IntKind.i64.wrap ((IntKind.i64.wrap (s6.1 + (IntKind.i64.wrap (IntKind.u64.wrap (q1.tdiv 32))))) + 1)) ∧ (IntKind.i64.wrap ((IntKind.i64.wrap (s6.1 + (IntKind.i64.wrap (IntKind.u64.wrap (q1.tdiv 32))))) + 1)) < ((IntKind.i64.wrap ((IntKind.i64.wrap (((q0l : Nat) : Int) + (IntKind.i64.wrap (IntKind.u64.wrap (q1.tdiv 32))))) + 1)).toNat : Nat) ∧
     stM (p1.add ((IntKind.i64.wrap ((IntKind.i64.wrap (s6.1 + (IntKind.i64.wrap (IntKind.u64.wrap (q1.tdiv 32))))) + 1)).toNat * 1)) (.int .u32 (IntKind.u32.wrap (BitVec.ofInt IntKind.u32.bits n13 ||| BitVec.ofInt IntKind.u32.bits (IntKind.u32.wrap ((IntKind.u64.wrap ((IntKind.u64.wrap n10) * 2 ^ (min (q1.tmod 32).toNat IntKind.u64.bits))).fdiv (2 ^ (min (32 : Int).toNat IntKind.u64.bits))))).toNat)) w12 fun w14 =>
     X7 ((IntKind.i64.wrap (s6.1 + 1)), ()) w14)
    (J3 (()) w8))
   (0, ()) w2)
  (fun s4 w5 =>
   CallsX P N.f_bn_trim #[.slice (some p1) ((IntKind.i64.wrap ((IntKind.i64.wrap (((q0l : Nat) : Int) + (IntKind.i64.wrap (IntKind.u64.wrap (q1.tdiv 32))))) + 1)).toNat) ((IntKind.i64.wrap ((IntKind.i64.wrap (((q0l : Nat) : Int) + (IntKind.i64.wrap (IntKind.u64.wrap (q1.tdiv 32))))) + 1)).toNat)] w5 fun v16 w15 =>
   vS_ v16 fun s17a s17l s17c =>
   K (.slice s17a s17l s17c) w15))
def S_bn_cmp (N : Nums) (P : Program) (q0 : Option Addr) (q0l q0c : Nat) (q1 : Option Addr) (q1l q1c : Nat) (w : World) (K : Value → World → Prop) : Prop :=
 cond (((q0l : Nat) : Int) != ((q1l : Nat) : Int))
 (cond (decide (((q0l : Nat) : Int) < ((q1l : Nat) : Int)))
  (K (.int .i64 (-1)) w)
  (K (.int .i64 1) w))
 (cutM (σ := Unit) (fun J1 =>
   loopM (σ := Int × Unit) (fun s4 X5 w6 =>
    cond (decide (s4.1 ≥ 0))
    ((0 : Int) ≤ s4.1 ∧ s4.1 < (q0l : Nat) ∧
     optM q0 fun a7 =>
     cW_ w6 (a7.add (s4.1.toNat * 1)) fun n8 =>
     (0 : Int) ≤ s4.1 ∧ s4.1 < (q1l : Nat) ∧
     optM q1 fun a9 =>
     cW_ w6 (a9.add (s4.1.toNat * 1)) fun n10 =>
     drM w6 fun w11 =>
     cond (n8 != n10)
     ((0 : Int) ≤ s4.1 ∧ s4.1 < (q0l : Nat) ∧
      optM q0 fun a12 =>
      cW_ w11 (a12.add (s4.1.toNat * 1)) fun n13 =>
      (0 : Int) ≤ s4.1 ∧ s4.1 < (q1l : Nat) ∧
      optM q1 fun a14 =>
      cW_ w11 (a14.add (s4.1.toNat * 1)) fun n15 =>
      drM w11 fun w16 =>
      cond (decide (n13 < n15))
      (K (.int .i64 (-1)) w16)
      (K (.int .i64 1) w16))
     (X5 ((IntKind.i64.wrap (s4.1 - 1)), ()) w11))
    (J1 (()) w6))
   ((IntKind.i64.wrap (((q0l : Nat) : Int) - 1)), ()) w)
  (fun s2 w3 =>
   K (.int .i64 0) w3))
def S_bn_mul (N : Nums) (P : Program) (q0 : Option Addr) (q0l q0c : Nat) (q1 : Option Addr) (q1l q1c : Nat) (w : World) (K : Value → World → Prop) : Prop :=
 cutM (σ := Bool × Unit) (fun J1 =>
  cond (!(((q0l : Nat) : Int) == 0))
  (J1 ((((q1l : Nat) : Int) == 0), ()) w)
  (J1 (true, ()) w))
 (fun s2 w3 =>
  cond s2.1
  (K (.slice none 0 0) w3)
  (mkM N.t_uint32 1 4 #[.int .u32 0] (IntKind.i64.wrap (((q0l : Nat) : Int) + ((q1l : Nat) : Int))) (IntKind.i64.wrap (((q0l : Nat) : Int) + ((q1l : Nat) : Int))) w3 fun p4 w5 =>
   cutM (σ := Unit) (fun J6 =>
    loopM (σ := Int × Unit) (fun s9 X10 w11 =>
     cond (decide (s9.1 < ((q0l : Nat) : Int)))
     (cutM (σ := Int × Unit) (fun J12 =>
       loopM (σ := Int × Int × Unit) (fun s15 X16 w17 =>
        cond (decide (s15.2.1 < ((q1l : Nat) : Int)))
        ((0 : Int) ≤ s9.1 ∧ s9.1 < (q0l : Nat) ∧
         optM q0 fun a18 =>
         cW_ w17 (a18.add (s9.1.toNat * 1)) fun n19 =>
         (0 : Int) ≤ s15.2.1 ∧ s15.2.1 < (q1l : Nat) ∧
         optM q1 fun a20 =>
         cW_ w17 (a20.add (s15.2.1.toNat * 1)) fun n21 =>
         (0 : Int) ≤ (IntKind.i64.wrap (s9.1 + s15.2.1)) ∧ (IntKind.i64.wrap (s9.1 + s15.2.1)) < ((IntKind.i64.wrap (((q0l : Nat) : Int) + ((q1l : Nat) : Int))).toNat : Nat) ∧
         ∃ n22, w17.cell? (p4.add ((IntKind.i64.wrap (s9.1 + s15.2.1)).toNat * 1)) = some (.int .u32 n22) ∧
         drM w17 fun w23 =>
         (0 : Int) ≤ (IntKind.i64.wrap (s9.1 + s15.2.1)) ∧ (IntKind.i64.wrap (s9.1 + s15.2.1)) < ((IntKind.i64.wrap (((q0l : Nat) : Int) + ((q1l : Nat) : Int))).toNat : Nat) ∧
         stM (p4.add ((IntKind.i64.wrap (s9.1 + s15.2.1)).toNat * 1)) (.int .u32 (IntKind.u32.wrap (IntKind.u64.wrap (s15.1 + (IntKind.u64.wrap ((IntKind.u64.wrap ((IntKind.u64.wrap n19) * (IntKind.u64.wrap n21))) + (IntKind.u64.wrap n22))))))) w23 fun w24 =>
         (0 : Int) ≤ 32 ∧
         X16 (((IntKind.u64.wrap (s15.1 + (IntKind.u64.wrap ((IntKind.u64.wrap ((IntKind.u64.wrap n19) * (IntKind.u64.wrap n21))) + (IntKind.u64.wrap n22))))).fdiv (2 ^ (min (32 : Int).toNat IntKind.u64.bits))), (IntKind.i64.wrap (s15.2.1 + 1)), ()) w24)
        (J12 (s15.1, ()) w17))
       (0, 0, ()) w11)
      (fun s13 w14 =>
       (0 : Int) ≤ (IntKind.i64.wrap (s9.1 + ((q1l : Nat) : Int))) ∧ (IntKind.i64.wrap (s9.1 + ((q1l : Nat) : Int))) < ((IntKind.i64.wrap (((q0l : Nat) : Int) + ((q1l : Nat) : Int))).toNat : Nat) ∧
       stM (p4.add ((IntKind.i64.wrap (s9.1 + ((q1l : Nat) : Int))).toNat * 1)) (.int .u32 (IntKind.u32.wrap s13.1)) w14 fun w25 =>
       X10 ((IntKind.i64.wrap (s9.1 + 1)), ()) w25))
     (J6 (()) w11))
    (0, ()) w5)
   (fun s7 w8 =>
    CallsX P N.f_bn_trim #[.slice (some p4) ((IntKind.i64.wrap (((q0l : Nat) : Int) + ((q1l : Nat) : Int))).toNat) ((IntKind.i64.wrap (((q0l : Nat) : Int) + ((q1l : Nat) : Int))).toNat)] w8 fun v27 w26 =>
    vS_ v27 fun s28a s28l s28c =>
    K (.slice s28a s28l s28c) w26)))
def S_round_step (N : Nums) (P : Program) (q0 : Nat) (q1 : Bool) (w : World) (K : Value → World → Prop) : Prop :=
 CallsX P N.f_math_Float64bits #[.float .f64 q0] w fun v2 w1 =>
 ∃ n3, v2 = (.int .u64 n3) ∧
 cutM (σ := Int × Unit) (fun J4 =>
  cutM (σ := Int × Unit) (fun J7 =>
   cond (feq q0 0)
   (cutM (σ := Int × Unit) (fun J10 =>
     cond (!q1)
     (J10 ((IntKind.u64.wrap (BitVec.ofInt IntKind.u64.bits 1 ||| BitVec.ofInt IntKind.u64.bits 9223372036854775808).toNat), ()) w1)
     (J10 (1, ()) w1))
    (fun s11 w12 =>
     J7 (s11.1, ()) w12))
   (cutM (σ := Int × Unit) (fun J13 =>
     cond (q1 == (fgt q0 0))
     (J13 ((IntKind.u64.wrap (n3 + 1)), ()) w1)
     (J13 ((IntKind.u64.wrap (n3 - 1)), ()) w1))
    (fun s14 w15 =>
     J7 (s14.1, ()) w15)))
  (fun s8 w9 =>
   J4 (s8.1, ()) w9))
 (fun s5 w6 =>
  CallsX P N.f_math_Float64frombits #[.int .u64 s5.1] w6 fun v17 w16 =>
  ∃ x18, v17 = (.float .f64 x18) ∧
  K (.float .f64 x18) w16)
def S_bn_bit (N : Nums) (P : Program) (q0 : Option Addr) (q0l q0c : Nat) (q1 : Int) (w : World) (K : Value → World → Prop) : Prop :=
 cond (!(decide (q1 < 0)))
 ((32 : Int) ≠ 0 ∧
  cond (decide ((IntKind.i64.wrap (q1.tdiv 32)) ≥ ((q0l : Nat) : Int)))
  (K (.int .u64 0) w)
  ((32 : Int) ≠ 0 ∧
   (0 : Int) ≤ (IntKind.i64.wrap (q1.tdiv 32)) ∧ (IntKind.i64.wrap (q1.tdiv 32)) < (q0l : Nat) ∧
   optM q0 fun a1 =>
   ∃ n2, w.cell? (a1.add ((IntKind.i64.wrap (q1.tdiv 32)).toNat * 1)) = some (.int .u32 n2) ∧
   (32 : Int) ≠ 0 ∧
   (0 : Int) ≤ ((IntKind.u64.wrap q1).tmod 32) ∧
   K (.int .u64 (IntKind.u64.wrap (BitVec.ofInt IntKind.u64.bits (IntKind.u64.wrap (n2.fdiv (2 ^ (min ((IntKind.u64.wrap q1).tmod 32).toNat IntKind.u32.bits)))) &&& BitVec.ofInt IntKind.u64.bits 1).toNat)) w))
 (K (.int .u64 0) w)
def S_bn_length (N : Nums) (P : Program) (q0 : Option Addr) (q0l q0c : Nat) (w : World) (K : Value → World → Prop) : Prop :=
 cond (((q0l : Nat) : Int) == 0)
 (K (.int .i64 0) w)
 ((0 : Int) ≤ (IntKind.i64.wrap (((q0l : Nat) : Int) - 1)) ∧ (IntKind.i64.wrap (((q0l : Nat) : Int) - 1)) < (q0l : Nat) ∧
  optM q0 fun a1 =>
  ∃ n2, w.cell? (a1.add ((IntKind.i64.wrap (((q0l : Nat) : Int) - 1)).toNat * 1)) = some (.int .u32 n2) ∧
  cutM (σ := Int × Unit) (fun J3 =>
   loopM (σ := Int × Int × Unit) (fun s6 X7 w8 =>
    cond (s6.2.1 != 0)
    ((0 : Int) ≤ 1 ∧
     X7 ((IntKind.i64.wrap (s6.1 + 1)), (s6.2.1.fdiv (2 ^ (min (1 : Int).toNat IntKind.u32.bits))), ()) w8)
    (J3 (s6.1, ()) w8))
   (0, n2, ()) w)
  (fun s4 w5 =>
   K (.int .i64 (IntKind.i64.wrap ((IntKind.i64.wrap ((IntKind.i64.wrap (((q0l : Nat) : Int) - 1)) * 32)) + s4.1))) w5))
def S_bI_And (N : Nums) (P : Program) (q0 : Option Addr) (q1 : Option Addr) (q2 : Option Addr) (w : World) (K : Value → World → Prop) : Prop :=
 optM q1 fun a1 =>
 cS_ w (a1.add 1) fun s2a s2l s2c =>
 optM q2 fun a3 =>
 cS_ w (a3.add 1) fun s4a s4l s4c =>
 drM w fun w5 =>
 CallsX P N.f_bI_low #[.pointer q1, .int .i64 (IntKind.i64.wrap ((if ((s4l : Nat) : Int) > ((s2l : Nat) : Int) then ((s4l : Nat) : Int) else ((s2l : Nat) : Int)) + 1))] w5 fun v7 w6 =>
 vS_ v7 fun s8a s8l s8c =>
 CallsX P N.f_bI_low #[.pointer q2, .int .i64 (IntKind.i64.wrap ((if ((s4l : Nat) : Int) > ((s2l : Nat) : Int) then ((s4l : Nat) : Int) else ((s2l : Nat) : Int)) + 1))] w6 fun v10 w9 =>
 vS_ v10 fun s11a s11l s11c =>
 cutM (σ := Unit) (fun J12 =>
  loopM (σ := Int × Unit) (fun s15 X16 w17 =>
   cond (decide (s15.1 < (IntKind.i64.wrap ((if ((s4l : Nat) : Int) > ((s2l : Nat) : Int) then ((s4l : Nat) : Int) else ((s2l : Nat) : Int)) + 1))))
   ((0 : Int) ≤ s15.1 ∧ s15.1 < (s8l : Nat) ∧
    optM s8a fun a18 =>
    cW_ w17 (a18.add (s15.1.toNat * 1)) fun n19 =>
    (0 : Int) ≤ s15.1 ∧ s15.1 < (s11l : Nat) ∧
    optM s11a fun a20 =>
    cW_ w17 (a20.add (s15.1.toNat * 1)) fun n21 =>
    (0 : Int) ≤ s15.1 ∧ s15.1 < (s8l : Nat) ∧
    optM s8a fun a22 =>
    drM w17 fun w23 =>
    stM (a22.add (s15.1.toNat * 1)) (.int .u32 (IntKind.u32.wrap (BitVec.ofInt IntKind.u32.bits n19 &&& BitVec.ofInt IntKind.u32.bits n21).toNat)) w23 fun w24 =>
    drM w24 fun w25 =>
    X16 ((IntKind.i64.wrap (s15.1 + 1)), ()) w25)
   (J12 (()) w17))
  (0, ()) w9)
 (fun s13 w14 =>
  CallsX P N.f_bI_of #[.pointer q0, .slice s8a s8l s8c] w14 fun v27 w26 =>
  ∃ p28 : (Option Addr), v27 = (.pointer p28) ∧
  K (.pointer p28) w26)
def S_bI_Uint64 (N : Nums) (P : Program) (q0 : Option Addr) (w : World) (K : Value → World → Prop) : Prop :=
 optM q0 fun a1 =>
 cS_ w (a1.add 1) fun s2a s2l s2c =>
 cutM (σ := Int × Unit) (fun J3 =>
  cond (decide (((s2l : Nat) : Int) > 0))
  (optM q0 fun a6 =>
   cS_ w (a6.add 1) fun s7a s7l s7c =>
   (0 : Int) ≤ (0 : Int) ∧ (0 : Int) < (s7l : Nat) ∧
   optM s7a fun a8 =>
   cW_ w (a8.add ((0 : Int).toNat * 1)) fun n9 =>
   J3 ((IntKind.u64.wrap n9), ()) w)
  (J3 (0, ()) w))
 (fun s4 w5 =>
  optM q0 fun a10 =>
  cS_ w5 (a10.add 1) fun s11a s11l s11c =>
  cutM (σ := Int × Unit) (fun J12 =>
   cond (decide (((s11l : Nat) : Int) > 1))
   (optM q0 fun a15 =>
    cS_ w5 (a15.add 1) fun s16a s16l s16c =>
    (0 : Int) ≤ (1 : Int) ∧ (1 : Int) < (s16l : Nat) ∧
    optM s16a fun a17 =>
    cW_ w5 (a17.add ((1 : Int).toNat * 1)) fun n18 =>
    (0 : Int) ≤ 32 ∧
    J12 ((IntKind.u64.wrap (BitVec.ofInt IntKind.u64.bits s4.1 ||| BitVec.ofInt IntKind.u64.bits (IntKind.u64.wrap ((IntKind.u64.wrap n18) * 2 ^ (min (32 : Int).toNat IntKind.u64.bits)))).toNat), ()) w5)
   (J12 (s4.1, ()) w5))
  (fun s13 w14 =>
   K (.int .u64 s13.1) w14))
def S_bn_add (N : Nums) (P : Program) (q0 : Option Addr) (q0l q0c : Nat) (q1 : Option Addr) (q1l q1c : Nat) (w : World) (K : Value → World → Prop) : Prop :=
 cutM (σ := (Option Addr × Nat × Nat) × (Option Addr × Nat × Nat) × Unit) (fun J1 =>
  cond (decide (((q0l : Nat) : Int) < ((q1l : Nat) : Int)))
  (J1 ((q1, q1l, q1c), (q0, q0l, q0c), ()) w)
  (J1 ((q0, q0l, q0c), (q1, q1l, q1c), ()) w))
 (fun s2 w3 =>
  mkM N.t_uint32 1 4 #[.int .u32 0] (IntKind.i64.wrap (((s2.1.2.1 : Nat) : Int) + 1)) (IntKind.i64.wrap (((s2.1.2.1 : Nat) : Int) + 1)) w3 fun p4 w5 =>
  cutM (σ := Int × Unit) (fun J6 =>
   loopM (σ := Int × Int × Unit) (fun s9 X10 w11 =>
    cond (decide (s9.2.1 < ((s2.1.2.1 : Nat) : Int)))
    ((0 : Int) ≤ s9.2.1 ∧ s9.2.1 < (s2.1.2.1 : Nat) ∧
     optM s2.1.1 fun a12 =>
     cW_ w11 (a12.add (s9.2.1.toNat * 1)) fun n13 =>
     cutM (σ := Int × Unit) (fun J14 =>
      cond (decide (s9.2.1 < ((s2.2.1.2.1 : Nat) : Int)))
      ((0 : Int) ≤ s9.2.1 ∧ s9.2.1 < (s2.2.1.2.1 : Nat) ∧
       optM s2.2.1.1 fun a17 =>
       cW_ w11 (a17.add (s9.2.1.toNat * 1)) fun n18 =>
       J14 ((IntKind.u64.wrap ((IntKind.u64.wrap (s9.1 + (IntKind.u64.wrap n13))) + (IntKind.u64.wrap n18))), ()) w11)
      (J14 ((IntKind.u64.wrap (s9.1 + (IntKind.u64.wrap n13))), ()) w11))
     (fun s15 w16 =>
      (0 : Int) ≤ s9.2.1 ∧ s9.2.1 < ((IntKind.i64.wrap (((s2.1.2.1 : Nat) : Int) + 1)).toNat : Nat) ∧
      stM (p4.add (s9.2.1.toNat * 1)) (.int .u32 (IntKind.u32.wrap s15.1)) w16 fun w19 =>
      (0 : Int) ≤ 32 ∧
      X10 ((s15.1.fdiv (2 ^ (min (32 : Int).toNat IntKind.u64.bits))), (IntKind.i64.wrap (s9.2.1 + 1)), ()) w19))
    (J6 (s9.1, ()) w11))
   (0, 0, ()) w5)
  (fun s7 w8 =>
   (0 : Int) ≤ ((s2.1.2.1 : Nat) : Int) ∧ ((s2.1.2.1 : Nat) : Int) < ((IntKind.i64.wrap (((s2.1.2.1 : Nat) : Int) + 1)).toNat : Nat) ∧
   stM (p4.add (((s2.1.2.1 : Nat) : Int).toNat * 1)) (.int .u32 (IntKind.u32.wrap s7.1)) w8 fun w20 =>
   CallsX P N.f_bn_trim #[.slice (some p4) ((IntKind.i64.wrap (((s2.1.2.1 : Nat) : Int) + 1)).toNat) ((IntKind.i64.wrap (((s2.1.2.1 : Nat) : Int) + 1)).toNat)] w20 fun v22 w21 =>
   vS_ v22 fun s23a s23l s23c =>
   K (.slice s23a s23l s23c) w21))
def S_bn_right (N : Nums) (P : Program) (q0 : Option Addr) (q0l q0c : Nat) (q1 : Int) (w : World) (K : Value → World → Prop) : Prop :=
 (32 : Int) ≠ 0 ∧
 (32 : Int) ≠ 0 ∧
 cond (decide ((IntKind.i64.wrap (IntKind.u64.wrap (q1.tdiv 32))) ≥ ((q0l : Nat) : Int)))
 (K (.slice none 0 0) w)
 (mkM N.t_uint32 1 4 #[.int .u32 0] (IntKind.i64.wrap (((q0l : Nat) : Int) - (IntKind.i64.wrap (IntKind.u64.wrap (q1.tdiv 32))))) (IntKind.i64.wrap (((q0l : Nat) : Int) - (IntKind.i64.wrap (IntKind.u64.wrap (q1.tdiv 32))))) w fun p1 w2 =>
  cutM (σ := Unit) (fun J3 =>
   loopM (σ := Int × Unit) (fun s6 X7 w8 =>
    cond (decide (s6.1 < (((IntKind.i64.wrap (((q0l : Nat) : Int) - (IntKind.i64.wrap (IntKind.u64.wrap (q1.tdiv 32))))).toNat : Nat) : Int)))
    ((0 : Int) ≤ (IntKind.i64.wrap (s6.1 + (IntKind.i64.wrap (IntKind.u64.wrap (q1.tdiv 32))))) ∧ (IntKind.i64.wrap (s6.1 + (IntKind.i64.wrap (IntKind.u64.wrap (q1.tdiv 32))))) < (q0l : Nat) ∧
     optM q0 fun a9 =>
     ∃ n10, w8.cell? (a9.add ((IntKind.i64.wrap (s6.1 + (IntKind.i64.wrap (IntKind.u64.wrap (q1.tdiv 32))))).toNat * 1)) = some (.int .u32 n10) ∧
     cutM (σ := Int × Unit) (fun J11 =>
      cond (decide ((IntKind.i64.wrap ((IntKind.i64.wrap (s6.1 + (IntKind.i64.wrap (IntKind.u64.wrap (q1.tdiv 32))))) + 1)) < ((q0l : Nat) : Int)))
      ((0 : Int) ≤ (IntKind.i64.wrap ((IntKind.i64.wrap (s6.1 + (IntKind.i64.wrap (IntKind.u64.wrap (q1.tdiv 32))))) + 1)) ∧ (IntKind.i64.wrap ((IntKind.i64.wrap (s6.1 + (IntKind.i64.wrap (IntKind.u64.wrap (q1.tdiv 32))))) + 1)) < (q0l : Nat) ∧
       optM q0 fun a14 =>
       ∃ n15, w8.cell? (a14.add ((IntKind.i64.wrap ((IntKind.i64.wrap (s6.1 + (IntKind.i64.wrap (IntKind.u64.wrap (q1.tdiv 32))))) + 1)).toNat * 1)) = some (.int .u32 n15) ∧
       (0 : Int) ≤ 32 ∧
       J11 ((IntKind.u64.wrap (BitVec.ofInt IntKind.u64.bits (IntKind.u64.wrap n10) ||| BitVec.ofInt IntKind.u64.bits (IntKind.u64.wrap ((IntKind.u64.wrap n15) * 2 ^ (min (32 : Int).toNat IntKind.u64.bits)))).toNat), ()) w8)
      (J11 ((IntKind.u64.wrap n10), ()) w8))
     (fun s12 w13 =>
      (0 : Int) ≤ (q1.tmod 32) ∧
      (0 : Int) ≤ s6.1 ∧ s6.1 < ((IntKind.i64.wrap (((q0l : Nat) : Int) - (IntKind.i64.wrap (IntKind.u64.wrap (q1.tdiv 32))))).toNat : Nat) ∧
      stM (p1.add (s6.1.toNat * 1)) (.int .u32 (IntKind.u32.wrap (s12.1.fdiv (2 ^ (min (q1.tmod 32).toNat IntKind.u64.bits))))) w13 fun w16 =>
      X7 ((IntKind.i64.wrap (s6.1 + 1)), ()) w16))
    (J3 (()) w8))
   (0, ()) w2)
  (fun s4 w5 =>
   CallsX P N.f_bn_trim #[.slice (some p1) ((IntKind.i64.wrap (((q0l : Nat) : Int) - (IntKind.i64.wrap (IntKind.u64.wrap (q1.tdiv 32))))).toNat) ((IntKind.i64.wrap (((q0l : Nat) : Int) - (IntKind.i64.wrap (IntKind.u64.wrap (q1.tdiv 32))))).toNat)] w5 fun v18 w17 =>
   vS_ v18 fun s19a s19l s19c =>
   K (.slice s19a s19l s19c) w17))
def S_bn_sub (N : Nums) (P : Program) (q0 : Option Addr) (q0l q0c : Nat) (q1 : Option Addr) (q1l q1c : Nat) (w : World) (K : Value → World → Prop) : Prop :=
 mkM N.t_uint32 1 4 #[.int .u32 0] ((q0l : Nat) : Int) ((q0l : Nat) : Int) w fun p1 w2 =>
 cutM (σ := Unit) (fun J3 =>
  loopM (σ := Int × Int × Unit) (fun s6 X7 w8 =>
   cond (decide (s6.2.1 < ((q0l : Nat) : Int)))
   ((0 : Int) ≤ s6.2.1 ∧ s6.2.1 < (q0l : Nat) ∧
    optM q0 fun a9 =>
    cW_ w8 (a9.add (s6.2.1.toNat * 1)) fun n10 =>
    cutM (σ := Int × Unit) (fun J11 =>
     cond (decide (s6.2.1 < ((q1l : Nat) : Int)))
     ((0 : Int) ≤ s6.2.1 ∧ s6.2.1 < (q1l : Nat) ∧
      optM q1 fun a14 =>
      cW_ w8 (a14.add (s6.2.1.toNat * 1)) fun n15 =>
      J11 ((IntKind.u64.wrap ((IntKind.u64.wrap ((IntKind.u64.wrap n10) - s6.1)) - (IntKind.u64.wrap n15))), ()) w8)
     (J11 ((IntKind.u64.wrap ((IntKind.u64.wrap n10) - s6.1)), ()) w8))
    (fun s12 w13 =>
     (0 : Int) ≤ s6.2.1 ∧ s6.2.1 < (((q0l : Nat) : Int).toNat : Nat) ∧
     stM (p1.add (s6.2.1.toNat * 1)) (.int .u32 (IntKind.u32.wrap s12.1)) w13 fun w16 =>
     (0 : Int) ≤ 63 ∧
     X7 ((s12.1.fdiv (2 ^ (min (63 : Int).toNat IntKind.u64.bits))), (IntKind.i64.wrap (s6.2.1 + 1)), ()) w16))
   (J3 (()) w8))
  (0, 0, ()) w2)
 (fun s4 w5 =>
  CallsX P N.f_bn_trim #[.slice (some p1) (((q0l : Nat) : Int).toNat) (((q0l : Nat) : Int).toNat)] w5 fun v18 w17 =>
  vS_ v18 fun s19a s19l s19c =>
  K (.slice s19a s19l s19c) w17)
def S_bn_twin (N : Nums) (P : Program) (q0 : Option Addr) (q0l q0c : Nat) (w : World) (K : Value → World → Prop) : Prop :=
 appM N.t_uint32 1 4 #[.int .u32 0] none 0 0 q0 q0l w fun s1a s1l s1c w2 =>
 K (.slice s1a s1l s1c) w2
def S_bn_words (N : Nums) (P : Program) (q0 : Int) (w : World) (K : Value → World → Prop) : Prop :=
 (0 : Int) ≤ 32 ∧
 newM #[.int .u32 (IntKind.u32.wrap q0), .int .u32 (IntKind.u32.wrap (q0.fdiv (2 ^ (min (32 : Int).toNat IntKind.u64.bits))))] N.t_uint32 w fun p1 w2 =>
 CallsX P N.f_bn_trim #[.slice (some p1) 2 2] w2 fun v4 w3 =>
 vS_ v4 fun s5a s5l s5c =>
 K (.slice s5a s5l s5c) w3
def S_math_frexp (N : Nums) (P : Program) (q0 : Nat) (w : World) (K : Value → World → Prop) : Prop :=
 cond (feq q0 0)
 (K (.tuple #[.float .f64 q0, .int .i64 0]) w)
 (CallsX P N.f_math_IsInf #[.float .f64 q0, .int .i64 0] w fun v2 w1 =>
  vB_ v2 fun b3 =>
  cond (!b3)
  (CallsX P N.f_math_IsNaN #[.float .f64 q0] w1 fun v5 w4 =>
   vB_ v5 fun b6 =>
   cond b6
   (K (.tuple #[.float .f64 q0, .int .i64 0]) w4)
   (CallsX P N.f_math_normalize #[.float .f64 q0] w4 fun v8 w7 =>
    ∃ x9, ∃ n10, v8 = (.tuple #[.float .f64 x9, .int .i64 n10]) ∧
    CallsX P N.f_math_Float64bits #[.float .f64 x9] w7 fun v12 w11 =>
    ∃ n13, v12 = (.int .u64 n13) ∧
    (0 : Int) ≤ 52 ∧
    CallsX P N.f_math_Float64frombits #[.int .u64 (IntKind.u64.wrap (BitVec.ofInt IntKind.u64.bits (IntKind.u64.wrap (BitVec.ofInt IntKind.u64.bits n13 &&& ~~~BitVec.ofInt IntKind.u64.bits 9218868437227405312).toNat) ||| BitVec.ofInt IntKind.u64.bits 4602678819172646912).toNat)] w11 fun v15 w14 =>
    ∃ x16, v15 = (.float .f64 x16) ∧
    K (.tuple #[.float .f64 x16, .int .i64 (IntKind.i64.wrap (n10 + (IntKind.i64.wrap ((IntKind.i64.wrap ((IntKind.i64.wrap (IntKind.u64.wrap (BitVec.ofInt IntKind.u64.bits (n13.fdiv (2 ^ (min (52 : Int).toNat IntKind.u64.bits))) &&& BitVec.ofInt IntKind.u64.bits 2047).toNat)) - 1023)) + 1))))]) w14))
  (K (.tuple #[.float .f64 q0, .int .i64 0]) w1))
def S_math_ldexp (N : Nums) (P : Program) (q0 : Nat) (q1 : Int) (w : World) (K : Value → World → Prop) : Prop :=
 cond (feq q0 0)
 (K (.float .f64 q0) w)
 (cutM (σ := Bool × Unit) (fun J1 =>
   CallsX P N.f_math_IsInf #[.float .f64 q0, .int .i64 0] w fun v5 w4 =>
   vB_ v5 fun b6 =>
   cond (!b6)
   (CallsX P N.f_math_IsNaN #[.float .f64 q0] w4 fun v8 w7 =>
    vB_ v8 fun b9 =>
    J1 (b9, ()) w7)
   (J1 (true, ()) w4))
  (fun s2 w3 =>
   cond s2.1
   (K (.float .f64 q0) w3)
   (CallsX P N.f_math_normalize #[.float .f64 q0] w3 fun v11 w10 =>
    ∃ x12, ∃ n13, v11 = (.tuple #[.float .f64 x12, .int .i64 n13]) ∧
    CallsX P N.f_math_Float64bits #[.float .f64 x12] w10 fun v15 w14 =>
    ∃ n16, v15 = (.int .u64 n16) ∧
    (0 : Int) ≤ 52 ∧
    cond (decide ((IntKind.i64.wrap ((IntKind.i64.wrap (q1 + n13)) + (IntKind.i64.wrap ((IntKind.i64.wrap (BitVec.ofInt IntKind.i64.bits (IntKind.i64.wrap (n16.fdiv (2 ^ (min (52 : Int).toNat IntKind.u64.bits)))) &&& BitVec.ofInt IntKind.i64.bits 2047).toNat) - 1023)))) < (-1075)))
    (CallsX P N.f_math_Copysign #[.float .f64 0, .float .f64 x12] w14 fun v18 w17 =>
     ∃ x19, v18 = (.float .f64 x19) ∧
     K (.float .f64 x19) w17)
    (cond (decide ((IntKind.i64.wrap ((IntKind.i64.wrap (q1 + n13)) + (IntKind.i64.wrap ((IntKind.i64.wrap (BitVec.ofInt IntKind.i64.bits (IntKind.i64.wrap (n16.fdiv (2 ^ (min (52 : Int).toNat IntKind.u64.bits)))) &&& BitVec.ofInt IntKind.i64.bits 2047).toNat) - 1023)))) > 1023))
     (cond (flt x12 0)
      (CallsX P N.f_math_Inf #[.int .i64 (-1)] w14 fun v21 w20 =>
       ∃ x22, v21 = (.float .f64 x22) ∧
       K (.float .f64 x22) w20)
      (CallsX P N.f_math_Inf #[.int .i64 1] w14 fun v24 w23 =>
       ∃ x25, v24 = (.float .f64 x25) ∧
       K (.float .f64 x25) w23))
     (cutM (σ := Int × Nat × Unit) (fun J26 =>
       cond (decide ((IntKind.i64.wrap ((IntKind.i64.wrap (q1 + n13)) + (IntKind.i64.wrap ((IntKind.i64.wrap (BitVec.ofInt IntKind.i64.bits (IntKind.i64.wrap (n16.fdiv (2 ^ (min (52 : Int).toNat IntKind.u64.bits)))) &&& BitVec.ofInt IntKind.i64.bits 2047).toNat) - 1023)))) < (-1022)))
       (J26 ((IntKind.i64.wrap ((IntKind.i64.wrap ((IntKind.i64.wrap (q1 + n13)) + (IntKind.i64.wrap ((IntKind.i64.wrap (BitVec.ofInt IntKind.i64.bits (IntKind.i64.wrap (n16.fdiv (2 ^ (min (52 : Int).toNat IntKind.u64.bits)))) &&& BitVec.ofInt IntKind.i64.bits 2047).toNat) - 1023)))) + 53)), 4368491638549381120, ()) w14)
       (J26 ((IntKind.i64.wrap ((IntKind.i64.wrap (q1 + n13)) + (IntKind.i64.wrap ((IntKind.i64.wrap (BitVec.ofInt IntKind.i64.bits (IntKind.i64.wrap (n16.fdiv (2 ^ (min (52 : Int).toNat IntKind.u64.bits)))) &&& BitVec.ofInt IntKind.i64.bits 2047).toNat) - 1023)))), 4607182418800017408, ()) w14))
      (fun s27 w28 =>
       (0 : Int) ≤ 52 ∧
       CallsX P N.f_math_Float64frombits #[.int .u64 (IntKind.u64.wrap (BitVec.ofInt IntKind.u64.bits (IntKind.u64.wrap (BitVec.ofInt IntKind.u64.bits n16 &&& ~~~BitVec.ofInt IntKind.u64.bits 9218868437227405312).toNat) ||| BitVec.ofInt IntKind.u64.bits (IntKind.u64.wrap ((IntKind.u64.wrap (IntKind.i64.wrap (s27.1 + 1023))) * 2 ^ (min (52 : Int).toNat IntKind.u64.bits)))).toNat)] w28 fun v30 w29 =>
       ∃ x31, v30 = (.float .f64 x31) ∧
       fresM (fmul s27.2.1 x31) w29 fun x32 w33 =>
       K (.float .f64 x32) w33))))))
def S_bI_low (N : Nums) (P : Program) (q0 : Option Addr) (q1 : Int) (w : World) (K : Value → World → Prop) : Prop :=
 mkM N.t_uint32 1 4 #[.int .u32 0] q1 q1 w fun p1 w2 =>
 optM q0 fun a3 =>
 cS_ w2 (a3.add 1) fun s4a s4l s4c =>
 copM 1 (some p1) q1.toNat s4a s4l w2 fun w5 =>
 optM q0 fun a6 =>
 cB_ w5 a6 fun b7 =>
 cutM (σ := Unit) (fun J8 =>
  cond b7
  (cutM (σ := Unit) (fun J11 =>
    loopM (σ := Int × Int × Unit) (fun s14 X15 w16 =>
     cond (decide (s14.2.1 < q1))
     ((0 : Int) ≤ s14.2.1 ∧ s14.2.1 < (q1.toNat : Nat) ∧
      cW_ w16 (p1.add (s14.2.1.toNat * 1)) fun n17 =>
      (0 : Int) ≤ s14.2.1 ∧ s14.2.1 < (q1.toNat : Nat) ∧
      stM (p1.add (s14.2.1.toNat * 1)) (.int .u32 (IntKind.u32.wrap (IntKind.u64.wrap (s14.1 + (IntKind.u64.wrap (IntKind.u32.wrap (BitVec.ofInt IntKind.u32.bits (IntKind.u32.max) ^^^ BitVec.ofInt IntKind.u32.bits n17).toNat)))))) w16 fun w18 =>
      (0 : Int) ≤ 32 ∧
      X15 (((IntKind.u64.wrap (s14.1 + (IntKind.u64.wrap (IntKind.u32.wrap (BitVec.ofInt IntKind.u32.bits (IntKind.u32.max) ^^^ BitVec.ofInt IntKind.u32.bits n17).toNat)))).fdiv (2 ^ (min (32 : Int).toNat IntKind.u64.bits))), (IntKind.i64.wrap (s14.2.1 + 1)), ()) w18)
     (J11 (()) w16))
    (1, 0, ()) w5)
   (fun s12 w13 =>
    J8 (()) w13))
  (J8 (()) w5))
 (fun s9 w10 =>
  K (.slice (some p1) q1.toNat q1.toNat) w10)
def S_bI_of (N : Nums) (P : Program) (q0 : Option Addr) (q1 : Option Addr) (q1l q1c : Nat) (w : World) (K : Value → World → Prop) : Prop :=
 cutM (σ := Bool × Unit) (fun J1 =>
  cond (decide (((q1l : Nat) : Int) > 0))
  ((0 : Int) ≤ (IntKind.i64.wrap (((q1l : Nat) : Int) - 1)) ∧ (IntKind.i64.wrap (((q1l : Nat) : Int) - 1)) < (q1l : Nat) ∧
   optM q1 fun a4 =>
   ∃ n5, w.cell? (a4.add ((IntKind.i64.wrap (((q1l : Nat) : Int) - 1)).toNat * 1)) = some (.int .u32 n5) ∧
   (0 : Int) ≤ 31 ∧
   J1 (((n5.fdiv (2 ^ (min (31 : Int).toNat IntKind.u32.bits))) == 1), ()) w)
  (J1 (false, ()) w))
 (fun s2 w3 =>
  cond s2.1
  (cutM (σ := Unit) (fun J6 =>
    loopM (σ := Int × Int × Unit) (fun s9 X10 w11 =>
     cond (decide (s9.2.1 < ((q1l : Nat) : Int)))
     ((0 : Int) ≤ s9.2.1 ∧ s9.2.1 < (q1l : Nat) ∧
      optM q1 fun a12 =>
      cW_ w11 (a12.add (s9.2.1.toNat * 1)) fun n13 =>
      (0 : Int) ≤ s9.2.1 ∧ s9.2.1 < (q1l : Nat) ∧
      optM q1 fun a14 =>
      stM (a14.add (s9.2.1.toNat * 1)) (.int .u32 (IntKind.u32.wrap (IntKind.u64.wrap (s9.1 + (IntKind.u64.wrap (IntKind.u32.wrap (BitVec.ofInt IntKind.u32.bits (IntKind.u32.max) ^^^ BitVec.ofInt IntKind.u32.bits n13).toNat)))))) w11 fun w15 =>
      (0 : Int) ≤ 32 ∧
      X10 (((IntKind.u64.wrap (s9.1 + (IntKind.u64.wrap (IntKind.u32.wrap (BitVec.ofInt IntKind.u32.bits (IntKind.u32.max) ^^^ BitVec.ofInt IntKind.u32.bits n13).toNat)))).fdiv (2 ^ (min (32 : Int).toNat IntKind.u64.bits))), (IntKind.i64.wrap (s9.2.1 + 1)), ()) w15)
     (J6 (()) w11))
    (1, 0, ()) w3)
   (fun s7 w8 =>
    CallsX P N.f_bn_trim #[.slice q1 q1l q1c] w8 fun v17 w16 =>
    vS_ v17 fun s18a s18l s18c =>
    CallsX P N.f_bI_give #[.pointer q0, .bool true, .slice s18a s18l s18c] w16 fun v20 w19 =>
    ∃ p21 : (Option Addr), v20 = (.pointer p21) ∧
    K (.pointer p21) w19))
  (CallsX P N.f_bn_trim #[.slice q1 q1l q1c] w3 fun v23 w22 =>
   vS_ v23 fun s24a s24l s24c =>
   CallsX P N.f_bI_give #[.pointer q0, .bool false, .slice s24a s24l s24c] w22 fun v26 w25 =>
   ∃ p27 : (Option Addr), v26 = (.pointer p27) ∧
   K (.pointer p27) w25))
def S_bn_trim (N : Nums) (P : Program) (q0 : Option Addr) (q0l q0c : Nat) (w : World) (K : Value → World → Prop) : Prop :=
 cutM (σ := Int × Unit) (fun J1 =>
  loopM (σ := Int × Unit) (fun s4 X5 w6 =>
   cond (decide (s4.1 > 0))
   ((0 : Int) ≤ (IntKind.i64.wrap (s4.1 - 1)) ∧ (IntKind.i64.wrap (s4.1 - 1)) < (q0l : Nat) ∧
    optM q0 fun a7 =>
    ∃ n8, w6.cell? (a7.add ((IntKind.i64.wrap (s4.1 - 1)).toNat * 1)) = some (.int .u32 n8) ∧
    cond (n8 == 0)
    (X5 ((IntKind.i64.wrap (s4.1 - 1)), ()) w6)
    (J1 (s4.1, ()) w6))
   (J1 (s4.1, ()) w6))
  (((q0l : Nat) : Int), ()) w)
 (fun s2 w3 =>
  (0 : Int) ≤ s2.1 ∧ s2.1 ≤ (q0c : Nat) ∧
  K (.slice (slBase q0 0 q0c 1) s2.1.toNat q0c) w3)
def S_math_normalize (N : Nums) (P : Program) (q0 : Nat) (w : World) (K : Value → World → Prop) : Prop :=
 CallsX P N.f_math_Abs #[.float .f64 q0] w fun v2 w1 =>
 ∃ x3, v2 = (.float .f64 x3) ∧
 cond (flt x3 4503599627370496)
 (fresM (fmul q0 4841369599423283200) w1 fun x4 w5 =>
  K (.tuple #[.float .f64 x4, .int .i64 (-52)]) w5)
 (K (.tuple #[.float .f64 q0, .int .i64 0]) w1)
def S_math_Inf (N : Nums) (P : Program) (q0 : Int) (w : World) (K : Value → World → Prop) : Prop :=
 cutM (σ := Int × Unit) (fun J1 =>
  cond (decide (q0 ≥ 0))
  (J1 (9218868437227405312, ()) w)
  (J1 (18442240474082181120, ()) w))
 (fun s2 w3 =>
  CallsX P N.f_math_Float64frombits #[.int .u64 s2.1] w3 fun v5 w4 =>
  ∃ x6, v5 = (.float .f64 x6) ∧
  K (.float .f64 x6) w4)
end Go.Eng
