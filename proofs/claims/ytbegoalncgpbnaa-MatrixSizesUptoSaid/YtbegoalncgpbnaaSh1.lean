/-
  Some of the functions as propositions in the manner of a weakest precondition, printed off the structured code by a program of the session. No condition.
-/
import Derived.Test.YtbegoalncgpbnaaTbl
import Derived.Test.YtbegoalncgpbnaaNm
set_option linter.unusedSimpArgs false
set_option linter.unnecessarySimpa false
set_option linter.unusedSectionVars false
set_option linter.unusedVariables false
set_option maxRecDepth 100000
namespace Go.Eng
open Go

/-- girder/girderlaw10.MatrixTimes -/
def S_girderlaw10_MatrixTimes (N : Nums) (P : Program) (q0_0 : Int) (q0_1 : Int) (q0_2 : Option Addr) (q0_2l q0_2c : Nat) (q1_0 : Int) (q1_1 : Int) (q1_2 : Option Addr) (q1_2l q1_2c : Nat) (q2 : Option Addr) (q2l q2c : Nat) (w : World) (K : Value → World → Prop) : Prop :=
  newM #[.int .i64 q0_0, .int .i64 q0_1, .slice q0_2 q0_2l q0_2c] N.t_Matrix w fun p1 w2 =>
  newM #[.int .i64 q1_0, .int .i64 q1_1, .slice q1_2 q1_2l q1_2c] N.t_Matrix w2 fun p3 w4 =>
  cutM (σ := (Option Addr) × (Option Addr) × (Option Addr × Nat × Nat) × Unit) (fun J5 =>
    ∃ n8 : Int, w4.cell? p1 = some (.int .i64 n8) ∧
    ∃ n9 : Int, w4.cell? (p1.add 1) = some (.int .i64 n9) ∧
    ∃ (s10a : Option Addr) (s10l s10c : Nat), w4.cell? (p1.add 2) = some (.slice s10a s10l s10c) ∧
    ∃ n11 : Int, w4.cell? p3 = some (.int .i64 n11) ∧
    ∃ n12 : Int, w4.cell? (p3.add 1) = some (.int .i64 n12) ∧
    ∃ (s13a : Option Addr) (s13l s13c : Nat), w4.cell? (p3.add 2) = some (.slice s13a s13l s13c) ∧
    (drM w4 fun w14 =>
      CallsX P N.f_girderkit_LentMatrix #[.agg #[.int .i64 n8, .int .i64 n9, .slice s10a s10l s10c]] w14 fun v16 w15 =>
      ∃ n17 : Int, ∃ n18 : Int, ∃ (s19a : Option Addr) (s19l s19c : Nat), v16 = (.agg #[.int .i64 n17, .int .i64 n18, .slice s19a s19l s19c]) ∧
      w15.cell? p3 = some (.int .i64 n11) ∧
      w15.cell? (p3.add 1) = some (.int .i64 n12) ∧
      w15.cell? (p3.add 2) = some (.slice s13a s13l s13c) ∧
      (drM w15 fun w20 =>
        CallsX P N.f_girderkit_LentMatrix #[.agg #[.int .i64 n11, .int .i64 n12, .slice s13a s13l s13c]] w20 fun v22 w21 =>
        ∃ n23 : Int, ∃ n24 : Int, ∃ (s25a : Option Addr) (s25l s25c : Nat), v22 = (.agg #[.int .i64 n23, .int .i64 n24, .slice s25a s25l s25c]) ∧
        (drM w21 fun w26 =>
          CallsX P N.f_girderkit_LentReals #[.slice q2 q2l q2c] w26 fun v28 w27 =>
          ∃ (s29a : Option Addr) (s29l s29c : Nat), v28 = (.slice s29a s29l s29c) ∧
          (drM w27 fun w30 =>
            newM #[.int .i64 0, .int .i64 0, .slice none 0 0] N.t_Matrix w30 fun p31 w32 =>
            drM w32 fun w33 =>
            newM #[.int .i64 0, .int .i64 0, .slice none 0 0] N.t_Matrix w33 fun p34 w35 =>
            drM w35 fun w36 =>
            stM p31 (.int .i64 n17) w36 fun w37 =>
            stM (p31.add 1) (.int .i64 n18) w37 fun w38 =>
            stM (p31.add 2) (.slice s19a s19l s19c) w38 fun w39 =>
            drM w39 fun w40 =>
            stM p34 (.int .i64 n23) w40 fun w41 =>
            stM (p34.add 1) (.int .i64 n24) w41 fun w42 =>
            stM (p34.add 2) (.slice s25a s25l s25c) w42 fun w43 =>
            drM w43 fun w44 =>
            J5 ((some p31), (some p34), (s29a, s29l, s29c), ()) w44) ∧
          (drM w27 fun w45 =>
            newM #[.int .i64 0, .int .i64 0, .slice none 0 0] N.t_Matrix w45 fun p46 w47 =>
            drM w47 fun w48 =>
            newM #[.int .i64 0, .int .i64 0, .slice none 0 0] N.t_Matrix w48 fun p49 w50 =>
            drM w50 fun w51 =>
            stM p49 (.int .i64 n17) w51 fun w52 =>
            stM (p49.add 1) (.int .i64 n18) w52 fun w53 =>
            stM (p49.add 2) (.slice s19a s19l s19c) w53 fun w54 =>
            drM w54 fun w55 =>
            stM p46 (.int .i64 n23) w55 fun w56 =>
            stM (p46.add 1) (.int .i64 n24) w56 fun w57 =>
            stM (p46.add 2) (.slice s25a s25l s25c) w57 fun w58 =>
            drM w58 fun w59 =>
            J5 ((some p49), (some p46), (s29a, s29l, s29c), ()) w59)) ∧
        (drM w21 fun w60 =>
          newM #[.int .i64 0, .int .i64 0, .slice none 0 0] N.t_Matrix w60 fun p61 w62 =>
          (drM w62 fun w63 =>
            CallsX P N.f_girderkit_LentReals #[.slice q2 q2l q2c] w63 fun v65 w64 =>
            ∃ (s66a : Option Addr) (s66l s66c : Nat), v65 = (.slice s66a s66l s66c) ∧
            drM w64 fun w67 =>
            newM #[.int .i64 0, .int .i64 0, .slice none 0 0] N.t_Matrix w67 fun p68 w69 =>
            drM w69 fun w70 =>
            stM p61 (.int .i64 n17) w70 fun w71 =>
            stM (p61.add 1) (.int .i64 n18) w71 fun w72 =>
            stM (p61.add 2) (.slice s19a s19l s19c) w72 fun w73 =>
            drM w73 fun w74 =>
            stM p68 (.int .i64 n23) w74 fun w75 =>
            stM (p68.add 1) (.int .i64 n24) w75 fun w76 =>
            stM (p68.add 2) (.slice s25a s25l s25c) w76 fun w77 =>
            drM w77 fun w78 =>
            J5 ((some p61), (some p68), (s66a, s66l, s66c), ()) w78) ∧
          (drM w62 fun w79 =>
            newM #[.int .i64 0, .int .i64 0, .slice none 0 0] N.t_Matrix w79 fun p80 w81 =>
            drM w81 fun w82 =>
            CallsX P N.f_girderkit_LentReals #[.slice q2 q2l q2c] w82 fun v84 w83 =>
            ∃ (s85a : Option Addr) (s85l s85c : Nat), v84 = (.slice s85a s85l s85c) ∧
            drM w83 fun w86 =>
            stM p61 (.int .i64 n17) w86 fun w87 =>
            stM (p61.add 1) (.int .i64 n18) w87 fun w88 =>
            stM (p61.add 2) (.slice s19a s19l s19c) w88 fun w89 =>
            drM w89 fun w90 =>
            stM p80 (.int .i64 n23) w90 fun w91 =>
            stM (p80.add 1) (.int .i64 n24) w91 fun w92 =>
            stM (p80.add 2) (.slice s25a s25l s25c) w92 fun w93 =>
            drM w93 fun w94 =>
            J5 ((some p61), (some p80), (s85a, s85l, s85c), ()) w94)) ∧
        (drM w21 fun w95 =>
          newM #[.int .i64 0, .int .i64 0, .slice none 0 0] N.t_Matrix w95 fun p96 w97 =>
          (drM w97 fun w98 =>
            CallsX P N.f_girderkit_LentReals #[.slice q2 q2l q2c] w98 fun v100 w99 =>
            ∃ (s101a : Option Addr) (s101l s101c : Nat), v100 = (.slice s101a s101l s101c) ∧
            drM w99 fun w102 =>
            newM #[.int .i64 0, .int .i64 0, .slice none 0 0] N.t_Matrix w102 fun p103 w104 =>
            drM w104 fun w105 =>
            stM p103 (.int .i64 n17) w105 fun w106 =>
            stM (p103.add 1) (.int .i64 n18) w106 fun w107 =>
            stM (p103.add 2) (.slice s19a s19l s19c) w107 fun w108 =>
            drM w108 fun w109 =>
            stM p96 (.int .i64 n23) w109 fun w110 =>
            stM (p96.add 1) (.int .i64 n24) w110 fun w111 =>
            stM (p96.add 2) (.slice s25a s25l s25c) w111 fun w112 =>
            drM w112 fun w113 =>
            J5 ((some p103), (some p96), (s101a, s101l, s101c), ()) w113) ∧
          (drM w97 fun w114 =>
            newM #[.int .i64 0, .int .i64 0, .slice none 0 0] N.t_Matrix w114 fun p115 w116 =>
            drM w116 fun w117 =>
            CallsX P N.f_girderkit_LentReals #[.slice q2 q2l q2c] w117 fun v119 w118 =>
            ∃ (s120a : Option Addr) (s120l s120c : Nat), v119 = (.slice s120a s120l s120c) ∧
            drM w118 fun w121 =>
            stM p115 (.int .i64 n17) w121 fun w122 =>
            stM (p115.add 1) (.int .i64 n18) w122 fun w123 =>
            stM (p115.add 2) (.slice s19a s19l s19c) w123 fun w124 =>
            drM w124 fun w125 =>
            stM p96 (.int .i64 n23) w125 fun w126 =>
            stM (p96.add 1) (.int .i64 n24) w126 fun w127 =>
            stM (p96.add 2) (.slice s25a s25l s25c) w127 fun w128 =>
            drM w128 fun w129 =>
            J5 ((some p115), (some p96), (s120a, s120l, s120c), ()) w129))) ∧
      (drM w15 fun w130 =>
        newM #[.int .i64 0, .int .i64 0, .slice none 0 0] N.t_Matrix w130 fun p131 w132 =>
        w132.cell? p3 = some (.int .i64 n11) ∧
        w132.cell? (p3.add 1) = some (.int .i64 n12) ∧
        w132.cell? (p3.add 2) = some (.slice s13a s13l s13c) ∧
        (drM w132 fun w133 =>
          CallsX P N.f_girderkit_LentMatrix #[.agg #[.int .i64 n11, .int .i64 n12, .slice s13a s13l s13c]] w133 fun v135 w134 =>
          ∃ n136 : Int, ∃ n137 : Int, ∃ (s138a : Option Addr) (s138l s138c : Nat), v135 = (.agg #[.int .i64 n136, .int .i64 n137, .slice s138a s138l s138c]) ∧
          (drM w134 fun w139 =>
            CallsX P N.f_girderkit_LentReals #[.slice q2 q2l q2c] w139 fun v141 w140 =>
            ∃ (s142a : Option Addr) (s142l s142c : Nat), v141 = (.slice s142a s142l s142c) ∧
            drM w140 fun w143 =>
            newM #[.int .i64 0, .int .i64 0, .slice none 0 0] N.t_Matrix w143 fun p144 w145 =>
            drM w145 fun w146 =>
            stM p131 (.int .i64 n17) w146 fun w147 =>
            stM (p131.add 1) (.int .i64 n18) w147 fun w148 =>
            stM (p131.add 2) (.slice s19a s19l s19c) w148 fun w149 =>
            drM w149 fun w150 =>
            stM p144 (.int .i64 n136) w150 fun w151 =>
            stM (p144.add 1) (.int .i64 n137) w151 fun w152 =>
            stM (p144.add 2) (.slice s138a s138l s138c) w152 fun w153 =>
            drM w153 fun w154 =>
            J5 ((some p131), (some p144), (s142a, s142l, s142c), ()) w154) ∧
          (drM w134 fun w155 =>
            newM #[.int .i64 0, .int .i64 0, .slice none 0 0] N.t_Matrix w155 fun p156 w157 =>
            drM w157 fun w158 =>
            CallsX P N.f_girderkit_LentReals #[.slice q2 q2l q2c] w158 fun v160 w159 =>
            ∃ (s161a : Option Addr) (s161l s161c : Nat), v160 = (.slice s161a s161l s161c) ∧
            drM w159 fun w162 =>
            stM p131 (.int .i64 n17) w162 fun w163 =>
            stM (p131.add 1) (.int .i64 n18) w163 fun w164 =>
            stM (p131.add 2) (.slice s19a s19l s19c) w164 fun w165 =>
            drM w165 fun w166 =>
            stM p156 (.int .i64 n136) w166 fun w167 =>
            stM (p156.add 1) (.int .i64 n137) w167 fun w168 =>
            stM (p156.add 2) (.slice s138a s138l s138c) w168 fun w169 =>
            drM w169 fun w170 =>
            J5 ((some p131), (some p156), (s161a, s161l, s161c), ()) w170)) ∧
        (drM w132 fun w171 =>
          newM #[.int .i64 0, .int .i64 0, .slice none 0 0] N.t_Matrix w171 fun p172 w173 =>
          w173.cell? p3 = some (.int .i64 n11) ∧
          w173.cell? (p3.add 1) = some (.int .i64 n12) ∧
          w173.cell? (p3.add 2) = some (.slice s13a s13l s13c) ∧
          drM w173 fun w174 =>
          CallsX P N.f_girderkit_LentMatrix #[.agg #[.int .i64 n11, .int .i64 n12, .slice s13a s13l s13c]] w174 fun v176 w175 =>
          ∃ n177 : Int, ∃ n178 : Int, ∃ (s179a : Option Addr) (s179l s179c : Nat), v176 = (.agg #[.int .i64 n177, .int .i64 n178, .slice s179a s179l s179c]) ∧
          drM w175 fun w180 =>
          CallsX P N.f_girderkit_LentReals #[.slice q2 q2l q2c] w180 fun v182 w181 =>
          ∃ (s183a : Option Addr) (s183l s183c : Nat), v182 = (.slice s183a s183l s183c) ∧
          drM w181 fun w184 =>
          stM p131 (.int .i64 n17) w184 fun w185 =>
          stM (p131.add 1) (.int .i64 n18) w185 fun w186 =>
          stM (p131.add 2) (.slice s19a s19l s19c) w186 fun w187 =>
          drM w187 fun w188 =>
          stM p172 (.int .i64 n177) w188 fun w189 =>
          stM (p172.add 1) (.int .i64 n178) w189 fun w190 =>
          stM (p172.add 2) (.slice s179a s179l s179c) w190 fun w191 =>
          drM w191 fun w192 =>
          J5 ((some p131), (some p172), (s183a, s183l, s183c), ()) w192)) ∧
      (drM w15 fun w193 =>
        newM #[.int .i64 0, .int .i64 0, .slice none 0 0] N.t_Matrix w193 fun p194 w195 =>
        w195.cell? p3 = some (.int .i64 n11) ∧
        w195.cell? (p3.add 1) = some (.int .i64 n12) ∧
        w195.cell? (p3.add 2) = some (.slice s13a s13l s13c) ∧
        (drM w195 fun w196 =>
          CallsX P N.f_girderkit_LentMatrix #[.agg #[.int .i64 n11, .int .i64 n12, .slice s13a s13l s13c]] w196 fun v198 w197 =>
          ∃ n199 : Int, ∃ n200 : Int, ∃ (s201a : Option Addr) (s201l s201c : Nat), v198 = (.agg #[.int .i64 n199, .int .i64 n200, .slice s201a s201l s201c]) ∧
          (drM w197 fun w202 =>
            CallsX P N.f_girderkit_LentReals #[.slice q2 q2l q2c] w202 fun v204 w203 =>
            ∃ (s205a : Option Addr) (s205l s205c : Nat), v204 = (.slice s205a s205l s205c) ∧
            drM w203 fun w206 =>
            newM #[.int .i64 0, .int .i64 0, .slice none 0 0] N.t_Matrix w206 fun p207 w208 =>
            drM w208 fun w209 =>
            stM p207 (.int .i64 n17) w209 fun w210 =>
            stM (p207.add 1) (.int .i64 n18) w210 fun w211 =>
            stM (p207.add 2) (.slice s19a s19l s19c) w211 fun w212 =>
            drM w212 fun w213 =>
            stM p194 (.int .i64 n199) w213 fun w214 =>
            stM (p194.add 1) (.int .i64 n200) w214 fun w215 =>
            stM (p194.add 2) (.slice s201a s201l s201c) w215 fun w216 =>
            drM w216 fun w217 =>
            J5 ((some p207), (some p194), (s205a, s205l, s205c), ()) w217) ∧
          (drM w197 fun w218 =>
            newM #[.int .i64 0, .int .i64 0, .slice none 0 0] N.t_Matrix w218 fun p219 w220 =>
            drM w220 fun w221 =>
            CallsX P N.f_girderkit_LentReals #[.slice q2 q2l q2c] w221 fun v223 w222 =>
            ∃ (s224a : Option Addr) (s224l s224c : Nat), v223 = (.slice s224a s224l s224c) ∧
            drM w222 fun w225 =>
            stM p219 (.int .i64 n17) w225 fun w226 =>
            stM (p219.add 1) (.int .i64 n18) w226 fun w227 =>
            stM (p219.add 2) (.slice s19a s19l s19c) w227 fun w228 =>
            drM w228 fun w229 =>
            stM p194 (.int .i64 n199) w229 fun w230 =>
            stM (p194.add 1) (.int .i64 n200) w230 fun w231 =>
            stM (p194.add 2) (.slice s201a s201l s201c) w231 fun w232 =>
            drM w232 fun w233 =>
            J5 ((some p219), (some p194), (s224a, s224l, s224c), ()) w233)) ∧
        (drM w195 fun w234 =>
          newM #[.int .i64 0, .int .i64 0, .slice none 0 0] N.t_Matrix w234 fun p235 w236 =>
          w236.cell? p3 = some (.int .i64 n11) ∧
          w236.cell? (p3.add 1) = some (.int .i64 n12) ∧
          w236.cell? (p3.add 2) = some (.slice s13a s13l s13c) ∧
          drM w236 fun w237 =>
          CallsX P N.f_girderkit_LentMatrix #[.agg #[.int .i64 n11, .int .i64 n12, .slice s13a s13l s13c]] w237 fun v239 w238 =>
          ∃ n240 : Int, ∃ n241 : Int, ∃ (s242a : Option Addr) (s242l s242c : Nat), v239 = (.agg #[.int .i64 n240, .int .i64 n241, .slice s242a s242l s242c]) ∧
          drM w238 fun w243 =>
          CallsX P N.f_girderkit_LentReals #[.slice q2 q2l q2c] w243 fun v245 w244 =>
          ∃ (s246a : Option Addr) (s246l s246c : Nat), v245 = (.slice s246a s246l s246c) ∧
          drM w244 fun w247 =>
          stM p235 (.int .i64 n17) w247 fun w248 =>
          stM (p235.add 1) (.int .i64 n18) w248 fun w249 =>
          stM (p235.add 2) (.slice s19a s19l s19c) w249 fun w250 =>
          drM w250 fun w251 =>
          stM p194 (.int .i64 n240) w251 fun w252 =>
          stM (p194.add 1) (.int .i64 n241) w252 fun w253 =>
          stM (p194.add 2) (.slice s242a s242l s242c) w253 fun w254 =>
          drM w254 fun w255 =>
          J5 ((some p235), (some p194), (s246a, s246l, s246c), ()) w255))) ∧
    (drM w4 fun w256 =>
      newM #[.int .i64 0, .int .i64 0, .slice none 0 0] N.t_Matrix w256 fun p257 w258 =>
      w258.cell? p3 = some (.int .i64 n11) ∧
      w258.cell? (p3.add 1) = some (.int .i64 n12) ∧
      w258.cell? (p3.add 2) = some (.slice s13a s13l s13c) ∧
      w258.cell? p1 = some (.int .i64 n8) ∧
      w258.cell? (p1.add 1) = some (.int .i64 n9) ∧
      w258.cell? (p1.add 2) = some (.slice s10a s10l s10c) ∧
      (drM w258 fun w259 =>
        CallsX P N.f_girderkit_LentMatrix #[.agg #[.int .i64 n8, .int .i64 n9, .slice s10a s10l s10c]] w259 fun v261 w260 =>
        ∃ n262 : Int, ∃ n263 : Int, ∃ (s264a : Option Addr) (s264l s264c : Nat), v261 = (.agg #[.int .i64 n262, .int .i64 n263, .slice s264a s264l s264c]) ∧
        w260.cell? p3 = some (.int .i64 n11) ∧
        w260.cell? (p3.add 1) = some (.int .i64 n12) ∧
        w260.cell? (p3.add 2) = some (.slice s13a s13l s13c) ∧
        (drM w260 fun w265 =>
          CallsX P N.f_girderkit_LentMatrix #[.agg #[.int .i64 n11, .int .i64 n12, .slice s13a s13l s13c]] w265 fun v267 w266 =>
          ∃ n268 : Int, ∃ n269 : Int, ∃ (s270a : Option Addr) (s270l s270c : Nat), v267 = (.agg #[.int .i64 n268, .int .i64 n269, .slice s270a s270l s270c]) ∧
          (drM w266 fun w271 =>
            CallsX P N.f_girderkit_LentReals #[.slice q2 q2l q2c] w271 fun v273 w272 =>
            ∃ (s274a : Option Addr) (s274l s274c : Nat), v273 = (.slice s274a s274l s274c) ∧
            drM w272 fun w275 =>
            newM #[.int .i64 0, .int .i64 0, .slice none 0 0] N.t_Matrix w275 fun p276 w277 =>
            drM w277 fun w278 =>
            stM p257 (.int .i64 n262) w278 fun w279 =>
            stM (p257.add 1) (.int .i64 n263) w279 fun w280 =>
            stM (p257.add 2) (.slice s264a s264l s264c) w280 fun w281 =>
            drM w281 fun w282 =>
            stM p276 (.int .i64 n268) w282 fun w283 =>
            stM (p276.add 1) (.int .i64 n269) w283 fun w284 =>
            stM (p276.add 2) (.slice s270a s270l s270c) w284 fun w285 =>
            drM w285 fun w286 =>
            J5 ((some p257), (some p276), (s274a, s274l, s274c), ()) w286) ∧
          (drM w266 fun w287 =>
            newM #[.int .i64 0, .int .i64 0, .slice none 0 0] N.t_Matrix w287 fun p288 w289 =>
            drM w289 fun w290 =>
            CallsX P N.f_girderkit_LentReals #[.slice q2 q2l q2c] w290 fun v292 w291 =>
            ∃ (s293a : Option Addr) (s293l s293c : Nat), v292 = (.slice s293a s293l s293c) ∧
            drM w291 fun w294 =>
            stM p257 (.int .i64 n262) w294 fun w295 =>
            stM (p257.add 1) (.int .i64 n263) w295 fun w296 =>
            stM (p257.add 2) (.slice s264a s264l s264c) w296 fun w297 =>
            drM w297 fun w298 =>
            stM p288 (.int .i64 n268) w298 fun w299 =>
            stM (p288.add 1) (.int .i64 n269) w299 fun w300 =>
            stM (p288.add 2) (.slice s270a s270l s270c) w300 fun w301 =>
            drM w301 fun w302 =>
            J5 ((some p257), (some p288), (s293a, s293l, s293c), ()) w302)) ∧
        (drM w260 fun w303 =>
          newM #[.int .i64 0, .int .i64 0, .slice none 0 0] N.t_Matrix w303 fun p304 w305 =>
          w305.cell? p3 = some (.int .i64 n11) ∧
          w305.cell? (p3.add 1) = some (.int .i64 n12) ∧
          w305.cell? (p3.add 2) = some (.slice s13a s13l s13c) ∧
          drM w305 fun w306 =>
          CallsX P N.f_girderkit_LentMatrix #[.agg #[.int .i64 n11, .int .i64 n12, .slice s13a s13l s13c]] w306 fun v308 w307 =>
          ∃ n309 : Int, ∃ n310 : Int, ∃ (s311a : Option Addr) (s311l s311c : Nat), v308 = (.agg #[.int .i64 n309, .int .i64 n310, .slice s311a s311l s311c]) ∧
          drM w307 fun w312 =>
          CallsX P N.f_girderkit_LentReals #[.slice q2 q2l q2c] w312 fun v314 w313 =>
          ∃ (s315a : Option Addr) (s315l s315c : Nat), v314 = (.slice s315a s315l s315c) ∧
          drM w313 fun w316 =>
          stM p257 (.int .i64 n262) w316 fun w317 =>
          stM (p257.add 1) (.int .i64 n263) w317 fun w318 =>
          stM (p257.add 2) (.slice s264a s264l s264c) w318 fun w319 =>
          drM w319 fun w320 =>
          stM p304 (.int .i64 n309) w320 fun w321 =>
          stM (p304.add 1) (.int .i64 n310) w321 fun w322 =>
          stM (p304.add 2) (.slice s311a s311l s311c) w322 fun w323 =>
          drM w323 fun w324 =>
          J5 ((some p257), (some p304), (s315a, s315l, s315c), ()) w324)) ∧
      (drM w258 fun w325 =>
        newM #[.int .i64 0, .int .i64 0, .slice none 0 0] N.t_Matrix w325 fun p326 w327 =>
        w327.cell? p3 = some (.int .i64 n11) ∧
        w327.cell? (p3.add 1) = some (.int .i64 n12) ∧
        w327.cell? (p3.add 2) = some (.slice s13a s13l s13c) ∧
        w327.cell? p1 = some (.int .i64 n8) ∧
        w327.cell? (p1.add 1) = some (.int .i64 n9) ∧
        w327.cell? (p1.add 2) = some (.slice s10a s10l s10c) ∧
        drM w327 fun w328 =>
        CallsX P N.f_girderkit_LentMatrix #[.agg #[.int .i64 n8, .int .i64 n9, .slice s10a s10l s10c]] w328 fun v330 w329 =>
        ∃ n331 : Int, ∃ n332 : Int, ∃ (s333a : Option Addr) (s333l s333c : Nat), v330 = (.agg #[.int .i64 n331, .int .i64 n332, .slice s333a s333l s333c]) ∧
        w329.cell? p3 = some (.int .i64 n11) ∧
        w329.cell? (p3.add 1) = some (.int .i64 n12) ∧
        w329.cell? (p3.add 2) = some (.slice s13a s13l s13c) ∧
        drM w329 fun w334 =>
        CallsX P N.f_girderkit_LentMatrix #[.agg #[.int .i64 n11, .int .i64 n12, .slice s13a s13l s13c]] w334 fun v336 w335 =>
        ∃ n337 : Int, ∃ n338 : Int, ∃ (s339a : Option Addr) (s339l s339c : Nat), v336 = (.agg #[.int .i64 n337, .int .i64 n338, .slice s339a s339l s339c]) ∧
        drM w335 fun w340 =>
        CallsX P N.f_girderkit_LentReals #[.slice q2 q2l q2c] w340 fun v342 w341 =>
        ∃ (s343a : Option Addr) (s343l s343c : Nat), v342 = (.slice s343a s343l s343c) ∧
        drM w341 fun w344 =>
        stM p257 (.int .i64 n331) w344 fun w345 =>
        stM (p257.add 1) (.int .i64 n332) w345 fun w346 =>
        stM (p257.add 2) (.slice s333a s333l s333c) w346 fun w347 =>
        drM w347 fun w348 =>
        stM p326 (.int .i64 n337) w348 fun w349 =>
        stM (p326.add 1) (.int .i64 n338) w349 fun w350 =>
        stM (p326.add 2) (.slice s339a s339l s339c) w350 fun w351 =>
        drM w351 fun w352 =>
        J5 ((some p257), (some p326), (s343a, s343l, s343c), ()) w352)) ∧
    (drM w4 fun w353 =>
      newM #[.int .i64 0, .int .i64 0, .slice none 0 0] N.t_Matrix w353 fun p354 w355 =>
      w355.cell? p3 = some (.int .i64 n11) ∧
      w355.cell? (p3.add 1) = some (.int .i64 n12) ∧
      w355.cell? (p3.add 2) = some (.slice s13a s13l s13c) ∧
      w355.cell? p1 = some (.int .i64 n8) ∧
      w355.cell? (p1.add 1) = some (.int .i64 n9) ∧
      w355.cell? (p1.add 2) = some (.slice s10a s10l s10c) ∧
      (drM w355 fun w356 =>
        CallsX P N.f_girderkit_LentMatrix #[.agg #[.int .i64 n8, .int .i64 n9, .slice s10a s10l s10c]] w356 fun v358 w357 =>
        ∃ n359 : Int, ∃ n360 : Int, ∃ (s361a : Option Addr) (s361l s361c : Nat), v358 = (.agg #[.int .i64 n359, .int .i64 n360, .slice s361a s361l s361c]) ∧
        w357.cell? p3 = some (.int .i64 n11) ∧
        w357.cell? (p3.add 1) = some (.int .i64 n12) ∧
        w357.cell? (p3.add 2) = some (.slice s13a s13l s13c) ∧
        (drM w357 fun w362 =>
          CallsX P N.f_girderkit_LentMatrix #[.agg #[.int .i64 n11, .int .i64 n12, .slice s13a s13l s13c]] w362 fun v364 w363 =>
          ∃ n365 : Int, ∃ n366 : Int, ∃ (s367a : Option Addr) (s367l s367c : Nat), v364 = (.agg #[.int .i64 n365, .int .i64 n366, .slice s367a s367l s367c]) ∧
          (drM w363 fun w368 =>
            CallsX P N.f_girderkit_LentReals #[.slice q2 q2l q2c] w368 fun v370 w369 =>
            ∃ (s371a : Option Addr) (s371l s371c : Nat), v370 = (.slice s371a s371l s371c) ∧
            drM w369 fun w372 =>
            newM #[.int .i64 0, .int .i64 0, .slice none 0 0] N.t_Matrix w372 fun p373 w374 =>
            drM w374 fun w375 =>
            stM p373 (.int .i64 n359) w375 fun w376 =>
            stM (p373.add 1) (.int .i64 n360) w376 fun w377 =>
            stM (p373.add 2) (.slice s361a s361l s361c) w377 fun w378 =>
            drM w378 fun w379 =>
            stM p354 (.int .i64 n365) w379 fun w380 =>
            stM (p354.add 1) (.int .i64 n366) w380 fun w381 =>
            stM (p354.add 2) (.slice s367a s367l s367c) w381 fun w382 =>
            drM w382 fun w383 =>
            J5 ((some p373), (some p354), (s371a, s371l, s371c), ()) w383) ∧
          (drM w363 fun w384 =>
            newM #[.int .i64 0, .int .i64 0, .slice none 0 0] N.t_Matrix w384 fun p385 w386 =>
            drM w386 fun w387 =>
            CallsX P N.f_girderkit_LentReals #[.slice q2 q2l q2c] w387 fun v389 w388 =>
            ∃ (s390a : Option Addr) (s390l s390c : Nat), v389 = (.slice s390a s390l s390c) ∧
            drM w388 fun w391 =>
            stM p385 (.int .i64 n359) w391 fun w392 =>
            stM (p385.add 1) (.int .i64 n360) w392 fun w393 =>
            stM (p385.add 2) (.slice s361a s361l s361c) w393 fun w394 =>
            drM w394 fun w395 =>
            stM p354 (.int .i64 n365) w395 fun w396 =>
            stM (p354.add 1) (.int .i64 n366) w396 fun w397 =>
            stM (p354.add 2) (.slice s367a s367l s367c) w397 fun w398 =>
            drM w398 fun w399 =>
            J5 ((some p385), (some p354), (s390a, s390l, s390c), ()) w399)) ∧
        (drM w357 fun w400 =>
          newM #[.int .i64 0, .int .i64 0, .slice none 0 0] N.t_Matrix w400 fun p401 w402 =>
          w402.cell? p3 = some (.int .i64 n11) ∧
          w402.cell? (p3.add 1) = some (.int .i64 n12) ∧
          w402.cell? (p3.add 2) = some (.slice s13a s13l s13c) ∧
          drM w402 fun w403 =>
          CallsX P N.f_girderkit_LentMatrix #[.agg #[.int .i64 n11, .int .i64 n12, .slice s13a s13l s13c]] w403 fun v405 w404 =>
          ∃ n406 : Int, ∃ n407 : Int, ∃ (s408a : Option Addr) (s408l s408c : Nat), v405 = (.agg #[.int .i64 n406, .int .i64 n407, .slice s408a s408l s408c]) ∧
          drM w404 fun w409 =>
          CallsX P N.f_girderkit_LentReals #[.slice q2 q2l q2c] w409 fun v411 w410 =>
          ∃ (s412a : Option Addr) (s412l s412c : Nat), v411 = (.slice s412a s412l s412c) ∧
          drM w410 fun w413 =>
          stM p401 (.int .i64 n359) w413 fun w414 =>
          stM (p401.add 1) (.int .i64 n360) w414 fun w415 =>
          stM (p401.add 2) (.slice s361a s361l s361c) w415 fun w416 =>
          drM w416 fun w417 =>
          stM p354 (.int .i64 n406) w417 fun w418 =>
          stM (p354.add 1) (.int .i64 n407) w418 fun w419 =>
          stM (p354.add 2) (.slice s408a s408l s408c) w419 fun w420 =>
          drM w420 fun w421 =>
          J5 ((some p401), (some p354), (s412a, s412l, s412c), ()) w421)) ∧
      (drM w355 fun w422 =>
        newM #[.int .i64 0, .int .i64 0, .slice none 0 0] N.t_Matrix w422 fun p423 w424 =>
        w424.cell? p3 = some (.int .i64 n11) ∧
        w424.cell? (p3.add 1) = some (.int .i64 n12) ∧
        w424.cell? (p3.add 2) = some (.slice s13a s13l s13c) ∧
        w424.cell? p1 = some (.int .i64 n8) ∧
        w424.cell? (p1.add 1) = some (.int .i64 n9) ∧
        w424.cell? (p1.add 2) = some (.slice s10a s10l s10c) ∧
        drM w424 fun w425 =>
        CallsX P N.f_girderkit_LentMatrix #[.agg #[.int .i64 n8, .int .i64 n9, .slice s10a s10l s10c]] w425 fun v427 w426 =>
        ∃ n428 : Int, ∃ n429 : Int, ∃ (s430a : Option Addr) (s430l s430c : Nat), v427 = (.agg #[.int .i64 n428, .int .i64 n429, .slice s430a s430l s430c]) ∧
        w426.cell? p3 = some (.int .i64 n11) ∧
        w426.cell? (p3.add 1) = some (.int .i64 n12) ∧
        w426.cell? (p3.add 2) = some (.slice s13a s13l s13c) ∧
        drM w426 fun w431 =>
        CallsX P N.f_girderkit_LentMatrix #[.agg #[.int .i64 n11, .int .i64 n12, .slice s13a s13l s13c]] w431 fun v433 w432 =>
        ∃ n434 : Int, ∃ n435 : Int, ∃ (s436a : Option Addr) (s436l s436c : Nat), v433 = (.agg #[.int .i64 n434, .int .i64 n435, .slice s436a s436l s436c]) ∧
        drM w432 fun w437 =>
        CallsX P N.f_girderkit_LentReals #[.slice q2 q2l q2c] w437 fun v439 w438 =>
        ∃ (s440a : Option Addr) (s440l s440c : Nat), v439 = (.slice s440a s440l s440c) ∧
        drM w438 fun w441 =>
        stM p423 (.int .i64 n428) w441 fun w442 =>
        stM (p423.add 1) (.int .i64 n429) w442 fun w443 =>
        stM (p423.add 2) (.slice s430a s430l s430c) w443 fun w444 =>
        drM w444 fun w445 =>
        stM p354 (.int .i64 n434) w445 fun w446 =>
        stM (p354.add 1) (.int .i64 n435) w446 fun w447 =>
        stM (p354.add 2) (.slice s436a s436l s436c) w447 fun w448 =>
        drM w448 fun w449 =>
        J5 ((some p423), (some p354), (s440a, s440l, s440c), ()) w449)))
  (fun s6 w7 =>
    optM s6.1 fun a450 =>
    ∃ n451 : Int, w7.cell? a450 = some (.int .i64 n451) ∧
    ∃ n452 : Int, w7.cell? (a450.add 1) = some (.int .i64 n452) ∧
    ∃ (s453a : Option Addr) (s453l s453c : Nat), w7.cell? (a450.add 2) = some (.slice s453a s453l s453c) ∧
    optM s6.2.1 fun a454 =>
    ∃ n455 : Int, w7.cell? a454 = some (.int .i64 n455) ∧
    ∃ n456 : Int, w7.cell? (a454.add 1) = some (.int .i64 n456) ∧
    ∃ (s457a : Option Addr) (s457l s457c : Nat), w7.cell? (a454.add 2) = some (.slice s457a s457l s457c) ∧
    CallsX P N.f_matrix_Mul #[.agg #[.int .i64 n451, .int .i64 n452, .slice s453a s453l s453c], .agg #[.int .i64 n455, .int .i64 n456, .slice s457a s457l s457c]] w7 fun v459 w458 =>
    ∃ n460 : Int, ∃ n461 : Int, ∃ (s462a : Option Addr) (s462l s462c : Nat), ∃ n463 : Int, v459 = (.tuple #[.agg #[.int .i64 n460, .int .i64 n461, .slice s462a s462l s462c], .int .i64 n463]) ∧
    newM #[.int .i64 0, .int .i64 0, .slice none 0 0] N.t_Matrix w458 fun p464 w465 =>
    stM p464 (.int .i64 n460) w465 fun w466 =>
    stM (p464.add 1) (.int .i64 n461) w466 fun w467 =>
    stM (p464.add 2) (.slice s462a s462l s462c) w467 fun w468 =>
    ∃ n469 : Int, w468.cell? p1 = some (.int .i64 n469) ∧
    ∃ n470 : Int, w468.cell? (p1.add 1) = some (.int .i64 n470) ∧
    ∃ (s471a : Option Addr) (s471l s471c : Nat), w468.cell? (p1.add 2) = some (.slice s471a s471l s471c) ∧
    ∃ n472 : Int, w468.cell? p3 = some (.int .i64 n472) ∧
    ∃ n473 : Int, w468.cell? (p3.add 1) = some (.int .i64 n473) ∧
    ∃ (s474a : Option Addr) (s474l s474c : Nat), w468.cell? (p3.add 2) = some (.slice s474a s474l s474c) ∧
    CallsX P N.f_girderref10_Mul #[.agg #[.int .i64 n469, .int .i64 n470, .slice s471a s471l s471c], .agg #[.int .i64 n472, .int .i64 n473, .slice s474a s474l s474c]] w468 fun v476 w475 =>
    ∃ n477 : Int, ∃ n478 : Int, ∃ (s479a : Option Addr) (s479l s479c : Nat), ∃ n480 : Int, v476 = (.tuple #[.agg #[.int .i64 n477, .int .i64 n478, .slice s479a s479l s479c], .int .i64 n480]) ∧
    newM #[.int .i64 0, .int .i64 0, .slice none 0 0] N.t_Matrix w475 fun p481 w482 =>
    stM p481 (.int .i64 n477) w482 fun w483 =>
    stM (p481.add 1) (.int .i64 n478) w483 fun w484 =>
    stM (p481.add 2) (.slice s479a s479l s479c) w484 fun w485 =>
    optM s6.1 fun a486 =>
    ∃ n487 : Int, w485.cell? a486 = some (.int .i64 n487) ∧
    ∃ n488 : Int, w485.cell? (a486.add 1) = some (.int .i64 n488) ∧
    ∃ (s489a : Option Addr) (s489l s489c : Nat), w485.cell? (a486.add 2) = some (.slice s489a s489l s489c) ∧
    CallsX P N.f_matrix_Apply #[.agg #[.int .i64 n487, .int .i64 n488, .slice s489a s489l s489c], .slice s6.2.2.1.1 s6.2.2.1.2.1 s6.2.2.1.2.2] w485 fun v491 w490 =>
    ∃ (s492a : Option Addr) (s492l s492c : Nat), ∃ n493 : Int, v491 = (.tuple #[.slice s492a s492l s492c, .int .i64 n493]) ∧
    ∃ n494 : Int, w490.cell? p1 = some (.int .i64 n494) ∧
    ∃ n495 : Int, w490.cell? (p1.add 1) = some (.int .i64 n495) ∧
    ∃ (s496a : Option Addr) (s496l s496c : Nat), w490.cell? (p1.add 2) = some (.slice s496a s496l s496c) ∧
    CallsX P N.f_girderref10_Apply #[.agg #[.int .i64 n494, .int .i64 n495, .slice s496a s496l s496c], .slice q2 q2l q2c] w490 fun v498 w497 =>
    ∃ (s499a : Option Addr) (s499l s499c : Nat), ∃ n500 : Int, v498 = (.tuple #[.slice s499a s499l s499c, .int .i64 n500]) ∧
    ∃ n501 : Int, w497.cell? p464 = some (.int .i64 n501) ∧
    ∃ n502 : Int, w497.cell? (p464.add 1) = some (.int .i64 n502) ∧
    ∃ (s503a : Option Addr) (s503l s503c : Nat), w497.cell? (p464.add 2) = some (.slice s503a s503l s503c) ∧
    ∃ n504 : Int, w497.cell? p481 = some (.int .i64 n504) ∧
    ∃ n505 : Int, w497.cell? (p481.add 1) = some (.int .i64 n505) ∧
    ∃ (s506a : Option Addr) (s506l s506c : Nat), w497.cell? (p481.add 2) = some (.slice s506a s506l s506c) ∧
    CallsX P N.f_girderlaw10_is #[.agg #[.int .i64 n501, .int .i64 n502, .slice s503a s503l s503c], .int .i64 n463, .agg #[.int .i64 n504, .int .i64 n505, .slice s506a s506l s506c], .int .i64 n480] w497 fun v508 w507 =>
    ∃ b509 : Bool, v508 = (.bool b509) ∧
    cond b509
    (CallsX P N.f_girderkit_SameReals #[.slice s492a s492l s492c, .slice s499a s499l s499c] w507 fun v511 w510 =>
      ∃ b512 : Bool, v511 = (.bool b512) ∧
      cond b512
      (cond (n493 == n500)
        (optM s6.1 fun a513 =>
          ∃ n514 : Int, w510.cell? a513 = some (.int .i64 n514) ∧
          ∃ n515 : Int, w510.cell? (a513.add 1) = some (.int .i64 n515) ∧
          ∃ (s516a : Option Addr) (s516l s516c : Nat), w510.cell? (a513.add 2) = some (.slice s516a s516l s516c) ∧
          ∃ n517 : Int, w510.cell? p1 = some (.int .i64 n517) ∧
          ∃ n518 : Int, w510.cell? (p1.add 1) = some (.int .i64 n518) ∧
          ∃ (s519a : Option Addr) (s519l s519c : Nat), w510.cell? (p1.add 2) = some (.slice s519a s519l s519c) ∧
          CallsX P N.f_girderkit_KeptMatrix #[.agg #[.int .i64 n514, .int .i64 n515, .slice s516a s516l s516c], .agg #[.int .i64 n517, .int .i64 n518, .slice s519a s519l s519c]] w510 fun v521 w520 =>
          ∃ b522 : Bool, v521 = (.bool b522) ∧
          cond b522
          (optM s6.2.1 fun a523 =>
            ∃ n524 : Int, w520.cell? a523 = some (.int .i64 n524) ∧
            ∃ n525 : Int, w520.cell? (a523.add 1) = some (.int .i64 n525) ∧
            ∃ (s526a : Option Addr) (s526l s526c : Nat), w520.cell? (a523.add 2) = some (.slice s526a s526l s526c) ∧
            ∃ n527 : Int, w520.cell? p3 = some (.int .i64 n527) ∧
            ∃ n528 : Int, w520.cell? (p3.add 1) = some (.int .i64 n528) ∧
            ∃ (s529a : Option Addr) (s529l s529c : Nat), w520.cell? (p3.add 2) = some (.slice s529a s529l s529c) ∧
            CallsX P N.f_girderkit_KeptMatrix #[.agg #[.int .i64 n524, .int .i64 n525, .slice s526a s526l s526c], .agg #[.int .i64 n527, .int .i64 n528, .slice s529a s529l s529c]] w520 fun v531 w530 =>
            ∃ b532 : Bool, v531 = (.bool b532) ∧
            cond b532
            (CallsX P N.f_girderkit_KeptReals #[.slice s6.2.2.1.1 s6.2.2.1.2.1 s6.2.2.1.2.2, .slice q2 q2l q2c] w530 fun v534 w533 =>
              ∃ b535 : Bool, v534 = (.bool b535) ∧
              cond b535
              (CallsX P N.f_girderlaw10_awake #[] w533 fun v537 w536 =>
                ∃ b538 : Bool, v537 = (.bool b538) ∧
                K (.bool b538) w536)
              (K (.bool false) w533))
            (K (.bool false) w530))
          (K (.bool false) w520))
        (K (.bool false) w510))
      (K (.bool false) w510))
    (K (.bool false) w507))

/-- girder/girderlaw10.MatrixWhole -/
def S_girderlaw10_MatrixWhole (N : Nums) (P : Program) (q0 : Int) (q1 : Int) (q2 : Int) (q3 : Int) (q4 : Option Addr) (q4l q4c : Nat) (q5 : Option Addr) (q5l q5c : Nat) (q6 : Option Addr) (q6l q6c : Nat) (w : World) (K : Value → World → Prop) : Prop :=
  CallsX P N.f_girderlaw10_laid #[.int .i64 q0, .int .i64 q1, .slice q4 q4l q4c, .bool true] w fun v2 w1 =>
  ∃ n3 : Int, ∃ n4 : Int, ∃ (s5a : Option Addr) (s5l s5c : Nat), v2 = (.agg #[.int .i64 n3, .int .i64 n4, .slice s5a s5l s5c]) ∧
  CallsX P N.f_girderlaw10_laid #[.int .i64 q1, .int .i64 q2, .slice q5 q5l q5c, .bool true] w1 fun v7 w6 =>
  ∃ n8 : Int, ∃ n9 : Int, ∃ (s10a : Option Addr) (s10l s10c : Nat), v7 = (.agg #[.int .i64 n8, .int .i64 n9, .slice s10a s10l s10c]) ∧
  CallsX P N.f_girderlaw10_laid #[.int .i64 q2, .int .i64 q3, .slice q6 q6l q6c, .bool true] w6 fun v12 w11 =>
  ∃ n13 : Int, ∃ n14 : Int, ∃ (s15a : Option Addr) (s15l s15c : Nat), v12 = (.agg #[.int .i64 n13, .int .i64 n14, .slice s15a s15l s15c]) ∧
  newM #[.int .i64 0, .int .i64 0, .slice none 0 0] N.t_Matrix w11 fun p16 w17 =>
  newM #[.int .i64 0, .int .i64 0, .slice none 0 0] N.t_Matrix w17 fun p18 w19 =>
  newM #[.int .i64 0, .int .i64 0, .slice none 0 0] N.t_Matrix w19 fun p20 w21 =>
  stM p16 (.int .i64 n3) w21 fun w22 =>
  stM (p16.add 1) (.int .i64 n4) w22 fun w23 =>
  stM (p16.add 2) (.slice s5a s5l s5c) w23 fun w24 =>
  stM p18 (.int .i64 n8) w24 fun w25 =>
  stM (p18.add 1) (.int .i64 n9) w25 fun w26 =>
  stM (p18.add 2) (.slice s10a s10l s10c) w26 fun w27 =>
  stM p20 (.int .i64 n13) w27 fun w28 =>
  stM (p20.add 1) (.int .i64 n14) w28 fun w29 =>
  stM (p20.add 2) (.slice s15a s15l s15c) w29 fun w30 =>
  ∃ n31 : Int, w30.cell? p16 = some (.int .i64 n31) ∧
  ∃ n32 : Int, w30.cell? (p16.add 1) = some (.int .i64 n32) ∧
  ∃ (s33a : Option Addr) (s33l s33c : Nat), w30.cell? (p16.add 2) = some (.slice s33a s33l s33c) ∧
  ∃ n34 : Int, w30.cell? p18 = some (.int .i64 n34) ∧
  ∃ n35 : Int, w30.cell? (p18.add 1) = some (.int .i64 n35) ∧
  ∃ (s36a : Option Addr) (s36l s36c : Nat), w30.cell? (p18.add 2) = some (.slice s36a s36l s36c) ∧
  CallsX P N.f_matrix_Mul #[.agg #[.int .i64 n31, .int .i64 n32, .slice s33a s33l s33c], .agg #[.int .i64 n34, .int .i64 n35, .slice s36a s36l s36c]] w30 fun v38 w37 =>
  ∃ n39 : Int, ∃ n40 : Int, ∃ (s41a : Option Addr) (s41l s41c : Nat), ∃ n42 : Int, v38 = (.tuple #[.agg #[.int .i64 n39, .int .i64 n40, .slice s41a s41l s41c], .int .i64 n42]) ∧
  newM #[.int .i64 0, .int .i64 0, .slice none 0 0] N.t_Matrix w37 fun p43 w44 =>
  stM p43 (.int .i64 n39) w44 fun w45 =>
  stM (p43.add 1) (.int .i64 n40) w45 fun w46 =>
  stM (p43.add 2) (.slice s41a s41l s41c) w46 fun w47 =>
  ∃ n48 : Int, w47.cell? p18 = some (.int .i64 n48) ∧
  ∃ n49 : Int, w47.cell? (p18.add 1) = some (.int .i64 n49) ∧
  ∃ (s50a : Option Addr) (s50l s50c : Nat), w47.cell? (p18.add 2) = some (.slice s50a s50l s50c) ∧
  ∃ n51 : Int, w47.cell? p20 = some (.int .i64 n51) ∧
  ∃ n52 : Int, w47.cell? (p20.add 1) = some (.int .i64 n52) ∧
  ∃ (s53a : Option Addr) (s53l s53c : Nat), w47.cell? (p20.add 2) = some (.slice s53a s53l s53c) ∧
  CallsX P N.f_matrix_Mul #[.agg #[.int .i64 n48, .int .i64 n49, .slice s50a s50l s50c], .agg #[.int .i64 n51, .int .i64 n52, .slice s53a s53l s53c]] w47 fun v55 w54 =>
  ∃ n56 : Int, ∃ n57 : Int, ∃ (s58a : Option Addr) (s58l s58c : Nat), ∃ n59 : Int, v55 = (.tuple #[.agg #[.int .i64 n56, .int .i64 n57, .slice s58a s58l s58c], .int .i64 n59]) ∧
  newM #[.int .i64 0, .int .i64 0, .slice none 0 0] N.t_Matrix w54 fun p60 w61 =>
  stM p60 (.int .i64 n56) w61 fun w62 =>
  stM (p60.add 1) (.int .i64 n57) w62 fun w63 =>
  stM (p60.add 2) (.slice s58a s58l s58c) w63 fun w64 =>
  ∃ n65 : Int, w64.cell? p43 = some (.int .i64 n65) ∧
  ∃ n66 : Int, w64.cell? (p43.add 1) = some (.int .i64 n66) ∧
  ∃ (s67a : Option Addr) (s67l s67c : Nat), w64.cell? (p43.add 2) = some (.slice s67a s67l s67c) ∧
  ∃ n68 : Int, w64.cell? p20 = some (.int .i64 n68) ∧
  ∃ n69 : Int, w64.cell? (p20.add 1) = some (.int .i64 n69) ∧
  ∃ (s70a : Option Addr) (s70l s70c : Nat), w64.cell? (p20.add 2) = some (.slice s70a s70l s70c) ∧
  CallsX P N.f_matrix_Mul #[.agg #[.int .i64 n65, .int .i64 n66, .slice s67a s67l s67c], .agg #[.int .i64 n68, .int .i64 n69, .slice s70a s70l s70c]] w64 fun v72 w71 =>
  ∃ n73 : Int, ∃ n74 : Int, ∃ (s75a : Option Addr) (s75l s75c : Nat), ∃ n76 : Int, v72 = (.tuple #[.agg #[.int .i64 n73, .int .i64 n74, .slice s75a s75l s75c], .int .i64 n76]) ∧
  newM #[.int .i64 0, .int .i64 0, .slice none 0 0] N.t_Matrix w71 fun p77 w78 =>
  stM p77 (.int .i64 n73) w78 fun w79 =>
  stM (p77.add 1) (.int .i64 n74) w79 fun w80 =>
  stM (p77.add 2) (.slice s75a s75l s75c) w80 fun w81 =>
  ∃ n82 : Int, w81.cell? p16 = some (.int .i64 n82) ∧
  ∃ n83 : Int, w81.cell? (p16.add 1) = some (.int .i64 n83) ∧
  ∃ (s84a : Option Addr) (s84l s84c : Nat), w81.cell? (p16.add 2) = some (.slice s84a s84l s84c) ∧
  ∃ n85 : Int, w81.cell? p60 = some (.int .i64 n85) ∧
  ∃ n86 : Int, w81.cell? (p60.add 1) = some (.int .i64 n86) ∧
  ∃ (s87a : Option Addr) (s87l s87c : Nat), w81.cell? (p60.add 2) = some (.slice s87a s87l s87c) ∧
  CallsX P N.f_matrix_Mul #[.agg #[.int .i64 n82, .int .i64 n83, .slice s84a s84l s84c], .agg #[.int .i64 n85, .int .i64 n86, .slice s87a s87l s87c]] w81 fun v89 w88 =>
  ∃ n90 : Int, ∃ n91 : Int, ∃ (s92a : Option Addr) (s92l s92c : Nat), ∃ n93 : Int, v89 = (.tuple #[.agg #[.int .i64 n90, .int .i64 n91, .slice s92a s92l s92c], .int .i64 n93]) ∧
  newM #[.int .i64 0, .int .i64 0, .slice none 0 0] N.t_Matrix w88 fun p94 w95 =>
  stM p94 (.int .i64 n90) w95 fun w96 =>
  stM (p94.add 1) (.int .i64 n91) w96 fun w97 =>
  stM (p94.add 2) (.slice s92a s92l s92c) w97 fun w98 =>
  cutM (σ := Bool × Unit) (fun J99 =>
    cond (!(n42 != 0))
    (cond (!(n59 != 0))
      (cond (!(n76 != 0))
        (cond (!(n93 != 0))
          (∃ (s102a : Option Addr) (s102l s102c : Nat), w98.cell? (p77.add 2) = some (.slice s102a s102l s102c) ∧
            ∃ (s103a : Option Addr) (s103l s103c : Nat), w98.cell? (p94.add 2) = some (.slice s103a s103l s103c) ∧
            cond (!(((s102l : Nat) : Int) != ((s103l : Nat) : Int)))
            (∃ (s104a : Option Addr) (s104l s104c : Nat), w98.cell? (p77.add 2) = some (.slice s104a s104l s104c) ∧
              ∃ n105 : Int, w98.cell? p16 = some (.int .i64 n105) ∧
              ∃ n106 : Int, w98.cell? (p20.add 1) = some (.int .i64 n106) ∧
              J99 ((((s104l : Nat) : Int) != (IntKind.i64.wrap (n105 * n106))), ()) w98)
            (J99 (true, ()) w98))
          (J99 (true, ()) w98))
        (J99 (true, ()) w98))
      (J99 (true, ()) w98))
    (J99 (true, ()) w98))
  (fun s100 w101 =>
    cond s100.1
    (K (.bool false) w101)
    (cutM (σ := Unit) (fun J107 =>
        loopM (σ := Int × Unit) (fun s110 X111 w112 =>
          ∃ n113 : Int, w112.cell? p16 = some (.int .i64 n113) ∧
          cond (decide (s110.1 < n113))
          (cutM (σ := Unit) (fun J114 =>
              loopM (σ := Int × Unit) (fun s117 X118 w119 =>
                ∃ n120 : Int, w119.cell? (p20.add 1) = some (.int .i64 n120) ∧
                cond (decide (s117.1 < n120))
                (cutM (σ := Int × Unit) (fun J121 =>
                    loopM (σ := Int × Int × Unit) (fun s124 X125 w126 =>
                      ∃ n127 : Int, w126.cell? p18 = some (.int .i64 n127) ∧
                      cond (decide (s124.2.1 < n127))
                      (cutM (σ := Int × Unit) (fun J128 =>
                          loopM (σ := Int × Int × Unit) (fun s131 X132 w133 =>
                          ∃ n134 : Int, w133.cell? (p18.add 1) = some (.int .i64 n134) ∧
                          cond (decide (s131.2.1 < n134))
                          (∃ (s135a : Option Addr) (s135l s135c : Nat), w133.cell? (p16.add 2) = some (.slice s135a s135l s135c) ∧
                          ∃ n136 : Int, w133.cell? (p16.add 1) = some (.int .i64 n136) ∧
                          (0 : Int) ≤ (IntKind.i64.wrap ((IntKind.i64.wrap (s110.1 * n136)) + s124.2.1)) ∧ (IntKind.i64.wrap ((IntKind.i64.wrap (s110.1 * n136)) + s124.2.1)) < (s135l : Nat) ∧
                          optM s135a fun a137 =>
                          ∃ x138 : Nat, w133.cell? (a137.add ((IntKind.i64.wrap ((IntKind.i64.wrap (s110.1 * n136)) + s124.2.1)).toNat * 1)) = some (.float .f64 x138) ∧
                          f2iM x138 .i64 w133 fun n139 w140 =>
                          ∃ (s141a : Option Addr) (s141l s141c : Nat), w133.cell? (p18.add 2) = some (.slice s141a s141l s141c) ∧
                          ∃ n142 : Int, w133.cell? (p18.add 1) = some (.int .i64 n142) ∧
                          (0 : Int) ≤ (IntKind.i64.wrap ((IntKind.i64.wrap (s124.2.1 * n142)) + s131.2.1)) ∧ (IntKind.i64.wrap ((IntKind.i64.wrap (s124.2.1 * n142)) + s131.2.1)) < (s141l : Nat) ∧
                          optM s141a fun a143 =>
                          ∃ x144 : Nat, w133.cell? (a143.add ((IntKind.i64.wrap ((IntKind.i64.wrap (s124.2.1 * n142)) + s131.2.1)).toNat * 1)) = some (.float .f64 x144) ∧
                          f2iM x144 .i64 w133 fun n145 w146 =>
                          ∃ (s147a : Option Addr) (s147l s147c : Nat), w133.cell? (p20.add 2) = some (.slice s147a s147l s147c) ∧
                          ∃ n148 : Int, w133.cell? (p20.add 1) = some (.int .i64 n148) ∧
                          (0 : Int) ≤ (IntKind.i64.wrap ((IntKind.i64.wrap (s131.2.1 * n148)) + s117.1)) ∧ (IntKind.i64.wrap ((IntKind.i64.wrap (s131.2.1 * n148)) + s117.1)) < (s147l : Nat) ∧
                          optM s147a fun a149 =>
                          ∃ x150 : Nat, w133.cell? (a149.add ((IntKind.i64.wrap ((IntKind.i64.wrap (s131.2.1 * n148)) + s117.1)).toNat * 1)) = some (.float .f64 x150) ∧
                          f2iM x150 .i64 w133 fun n151 w152 =>
                          drM w133 fun w153 =>
                          X132 ((IntKind.i64.wrap (s131.1 + (IntKind.i64.wrap ((IntKind.i64.wrap (n139 * n145)) * n151)))), (IntKind.i64.wrap (s131.2.1 + 1)), ()) w153)
                          (J128 (s131.1, ()) w133))
                          (s124.1, 0, ()) w126)
                        (fun s129 w130 =>
                          X125 (s129.1, (IntKind.i64.wrap (s124.2.1 + 1)), ()) w130))
                      (J121 (s124.1, ()) w126))
                    (0, 0, ()) w119)
                  (fun s122 w123 =>
                    ∃ (s154a : Option Addr) (s154l s154c : Nat), w123.cell? (p77.add 2) = some (.slice s154a s154l s154c) ∧
                    ∃ n155 : Int, w123.cell? (p20.add 1) = some (.int .i64 n155) ∧
                    (0 : Int) ≤ (IntKind.i64.wrap ((IntKind.i64.wrap (s110.1 * n155)) + s117.1)) ∧ (IntKind.i64.wrap ((IntKind.i64.wrap (s110.1 * n155)) + s117.1)) < (s154l : Nat) ∧
                    optM s154a fun a156 =>
                    ∃ x157 : Nat, w123.cell? (a156.add ((IntKind.i64.wrap ((IntKind.i64.wrap (s110.1 * n155)) + s117.1)).toNat * 1)) = some (.float .f64 x157) ∧
                    ∃ (s158a : Option Addr) (s158l s158c : Nat), w123.cell? (p94.add 2) = some (.slice s158a s158l s158c) ∧
                    ∃ n159 : Int, w123.cell? (p20.add 1) = some (.int .i64 n159) ∧
                    (0 : Int) ≤ (IntKind.i64.wrap ((IntKind.i64.wrap (s110.1 * n159)) + s117.1)) ∧ (IntKind.i64.wrap ((IntKind.i64.wrap (s110.1 * n159)) + s117.1)) < (s158l : Nat) ∧
                    optM s158a fun a160 =>
                    ∃ x161 : Nat, w123.cell? (a160.add ((IntKind.i64.wrap ((IntKind.i64.wrap (s110.1 * n159)) + s117.1)).toNat * 1)) = some (.float .f64 x161) ∧
                    cond (!(!feq x157 x161))
                    (cond (!feq x157 (FloatKind.f64.nearest s122.1))
                      (K (.bool false) w123)
                      (X118 ((IntKind.i64.wrap (s117.1 + 1)), ()) w123))
                    (K (.bool false) w123)))
                (J114 (()) w119))
              (0, ()) w112)
            (fun s115 w116 =>
              X111 ((IntKind.i64.wrap (s110.1 + 1)), ()) w116))
          (J107 (()) w112))
        (0, ()) w101)
      (fun s108 w109 =>
        CallsX P N.f_girderlaw10_laid #[.int .i64 q0, .int .i64 q1, .slice q4 q4l q4c, .bool false] w109 fun v163 w162 =>
        ∃ n164 : Int, ∃ n165 : Int, ∃ (s166a : Option Addr) (s166l s166c : Nat), v163 = (.agg #[.int .i64 n164, .int .i64 n165, .slice s166a s166l s166c]) ∧
        newM #[.int .i64 0, .int .i64 0, .slice none 0 0] N.t_Matrix w162 fun p167 w168 =>
        stM p167 (.int .i64 n164) w168 fun w169 =>
        stM (p167.add 1) (.int .i64 n165) w169 fun w170 =>
        stM (p167.add 2) (.slice s166a s166l s166c) w170 fun w171 =>
        ∃ n172 : Int, w171.cell? (p167.add 1) = some (.int .i64 n172) ∧
        CallsX P N.f_matrix_Identity #[.int .i64 n172] w171 fun v174 w173 =>
        ∃ n175 : Int, ∃ n176 : Int, ∃ (s177a : Option Addr) (s177l s177c : Nat), ∃ n178 : Int, v174 = (.tuple #[.agg #[.int .i64 n175, .int .i64 n176, .slice s177a s177l s177c], .int .i64 n178]) ∧
        newM #[.int .i64 0, .int .i64 0, .slice none 0 0] N.t_Matrix w173 fun p179 w180 =>
        stM p179 (.int .i64 n175) w180 fun w181 =>
        stM (p179.add 1) (.int .i64 n176) w181 fun w182 =>
        stM (p179.add 2) (.slice s177a s177l s177c) w182 fun w183 =>
        ∃ n184 : Int, w183.cell? p167 = some (.int .i64 n184) ∧
        CallsX P N.f_matrix_Identity #[.int .i64 n184] w183 fun v186 w185 =>
        ∃ n187 : Int, ∃ n188 : Int, ∃ (s189a : Option Addr) (s189l s189c : Nat), ∃ n190 : Int, v186 = (.tuple #[.agg #[.int .i64 n187, .int .i64 n188, .slice s189a s189l s189c], .int .i64 n190]) ∧
        newM #[.int .i64 0, .int .i64 0, .slice none 0 0] N.t_Matrix w185 fun p191 w192 =>
        stM p191 (.int .i64 n187) w192 fun w193 =>
        stM (p191.add 1) (.int .i64 n188) w193 fun w194 =>
        stM (p191.add 2) (.slice s189a s189l s189c) w194 fun w195 =>
        ∃ n196 : Int, w195.cell? p167 = some (.int .i64 n196) ∧
        ∃ n197 : Int, w195.cell? (p167.add 1) = some (.int .i64 n197) ∧
        ∃ (s198a : Option Addr) (s198l s198c : Nat), w195.cell? (p167.add 2) = some (.slice s198a s198l s198c) ∧
        ∃ n199 : Int, w195.cell? p179 = some (.int .i64 n199) ∧
        ∃ n200 : Int, w195.cell? (p179.add 1) = some (.int .i64 n200) ∧
        ∃ (s201a : Option Addr) (s201l s201c : Nat), w195.cell? (p179.add 2) = some (.slice s201a s201l s201c) ∧
        CallsX P N.f_matrix_Mul #[.agg #[.int .i64 n196, .int .i64 n197, .slice s198a s198l s198c], .agg #[.int .i64 n199, .int .i64 n200, .slice s201a s201l s201c]] w195 fun v203 w202 =>
        ∃ n204 : Int, ∃ n205 : Int, ∃ (s206a : Option Addr) (s206l s206c : Nat), ∃ n207 : Int, v203 = (.tuple #[.agg #[.int .i64 n204, .int .i64 n205, .slice s206a s206l s206c], .int .i64 n207]) ∧
        newM #[.int .i64 0, .int .i64 0, .slice none 0 0] N.t_Matrix w202 fun p208 w209 =>
        stM p208 (.int .i64 n204) w209 fun w210 =>
        stM (p208.add 1) (.int .i64 n205) w210 fun w211 =>
        stM (p208.add 2) (.slice s206a s206l s206c) w211 fun w212 =>
        ∃ n213 : Int, w212.cell? p191 = some (.int .i64 n213) ∧
        ∃ n214 : Int, w212.cell? (p191.add 1) = some (.int .i64 n214) ∧
        ∃ (s215a : Option Addr) (s215l s215c : Nat), w212.cell? (p191.add 2) = some (.slice s215a s215l s215c) ∧
        ∃ n216 : Int, w212.cell? p167 = some (.int .i64 n216) ∧
        ∃ n217 : Int, w212.cell? (p167.add 1) = some (.int .i64 n217) ∧
        ∃ (s218a : Option Addr) (s218l s218c : Nat), w212.cell? (p167.add 2) = some (.slice s218a s218l s218c) ∧
        CallsX P N.f_matrix_Mul #[.agg #[.int .i64 n213, .int .i64 n214, .slice s215a s215l s215c], .agg #[.int .i64 n216, .int .i64 n217, .slice s218a s218l s218c]] w212 fun v220 w219 =>
        ∃ n221 : Int, ∃ n222 : Int, ∃ (s223a : Option Addr) (s223l s223c : Nat), ∃ n224 : Int, v220 = (.tuple #[.agg #[.int .i64 n221, .int .i64 n222, .slice s223a s223l s223c], .int .i64 n224]) ∧
        newM #[.int .i64 0, .int .i64 0, .slice none 0 0] N.t_Matrix w219 fun p225 w226 =>
        stM p225 (.int .i64 n221) w226 fun w227 =>
        stM (p225.add 1) (.int .i64 n222) w227 fun w228 =>
        stM (p225.add 2) (.slice s223a s223l s223c) w228 fun w229 =>
        cutM (σ := Bool × Unit) (fun J230 =>
          cond (!(n178 != 0))
          (cond (!(n190 != 0))
            (cond (!(n207 != 0))
              (cond (!(n224 != 0))
                (∃ (s233a : Option Addr) (s233l s233c : Nat), w229.cell? (p208.add 2) = some (.slice s233a s233l s233c) ∧
                  ∃ (s234a : Option Addr) (s234l s234c : Nat), w229.cell? (p167.add 2) = some (.slice s234a s234l s234c) ∧
                  cond (!(((s233l : Nat) : Int) != ((s234l : Nat) : Int)))
                  (∃ (s235a : Option Addr) (s235l s235c : Nat), w229.cell? (p225.add 2) = some (.slice s235a s235l s235c) ∧
                    ∃ (s236a : Option Addr) (s236l s236c : Nat), w229.cell? (p167.add 2) = some (.slice s236a s236l s236c) ∧
                    J230 ((((s235l : Nat) : Int) != ((s236l : Nat) : Int)), ()) w229)
                  (J230 (true, ()) w229))
                (J230 (true, ()) w229))
              (J230 (true, ()) w229))
            (J230 (true, ()) w229))
          (J230 (true, ()) w229))
        (fun s231 w232 =>
          cond s231.1
          (K (.bool false) w232)
          (∃ n237 : Int, w232.cell? p167 = some (.int .i64 n237) ∧
            ∃ n238 : Int, w232.cell? (p167.add 1) = some (.int .i64 n238) ∧
            ∃ (s239a : Option Addr) (s239l s239c : Nat), w232.cell? (p167.add 2) = some (.slice s239a s239l s239c) ∧
            ∃ n240 : Int, w232.cell? p167 = some (.int .i64 n240) ∧
            ∃ n241 : Int, w232.cell? (p167.add 1) = some (.int .i64 n241) ∧
            ∃ (s242a : Option Addr) (s242l s242c : Nat), w232.cell? (p167.add 2) = some (.slice s242a s242l s242c) ∧
            CallsX P N.f_matrix_Sub #[.agg #[.int .i64 n237, .int .i64 n238, .slice s239a s239l s239c], .agg #[.int .i64 n240, .int .i64 n241, .slice s242a s242l s242c]] w232 fun v244 w243 =>
            ∃ n245 : Int, ∃ n246 : Int, ∃ (s247a : Option Addr) (s247l s247c : Nat), ∃ n248 : Int, v244 = (.tuple #[.agg #[.int .i64 n245, .int .i64 n246, .slice s247a s247l s247c], .int .i64 n248]) ∧
            newM #[.int .i64 0, .int .i64 0, .slice none 0 0] N.t_Matrix w243 fun p249 w250 =>
            stM p249 (.int .i64 n245) w250 fun w251 =>
            stM (p249.add 1) (.int .i64 n246) w251 fun w252 =>
            stM (p249.add 2) (.slice s247a s247l s247c) w252 fun w253 =>
            cutM (σ := Unit) (fun J254 =>
              loopM (σ := Int × Unit) (fun s257 X258 w259 =>
                ∃ (s260a : Option Addr) (s260l s260c : Nat), w259.cell? (p167.add 2) = some (.slice s260a s260l s260c) ∧
                cond (decide (s257.1 < ((s260l : Nat) : Int)))
                (∃ (s261a : Option Addr) (s261l s261c : Nat), w259.cell? (p167.add 2) = some (.slice s261a s261l s261c) ∧
                  drM w259 fun w262 =>
                  CallsX P N.f_girderlaw10_finite #[.slice s261a s261l s261c] w262 fun v264 w263 =>
                  ∃ b265 : Bool, v264 = (.bool b265) ∧
                  cond b265
                  (∃ (s266a : Option Addr) (s266l s266c : Nat), w263.cell? (p208.add 2) = some (.slice s266a s266l s266c) ∧
                    (0 : Int) ≤ s257.1 ∧ s257.1 < (s266l : Nat) ∧
                    optM s266a fun a267 =>
                    ∃ x268 : Nat, w263.cell? (a267.add (s257.1.toNat * 1)) = some (.float .f64 x268) ∧
                    ∃ (s269a : Option Addr) (s269l s269c : Nat), w263.cell? (p167.add 2) = some (.slice s269a s269l s269c) ∧
                    (0 : Int) ≤ s257.1 ∧ s257.1 < (s269l : Nat) ∧
                    optM s269a fun a270 =>
                    ∃ x271 : Nat, w263.cell? (a270.add (s257.1.toNat * 1)) = some (.float .f64 x271) ∧
                    cond (!(!feq x268 x271))
                    (∃ (s272a : Option Addr) (s272l s272c : Nat), w263.cell? (p225.add 2) = some (.slice s272a s272l s272c) ∧
                      (0 : Int) ≤ s257.1 ∧ s257.1 < (s272l : Nat) ∧
                      optM s272a fun a273 =>
                      ∃ x274 : Nat, w263.cell? (a273.add (s257.1.toNat * 1)) = some (.float .f64 x274) ∧
                      ∃ (s275a : Option Addr) (s275l s275c : Nat), w263.cell? (p167.add 2) = some (.slice s275a s275l s275c) ∧
                      (0 : Int) ≤ s257.1 ∧ s257.1 < (s275l : Nat) ∧
                      optM s275a fun a276 =>
                      ∃ x277 : Nat, w263.cell? (a276.add (s257.1.toNat * 1)) = some (.float .f64 x277) ∧
                      cond (!(!feq x274 x277))
                      (cond (!(n248 != 0))
                        (∃ (s278a : Option Addr) (s278l s278c : Nat), w263.cell? (p249.add 2) = some (.slice s278a s278l s278c) ∧
                          (0 : Int) ≤ s257.1 ∧ s257.1 < (s278l : Nat) ∧
                          optM s278a fun a279 =>
                          ∃ x280 : Nat, w263.cell? (a279.add (s257.1.toNat * 1)) = some (.float .f64 x280) ∧
                          drM w263 fun w281 =>
                          CallsX P N.f_girderkit_SameFloat #[.float .f64 x280, .float .f64 0] w281 fun v283 w282 =>
                          ∃ b284 : Bool, v283 = (.bool b284) ∧
                          w282.cell? (p167.add 2) = some (.slice s275a s275l s275c) ∧
                          w282.cell? (p225.add 2) = some (.slice s272a s272l s272c) ∧
                          w282.cell? (p167.add 2) = some (.slice s269a s269l s269c) ∧
                          w282.cell? (p208.add 2) = some (.slice s266a s266l s266c) ∧
                          drM w282 fun w285 =>
                          cond (!b284)
                          (K (.bool false) w285)
                          (X258 ((IntKind.i64.wrap (s257.1 + 1)), ()) w285))
                        (drM w263 fun w286 =>
                          w286.cell? (p167.add 2) = some (.slice s275a s275l s275c) ∧
                          w286.cell? (p225.add 2) = some (.slice s272a s272l s272c) ∧
                          w286.cell? (p167.add 2) = some (.slice s269a s269l s269c) ∧
                          w286.cell? (p208.add 2) = some (.slice s266a s266l s266c) ∧
                          drM w286 fun w287 =>
                          K (.bool false) w287))
                      (drM w263 fun w288 =>
                        w288.cell? (p167.add 2) = some (.slice s275a s275l s275c) ∧
                        w288.cell? (p225.add 2) = some (.slice s272a s272l s272c) ∧
                        w288.cell? (p167.add 2) = some (.slice s269a s269l s269c) ∧
                        w288.cell? (p208.add 2) = some (.slice s266a s266l s266c) ∧
                        drM w288 fun w289 =>
                        K (.bool false) w289))
                    (drM w263 fun w290 =>
                      w290.cell? (p167.add 2) = some (.slice s269a s269l s269c) ∧
                      w290.cell? (p208.add 2) = some (.slice s266a s266l s266c) ∧
                      drM w290 fun w291 =>
                      K (.bool false) w291))
                  (drM w263 fun w292 =>
                    drM w292 fun w293 =>
                    X258 ((IntKind.i64.wrap (s257.1 + 1)), ()) w293))
                (J254 (()) w259))
              (0, ()) w253)
            (fun s255 w256 =>
              CallsX P N.f_girderlaw10_awake #[] w256 fun v295 w294 =>
              ∃ b296 : Bool, v295 = (.bool b296) ∧
              K (.bool b296) w294))))))

/-- girder/girderlaw10.MatrixTurns -/
def S_girderlaw10_MatrixTurns (N : Nums) (P : Program) (q0 : Int) (q1 : Int) (q2 : Int) (q3 : Option Addr) (q3l q3c : Nat) (q4 : Option Addr) (q4l q4c : Nat) (w : World) (K : Value → World → Prop) : Prop :=
  CallsX P N.f_girderlaw10_laid #[.int .i64 q0, .int .i64 q1, .slice q3 q3l q3c, .bool false] w fun v2 w1 =>
  ∃ n3 : Int, ∃ n4 : Int, ∃ (s5a : Option Addr) (s5l s5c : Nat), v2 = (.agg #[.int .i64 n3, .int .i64 n4, .slice s5a s5l s5c]) ∧
  CallsX P N.f_girderlaw10_laid #[.int .i64 q1, .int .i64 q2, .slice q4 q4l q4c, .bool false] w1 fun v7 w6 =>
  ∃ n8 : Int, ∃ n9 : Int, ∃ (s10a : Option Addr) (s10l s10c : Nat), v7 = (.agg #[.int .i64 n8, .int .i64 n9, .slice s10a s10l s10c]) ∧
  newM #[.int .i64 0, .int .i64 0, .slice none 0 0] N.t_Matrix w6 fun p11 w12 =>
  newM #[.int .i64 0, .int .i64 0, .slice none 0 0] N.t_Matrix w12 fun p13 w14 =>
  stM p11 (.int .i64 n3) w14 fun w15 =>
  stM (p11.add 1) (.int .i64 n4) w15 fun w16 =>
  stM (p11.add 2) (.slice s5a s5l s5c) w16 fun w17 =>
  stM p13 (.int .i64 n8) w17 fun w18 =>
  stM (p13.add 1) (.int .i64 n9) w18 fun w19 =>
  stM (p13.add 2) (.slice s10a s10l s10c) w19 fun w20 =>
  ∃ n21 : Int, w20.cell? p11 = some (.int .i64 n21) ∧
  ∃ n22 : Int, w20.cell? (p11.add 1) = some (.int .i64 n22) ∧
  ∃ (s23a : Option Addr) (s23l s23c : Nat), w20.cell? (p11.add 2) = some (.slice s23a s23l s23c) ∧
  ∃ n24 : Int, w20.cell? p13 = some (.int .i64 n24) ∧
  ∃ n25 : Int, w20.cell? (p13.add 1) = some (.int .i64 n25) ∧
  ∃ (s26a : Option Addr) (s26l s26c : Nat), w20.cell? (p13.add 2) = some (.slice s26a s26l s26c) ∧
  CallsX P N.f_matrix_Mul #[.agg #[.int .i64 n21, .int .i64 n22, .slice s23a s23l s23c], .agg #[.int .i64 n24, .int .i64 n25, .slice s26a s26l s26c]] w20 fun v28 w27 =>
  ∃ n29 : Int, ∃ n30 : Int, ∃ (s31a : Option Addr) (s31l s31c : Nat), ∃ n32 : Int, v28 = (.tuple #[.agg #[.int .i64 n29, .int .i64 n30, .slice s31a s31l s31c], .int .i64 n32]) ∧
  newM #[.int .i64 0, .int .i64 0, .slice none 0 0] N.t_Matrix w27 fun p33 w34 =>
  stM p33 (.int .i64 n29) w34 fun w35 =>
  stM (p33.add 1) (.int .i64 n30) w35 fun w36 =>
  stM (p33.add 2) (.slice s31a s31l s31c) w36 fun w37 =>
  ∃ n38 : Int, w37.cell? p33 = some (.int .i64 n38) ∧
  ∃ n39 : Int, w37.cell? (p33.add 1) = some (.int .i64 n39) ∧
  ∃ (s40a : Option Addr) (s40l s40c : Nat), w37.cell? (p33.add 2) = some (.slice s40a s40l s40c) ∧
  CallsX P N.f_matrix_Transpose #[.agg #[.int .i64 n38, .int .i64 n39, .slice s40a s40l s40c]] w37 fun v42 w41 =>
  ∃ n43 : Int, ∃ n44 : Int, ∃ (s45a : Option Addr) (s45l s45c : Nat), ∃ n46 : Int, v42 = (.tuple #[.agg #[.int .i64 n43, .int .i64 n44, .slice s45a s45l s45c], .int .i64 n46]) ∧
  newM #[.int .i64 0, .int .i64 0, .slice none 0 0] N.t_Matrix w41 fun p47 w48 =>
  stM p47 (.int .i64 n43) w48 fun w49 =>
  stM (p47.add 1) (.int .i64 n44) w49 fun w50 =>
  stM (p47.add 2) (.slice s45a s45l s45c) w50 fun w51 =>
  ∃ n52 : Int, w51.cell? p11 = some (.int .i64 n52) ∧
  ∃ n53 : Int, w51.cell? (p11.add 1) = some (.int .i64 n53) ∧
  ∃ (s54a : Option Addr) (s54l s54c : Nat), w51.cell? (p11.add 2) = some (.slice s54a s54l s54c) ∧
  CallsX P N.f_matrix_Transpose #[.agg #[.int .i64 n52, .int .i64 n53, .slice s54a s54l s54c]] w51 fun v56 w55 =>
  ∃ n57 : Int, ∃ n58 : Int, ∃ (s59a : Option Addr) (s59l s59c : Nat), ∃ n60 : Int, v56 = (.tuple #[.agg #[.int .i64 n57, .int .i64 n58, .slice s59a s59l s59c], .int .i64 n60]) ∧
  newM #[.int .i64 0, .int .i64 0, .slice none 0 0] N.t_Matrix w55 fun p61 w62 =>
  stM p61 (.int .i64 n57) w62 fun w63 =>
  stM (p61.add 1) (.int .i64 n58) w63 fun w64 =>
  stM (p61.add 2) (.slice s59a s59l s59c) w64 fun w65 =>
  ∃ n66 : Int, w65.cell? p13 = some (.int .i64 n66) ∧
  ∃ n67 : Int, w65.cell? (p13.add 1) = some (.int .i64 n67) ∧
  ∃ (s68a : Option Addr) (s68l s68c : Nat), w65.cell? (p13.add 2) = some (.slice s68a s68l s68c) ∧
  CallsX P N.f_matrix_Transpose #[.agg #[.int .i64 n66, .int .i64 n67, .slice s68a s68l s68c]] w65 fun v70 w69 =>
  ∃ n71 : Int, ∃ n72 : Int, ∃ (s73a : Option Addr) (s73l s73c : Nat), ∃ n74 : Int, v70 = (.tuple #[.agg #[.int .i64 n71, .int .i64 n72, .slice s73a s73l s73c], .int .i64 n74]) ∧
  newM #[.int .i64 0, .int .i64 0, .slice none 0 0] N.t_Matrix w69 fun p75 w76 =>
  stM p75 (.int .i64 n71) w76 fun w77 =>
  stM (p75.add 1) (.int .i64 n72) w77 fun w78 =>
  stM (p75.add 2) (.slice s73a s73l s73c) w78 fun w79 =>
  ∃ n80 : Int, w79.cell? p75 = some (.int .i64 n80) ∧
  ∃ n81 : Int, w79.cell? (p75.add 1) = some (.int .i64 n81) ∧
  ∃ (s82a : Option Addr) (s82l s82c : Nat), w79.cell? (p75.add 2) = some (.slice s82a s82l s82c) ∧
  ∃ n83 : Int, w79.cell? p61 = some (.int .i64 n83) ∧
  ∃ n84 : Int, w79.cell? (p61.add 1) = some (.int .i64 n84) ∧
  ∃ (s85a : Option Addr) (s85l s85c : Nat), w79.cell? (p61.add 2) = some (.slice s85a s85l s85c) ∧
  CallsX P N.f_matrix_Mul #[.agg #[.int .i64 n80, .int .i64 n81, .slice s82a s82l s82c], .agg #[.int .i64 n83, .int .i64 n84, .slice s85a s85l s85c]] w79 fun v87 w86 =>
  ∃ n88 : Int, ∃ n89 : Int, ∃ (s90a : Option Addr) (s90l s90c : Nat), ∃ n91 : Int, v87 = (.tuple #[.agg #[.int .i64 n88, .int .i64 n89, .slice s90a s90l s90c], .int .i64 n91]) ∧
  newM #[.int .i64 0, .int .i64 0, .slice none 0 0] N.t_Matrix w86 fun p92 w93 =>
  stM p92 (.int .i64 n88) w93 fun w94 =>
  stM (p92.add 1) (.int .i64 n89) w94 fun w95 =>
  stM (p92.add 2) (.slice s90a s90l s90c) w95 fun w96 =>
  ∃ n97 : Int, w96.cell? p61 = some (.int .i64 n97) ∧
  ∃ n98 : Int, w96.cell? (p61.add 1) = some (.int .i64 n98) ∧
  ∃ (s99a : Option Addr) (s99l s99c : Nat), w96.cell? (p61.add 2) = some (.slice s99a s99l s99c) ∧
  CallsX P N.f_matrix_Transpose #[.agg #[.int .i64 n97, .int .i64 n98, .slice s99a s99l s99c]] w96 fun v101 w100 =>
  ∃ n102 : Int, ∃ n103 : Int, ∃ (s104a : Option Addr) (s104l s104c : Nat), ∃ n105 : Int, v101 = (.tuple #[.agg #[.int .i64 n102, .int .i64 n103, .slice s104a s104l s104c], .int .i64 n105]) ∧
  newM #[.int .i64 0, .int .i64 0, .slice none 0 0] N.t_Matrix w100 fun p106 w107 =>
  stM p106 (.int .i64 n102) w107 fun w108 =>
  stM (p106.add 1) (.int .i64 n103) w108 fun w109 =>
  stM (p106.add 2) (.slice s104a s104l s104c) w109 fun w110 =>
  cutM (σ := Bool × Unit) (fun J111 =>
    cond (!(n32 != 0))
    (cond (!(n46 != 0))
      (cond (!(n60 != 0))
        (cond (!(n74 != 0))
          (cond (!(n91 != 0))
            (cond (!(n105 != 0))
              (∃ n114 : Int, w110.cell? p47 = some (.int .i64 n114) ∧
                ∃ n115 : Int, w110.cell? (p47.add 1) = some (.int .i64 n115) ∧
                ∃ (s116a : Option Addr) (s116l s116c : Nat), w110.cell? (p47.add 2) = some (.slice s116a s116l s116c) ∧
                ∃ n117 : Int, w110.cell? p92 = some (.int .i64 n117) ∧
                ∃ n118 : Int, w110.cell? (p92.add 1) = some (.int .i64 n118) ∧
                ∃ (s119a : Option Addr) (s119l s119c : Nat), w110.cell? (p92.add 2) = some (.slice s119a s119l s119c) ∧
                CallsX P N.f_girderkit_SameMatrix #[.agg #[.int .i64 n114, .int .i64 n115, .slice s116a s116l s116c], .agg #[.int .i64 n117, .int .i64 n118, .slice s119a s119l s119c]] w110 fun v121 w120 =>
                ∃ b122 : Bool, v121 = (.bool b122) ∧
                cond (!(!b122))
                (∃ n123 : Int, w120.cell? p106 = some (.int .i64 n123) ∧
                  ∃ n124 : Int, w120.cell? (p106.add 1) = some (.int .i64 n124) ∧
                  ∃ (s125a : Option Addr) (s125l s125c : Nat), w120.cell? (p106.add 2) = some (.slice s125a s125l s125c) ∧
                  ∃ n126 : Int, w120.cell? p11 = some (.int .i64 n126) ∧
                  ∃ n127 : Int, w120.cell? (p11.add 1) = some (.int .i64 n127) ∧
                  ∃ (s128a : Option Addr) (s128l s128c : Nat), w120.cell? (p11.add 2) = some (.slice s128a s128l s128c) ∧
                  CallsX P N.f_girderkit_SameMatrix #[.agg #[.int .i64 n123, .int .i64 n124, .slice s125a s125l s125c], .agg #[.int .i64 n126, .int .i64 n127, .slice s128a s128l s128c]] w120 fun v130 w129 =>
                  ∃ b131 : Bool, v130 = (.bool b131) ∧
                  cond (!(!b131))
                  (∃ n132 : Int, w129.cell? p47 = some (.int .i64 n132) ∧
                    ∃ n133 : Int, w129.cell? (p47.add 1) = some (.int .i64 n133) ∧
                    ∃ (s134a : Option Addr) (s134l s134c : Nat), w129.cell? (p47.add 2) = some (.slice s134a s134l s134c) ∧
                    ∃ n135 : Int, w129.cell? p92 = some (.int .i64 n135) ∧
                    ∃ n136 : Int, w129.cell? (p92.add 1) = some (.int .i64 n136) ∧
                    ∃ (s137a : Option Addr) (s137l s137c : Nat), w129.cell? (p92.add 2) = some (.slice s137a s137l s137c) ∧
                    CallsX P N.f_matrix_Same #[.agg #[.int .i64 n132, .int .i64 n133, .slice s134a s134l s134c], .agg #[.int .i64 n135, .int .i64 n136, .slice s137a s137l s137c]] w129 fun v139 w138 =>
                    ∃ b140 : Bool, v139 = (.bool b140) ∧
                    J111 ((!b140), ()) w138)
                  (J111 (true, ()) w129))
                (J111 (true, ()) w120))
              (J111 (true, ()) w110))
            (J111 (true, ()) w110))
          (J111 (true, ()) w110))
        (J111 (true, ()) w110))
      (J111 (true, ()) w110))
    (J111 (true, ()) w110))
  (fun s112 w113 =>
    cond s112.1
    (K (.bool false) w113)
    (cutM (σ := Unit) (fun J141 =>
        loopM (σ := Int × Unit) (fun s144 X145 w146 =>
          ∃ n147 : Int, w146.cell? (p13.add 1) = some (.int .i64 n147) ∧
          cond (decide (s144.1 < n147))
          (cutM (σ := (Option Addr × Nat × Nat) × Unit) (fun J148 =>
              loopM (σ := (Option Addr × Nat × Nat) × Int × Unit) (fun s151 X152 w153 =>
                ∃ n154 : Int, w153.cell? p13 = some (.int .i64 n154) ∧
                cond (decide (s151.2.1 < n154))
                (∃ (s155a : Option Addr) (s155l s155c : Nat), w153.cell? (p13.add 2) = some (.slice s155a s155l s155c) ∧
                  ∃ n156 : Int, w153.cell? (p13.add 1) = some (.int .i64 n156) ∧
                  (0 : Int) ≤ (IntKind.i64.wrap ((IntKind.i64.wrap (s151.2.1 * n156)) + s144.1)) ∧ (IntKind.i64.wrap ((IntKind.i64.wrap (s151.2.1 * n156)) + s144.1)) < (s155l : Nat) ∧
                  optM s155a fun a157 =>
                  ∃ x158 : Nat, w153.cell? (a157.add ((IntKind.i64.wrap ((IntKind.i64.wrap (s151.2.1 * n156)) + s144.1)).toNat * 1)) = some (.float .f64 x158) ∧
                  newM #[.float .f64 x158] N.t_float64 w153 fun p159 w160 =>
                  appM N.t_float64 1 8 #[.float .f64 0] s151.1.1 s151.1.2.1 s151.1.2.2 (some p159) 1 w160 fun s161a s161l s161c w162 =>
                  X152 ((s161a, s161l, s161c), (IntKind.i64.wrap (s151.2.1 + 1)), ()) w162)
                (J148 ((s151.1.1, s151.1.2.1, s151.1.2.2), ()) w153))
              ((none, 0, 0), 0, ()) w146)
            (fun s149 w150 =>
              cutM (σ := (Option Addr × Nat × Nat) × Unit) (fun J163 =>
                loopM (σ := (Option Addr × Nat × Nat) × Int × Unit) (fun s166 X167 w168 =>
                  ∃ n169 : Int, w168.cell? p11 = some (.int .i64 n169) ∧
                  cond (decide (s166.2.1 < n169))
                  (∃ (s170a : Option Addr) (s170l s170c : Nat), w168.cell? (p33.add 2) = some (.slice s170a s170l s170c) ∧
                    ∃ n171 : Int, w168.cell? (p13.add 1) = some (.int .i64 n171) ∧
                    (0 : Int) ≤ (IntKind.i64.wrap ((IntKind.i64.wrap (s166.2.1 * n171)) + s144.1)) ∧ (IntKind.i64.wrap ((IntKind.i64.wrap (s166.2.1 * n171)) + s144.1)) < (s170l : Nat) ∧
                    optM s170a fun a172 =>
                    ∃ x173 : Nat, w168.cell? (a172.add ((IntKind.i64.wrap ((IntKind.i64.wrap (s166.2.1 * n171)) + s144.1)).toNat * 1)) = some (.float .f64 x173) ∧
                    newM #[.float .f64 x173] N.t_float64 w168 fun p174 w175 =>
                    appM N.t_float64 1 8 #[.float .f64 0] s166.1.1 s166.1.2.1 s166.1.2.2 (some p174) 1 w175 fun s176a s176l s176c w177 =>
                    X167 ((s176a, s176l, s176c), (IntKind.i64.wrap (s166.2.1 + 1)), ()) w177)
                  (J163 ((s166.1.1, s166.1.2.1, s166.1.2.2), ()) w168))
                ((none, 0, 0), 0, ()) w150)
              (fun s164 w165 =>
                ∃ n178 : Int, w165.cell? p11 = some (.int .i64 n178) ∧
                ∃ n179 : Int, w165.cell? (p11.add 1) = some (.int .i64 n179) ∧
                ∃ (s180a : Option Addr) (s180l s180c : Nat), w165.cell? (p11.add 2) = some (.slice s180a s180l s180c) ∧
                CallsX P N.f_matrix_Apply #[.agg #[.int .i64 n178, .int .i64 n179, .slice s180a s180l s180c], .slice s149.1.1 s149.1.2.1 s149.1.2.2] w165 fun v182 w181 =>
                ∃ (s183a : Option Addr) (s183l s183c : Nat), ∃ n184 : Int, v182 = (.tuple #[.slice s183a s183l s183c, .int .i64 n184]) ∧
                cond (!(n184 != 0))
                (CallsX P N.f_girderkit_SameReals #[.slice s183a s183l s183c, .slice s164.1.1 s164.1.2.1 s164.1.2.2] w181 fun v186 w185 =>
                  ∃ b187 : Bool, v186 = (.bool b187) ∧
                  cond (!b187)
                  (K (.bool false) w185)
                  (X145 ((IntKind.i64.wrap (s144.1 + 1)), ()) w185))
                (K (.bool false) w181))))
          (J141 (()) w146))
        (0, ()) w113)
      (fun s142 w143 =>
        ∃ n188 : Int, w143.cell? p11 = some (.int .i64 n188) ∧
        ∃ n189 : Int, w143.cell? (p13.add 1) = some (.int .i64 n189) ∧
        cond (n188 == n189)
        (∃ n190 : Int, w143.cell? p75 = some (.int .i64 n190) ∧
          ∃ n191 : Int, w143.cell? (p75.add 1) = some (.int .i64 n191) ∧
          ∃ (s192a : Option Addr) (s192l s192c : Nat), w143.cell? (p75.add 2) = some (.slice s192a s192l s192c) ∧
          ∃ n193 : Int, w143.cell? p11 = some (.int .i64 n193) ∧
          ∃ n194 : Int, w143.cell? (p11.add 1) = some (.int .i64 n194) ∧
          ∃ (s195a : Option Addr) (s195l s195c : Nat), w143.cell? (p11.add 2) = some (.slice s195a s195l s195c) ∧
          CallsX P N.f_girderkit_SameMatrix #[.agg #[.int .i64 n190, .int .i64 n191, .slice s192a s192l s192c], .agg #[.int .i64 n193, .int .i64 n194, .slice s195a s195l s195c]] w143 fun v197 w196 =>
          ∃ b198 : Bool, v197 = (.bool b198) ∧
          cond b198
          (∃ n199 : Int, w196.cell? p11 = some (.int .i64 n199) ∧
            ∃ n200 : Int, w196.cell? (p11.add 1) = some (.int .i64 n200) ∧
            cond (n199 == n200)
            (∃ n201 : Int, w196.cell? p33 = some (.int .i64 n201) ∧
              ∃ n202 : Int, w196.cell? (p33.add 1) = some (.int .i64 n202) ∧
              ∃ (s203a : Option Addr) (s203l s203c : Nat), w196.cell? (p33.add 2) = some (.slice s203a s203l s203c) ∧
              CallsX P N.f_matrix_Symmetric #[.agg #[.int .i64 n201, .int .i64 n202, .slice s203a s203l s203c]] w196 fun v205 w204 =>
              ∃ b206 : Bool, v205 = (.bool b206) ∧
              cond (!b206)
              (K (.bool false) w204)
              (CallsX P N.f_girderlaw10_awake #[] w204 fun v208 w207 =>
                ∃ b209 : Bool, v208 = (.bool b209) ∧
                K (.bool b209) w207))
            (CallsX P N.f_girderlaw10_awake #[] w196 fun v211 w210 =>
              ∃ b212 : Bool, v211 = (.bool b212) ∧
              K (.bool b212) w210))
          (CallsX P N.f_girderlaw10_awake #[] w196 fun v214 w213 =>
            ∃ b215 : Bool, v214 = (.bool b215) ∧
            K (.bool b215) w213))
        (CallsX P N.f_girderlaw10_awake #[] w143 fun v217 w216 =>
          ∃ b218 : Bool, v217 = (.bool b218) ∧
          K (.bool b218) w216))))

/-- girder/girderlaw10.MatrixSizes -/
def S_girderlaw10_MatrixSizes (N : Nums) (P : Program) (q0 : Int) (q1 : Int) (q2 : Option Addr) (q2l q2c : Nat) (q3 : Option Addr) (q3l q3c : Nat) (w : World) (K : Value → World → Prop) : Prop :=
  CallsX P N.f_girderlaw10_laid #[.int .i64 q0, .int .i64 q1, .slice q2 q2l q2c, .bool false] w fun v2 w1 =>
  ∃ n3 : Int, ∃ n4 : Int, ∃ (s5a : Option Addr) (s5l s5c : Nat), v2 = (.agg #[.int .i64 n3, .int .i64 n4, .slice s5a s5l s5c]) ∧
  newM #[.int .i64 0, .int .i64 0, .slice none 0 0] N.t_Matrix w1 fun p6 w7 =>
  stM p6 (.int .i64 n3) w7 fun w8 =>
  stM (p6.add 1) (.int .i64 n4) w8 fun w9 =>
  stM (p6.add 2) (.slice s5a s5l s5c) w9 fun w10 =>
  ∃ n11 : Int, w10.cell? p6 = some (.int .i64 n11) ∧
  ∃ n12 : Int, w10.cell? (p6.add 1) = some (.int .i64 n12) ∧
  ∃ (s13a : Option Addr) (s13l s13c : Nat), w10.cell? (p6.add 2) = some (.slice s13a s13l s13c) ∧
  CallsX P N.f_matrix_Norm #[.agg #[.int .i64 n11, .int .i64 n12, .slice s13a s13l s13c]] w10 fun v15 w14 =>
  ∃ x16 : Nat, ∃ n17 : Int, v15 = (.tuple #[.float .f64 x16, .int .i64 n17]) ∧
  ∃ (s18a : Option Addr) (s18l s18c : Nat), w14.cell? (p6.add 2) = some (.slice s18a s18l s18c) ∧
  CallsX P N.f_girderlaw10_finite #[.slice s18a s18l s18c] w14 fun v20 w19 =>
  ∃ b21 : Bool, v20 = (.bool b21) ∧
  cond (!b21)
  (cond (n17 == 5)
    (cond (feq x16 0)
      (CallsX P N.f_girderlaw10_awake #[] w19 fun v23 w22 =>
        ∃ b24 : Bool, v23 = (.bool b24) ∧
        K (.bool b24) w22)
      (K (.bool false) w19))
    (K (.bool false) w19))
  (cutM (σ := Bool × Unit) (fun J25 =>
      cond (!(n17 != 0))
      (J25 ((!(fgt x16 0 || feq x16 0)), ()) w19)
      (J25 (true, ()) w19))
    (fun s26 w27 =>
      cond s26.1
      (K (.bool false) w27)
      (cutM (σ := Nat × Unit) (fun J28 =>
          loopM (σ := Nat × Int × Unit) (fun s31 X32 w33 =>
            ∃ n34 : Int, w33.cell? p6 = some (.int .i64 n34) ∧
            cond (decide (s31.2.1 < n34))
            (∃ n35 : Int, w33.cell? (p6.add 1) = some (.int .i64 n35) ∧
              ∃ (s36a : Option Addr) (s36l s36c : Nat), w33.cell? (p6.add 2) = some (.slice s36a s36l s36c) ∧
              ∃ n37 : Int, w33.cell? (p6.add 1) = some (.int .i64 n37) ∧
              ∃ n38 : Int, w33.cell? (p6.add 1) = some (.int .i64 n38) ∧
              (0 : Int) ≤ (IntKind.i64.wrap ((IntKind.i64.wrap (s31.2.1 + 1)) * n38)) ∧ (IntKind.i64.wrap ((IntKind.i64.wrap (s31.2.1 + 1)) * n38)) ≤ (s36c : Nat) ∧ (0 : Int) ≤ (IntKind.i64.wrap (s31.2.1 * n37)) ∧ (IntKind.i64.wrap (s31.2.1 * n37)) ≤ (IntKind.i64.wrap ((IntKind.i64.wrap (s31.2.1 + 1)) * n38)) ∧
              drM w33 fun w39 =>
              CallsX P N.f_girderkit_CopyReals #[.slice (slBase s36a ((IntKind.i64.wrap (s31.2.1 * n37)).toNat) s36c 1) ((IntKind.i64.wrap ((IntKind.i64.wrap (s31.2.1 + 1)) * n38)).toNat - (IntKind.i64.wrap (s31.2.1 * n37)).toNat) (s36c - (IntKind.i64.wrap (s31.2.1 * n37)).toNat)] w39 fun v41 w40 =>
              ∃ (s42a : Option Addr) (s42l s42c : Nat), v41 = (.slice s42a s42l s42c) ∧
              w40.cell? (p6.add 1) = some (.int .i64 n35) ∧
              drM w40 fun w43 =>
              CallsX P N.f_girderlaw10_of #[.int .i64 1, .int .i64 n35, .slice s42a s42l s42c] w43 fun v45 w44 =>
              ∃ n46 : Int, ∃ n47 : Int, ∃ (s48a : Option Addr) (s48l s48c : Nat), v45 = (.agg #[.int .i64 n46, .int .i64 n47, .slice s48a s48l s48c]) ∧
              drM w44 fun w49 =>
              CallsX P N.f_matrix_Norm #[.agg #[.int .i64 n46, .int .i64 n47, .slice s48a s48l s48c]] w49 fun v51 w50 =>
              ∃ x52 : Nat, ∃ n53 : Int, v51 = (.tuple #[.float .f64 x52, .int .i64 n53]) ∧
              drM w50 fun w54 =>
              cond (!(n53 != 0))
              (cond (fgt x52 x16)
                (K (.bool false) w54)
                (fmaxD true s31.1 x52 w54 fun x55 w56 =>
                  cutM (σ := Unit) (fun J57 =>
                    loopM (σ := Int × Unit) (fun s60 X61 w62 =>
                      ∃ n63 : Int, w62.cell? (p6.add 1) = some (.int .i64 n63) ∧
                      cond (decide (s60.1 < n63))
                      (∃ (s64a : Option Addr) (s64l s64c : Nat), w62.cell? (p6.add 2) = some (.slice s64a s64l s64c) ∧
                        ∃ n65 : Int, w62.cell? (p6.add 1) = some (.int .i64 n65) ∧
                        (0 : Int) ≤ (IntKind.i64.wrap ((IntKind.i64.wrap (s31.2.1 * n65)) + s60.1)) ∧ (IntKind.i64.wrap ((IntKind.i64.wrap (s31.2.1 * n65)) + s60.1)) < (s64l : Nat) ∧
                        optM s64a fun a66 =>
                        ∃ x67 : Nat, w62.cell? (a66.add ((IntKind.i64.wrap ((IntKind.i64.wrap (s31.2.1 * n65)) + s60.1)).toNat * 1)) = some (.float .f64 x67) ∧
                        cond (!(fgt x67 x52))
                        (cond (fgt (fneg x67) x52)
                          (K (.bool false) w62)
                          (X61 ((IntKind.i64.wrap (s60.1 + 1)), ()) w62))
                        (K (.bool false) w62))
                      (J57 (()) w62))
                    (0, ()) w56)
                  (fun s58 w59 =>
                    X32 (x55, (IntKind.i64.wrap (s31.2.1 + 1)), ()) w59)))
              (K (.bool false) w54))
            (J28 (s31.1, ()) w33))
          (0, 0, ()) w27)
        (fun s29 w30 =>
          CallsX P N.f_girderlaw10_laid #[.int .i64 q0, .int .i64 q1, .slice q2 q2l q2c, .bool true] w30 fun v69 w68 =>
          ∃ n70 : Int, ∃ n71 : Int, ∃ (s72a : Option Addr) (s72l s72c : Nat), v69 = (.agg #[.int .i64 n70, .int .i64 n71, .slice s72a s72l s72c]) ∧
          newM #[.int .i64 0, .int .i64 0, .slice none 0 0] N.t_Matrix w68 fun p73 w74 =>
          stM p73 (.int .i64 n70) w74 fun w75 =>
          stM (p73.add 1) (.int .i64 n71) w75 fun w76 =>
          stM (p73.add 2) (.slice s72a s72l s72c) w76 fun w77 =>
          ∃ n78 : Int, w77.cell? p73 = some (.int .i64 n78) ∧
          ∃ n79 : Int, w77.cell? (p73.add 1) = some (.int .i64 n79) ∧
          ∃ (s80a : Option Addr) (s80l s80c : Nat), w77.cell? (p73.add 2) = some (.slice s80a s80l s80c) ∧
          CallsX P N.f_matrix_Norm #[.agg #[.int .i64 n78, .int .i64 n79, .slice s80a s80l s80c]] w77 fun v82 w81 =>
          ∃ x83 : Nat, ∃ n84 : Int, v82 = (.tuple #[.float .f64 x83, .int .i64 n84]) ∧
          cutM (σ := (Option Addr × Nat × Nat) × Unit) (fun J85 =>
            loopM (σ := (Option Addr × Nat × Nat) × Int × Unit) (fun s88 X89 w90 =>
              ∃ n91 : Int, w90.cell? (p73.add 1) = some (.int .i64 n91) ∧
              cond (decide (s88.2.1 < n91))
              (cutM (σ := (Option Addr × Nat × Nat) × Unit) (fun J92 =>
                  newM #[.float .f64 4607182418800017408] N.t_float64 w90 fun p95 w96 =>
                  appM N.t_float64 1 8 #[.float .f64 0] s88.1.1 s88.1.2.1 s88.1.2.2 (some p95) 1 w96 fun s97a s97l s97c w98 =>
                  cond (decide (s88.2.1 < ((q3l : Nat) : Int)))
                  ((0 : Int) ≤ s88.2.1 ∧ s88.2.1 < (q3l : Nat) ∧
                    optM q3 fun a99 =>
                    ∃ b100 : Bool, w98.cell? (a99.add (s88.2.1.toNat * 1)) = some (.bool b100) ∧
                    cutM (σ := Unit) (fun J101 =>
                      cond b100
                      ((0 : Int) ≤ s88.2.1 ∧ s88.2.1 < (s97l : Nat) ∧
                        optM s97a fun a104 =>
                        stM (a104.add (s88.2.1.toNat * 1)) (.float .f64 13830554455654793216) w98 fun w105 =>
                        J101 (()) w105)
                      (J101 (()) w98))
                    (fun s102 w103 =>
                      J92 ((s97a, s97l, s97c), ()) w103))
                  (cutM (σ := Unit) (fun J106 =>
                      J106 (()) w98)
                    (fun s107 w108 =>
                      J92 ((s97a, s97l, s97c), ()) w108)))
                (fun s93 w94 =>
                  X89 ((s93.1.1, s93.1.2.1, s93.1.2.2), (IntKind.i64.wrap (s88.2.1 + 1)), ()) w94))
              (J85 ((s88.1.1, s88.1.2.1, s88.1.2.2), ()) w90))
            ((none, 0, 0), 0, ()) w81)
          (fun s86 w87 =>
            ∃ n109 : Int, w87.cell? p73 = some (.int .i64 n109) ∧
            ∃ n110 : Int, w87.cell? (p73.add 1) = some (.int .i64 n110) ∧
            ∃ (s111a : Option Addr) (s111l s111c : Nat), w87.cell? (p73.add 2) = some (.slice s111a s111l s111c) ∧
            CallsX P N.f_matrix_Apply #[.agg #[.int .i64 n109, .int .i64 n110, .slice s111a s111l s111c], .slice s86.1.1 s86.1.2.1 s86.1.2.2] w87 fun v113 w112 =>
            ∃ (s114a : Option Addr) (s114l s114c : Nat), ∃ n115 : Int, v113 = (.tuple #[.slice s114a s114l s114c, .int .i64 n115]) ∧
            cutM (σ := Bool × Unit) (fun J116 =>
              cond (!(n84 != 0))
              (cond (!(n115 != 0))
                (∃ n119 : Int, w112.cell? p73 = some (.int .i64 n119) ∧
                  J116 ((((s114l : Nat) : Int) != n119), ()) w112)
                (J116 (true, ()) w112))
              (J116 (true, ()) w112))
            (fun s117 w118 =>
              cond s117.1
              (K (.bool false) w118)
              (cutM (σ := Unit) (fun J120 =>
                  loopM (σ := Int × Unit) (fun s123 X124 w125 =>
                    cond (decide (s123.1 < ((s114l : Nat) : Int)))
                    ((0 : Int) ≤ s123.1 ∧ s123.1 < (s114l : Nat) ∧
                      optM s114a fun a126 =>
                      ∃ x127 : Nat, w125.cell? (a126.add (s123.1.toNat * 1)) = some (.float .f64 x127) ∧
                      cond (!(fgt x127 x83))
                      ((0 : Int) ≤ s123.1 ∧ s123.1 < (s114l : Nat) ∧
                        optM s114a fun a128 =>
                        ∃ x129 : Nat, w125.cell? (a128.add (s123.1.toNat * 1)) = some (.float .f64 x129) ∧
                        cond (fgt (fneg x129) x83)
                        (K (.bool false) w125)
                        (X124 ((IntKind.i64.wrap (s123.1 + 1)), ()) w125))
                      (K (.bool false) w125))
                    (J120 (()) w125))
                  (0, ()) w118)
                (fun s121 w122 =>
                  cond (feq s29.1 x16)
                  (CallsX P N.f_girderlaw10_awake #[] w122 fun v131 w130 =>
                    ∃ b132 : Bool, v131 = (.bool b132) ∧
                    K (.bool b132) w130)
                  (K (.bool false) w122)))))))))

/-- girder/girderlaw10.MatrixTells -/
def S_girderlaw10_MatrixTells (N : Nums) (P : Program) (q0_0 : Int) (q0_1 : Int) (q0_2 : Option Addr) (q0_2l q0_2c : Nat) (q1_0 : Int) (q1_1 : Int) (q1_2 : Option Addr) (q1_2l q1_2c : Nat) (q2 : Int) (q3 : Int) (w : World) (K : Value → World → Prop) : Prop :=
  newM #[.int .i64 q0_0, .int .i64 q0_1, .slice q0_2 q0_2l q0_2c] N.t_Matrix w fun p1 w2 =>
  newM #[.int .i64 q1_0, .int .i64 q1_1, .slice q1_2 q1_2l q1_2c] N.t_Matrix w2 fun p3 w4 =>
  cutM (σ := (Option Addr) × (Option Addr) × Unit) (fun J5 =>
    ∃ n8 : Int, w4.cell? p1 = some (.int .i64 n8) ∧
    ∃ n9 : Int, w4.cell? (p1.add 1) = some (.int .i64 n9) ∧
    ∃ (s10a : Option Addr) (s10l s10c : Nat), w4.cell? (p1.add 2) = some (.slice s10a s10l s10c) ∧
    ∃ n11 : Int, w4.cell? p3 = some (.int .i64 n11) ∧
    ∃ n12 : Int, w4.cell? (p3.add 1) = some (.int .i64 n12) ∧
    ∃ (s13a : Option Addr) (s13l s13c : Nat), w4.cell? (p3.add 2) = some (.slice s13a s13l s13c) ∧
    (drM w4 fun w14 =>
      CallsX P N.f_girderkit_LentMatrix #[.agg #[.int .i64 n8, .int .i64 n9, .slice s10a s10l s10c]] w14 fun v16 w15 =>
      ∃ n17 : Int, ∃ n18 : Int, ∃ (s19a : Option Addr) (s19l s19c : Nat), v16 = (.agg #[.int .i64 n17, .int .i64 n18, .slice s19a s19l s19c]) ∧
      w15.cell? p3 = some (.int .i64 n11) ∧
      w15.cell? (p3.add 1) = some (.int .i64 n12) ∧
      w15.cell? (p3.add 2) = some (.slice s13a s13l s13c) ∧
      (drM w15 fun w20 =>
        CallsX P N.f_girderkit_LentMatrix #[.agg #[.int .i64 n11, .int .i64 n12, .slice s13a s13l s13c]] w20 fun v22 w21 =>
        ∃ n23 : Int, ∃ n24 : Int, ∃ (s25a : Option Addr) (s25l s25c : Nat), v22 = (.agg #[.int .i64 n23, .int .i64 n24, .slice s25a s25l s25c]) ∧
        (drM w21 fun w26 =>
          newM #[.int .i64 0, .int .i64 0, .slice none 0 0] N.t_Matrix w26 fun p27 w28 =>
          drM w28 fun w29 =>
          newM #[.int .i64 0, .int .i64 0, .slice none 0 0] N.t_Matrix w29 fun p30 w31 =>
          drM w31 fun w32 =>
          stM p27 (.int .i64 n17) w32 fun w33 =>
          stM (p27.add 1) (.int .i64 n18) w33 fun w34 =>
          stM (p27.add 2) (.slice s19a s19l s19c) w34 fun w35 =>
          drM w35 fun w36 =>
          stM p30 (.int .i64 n23) w36 fun w37 =>
          stM (p30.add 1) (.int .i64 n24) w37 fun w38 =>
          stM (p30.add 2) (.slice s25a s25l s25c) w38 fun w39 =>
          drM w39 fun w40 =>
          J5 ((some p27), (some p30), ()) w40) ∧
        (drM w21 fun w41 =>
          newM #[.int .i64 0, .int .i64 0, .slice none 0 0] N.t_Matrix w41 fun p42 w43 =>
          drM w43 fun w44 =>
          newM #[.int .i64 0, .int .i64 0, .slice none 0 0] N.t_Matrix w44 fun p45 w46 =>
          drM w46 fun w47 =>
          stM p45 (.int .i64 n17) w47 fun w48 =>
          stM (p45.add 1) (.int .i64 n18) w48 fun w49 =>
          stM (p45.add 2) (.slice s19a s19l s19c) w49 fun w50 =>
          drM w50 fun w51 =>
          stM p42 (.int .i64 n23) w51 fun w52 =>
          stM (p42.add 1) (.int .i64 n24) w52 fun w53 =>
          stM (p42.add 2) (.slice s25a s25l s25c) w53 fun w54 =>
          drM w54 fun w55 =>
          J5 ((some p45), (some p42), ()) w55)) ∧
      (drM w15 fun w56 =>
        newM #[.int .i64 0, .int .i64 0, .slice none 0 0] N.t_Matrix w56 fun p57 w58 =>
        w58.cell? p3 = some (.int .i64 n11) ∧
        w58.cell? (p3.add 1) = some (.int .i64 n12) ∧
        w58.cell? (p3.add 2) = some (.slice s13a s13l s13c) ∧
        (drM w58 fun w59 =>
          CallsX P N.f_girderkit_LentMatrix #[.agg #[.int .i64 n11, .int .i64 n12, .slice s13a s13l s13c]] w59 fun v61 w60 =>
          ∃ n62 : Int, ∃ n63 : Int, ∃ (s64a : Option Addr) (s64l s64c : Nat), v61 = (.agg #[.int .i64 n62, .int .i64 n63, .slice s64a s64l s64c]) ∧
          drM w60 fun w65 =>
          newM #[.int .i64 0, .int .i64 0, .slice none 0 0] N.t_Matrix w65 fun p66 w67 =>
          drM w67 fun w68 =>
          stM p57 (.int .i64 n17) w68 fun w69 =>
          stM (p57.add 1) (.int .i64 n18) w69 fun w70 =>
          stM (p57.add 2) (.slice s19a s19l s19c) w70 fun w71 =>
          drM w71 fun w72 =>
          stM p66 (.int .i64 n62) w72 fun w73 =>
          stM (p66.add 1) (.int .i64 n63) w73 fun w74 =>
          stM (p66.add 2) (.slice s64a s64l s64c) w74 fun w75 =>
          drM w75 fun w76 =>
          J5 ((some p57), (some p66), ()) w76) ∧
        (drM w58 fun w77 =>
          newM #[.int .i64 0, .int .i64 0, .slice none 0 0] N.t_Matrix w77 fun p78 w79 =>
          w79.cell? p3 = some (.int .i64 n11) ∧
          w79.cell? (p3.add 1) = some (.int .i64 n12) ∧
          w79.cell? (p3.add 2) = some (.slice s13a s13l s13c) ∧
          drM w79 fun w80 =>
          CallsX P N.f_girderkit_LentMatrix #[.agg #[.int .i64 n11, .int .i64 n12, .slice s13a s13l s13c]] w80 fun v82 w81 =>
          ∃ n83 : Int, ∃ n84 : Int, ∃ (s85a : Option Addr) (s85l s85c : Nat), v82 = (.agg #[.int .i64 n83, .int .i64 n84, .slice s85a s85l s85c]) ∧
          drM w81 fun w86 =>
          stM p57 (.int .i64 n17) w86 fun w87 =>
          stM (p57.add 1) (.int .i64 n18) w87 fun w88 =>
          stM (p57.add 2) (.slice s19a s19l s19c) w88 fun w89 =>
          drM w89 fun w90 =>
          stM p78 (.int .i64 n83) w90 fun w91 =>
          stM (p78.add 1) (.int .i64 n84) w91 fun w92 =>
          stM (p78.add 2) (.slice s85a s85l s85c) w92 fun w93 =>
          drM w93 fun w94 =>
          J5 ((some p57), (some p78), ()) w94)) ∧
      (drM w15 fun w95 =>
        newM #[.int .i64 0, .int .i64 0, .slice none 0 0] N.t_Matrix w95 fun p96 w97 =>
        w97.cell? p3 = some (.int .i64 n11) ∧
        w97.cell? (p3.add 1) = some (.int .i64 n12) ∧
        w97.cell? (p3.add 2) = some (.slice s13a s13l s13c) ∧
        (drM w97 fun w98 =>
          CallsX P N.f_girderkit_LentMatrix #[.agg #[.int .i64 n11, .int .i64 n12, .slice s13a s13l s13c]] w98 fun v100 w99 =>
          ∃ n101 : Int, ∃ n102 : Int, ∃ (s103a : Option Addr) (s103l s103c : Nat), v100 = (.agg #[.int .i64 n101, .int .i64 n102, .slice s103a s103l s103c]) ∧
          drM w99 fun w104 =>
          newM #[.int .i64 0, .int .i64 0, .slice none 0 0] N.t_Matrix w104 fun p105 w106 =>
          drM w106 fun w107 =>
          stM p105 (.int .i64 n17) w107 fun w108 =>
          stM (p105.add 1) (.int .i64 n18) w108 fun w109 =>
          stM (p105.add 2) (.slice s19a s19l s19c) w109 fun w110 =>
          drM w110 fun w111 =>
          stM p96 (.int .i64 n101) w111 fun w112 =>
          stM (p96.add 1) (.int .i64 n102) w112 fun w113 =>
          stM (p96.add 2) (.slice s103a s103l s103c) w113 fun w114 =>
          drM w114 fun w115 =>
          J5 ((some p105), (some p96), ()) w115) ∧
        (drM w97 fun w116 =>
          newM #[.int .i64 0, .int .i64 0, .slice none 0 0] N.t_Matrix w116 fun p117 w118 =>
          w118.cell? p3 = some (.int .i64 n11) ∧
          w118.cell? (p3.add 1) = some (.int .i64 n12) ∧
          w118.cell? (p3.add 2) = some (.slice s13a s13l s13c) ∧
          drM w118 fun w119 =>
          CallsX P N.f_girderkit_LentMatrix #[.agg #[.int .i64 n11, .int .i64 n12, .slice s13a s13l s13c]] w119 fun v121 w120 =>
          ∃ n122 : Int, ∃ n123 : Int, ∃ (s124a : Option Addr) (s124l s124c : Nat), v121 = (.agg #[.int .i64 n122, .int .i64 n123, .slice s124a s124l s124c]) ∧
          drM w120 fun w125 =>
          stM p117 (.int .i64 n17) w125 fun w126 =>
          stM (p117.add 1) (.int .i64 n18) w126 fun w127 =>
          stM (p117.add 2) (.slice s19a s19l s19c) w127 fun w128 =>
          drM w128 fun w129 =>
          stM p96 (.int .i64 n122) w129 fun w130 =>
          stM (p96.add 1) (.int .i64 n123) w130 fun w131 =>
          stM (p96.add 2) (.slice s124a s124l s124c) w131 fun w132 =>
          drM w132 fun w133 =>
          J5 ((some p117), (some p96), ()) w133))) ∧
    (drM w4 fun w134 =>
      newM #[.int .i64 0, .int .i64 0, .slice none 0 0] N.t_Matrix w134 fun p135 w136 =>
      w136.cell? p3 = some (.int .i64 n11) ∧
      w136.cell? (p3.add 1) = some (.int .i64 n12) ∧
      w136.cell? (p3.add 2) = some (.slice s13a s13l s13c) ∧
      w136.cell? p1 = some (.int .i64 n8) ∧
      w136.cell? (p1.add 1) = some (.int .i64 n9) ∧
      w136.cell? (p1.add 2) = some (.slice s10a s10l s10c) ∧
      (drM w136 fun w137 =>
        CallsX P N.f_girderkit_LentMatrix #[.agg #[.int .i64 n8, .int .i64 n9, .slice s10a s10l s10c]] w137 fun v139 w138 =>
        ∃ n140 : Int, ∃ n141 : Int, ∃ (s142a : Option Addr) (s142l s142c : Nat), v139 = (.agg #[.int .i64 n140, .int .i64 n141, .slice s142a s142l s142c]) ∧
        w138.cell? p3 = some (.int .i64 n11) ∧
        w138.cell? (p3.add 1) = some (.int .i64 n12) ∧
        w138.cell? (p3.add 2) = some (.slice s13a s13l s13c) ∧
        (drM w138 fun w143 =>
          CallsX P N.f_girderkit_LentMatrix #[.agg #[.int .i64 n11, .int .i64 n12, .slice s13a s13l s13c]] w143 fun v145 w144 =>
          ∃ n146 : Int, ∃ n147 : Int, ∃ (s148a : Option Addr) (s148l s148c : Nat), v145 = (.agg #[.int .i64 n146, .int .i64 n147, .slice s148a s148l s148c]) ∧
          drM w144 fun w149 =>
          newM #[.int .i64 0, .int .i64 0, .slice none 0 0] N.t_Matrix w149 fun p150 w151 =>
          drM w151 fun w152 =>
          stM p135 (.int .i64 n140) w152 fun w153 =>
          stM (p135.add 1) (.int .i64 n141) w153 fun w154 =>
          stM (p135.add 2) (.slice s142a s142l s142c) w154 fun w155 =>
          drM w155 fun w156 =>
          stM p150 (.int .i64 n146) w156 fun w157 =>
          stM (p150.add 1) (.int .i64 n147) w157 fun w158 =>
          stM (p150.add 2) (.slice s148a s148l s148c) w158 fun w159 =>
          drM w159 fun w160 =>
          J5 ((some p135), (some p150), ()) w160) ∧
        (drM w138 fun w161 =>
          newM #[.int .i64 0, .int .i64 0, .slice none 0 0] N.t_Matrix w161 fun p162 w163 =>
          w163.cell? p3 = some (.int .i64 n11) ∧
          w163.cell? (p3.add 1) = some (.int .i64 n12) ∧
          w163.cell? (p3.add 2) = some (.slice s13a s13l s13c) ∧
          drM w163 fun w164 =>
          CallsX P N.f_girderkit_LentMatrix #[.agg #[.int .i64 n11, .int .i64 n12, .slice s13a s13l s13c]] w164 fun v166 w165 =>
          ∃ n167 : Int, ∃ n168 : Int, ∃ (s169a : Option Addr) (s169l s169c : Nat), v166 = (.agg #[.int .i64 n167, .int .i64 n168, .slice s169a s169l s169c]) ∧
          drM w165 fun w170 =>
          stM p135 (.int .i64 n140) w170 fun w171 =>
          stM (p135.add 1) (.int .i64 n141) w171 fun w172 =>
          stM (p135.add 2) (.slice s142a s142l s142c) w172 fun w173 =>
          drM w173 fun w174 =>
          stM p162 (.int .i64 n167) w174 fun w175 =>
          stM (p162.add 1) (.int .i64 n168) w175 fun w176 =>
          stM (p162.add 2) (.slice s169a s169l s169c) w176 fun w177 =>
          drM w177 fun w178 =>
          J5 ((some p135), (some p162), ()) w178)) ∧
      (drM w136 fun w179 =>
        newM #[.int .i64 0, .int .i64 0, .slice none 0 0] N.t_Matrix w179 fun p180 w181 =>
        w181.cell? p3 = some (.int .i64 n11) ∧
        w181.cell? (p3.add 1) = some (.int .i64 n12) ∧
        w181.cell? (p3.add 2) = some (.slice s13a s13l s13c) ∧
        w181.cell? p1 = some (.int .i64 n8) ∧
        w181.cell? (p1.add 1) = some (.int .i64 n9) ∧
        w181.cell? (p1.add 2) = some (.slice s10a s10l s10c) ∧
        drM w181 fun w182 =>
        CallsX P N.f_girderkit_LentMatrix #[.agg #[.int .i64 n8, .int .i64 n9, .slice s10a s10l s10c]] w182 fun v184 w183 =>
        ∃ n185 : Int, ∃ n186 : Int, ∃ (s187a : Option Addr) (s187l s187c : Nat), v184 = (.agg #[.int .i64 n185, .int .i64 n186, .slice s187a s187l s187c]) ∧
        w183.cell? p3 = some (.int .i64 n11) ∧
        w183.cell? (p3.add 1) = some (.int .i64 n12) ∧
        w183.cell? (p3.add 2) = some (.slice s13a s13l s13c) ∧
        drM w183 fun w188 =>
        CallsX P N.f_girderkit_LentMatrix #[.agg #[.int .i64 n11, .int .i64 n12, .slice s13a s13l s13c]] w188 fun v190 w189 =>
        ∃ n191 : Int, ∃ n192 : Int, ∃ (s193a : Option Addr) (s193l s193c : Nat), v190 = (.agg #[.int .i64 n191, .int .i64 n192, .slice s193a s193l s193c]) ∧
        drM w189 fun w194 =>
        stM p135 (.int .i64 n185) w194 fun w195 =>
        stM (p135.add 1) (.int .i64 n186) w195 fun w196 =>
        stM (p135.add 2) (.slice s187a s187l s187c) w196 fun w197 =>
        drM w197 fun w198 =>
        stM p180 (.int .i64 n191) w198 fun w199 =>
        stM (p180.add 1) (.int .i64 n192) w199 fun w200 =>
        stM (p180.add 2) (.slice s193a s193l s193c) w200 fun w201 =>
        drM w201 fun w202 =>
        J5 ((some p135), (some p180), ()) w202)) ∧
    (drM w4 fun w203 =>
      newM #[.int .i64 0, .int .i64 0, .slice none 0 0] N.t_Matrix w203 fun p204 w205 =>
      w205.cell? p3 = some (.int .i64 n11) ∧
      w205.cell? (p3.add 1) = some (.int .i64 n12) ∧
      w205.cell? (p3.add 2) = some (.slice s13a s13l s13c) ∧
      w205.cell? p1 = some (.int .i64 n8) ∧
      w205.cell? (p1.add 1) = some (.int .i64 n9) ∧
      w205.cell? (p1.add 2) = some (.slice s10a s10l s10c) ∧
      (drM w205 fun w206 =>
        CallsX P N.f_girderkit_LentMatrix #[.agg #[.int .i64 n8, .int .i64 n9, .slice s10a s10l s10c]] w206 fun v208 w207 =>
        ∃ n209 : Int, ∃ n210 : Int, ∃ (s211a : Option Addr) (s211l s211c : Nat), v208 = (.agg #[.int .i64 n209, .int .i64 n210, .slice s211a s211l s211c]) ∧
        w207.cell? p3 = some (.int .i64 n11) ∧
        w207.cell? (p3.add 1) = some (.int .i64 n12) ∧
        w207.cell? (p3.add 2) = some (.slice s13a s13l s13c) ∧
        (drM w207 fun w212 =>
          CallsX P N.f_girderkit_LentMatrix #[.agg #[.int .i64 n11, .int .i64 n12, .slice s13a s13l s13c]] w212 fun v214 w213 =>
          ∃ n215 : Int, ∃ n216 : Int, ∃ (s217a : Option Addr) (s217l s217c : Nat), v214 = (.agg #[.int .i64 n215, .int .i64 n216, .slice s217a s217l s217c]) ∧
          drM w213 fun w218 =>
          newM #[.int .i64 0, .int .i64 0, .slice none 0 0] N.t_Matrix w218 fun p219 w220 =>
          drM w220 fun w221 =>
          stM p219 (.int .i64 n209) w221 fun w222 =>
          stM (p219.add 1) (.int .i64 n210) w222 fun w223 =>
          stM (p219.add 2) (.slice s211a s211l s211c) w223 fun w224 =>
          drM w224 fun w225 =>
          stM p204 (.int .i64 n215) w225 fun w226 =>
          stM (p204.add 1) (.int .i64 n216) w226 fun w227 =>
          stM (p204.add 2) (.slice s217a s217l s217c) w227 fun w228 =>
          drM w228 fun w229 =>
          J5 ((some p219), (some p204), ()) w229) ∧
        (drM w207 fun w230 =>
          newM #[.int .i64 0, .int .i64 0, .slice none 0 0] N.t_Matrix w230 fun p231 w232 =>
          w232.cell? p3 = some (.int .i64 n11) ∧
          w232.cell? (p3.add 1) = some (.int .i64 n12) ∧
          w232.cell? (p3.add 2) = some (.slice s13a s13l s13c) ∧
          drM w232 fun w233 =>
          CallsX P N.f_girderkit_LentMatrix #[.agg #[.int .i64 n11, .int .i64 n12, .slice s13a s13l s13c]] w233 fun v235 w234 =>
          ∃ n236 : Int, ∃ n237 : Int, ∃ (s238a : Option Addr) (s238l s238c : Nat), v235 = (.agg #[.int .i64 n236, .int .i64 n237, .slice s238a s238l s238c]) ∧
          drM w234 fun w239 =>
          stM p231 (.int .i64 n209) w239 fun w240 =>
          stM (p231.add 1) (.int .i64 n210) w240 fun w241 =>
          stM (p231.add 2) (.slice s211a s211l s211c) w241 fun w242 =>
          drM w242 fun w243 =>
          stM p204 (.int .i64 n236) w243 fun w244 =>
          stM (p204.add 1) (.int .i64 n237) w244 fun w245 =>
          stM (p204.add 2) (.slice s238a s238l s238c) w245 fun w246 =>
          drM w246 fun w247 =>
          J5 ((some p231), (some p204), ()) w247)) ∧
      (drM w205 fun w248 =>
        newM #[.int .i64 0, .int .i64 0, .slice none 0 0] N.t_Matrix w248 fun p249 w250 =>
        w250.cell? p3 = some (.int .i64 n11) ∧
        w250.cell? (p3.add 1) = some (.int .i64 n12) ∧
        w250.cell? (p3.add 2) = some (.slice s13a s13l s13c) ∧
        w250.cell? p1 = some (.int .i64 n8) ∧
        w250.cell? (p1.add 1) = some (.int .i64 n9) ∧
        w250.cell? (p1.add 2) = some (.slice s10a s10l s10c) ∧
        drM w250 fun w251 =>
        CallsX P N.f_girderkit_LentMatrix #[.agg #[.int .i64 n8, .int .i64 n9, .slice s10a s10l s10c]] w251 fun v253 w252 =>
        ∃ n254 : Int, ∃ n255 : Int, ∃ (s256a : Option Addr) (s256l s256c : Nat), v253 = (.agg #[.int .i64 n254, .int .i64 n255, .slice s256a s256l s256c]) ∧
        w252.cell? p3 = some (.int .i64 n11) ∧
        w252.cell? (p3.add 1) = some (.int .i64 n12) ∧
        w252.cell? (p3.add 2) = some (.slice s13a s13l s13c) ∧
        drM w252 fun w257 =>
        CallsX P N.f_girderkit_LentMatrix #[.agg #[.int .i64 n11, .int .i64 n12, .slice s13a s13l s13c]] w257 fun v259 w258 =>
        ∃ n260 : Int, ∃ n261 : Int, ∃ (s262a : Option Addr) (s262l s262c : Nat), v259 = (.agg #[.int .i64 n260, .int .i64 n261, .slice s262a s262l s262c]) ∧
        drM w258 fun w263 =>
        stM p249 (.int .i64 n254) w263 fun w264 =>
        stM (p249.add 1) (.int .i64 n255) w264 fun w265 =>
        stM (p249.add 2) (.slice s256a s256l s256c) w265 fun w266 =>
        drM w266 fun w267 =>
        stM p204 (.int .i64 n260) w267 fun w268 =>
        stM (p204.add 1) (.int .i64 n261) w268 fun w269 =>
        stM (p204.add 2) (.slice s262a s262l s262c) w269 fun w270 =>
        drM w270 fun w271 =>
        J5 ((some p249), (some p204), ()) w271)))
  (fun s6 w7 =>
    CallsX P N.f_matrix_Make #[.int .i64 q2, .int .i64 q3] w7 fun v273 w272 =>
    ∃ n274 : Int, ∃ n275 : Int, ∃ (s276a : Option Addr) (s276l s276c : Nat), ∃ n277 : Int, v273 = (.tuple #[.agg #[.int .i64 n274, .int .i64 n275, .slice s276a s276l s276c], .int .i64 n277]) ∧
    newM #[.int .i64 0, .int .i64 0, .slice none 0 0] N.t_Matrix w272 fun p278 w279 =>
    stM p278 (.int .i64 n274) w279 fun w280 =>
    stM (p278.add 1) (.int .i64 n275) w280 fun w281 =>
    stM (p278.add 2) (.slice s276a s276l s276c) w281 fun w282 =>
    CallsX P N.f_girderref10_Make #[.int .i64 q2, .int .i64 q3] w282 fun v284 w283 =>
    ∃ n285 : Int, ∃ n286 : Int, ∃ (s287a : Option Addr) (s287l s287c : Nat), ∃ n288 : Int, v284 = (.tuple #[.agg #[.int .i64 n285, .int .i64 n286, .slice s287a s287l s287c], .int .i64 n288]) ∧
    newM #[.int .i64 0, .int .i64 0, .slice none 0 0] N.t_Matrix w283 fun p289 w290 =>
    stM p289 (.int .i64 n285) w290 fun w291 =>
    stM (p289.add 1) (.int .i64 n286) w291 fun w292 =>
    stM (p289.add 2) (.slice s287a s287l s287c) w292 fun w293 =>
    ∃ n294 : Int, w293.cell? p278 = some (.int .i64 n294) ∧
    ∃ n295 : Int, w293.cell? (p278.add 1) = some (.int .i64 n295) ∧
    ∃ (s296a : Option Addr) (s296l s296c : Nat), w293.cell? (p278.add 2) = some (.slice s296a s296l s296c) ∧
    ∃ n297 : Int, w293.cell? p289 = some (.int .i64 n297) ∧
    ∃ n298 : Int, w293.cell? (p289.add 1) = some (.int .i64 n298) ∧
    ∃ (s299a : Option Addr) (s299l s299c : Nat), w293.cell? (p289.add 2) = some (.slice s299a s299l s299c) ∧
    CallsX P N.f_girderlaw10_is #[.agg #[.int .i64 n294, .int .i64 n295, .slice s296a s296l s296c], .int .i64 n277, .agg #[.int .i64 n297, .int .i64 n298, .slice s299a s299l s299c], .int .i64 n288] w293 fun v301 w300 =>
    ∃ b302 : Bool, v301 = (.bool b302) ∧
    cond (!b302)
    (K (.bool false) w300)
    (CallsX P N.f_matrix_Identity #[.int .i64 q2] w300 fun v304 w303 =>
      ∃ n305 : Int, ∃ n306 : Int, ∃ (s307a : Option Addr) (s307l s307c : Nat), ∃ n308 : Int, v304 = (.tuple #[.agg #[.int .i64 n305, .int .i64 n306, .slice s307a s307l s307c], .int .i64 n308]) ∧
      stM p278 (.int .i64 n305) w303 fun w309 =>
      stM (p278.add 1) (.int .i64 n306) w309 fun w310 =>
      stM (p278.add 2) (.slice s307a s307l s307c) w310 fun w311 =>
      CallsX P N.f_girderref10_Identity #[.int .i64 q2] w311 fun v313 w312 =>
      ∃ n314 : Int, ∃ n315 : Int, ∃ (s316a : Option Addr) (s316l s316c : Nat), ∃ n317 : Int, v313 = (.tuple #[.agg #[.int .i64 n314, .int .i64 n315, .slice s316a s316l s316c], .int .i64 n317]) ∧
      stM p289 (.int .i64 n314) w312 fun w318 =>
      stM (p289.add 1) (.int .i64 n315) w318 fun w319 =>
      stM (p289.add 2) (.slice s316a s316l s316c) w319 fun w320 =>
      cutM (σ := Bool × Unit) (fun J321 =>
        ∃ n324 : Int, w320.cell? p278 = some (.int .i64 n324) ∧
        ∃ n325 : Int, w320.cell? (p278.add 1) = some (.int .i64 n325) ∧
        ∃ (s326a : Option Addr) (s326l s326c : Nat), w320.cell? (p278.add 2) = some (.slice s326a s326l s326c) ∧
        ∃ n327 : Int, w320.cell? p289 = some (.int .i64 n327) ∧
        ∃ n328 : Int, w320.cell? (p289.add 1) = some (.int .i64 n328) ∧
        ∃ (s329a : Option Addr) (s329l s329c : Nat), w320.cell? (p289.add 2) = some (.slice s329a s329l s329c) ∧
        drM w320 fun w330 =>
        CallsX P N.f_girderlaw10_is #[.agg #[.int .i64 n324, .int .i64 n325, .slice s326a s326l s326c], .int .i64 n308, .agg #[.int .i64 n327, .int .i64 n328, .slice s329a s329l s329c], .int .i64 n317] w330 fun v332 w331 =>
        ∃ b333 : Bool, v332 = (.bool b333) ∧
        cond (!(!b333))
        (optM s6.1 fun a334 =>
          ∃ n335 : Int, w331.cell? a334 = some (.int .i64 n335) ∧
          ∃ n336 : Int, w331.cell? (a334.add 1) = some (.int .i64 n336) ∧
          ∃ (s337a : Option Addr) (s337l s337c : Nat), w331.cell? (a334.add 2) = some (.slice s337a s337l s337c) ∧
          ∃ n338 : Int, w331.cell? p1 = some (.int .i64 n338) ∧
          ∃ n339 : Int, w331.cell? (p1.add 1) = some (.int .i64 n339) ∧
          ∃ (s340a : Option Addr) (s340l s340c : Nat), w331.cell? (p1.add 2) = some (.slice s340a s340l s340c) ∧
          drM w331 fun w341 =>
          CallsX P N.f_matrix_Right #[.agg #[.int .i64 n335, .int .i64 n336, .slice s337a s337l s337c]] w341 fun v343 w342 =>
          ∃ b344 : Bool, v343 = (.bool b344) ∧
          w342.cell? p1 = some (.int .i64 n338) ∧
          w342.cell? (p1.add 1) = some (.int .i64 n339) ∧
          w342.cell? (p1.add 2) = some (.slice s340a s340l s340c) ∧
          drM w342 fun w345 =>
          CallsX P N.f_girderref10_Right #[.agg #[.int .i64 n338, .int .i64 n339, .slice s340a s340l s340c]] w345 fun v347 w346 =>
          ∃ b348 : Bool, v347 = (.bool b348) ∧
          cond (!(!(b344 == b348)))
          (optM s6.1 fun a349 =>
            ∃ n350 : Int, w346.cell? a349 = some (.int .i64 n350) ∧
            ∃ n351 : Int, w346.cell? (a349.add 1) = some (.int .i64 n351) ∧
            ∃ (s352a : Option Addr) (s352l s352c : Nat), w346.cell? (a349.add 2) = some (.slice s352a s352l s352c) ∧
            optM s6.2.1 fun a353 =>
            ∃ n354 : Int, w346.cell? a353 = some (.int .i64 n354) ∧
            ∃ n355 : Int, w346.cell? (a353.add 1) = some (.int .i64 n355) ∧
            ∃ (s356a : Option Addr) (s356l s356c : Nat), w346.cell? (a353.add 2) = some (.slice s356a s356l s356c) ∧
            ∃ n357 : Int, w346.cell? p1 = some (.int .i64 n357) ∧
            ∃ n358 : Int, w346.cell? (p1.add 1) = some (.int .i64 n358) ∧
            ∃ (s359a : Option Addr) (s359l s359c : Nat), w346.cell? (p1.add 2) = some (.slice s359a s359l s359c) ∧
            ∃ n360 : Int, w346.cell? p3 = some (.int .i64 n360) ∧
            ∃ n361 : Int, w346.cell? (p3.add 1) = some (.int .i64 n361) ∧
            ∃ (s362a : Option Addr) (s362l s362c : Nat), w346.cell? (p3.add 2) = some (.slice s362a s362l s362c) ∧
            drM w346 fun w363 =>
            CallsX P N.f_matrix_Same #[.agg #[.int .i64 n350, .int .i64 n351, .slice s352a s352l s352c], .agg #[.int .i64 n354, .int .i64 n355, .slice s356a s356l s356c]] w363 fun v365 w364 =>
            ∃ b366 : Bool, v365 = (.bool b366) ∧
            w364.cell? p3 = some (.int .i64 n360) ∧
            w364.cell? (p3.add 1) = some (.int .i64 n361) ∧
            w364.cell? (p3.add 2) = some (.slice s362a s362l s362c) ∧
            w364.cell? p1 = some (.int .i64 n357) ∧
            w364.cell? (p1.add 1) = some (.int .i64 n358) ∧
            w364.cell? (p1.add 2) = some (.slice s359a s359l s359c) ∧
            drM w364 fun w367 =>
            CallsX P N.f_girderref10_Same #[.agg #[.int .i64 n357, .int .i64 n358, .slice s359a s359l s359c], .agg #[.int .i64 n360, .int .i64 n361, .slice s362a s362l s362c]] w367 fun v369 w368 =>
            ∃ b370 : Bool, v369 = (.bool b370) ∧
            cond (!(!(b366 == b370)))
            (optM s6.1 fun a371 =>
              ∃ n372 : Int, w368.cell? a371 = some (.int .i64 n372) ∧
              ∃ n373 : Int, w368.cell? (a371.add 1) = some (.int .i64 n373) ∧
              ∃ (s374a : Option Addr) (s374l s374c : Nat), w368.cell? (a371.add 2) = some (.slice s374a s374l s374c) ∧
              ∃ n375 : Int, w368.cell? p1 = some (.int .i64 n375) ∧
              ∃ n376 : Int, w368.cell? (p1.add 1) = some (.int .i64 n376) ∧
              ∃ (s377a : Option Addr) (s377l s377c : Nat), w368.cell? (p1.add 2) = some (.slice s377a s377l s377c) ∧
              drM w368 fun w378 =>
              CallsX P N.f_matrix_Symmetric #[.agg #[.int .i64 n372, .int .i64 n373, .slice s374a s374l s374c]] w378 fun v380 w379 =>
              ∃ b381 : Bool, v380 = (.bool b381) ∧
              w379.cell? p1 = some (.int .i64 n375) ∧
              w379.cell? (p1.add 1) = some (.int .i64 n376) ∧
              w379.cell? (p1.add 2) = some (.slice s377a s377l s377c) ∧
              drM w379 fun w382 =>
              CallsX P N.f_girderref10_Symmetric #[.agg #[.int .i64 n375, .int .i64 n376, .slice s377a s377l s377c]] w382 fun v384 w383 =>
              ∃ b385 : Bool, v384 = (.bool b385) ∧
              cond (!(!(b381 == b385)))
              (optM s6.2.1 fun a386 =>
                ∃ n387 : Int, w383.cell? a386 = some (.int .i64 n387) ∧
                ∃ n388 : Int, w383.cell? (a386.add 1) = some (.int .i64 n388) ∧
                ∃ (s389a : Option Addr) (s389l s389c : Nat), w383.cell? (a386.add 2) = some (.slice s389a s389l s389c) ∧
                ∃ n390 : Int, w383.cell? p3 = some (.int .i64 n390) ∧
                ∃ n391 : Int, w383.cell? (p3.add 1) = some (.int .i64 n391) ∧
                ∃ (s392a : Option Addr) (s392l s392c : Nat), w383.cell? (p3.add 2) = some (.slice s392a s392l s392c) ∧
                drM w383 fun w393 =>
                CallsX P N.f_matrix_Symmetric #[.agg #[.int .i64 n387, .int .i64 n388, .slice s389a s389l s389c]] w393 fun v395 w394 =>
                ∃ b396 : Bool, v395 = (.bool b396) ∧
                w394.cell? p3 = some (.int .i64 n390) ∧
                w394.cell? (p3.add 1) = some (.int .i64 n391) ∧
                w394.cell? (p3.add 2) = some (.slice s392a s392l s392c) ∧
                drM w394 fun w397 =>
                CallsX P N.f_girderref10_Symmetric #[.agg #[.int .i64 n390, .int .i64 n391, .slice s392a s392l s392c]] w397 fun v399 w398 =>
                ∃ b400 : Bool, v399 = (.bool b400) ∧
                drM w398 fun w401 =>
                J321 ((!(b396 == b400)), ()) w401)
              (drM w383 fun w402 =>
                drM w402 fun w403 =>
                drM w403 fun w404 =>
                J321 (true, ()) w404))
            (drM w368 fun w405 =>
              drM w405 fun w406 =>
              drM w406 fun w407 =>
              drM w407 fun w408 =>
              drM w408 fun w409 =>
              J321 (true, ()) w409))
          (drM w346 fun w410 =>
            drM w410 fun w411 =>
            drM w411 fun w412 =>
            drM w412 fun w413 =>
            drM w413 fun w414 =>
            drM w414 fun w415 =>
            drM w415 fun w416 =>
            J321 (true, ()) w416))
        (drM w331 fun w417 =>
          drM w417 fun w418 =>
          drM w418 fun w419 =>
          drM w419 fun w420 =>
          drM w420 fun w421 =>
          drM w421 fun w422 =>
          drM w422 fun w423 =>
          drM w423 fun w424 =>
          drM w424 fun w425 =>
          J321 (true, ()) w425))
      (fun s322 w323 =>
        cond s322.1
        (K (.bool false) w323)
        (optM s6.1 fun a426 =>
          ∃ n427 : Int, w323.cell? a426 = some (.int .i64 n427) ∧
          ∃ n428 : Int, w323.cell? (a426.add 1) = some (.int .i64 n428) ∧
          ∃ (s429a : Option Addr) (s429l s429c : Nat), w323.cell? (a426.add 2) = some (.slice s429a s429l s429c) ∧
          CallsX P N.f_matrix_Transpose #[.agg #[.int .i64 n427, .int .i64 n428, .slice s429a s429l s429c]] w323 fun v431 w430 =>
          ∃ n432 : Int, ∃ n433 : Int, ∃ (s434a : Option Addr) (s434l s434c : Nat), ∃ n435 : Int, v431 = (.tuple #[.agg #[.int .i64 n432, .int .i64 n433, .slice s434a s434l s434c], .int .i64 n435]) ∧
          stM p278 (.int .i64 n432) w430 fun w436 =>
          stM (p278.add 1) (.int .i64 n433) w436 fun w437 =>
          stM (p278.add 2) (.slice s434a s434l s434c) w437 fun w438 =>
          ∃ n439 : Int, w438.cell? p1 = some (.int .i64 n439) ∧
          ∃ n440 : Int, w438.cell? (p1.add 1) = some (.int .i64 n440) ∧
          ∃ (s441a : Option Addr) (s441l s441c : Nat), w438.cell? (p1.add 2) = some (.slice s441a s441l s441c) ∧
          CallsX P N.f_girderref10_Transpose #[.agg #[.int .i64 n439, .int .i64 n440, .slice s441a s441l s441c]] w438 fun v443 w442 =>
          ∃ n444 : Int, ∃ n445 : Int, ∃ (s446a : Option Addr) (s446l s446c : Nat), ∃ n447 : Int, v443 = (.tuple #[.agg #[.int .i64 n444, .int .i64 n445, .slice s446a s446l s446c], .int .i64 n447]) ∧
          stM p289 (.int .i64 n444) w442 fun w448 =>
          stM (p289.add 1) (.int .i64 n445) w448 fun w449 =>
          stM (p289.add 2) (.slice s446a s446l s446c) w449 fun w450 =>
          ∃ n451 : Int, w450.cell? p278 = some (.int .i64 n451) ∧
          ∃ n452 : Int, w450.cell? (p278.add 1) = some (.int .i64 n452) ∧
          ∃ (s453a : Option Addr) (s453l s453c : Nat), w450.cell? (p278.add 2) = some (.slice s453a s453l s453c) ∧
          ∃ n454 : Int, w450.cell? p289 = some (.int .i64 n454) ∧
          ∃ n455 : Int, w450.cell? (p289.add 1) = some (.int .i64 n455) ∧
          ∃ (s456a : Option Addr) (s456l s456c : Nat), w450.cell? (p289.add 2) = some (.slice s456a s456l s456c) ∧
          CallsX P N.f_girderlaw10_is #[.agg #[.int .i64 n451, .int .i64 n452, .slice s453a s453l s453c], .int .i64 n435, .agg #[.int .i64 n454, .int .i64 n455, .slice s456a s456l s456c], .int .i64 n447] w450 fun v458 w457 =>
          ∃ b459 : Bool, v458 = (.bool b459) ∧
          cond (!b459)
          (K (.bool false) w457)
          (optM s6.1 fun a460 =>
            ∃ n461 : Int, w457.cell? a460 = some (.int .i64 n461) ∧
            ∃ n462 : Int, w457.cell? (a460.add 1) = some (.int .i64 n462) ∧
            ∃ (s463a : Option Addr) (s463l s463c : Nat), w457.cell? (a460.add 2) = some (.slice s463a s463l s463c) ∧
            optM s6.2.1 fun a464 =>
            ∃ n465 : Int, w457.cell? a464 = some (.int .i64 n465) ∧
            ∃ n466 : Int, w457.cell? (a464.add 1) = some (.int .i64 n466) ∧
            ∃ (s467a : Option Addr) (s467l s467c : Nat), w457.cell? (a464.add 2) = some (.slice s467a s467l s467c) ∧
            CallsX P N.f_matrix_Sub #[.agg #[.int .i64 n461, .int .i64 n462, .slice s463a s463l s463c], .agg #[.int .i64 n465, .int .i64 n466, .slice s467a s467l s467c]] w457 fun v469 w468 =>
            ∃ n470 : Int, ∃ n471 : Int, ∃ (s472a : Option Addr) (s472l s472c : Nat), ∃ n473 : Int, v469 = (.tuple #[.agg #[.int .i64 n470, .int .i64 n471, .slice s472a s472l s472c], .int .i64 n473]) ∧
            stM p278 (.int .i64 n470) w468 fun w474 =>
            stM (p278.add 1) (.int .i64 n471) w474 fun w475 =>
            stM (p278.add 2) (.slice s472a s472l s472c) w475 fun w476 =>
            ∃ n477 : Int, w476.cell? p1 = some (.int .i64 n477) ∧
            ∃ n478 : Int, w476.cell? (p1.add 1) = some (.int .i64 n478) ∧
            ∃ (s479a : Option Addr) (s479l s479c : Nat), w476.cell? (p1.add 2) = some (.slice s479a s479l s479c) ∧
            ∃ n480 : Int, w476.cell? p3 = some (.int .i64 n480) ∧
            ∃ n481 : Int, w476.cell? (p3.add 1) = some (.int .i64 n481) ∧
            ∃ (s482a : Option Addr) (s482l s482c : Nat), w476.cell? (p3.add 2) = some (.slice s482a s482l s482c) ∧
            CallsX P N.f_girderref10_Sub #[.agg #[.int .i64 n477, .int .i64 n478, .slice s479a s479l s479c], .agg #[.int .i64 n480, .int .i64 n481, .slice s482a s482l s482c]] w476 fun v484 w483 =>
            ∃ n485 : Int, ∃ n486 : Int, ∃ (s487a : Option Addr) (s487l s487c : Nat), ∃ n488 : Int, v484 = (.tuple #[.agg #[.int .i64 n485, .int .i64 n486, .slice s487a s487l s487c], .int .i64 n488]) ∧
            stM p289 (.int .i64 n485) w483 fun w489 =>
            stM (p289.add 1) (.int .i64 n486) w489 fun w490 =>
            stM (p289.add 2) (.slice s487a s487l s487c) w490 fun w491 =>
            optM s6.1 fun a492 =>
            ∃ n493 : Int, w491.cell? a492 = some (.int .i64 n493) ∧
            ∃ n494 : Int, w491.cell? (a492.add 1) = some (.int .i64 n494) ∧
            ∃ (s495a : Option Addr) (s495l s495c : Nat), w491.cell? (a492.add 2) = some (.slice s495a s495l s495c) ∧
            CallsX P N.f_matrix_Norm #[.agg #[.int .i64 n493, .int .i64 n494, .slice s495a s495l s495c]] w491 fun v497 w496 =>
            ∃ x498 : Nat, ∃ n499 : Int, v497 = (.tuple #[.float .f64 x498, .int .i64 n499]) ∧
            ∃ n500 : Int, w496.cell? p1 = some (.int .i64 n500) ∧
            ∃ n501 : Int, w496.cell? (p1.add 1) = some (.int .i64 n501) ∧
            ∃ (s502a : Option Addr) (s502l s502c : Nat), w496.cell? (p1.add 2) = some (.slice s502a s502l s502c) ∧
            CallsX P N.f_girderref10_Norm #[.agg #[.int .i64 n500, .int .i64 n501, .slice s502a s502l s502c]] w496 fun v504 w503 =>
            ∃ x505 : Nat, ∃ n506 : Int, v504 = (.tuple #[.float .f64 x505, .int .i64 n506]) ∧
            ∃ n507 : Int, w503.cell? p278 = some (.int .i64 n507) ∧
            ∃ n508 : Int, w503.cell? (p278.add 1) = some (.int .i64 n508) ∧
            ∃ (s509a : Option Addr) (s509l s509c : Nat), w503.cell? (p278.add 2) = some (.slice s509a s509l s509c) ∧
            ∃ n510 : Int, w503.cell? p289 = some (.int .i64 n510) ∧
            ∃ n511 : Int, w503.cell? (p289.add 1) = some (.int .i64 n511) ∧
            ∃ (s512a : Option Addr) (s512l s512c : Nat), w503.cell? (p289.add 2) = some (.slice s512a s512l s512c) ∧
            CallsX P N.f_girderlaw10_is #[.agg #[.int .i64 n507, .int .i64 n508, .slice s509a s509l s509c], .int .i64 n473, .agg #[.int .i64 n510, .int .i64 n511, .slice s512a s512l s512c], .int .i64 n488] w503 fun v514 w513 =>
            ∃ b515 : Bool, v514 = (.bool b515) ∧
            cond b515
            (CallsX P N.f_girderkit_SameFloat #[.float .f64 x498, .float .f64 x505] w513 fun v517 w516 =>
              ∃ b518 : Bool, v517 = (.bool b518) ∧
              cond b518
              (cond (n499 == n506)
                (optM s6.1 fun a519 =>
                  ∃ n520 : Int, w516.cell? a519 = some (.int .i64 n520) ∧
                  ∃ n521 : Int, w516.cell? (a519.add 1) = some (.int .i64 n521) ∧
                  ∃ (s522a : Option Addr) (s522l s522c : Nat), w516.cell? (a519.add 2) = some (.slice s522a s522l s522c) ∧
                  ∃ n523 : Int, w516.cell? p1 = some (.int .i64 n523) ∧
                  ∃ n524 : Int, w516.cell? (p1.add 1) = some (.int .i64 n524) ∧
                  ∃ (s525a : Option Addr) (s525l s525c : Nat), w516.cell? (p1.add 2) = some (.slice s525a s525l s525c) ∧
                  CallsX P N.f_girderkit_KeptMatrix #[.agg #[.int .i64 n520, .int .i64 n521, .slice s522a s522l s522c], .agg #[.int .i64 n523, .int .i64 n524, .slice s525a s525l s525c]] w516 fun v527 w526 =>
                  ∃ b528 : Bool, v527 = (.bool b528) ∧
                  cond b528
                  (optM s6.2.1 fun a529 =>
                    ∃ n530 : Int, w526.cell? a529 = some (.int .i64 n530) ∧
                    ∃ n531 : Int, w526.cell? (a529.add 1) = some (.int .i64 n531) ∧
                    ∃ (s532a : Option Addr) (s532l s532c : Nat), w526.cell? (a529.add 2) = some (.slice s532a s532l s532c) ∧
                    ∃ n533 : Int, w526.cell? p3 = some (.int .i64 n533) ∧
                    ∃ n534 : Int, w526.cell? (p3.add 1) = some (.int .i64 n534) ∧
                    ∃ (s535a : Option Addr) (s535l s535c : Nat), w526.cell? (p3.add 2) = some (.slice s535a s535l s535c) ∧
                    CallsX P N.f_girderkit_KeptMatrix #[.agg #[.int .i64 n530, .int .i64 n531, .slice s532a s532l s532c], .agg #[.int .i64 n533, .int .i64 n534, .slice s535a s535l s535c]] w526 fun v537 w536 =>
                    ∃ b538 : Bool, v537 = (.bool b538) ∧
                    cond b538
                    (CallsX P N.f_girderlaw10_awake #[] w536 fun v540 w539 =>
                      ∃ b541 : Bool, v540 = (.bool b541) ∧
                      K (.bool b541) w539)
                    (K (.bool false) w536))
                  (K (.bool false) w526))
                (K (.bool false) w516))
              (K (.bool false) w516))
            (K (.bool false) w513))))))

/-- girder/girderlaw10.MatrixNumbers -/
def S_girderlaw10_MatrixNumbers (N : Nums) (P : Program)  (w : World) (K : Value → World → Prop) : Prop :=
  CallsX P N.f_matrix_Make #[.int .i64 48, .int .i64 48] w fun v2 w1 =>
  ∃ n3 : Int, ∃ n4 : Int, ∃ (s5a : Option Addr) (s5l s5c : Nat), ∃ n6 : Int, v2 = (.tuple #[.agg #[.int .i64 n3, .int .i64 n4, .slice s5a s5l s5c], .int .i64 n6]) ∧
  newM #[.int .i64 0, .int .i64 0, .slice none 0 0] N.t_Matrix w1 fun p7 w8 =>
  stM p7 (.int .i64 n3) w8 fun w9 =>
  stM (p7.add 1) (.int .i64 n4) w9 fun w10 =>
  stM (p7.add 2) (.slice s5a s5l s5c) w10 fun w11 =>
  CallsX P N.f_matrix_Make #[.int .i64 49, .int .i64 1] w11 fun v13 w12 =>
  ∃ n14 : Int, ∃ n15 : Int, ∃ (s16a : Option Addr) (s16l s16c : Nat), ∃ n17 : Int, v13 = (.tuple #[.agg #[.int .i64 n14, .int .i64 n15, .slice s16a s16l s16c], .int .i64 n17]) ∧
  newM #[.int .i64 0, .int .i64 0, .slice none 0 0] N.t_Matrix w12 fun p18 w19 =>
  stM p18 (.int .i64 n14) w19 fun w20 =>
  stM (p18.add 1) (.int .i64 n15) w20 fun w21 =>
  stM (p18.add 2) (.slice s16a s16l s16c) w21 fun w22 =>
  CallsX P N.f_matrix_Make #[.int .i64 1, .int .i64 (-1)] w22 fun v24 w23 =>
  ∃ n25 : Int, ∃ n26 : Int, ∃ (s27a : Option Addr) (s27l s27c : Nat), ∃ n28 : Int, v24 = (.tuple #[.agg #[.int .i64 n25, .int .i64 n26, .slice s27a s27l s27c], .int .i64 n28]) ∧
  newM #[.int .i64 0, .int .i64 0, .slice none 0 0] N.t_Matrix w23 fun p29 w30 =>
  stM p29 (.int .i64 n25) w30 fun w31 =>
  stM (p29.add 1) (.int .i64 n26) w31 fun w32 =>
  stM (p29.add 2) (.slice s27a s27l s27c) w32 fun w33 =>
  CallsX P N.f_matrix_Identity #[.int .i64 49] w33 fun v35 w34 =>
  ∃ n36 : Int, ∃ n37 : Int, ∃ (s38a : Option Addr) (s38l s38c : Nat), ∃ n39 : Int, v35 = (.tuple #[.agg #[.int .i64 n36, .int .i64 n37, .slice s38a s38l s38c], .int .i64 n39]) ∧
  newM #[.int .i64 0, .int .i64 0, .slice none 0 0] N.t_Matrix w34 fun p40 w41 =>
  stM p40 (.int .i64 n36) w41 fun w42 =>
  stM (p40.add 1) (.int .i64 n37) w42 fun w43 =>
  stM (p40.add 2) (.slice s38a s38l s38c) w43 fun w44 =>
  CallsX P N.f_matrix_Make #[.int .i64 2, .int .i64 0] w44 fun v46 w45 =>
  ∃ n47 : Int, ∃ n48 : Int, ∃ (s49a : Option Addr) (s49l s49c : Nat), ∃ n50 : Int, v46 = (.tuple #[.agg #[.int .i64 n47, .int .i64 n48, .slice s49a s49l s49c], .int .i64 n50]) ∧
  newM #[.int .i64 0, .int .i64 0, .slice none 0 0] N.t_Matrix w45 fun p51 w52 =>
  stM p51 (.int .i64 n47) w52 fun w53 =>
  stM (p51.add 1) (.int .i64 n48) w53 fun w54 =>
  stM (p51.add 2) (.slice s49a s49l s49c) w54 fun w55 =>
  cutM (σ := Bool × Unit) (fun J56 =>
    cond (!(n6 != 0))
    (∃ (s59a : Option Addr) (s59l s59c : Nat), w55.cell? (p7.add 2) = some (.slice s59a s59l s59c) ∧
      cond (!(((s59l : Nat) : Int) != 2304))
      (∃ n60 : Int, w55.cell? p18 = some (.int .i64 n60) ∧
        ∃ n61 : Int, w55.cell? (p18.add 1) = some (.int .i64 n61) ∧
        ∃ (s62a : Option Addr) (s62l s62c : Nat), w55.cell? (p18.add 2) = some (.slice s62a s62l s62c) ∧
        drM w55 fun w63 =>
        CallsX P N.f_girderlaw10_is #[.agg #[.int .i64 n60, .int .i64 n61, .slice s62a s62l s62c], .int .i64 n17, .agg #[.int .i64 0, .int .i64 0, .slice none 0 0], .int .i64 2] w63 fun v65 w64 =>
        ∃ b66 : Bool, v65 = (.bool b66) ∧
        cond (!(!b66))
        (∃ n67 : Int, w64.cell? p29 = some (.int .i64 n67) ∧
          ∃ n68 : Int, w64.cell? (p29.add 1) = some (.int .i64 n68) ∧
          ∃ (s69a : Option Addr) (s69l s69c : Nat), w64.cell? (p29.add 2) = some (.slice s69a s69l s69c) ∧
          drM w64 fun w70 =>
          CallsX P N.f_girderlaw10_is #[.agg #[.int .i64 n67, .int .i64 n68, .slice s69a s69l s69c], .int .i64 n28, .agg #[.int .i64 0, .int .i64 0, .slice none 0 0], .int .i64 2] w70 fun v72 w71 =>
          ∃ b73 : Bool, v72 = (.bool b73) ∧
          cond (!(!b73))
          (∃ n74 : Int, w71.cell? p40 = some (.int .i64 n74) ∧
            ∃ n75 : Int, w71.cell? (p40.add 1) = some (.int .i64 n75) ∧
            ∃ (s76a : Option Addr) (s76l s76c : Nat), w71.cell? (p40.add 2) = some (.slice s76a s76l s76c) ∧
            drM w71 fun w77 =>
            CallsX P N.f_girderlaw10_is #[.agg #[.int .i64 n74, .int .i64 n75, .slice s76a s76l s76c], .int .i64 n39, .agg #[.int .i64 0, .int .i64 0, .slice none 0 0], .int .i64 2] w77 fun v79 w78 =>
            ∃ b80 : Bool, v79 = (.bool b80) ∧
            cond (!(!b80))
            (∃ n81 : Int, w78.cell? p51 = some (.int .i64 n81) ∧
              ∃ n82 : Int, w78.cell? (p51.add 1) = some (.int .i64 n82) ∧
              ∃ (s83a : Option Addr) (s83l s83c : Nat), w78.cell? (p51.add 2) = some (.slice s83a s83l s83c) ∧
              drM w78 fun w84 =>
              CallsX P N.f_girderlaw10_of #[.int .i64 2, .int .i64 0, .slice none 0 0] w84 fun v86 w85 =>
              ∃ n87 : Int, ∃ n88 : Int, ∃ (s89a : Option Addr) (s89l s89c : Nat), v86 = (.agg #[.int .i64 n87, .int .i64 n88, .slice s89a s89l s89c]) ∧
              w85.cell? p51 = some (.int .i64 n81) ∧
              w85.cell? (p51.add 1) = some (.int .i64 n82) ∧
              w85.cell? (p51.add 2) = some (.slice s83a s83l s83c) ∧
              drM w85 fun w90 =>
              CallsX P N.f_girderlaw10_is #[.agg #[.int .i64 n81, .int .i64 n82, .slice s83a s83l s83c], .int .i64 n50, .agg #[.int .i64 n87, .int .i64 n88, .slice s89a s89l s89c], .int .i64 0] w90 fun v92 w91 =>
              ∃ b93 : Bool, v92 = (.bool b93) ∧
              drM w91 fun w94 =>
              J56 ((!b93), ()) w94)
            (drM w78 fun w95 =>
              drM w95 fun w96 =>
              drM w96 fun w97 =>
              J56 (true, ()) w97))
          (drM w71 fun w98 =>
            drM w98 fun w99 =>
            drM w99 fun w100 =>
            drM w100 fun w101 =>
            J56 (true, ()) w101))
        (drM w64 fun w102 =>
          drM w102 fun w103 =>
          drM w103 fun w104 =>
          drM w104 fun w105 =>
          drM w105 fun w106 =>
          J56 (true, ()) w106))
      (drM w55 fun w107 =>
        drM w107 fun w108 =>
        drM w108 fun w109 =>
        drM w109 fun w110 =>
        drM w110 fun w111 =>
        drM w111 fun w112 =>
        J56 (true, ()) w112))
    (drM w55 fun w113 =>
      drM w113 fun w114 =>
      drM w114 fun w115 =>
      drM w115 fun w116 =>
      drM w116 fun w117 =>
      drM w117 fun w118 =>
      J56 (true, ()) w118))
  (fun s57 w58 =>
    cond s57.1
    (K (.bool false) w58)
    (newM #[.float .f64 4607182418800017408, .float .f64 4607182418800017408, .float .f64 4607182418800017408] N.t_float64 w58 fun p119 w120 =>
      CallsX P N.f_girderlaw10_of #[.int .i64 3, .int .i64 1, .slice (some p119) 3 3] w120 fun v122 w121 =>
      ∃ n123 : Int, ∃ n124 : Int, ∃ (s125a : Option Addr) (s125l s125c : Nat), v122 = (.agg #[.int .i64 n123, .int .i64 n124, .slice s125a s125l s125c]) ∧
      newM #[.int .i64 0, .int .i64 0, .slice none 0 0] N.t_Matrix w121 fun p126 w127 =>
      stM p126 (.int .i64 n123) w127 fun w128 =>
      stM (p126.add 1) (.int .i64 n124) w128 fun w129 =>
      stM (p126.add 2) (.slice s125a s125l s125c) w129 fun w130 =>
      cutM (σ := (Option Addr) × Int × Unit) (fun J131 =>
        ∃ n134 : Int, w130.cell? p126 = some (.int .i64 n134) ∧
        ∃ n135 : Int, w130.cell? (p126.add 1) = some (.int .i64 n135) ∧
        ∃ (s136a : Option Addr) (s136l s136c : Nat), w130.cell? (p126.add 2) = some (.slice s136a s136l s136c) ∧
        (drM w130 fun w137 =>
          newM #[.float .f64 4845873199050653696, .float .f64 4607182418800017408, .float .f64 14069245235905429504] N.t_float64 w137 fun p138 w139 =>
          w139.cell? p126 = some (.int .i64 n134) ∧
          w139.cell? (p126.add 1) = some (.int .i64 n135) ∧
          w139.cell? (p126.add 2) = some (.slice s136a s136l s136c) ∧
          (drM w139 fun w140 =>
            CallsX P N.f_girderlaw10_of #[.int .i64 1, .int .i64 3, .slice (some p138) 3 3] w140 fun v142 w141 =>
            ∃ n143 : Int, ∃ n144 : Int, ∃ (s145a : Option Addr) (s145l s145c : Nat), v142 = (.agg #[.int .i64 n143, .int .i64 n144, .slice s145a s145l s145c]) ∧
            w141.cell? p126 = some (.int .i64 n134) ∧
            w141.cell? (p126.add 1) = some (.int .i64 n135) ∧
            w141.cell? (p126.add 2) = some (.slice s136a s136l s136c) ∧
            (drM w141 fun w146 =>
              CallsX P N.f_matrix_Mul #[.agg #[.int .i64 n143, .int .i64 n144, .slice s145a s145l s145c], .agg #[.int .i64 n134, .int .i64 n135, .slice s136a s136l s136c]] w146 fun v148 w147 =>
              ∃ n149 : Int, ∃ n150 : Int, ∃ (s151a : Option Addr) (s151l s151c : Nat), ∃ n152 : Int, v148 = (.tuple #[.agg #[.int .i64 n149, .int .i64 n150, .slice s151a s151l s151c], .int .i64 n152]) ∧
              drM w147 fun w153 =>
              newM #[.int .i64 0, .int .i64 0, .slice none 0 0] N.t_Matrix w153 fun p154 w155 =>
              drM w155 fun w156 =>
              stM p154 (.int .i64 n149) w156 fun w157 =>
              stM (p154.add 1) (.int .i64 n150) w157 fun w158 =>
              stM (p154.add 2) (.slice s151a s151l s151c) w158 fun w159 =>
              drM w159 fun w160 =>
              J131 ((some p154), n152, ()) w160) ∧
            (drM w141 fun w161 =>
              newM #[.int .i64 0, .int .i64 0, .slice none 0 0] N.t_Matrix w161 fun p162 w163 =>
              w163.cell? p126 = some (.int .i64 n134) ∧
              w163.cell? (p126.add 1) = some (.int .i64 n135) ∧
              w163.cell? (p126.add 2) = some (.slice s136a s136l s136c) ∧
              drM w163 fun w164 =>
              CallsX P N.f_matrix_Mul #[.agg #[.int .i64 n143, .int .i64 n144, .slice s145a s145l s145c], .agg #[.int .i64 n134, .int .i64 n135, .slice s136a s136l s136c]] w164 fun v166 w165 =>
              ∃ n167 : Int, ∃ n168 : Int, ∃ (s169a : Option Addr) (s169l s169c : Nat), ∃ n170 : Int, v166 = (.tuple #[.agg #[.int .i64 n167, .int .i64 n168, .slice s169a s169l s169c], .int .i64 n170]) ∧
              drM w165 fun w171 =>
              stM p162 (.int .i64 n167) w171 fun w172 =>
              stM (p162.add 1) (.int .i64 n168) w172 fun w173 =>
              stM (p162.add 2) (.slice s169a s169l s169c) w173 fun w174 =>
              drM w174 fun w175 =>
              J131 ((some p162), n170, ()) w175)) ∧
          (drM w139 fun w176 =>
            newM #[.int .i64 0, .int .i64 0, .slice none 0 0] N.t_Matrix w176 fun p177 w178 =>
            w178.cell? p126 = some (.int .i64 n134) ∧
            w178.cell? (p126.add 1) = some (.int .i64 n135) ∧
            w178.cell? (p126.add 2) = some (.slice s136a s136l s136c) ∧
            drM w178 fun w179 =>
            CallsX P N.f_girderlaw10_of #[.int .i64 1, .int .i64 3, .slice (some p138) 3 3] w179 fun v181 w180 =>
            ∃ n182 : Int, ∃ n183 : Int, ∃ (s184a : Option Addr) (s184l s184c : Nat), v181 = (.agg #[.int .i64 n182, .int .i64 n183, .slice s184a s184l s184c]) ∧
            w180.cell? p126 = some (.int .i64 n134) ∧
            w180.cell? (p126.add 1) = some (.int .i64 n135) ∧
            w180.cell? (p126.add 2) = some (.slice s136a s136l s136c) ∧
            drM w180 fun w185 =>
            CallsX P N.f_matrix_Mul #[.agg #[.int .i64 n182, .int .i64 n183, .slice s184a s184l s184c], .agg #[.int .i64 n134, .int .i64 n135, .slice s136a s136l s136c]] w185 fun v187 w186 =>
            ∃ n188 : Int, ∃ n189 : Int, ∃ (s190a : Option Addr) (s190l s190c : Nat), ∃ n191 : Int, v187 = (.tuple #[.agg #[.int .i64 n188, .int .i64 n189, .slice s190a s190l s190c], .int .i64 n191]) ∧
            drM w186 fun w192 =>
            stM p177 (.int .i64 n188) w192 fun w193 =>
            stM (p177.add 1) (.int .i64 n189) w193 fun w194 =>
            stM (p177.add 2) (.slice s190a s190l s190c) w194 fun w195 =>
            drM w195 fun w196 =>
            J131 ((some p177), n191, ()) w196)) ∧
        (drM w130 fun w197 =>
          newM #[.int .i64 0, .int .i64 0, .slice none 0 0] N.t_Matrix w197 fun p198 w199 =>
          w199.cell? p126 = some (.int .i64 n134) ∧
          w199.cell? (p126.add 1) = some (.int .i64 n135) ∧
          w199.cell? (p126.add 2) = some (.slice s136a s136l s136c) ∧
          drM w199 fun w200 =>
          newM #[.float .f64 4845873199050653696, .float .f64 4607182418800017408, .float .f64 14069245235905429504] N.t_float64 w200 fun p201 w202 =>
          w202.cell? p126 = some (.int .i64 n134) ∧
          w202.cell? (p126.add 1) = some (.int .i64 n135) ∧
          w202.cell? (p126.add 2) = some (.slice s136a s136l s136c) ∧
          drM w202 fun w203 =>
          CallsX P N.f_girderlaw10_of #[.int .i64 1, .int .i64 3, .slice (some p201) 3 3] w203 fun v205 w204 =>
          ∃ n206 : Int, ∃ n207 : Int, ∃ (s208a : Option Addr) (s208l s208c : Nat), v205 = (.agg #[.int .i64 n206, .int .i64 n207, .slice s208a s208l s208c]) ∧
          w204.cell? p126 = some (.int .i64 n134) ∧
          w204.cell? (p126.add 1) = some (.int .i64 n135) ∧
          w204.cell? (p126.add 2) = some (.slice s136a s136l s136c) ∧
          drM w204 fun w209 =>
          CallsX P N.f_matrix_Mul #[.agg #[.int .i64 n206, .int .i64 n207, .slice s208a s208l s208c], .agg #[.int .i64 n134, .int .i64 n135, .slice s136a s136l s136c]] w209 fun v211 w210 =>
          ∃ n212 : Int, ∃ n213 : Int, ∃ (s214a : Option Addr) (s214l s214c : Nat), ∃ n215 : Int, v211 = (.tuple #[.agg #[.int .i64 n212, .int .i64 n213, .slice s214a s214l s214c], .int .i64 n215]) ∧
          drM w210 fun w216 =>
          stM p198 (.int .i64 n212) w216 fun w217 =>
          stM (p198.add 1) (.int .i64 n213) w217 fun w218 =>
          stM (p198.add 2) (.slice s214a s214l s214c) w218 fun w219 =>
          drM w219 fun w220 =>
          J131 ((some p198), n215, ()) w220))
      (fun s132 w133 =>
        cutM (σ := (Option Addr) × Int × Unit) (fun J221 =>
          ∃ n224 : Int, w133.cell? p126 = some (.int .i64 n224) ∧
          ∃ n225 : Int, w133.cell? (p126.add 1) = some (.int .i64 n225) ∧
          ∃ (s226a : Option Addr) (s226l s226c : Nat), w133.cell? (p126.add 2) = some (.slice s226a s226l s226c) ∧
          (drM w133 fun w227 =>
            newM #[.float .f64 4845873199050653696, .float .f64 14069245235905429504, .float .f64 4607182418800017408] N.t_float64 w227 fun p228 w229 =>
            w229.cell? p126 = some (.int .i64 n224) ∧
            w229.cell? (p126.add 1) = some (.int .i64 n225) ∧
            w229.cell? (p126.add 2) = some (.slice s226a s226l s226c) ∧
            (drM w229 fun w230 =>
              CallsX P N.f_girderlaw10_of #[.int .i64 1, .int .i64 3, .slice (some p228) 3 3] w230 fun v232 w231 =>
              ∃ n233 : Int, ∃ n234 : Int, ∃ (s235a : Option Addr) (s235l s235c : Nat), v232 = (.agg #[.int .i64 n233, .int .i64 n234, .slice s235a s235l s235c]) ∧
              w231.cell? p126 = some (.int .i64 n224) ∧
              w231.cell? (p126.add 1) = some (.int .i64 n225) ∧
              w231.cell? (p126.add 2) = some (.slice s226a s226l s226c) ∧
              (drM w231 fun w236 =>
                CallsX P N.f_matrix_Mul #[.agg #[.int .i64 n233, .int .i64 n234, .slice s235a s235l s235c], .agg #[.int .i64 n224, .int .i64 n225, .slice s226a s226l s226c]] w236 fun v238 w237 =>
                ∃ n239 : Int, ∃ n240 : Int, ∃ (s241a : Option Addr) (s241l s241c : Nat), ∃ n242 : Int, v238 = (.tuple #[.agg #[.int .i64 n239, .int .i64 n240, .slice s241a s241l s241c], .int .i64 n242]) ∧
                drM w237 fun w243 =>
                newM #[.int .i64 0, .int .i64 0, .slice none 0 0] N.t_Matrix w243 fun p244 w245 =>
                drM w245 fun w246 =>
                stM p244 (.int .i64 n239) w246 fun w247 =>
                stM (p244.add 1) (.int .i64 n240) w247 fun w248 =>
                stM (p244.add 2) (.slice s241a s241l s241c) w248 fun w249 =>
                drM w249 fun w250 =>
                J221 ((some p244), n242, ()) w250) ∧
              (drM w231 fun w251 =>
                newM #[.int .i64 0, .int .i64 0, .slice none 0 0] N.t_Matrix w251 fun p252 w253 =>
                w253.cell? p126 = some (.int .i64 n224) ∧
                w253.cell? (p126.add 1) = some (.int .i64 n225) ∧
                w253.cell? (p126.add 2) = some (.slice s226a s226l s226c) ∧
                drM w253 fun w254 =>
                CallsX P N.f_matrix_Mul #[.agg #[.int .i64 n233, .int .i64 n234, .slice s235a s235l s235c], .agg #[.int .i64 n224, .int .i64 n225, .slice s226a s226l s226c]] w254 fun v256 w255 =>
                ∃ n257 : Int, ∃ n258 : Int, ∃ (s259a : Option Addr) (s259l s259c : Nat), ∃ n260 : Int, v256 = (.tuple #[.agg #[.int .i64 n257, .int .i64 n258, .slice s259a s259l s259c], .int .i64 n260]) ∧
                drM w255 fun w261 =>
                stM p252 (.int .i64 n257) w261 fun w262 =>
                stM (p252.add 1) (.int .i64 n258) w262 fun w263 =>
                stM (p252.add 2) (.slice s259a s259l s259c) w263 fun w264 =>
                drM w264 fun w265 =>
                J221 ((some p252), n260, ()) w265)) ∧
            (drM w229 fun w266 =>
              newM #[.int .i64 0, .int .i64 0, .slice none 0 0] N.t_Matrix w266 fun p267 w268 =>
              w268.cell? p126 = some (.int .i64 n224) ∧
              w268.cell? (p126.add 1) = some (.int .i64 n225) ∧
              w268.cell? (p126.add 2) = some (.slice s226a s226l s226c) ∧
              drM w268 fun w269 =>
              CallsX P N.f_girderlaw10_of #[.int .i64 1, .int .i64 3, .slice (some p228) 3 3] w269 fun v271 w270 =>
              ∃ n272 : Int, ∃ n273 : Int, ∃ (s274a : Option Addr) (s274l s274c : Nat), v271 = (.agg #[.int .i64 n272, .int .i64 n273, .slice s274a s274l s274c]) ∧
              w270.cell? p126 = some (.int .i64 n224) ∧
              w270.cell? (p126.add 1) = some (.int .i64 n225) ∧
              w270.cell? (p126.add 2) = some (.slice s226a s226l s226c) ∧
              drM w270 fun w275 =>
              CallsX P N.f_matrix_Mul #[.agg #[.int .i64 n272, .int .i64 n273, .slice s274a s274l s274c], .agg #[.int .i64 n224, .int .i64 n225, .slice s226a s226l s226c]] w275 fun v277 w276 =>
              ∃ n278 : Int, ∃ n279 : Int, ∃ (s280a : Option Addr) (s280l s280c : Nat), ∃ n281 : Int, v277 = (.tuple #[.agg #[.int .i64 n278, .int .i64 n279, .slice s280a s280l s280c], .int .i64 n281]) ∧
              drM w276 fun w282 =>
              stM p267 (.int .i64 n278) w282 fun w283 =>
              stM (p267.add 1) (.int .i64 n279) w283 fun w284 =>
              stM (p267.add 2) (.slice s280a s280l s280c) w284 fun w285 =>
              drM w285 fun w286 =>
              J221 ((some p267), n281, ()) w286)) ∧
          (drM w133 fun w287 =>
            newM #[.int .i64 0, .int .i64 0, .slice none 0 0] N.t_Matrix w287 fun p288 w289 =>
            w289.cell? p126 = some (.int .i64 n224) ∧
            w289.cell? (p126.add 1) = some (.int .i64 n225) ∧
            w289.cell? (p126.add 2) = some (.slice s226a s226l s226c) ∧
            drM w289 fun w290 =>
            newM #[.float .f64 4845873199050653696, .float .f64 14069245235905429504, .float .f64 4607182418800017408] N.t_float64 w290 fun p291 w292 =>
            w292.cell? p126 = some (.int .i64 n224) ∧
            w292.cell? (p126.add 1) = some (.int .i64 n225) ∧
            w292.cell? (p126.add 2) = some (.slice s226a s226l s226c) ∧
            drM w292 fun w293 =>
            CallsX P N.f_girderlaw10_of #[.int .i64 1, .int .i64 3, .slice (some p291) 3 3] w293 fun v295 w294 =>
            ∃ n296 : Int, ∃ n297 : Int, ∃ (s298a : Option Addr) (s298l s298c : Nat), v295 = (.agg #[.int .i64 n296, .int .i64 n297, .slice s298a s298l s298c]) ∧
            w294.cell? p126 = some (.int .i64 n224) ∧
            w294.cell? (p126.add 1) = some (.int .i64 n225) ∧
            w294.cell? (p126.add 2) = some (.slice s226a s226l s226c) ∧
            drM w294 fun w299 =>
            CallsX P N.f_matrix_Mul #[.agg #[.int .i64 n296, .int .i64 n297, .slice s298a s298l s298c], .agg #[.int .i64 n224, .int .i64 n225, .slice s226a s226l s226c]] w299 fun v301 w300 =>
            ∃ n302 : Int, ∃ n303 : Int, ∃ (s304a : Option Addr) (s304l s304c : Nat), ∃ n305 : Int, v301 = (.tuple #[.agg #[.int .i64 n302, .int .i64 n303, .slice s304a s304l s304c], .int .i64 n305]) ∧
            drM w300 fun w306 =>
            stM p288 (.int .i64 n302) w306 fun w307 =>
            stM (p288.add 1) (.int .i64 n303) w307 fun w308 =>
            stM (p288.add 2) (.slice s304a s304l s304c) w308 fun w309 =>
            drM w309 fun w310 =>
            J221 ((some p288), n305, ()) w310))
        (fun s222 w223 =>
          CallsX P N.f_math_Copysign #[.float .f64 0, .float .f64 13830554455654793216] w223 fun v312 w311 =>
          ∃ x313 : Nat, v312 = (.float .f64 x313) ∧
          newM #[.float .f64 x313] N.t_float64 w311 fun p314 w315 =>
          CallsX P N.f_girderlaw10_of #[.int .i64 1, .int .i64 1, .slice (some p314) 1 1] w315 fun v317 w316 =>
          ∃ n318 : Int, ∃ n319 : Int, ∃ (s320a : Option Addr) (s320l s320c : Nat), v317 = (.agg #[.int .i64 n318, .int .i64 n319, .slice s320a s320l s320c]) ∧
          newM #[.float .f64 4607182418800017408] N.t_float64 w316 fun p321 w322 =>
          CallsX P N.f_girderlaw10_of #[.int .i64 1, .int .i64 1, .slice (some p321) 1 1] w322 fun v324 w323 =>
          ∃ n325 : Int, ∃ n326 : Int, ∃ (s327a : Option Addr) (s327l s327c : Nat), v324 = (.agg #[.int .i64 n325, .int .i64 n326, .slice s327a s327l s327c]) ∧
          CallsX P N.f_matrix_Mul #[.agg #[.int .i64 n318, .int .i64 n319, .slice s320a s320l s320c], .agg #[.int .i64 n325, .int .i64 n326, .slice s327a s327l s327c]] w323 fun v329 w328 =>
          ∃ n330 : Int, ∃ n331 : Int, ∃ (s332a : Option Addr) (s332l s332c : Nat), ∃ n333 : Int, v329 = (.tuple #[.agg #[.int .i64 n330, .int .i64 n331, .slice s332a s332l s332c], .int .i64 n333]) ∧
          newM #[.int .i64 0, .int .i64 0, .slice none 0 0] N.t_Matrix w328 fun p334 w335 =>
          stM p334 (.int .i64 n330) w335 fun w336 =>
          stM (p334.add 1) (.int .i64 n331) w336 fun w337 =>
          stM (p334.add 2) (.slice s332a s332l s332c) w337 fun w338 =>
          newM #[.float .f64 0] N.t_float64 w338 fun p339 w340 =>
          CallsX P N.f_girderlaw10_of #[.int .i64 1, .int .i64 1, .slice (some p339) 1 1] w340 fun v342 w341 =>
          ∃ n343 : Int, ∃ n344 : Int, ∃ (s345a : Option Addr) (s345l s345c : Nat), v342 = (.agg #[.int .i64 n343, .int .i64 n344, .slice s345a s345l s345c]) ∧
          CallsX P N.f_math_Inf #[.int .i64 1] w341 fun v347 w346 =>
          ∃ x348 : Nat, v347 = (.float .f64 x348) ∧
          newM #[.float .f64 x348] N.t_float64 w346 fun p349 w350 =>
          CallsX P N.f_girderlaw10_of #[.int .i64 1, .int .i64 1, .slice (some p349) 1 1] w350 fun v352 w351 =>
          ∃ n353 : Int, ∃ n354 : Int, ∃ (s355a : Option Addr) (s355l s355c : Nat), v352 = (.agg #[.int .i64 n353, .int .i64 n354, .slice s355a s355l s355c]) ∧
          CallsX P N.f_matrix_Mul #[.agg #[.int .i64 n343, .int .i64 n344, .slice s345a s345l s345c], .agg #[.int .i64 n353, .int .i64 n354, .slice s355a s355l s355c]] w351 fun v357 w356 =>
          ∃ n358 : Int, ∃ n359 : Int, ∃ (s360a : Option Addr) (s360l s360c : Nat), ∃ n361 : Int, v357 = (.tuple #[.agg #[.int .i64 n358, .int .i64 n359, .slice s360a s360l s360c], .int .i64 n361]) ∧
          newM #[.int .i64 0, .int .i64 0, .slice none 0 0] N.t_Matrix w356 fun p362 w363 =>
          stM p362 (.int .i64 n358) w363 fun w364 =>
          stM (p362.add 1) (.int .i64 n359) w364 fun w365 =>
          stM (p362.add 2) (.slice s360a s360l s360c) w365 fun w366 =>
          newM #[.float .f64 4845873199050653696, .float .f64 4607182418800017408] N.t_float64 w366 fun p367 w368 =>
          CallsX P N.f_girderlaw10_of #[.int .i64 1, .int .i64 2, .slice (some p367) 2 2] w368 fun v370 w369 =>
          ∃ n371 : Int, ∃ n372 : Int, ∃ (s373a : Option Addr) (s373l s373c : Nat), v370 = (.agg #[.int .i64 n371, .int .i64 n372, .slice s373a s373l s373c]) ∧
          CallsX P N.f_matrix_Norm #[.agg #[.int .i64 n371, .int .i64 n372, .slice s373a s373l s373c]] w369 fun v375 w374 =>
          ∃ x376 : Nat, ∃ n377 : Int, v375 = (.tuple #[.float .f64 x376, .int .i64 n377]) ∧
          CallsX P N.f_math_NaN #[] w374 fun v379 w378 =>
          ∃ x380 : Nat, v379 = (.float .f64 x380) ∧
          newM #[.float .f64 4607182418800017408, .float .f64 x380] N.t_float64 w378 fun p381 w382 =>
          CallsX P N.f_girderlaw10_of #[.int .i64 1, .int .i64 2, .slice (some p381) 2 2] w382 fun v384 w383 =>
          ∃ n385 : Int, ∃ n386 : Int, ∃ (s387a : Option Addr) (s387l s387c : Nat), v384 = (.agg #[.int .i64 n385, .int .i64 n386, .slice s387a s387l s387c]) ∧
          CallsX P N.f_matrix_Norm #[.agg #[.int .i64 n385, .int .i64 n386, .slice s387a s387l s387c]] w383 fun v389 w388 =>
          ∃ x390 : Nat, ∃ n391 : Int, v389 = (.tuple #[.float .f64 x390, .int .i64 n391]) ∧
          CallsX P N.f_girderlaw10_of #[.int .i64 2, .int .i64 0, .slice none 0 0] w388 fun v393 w392 =>
          ∃ n394 : Int, ∃ n395 : Int, ∃ (s396a : Option Addr) (s396l s396c : Nat), v393 = (.agg #[.int .i64 n394, .int .i64 n395, .slice s396a s396l s396c]) ∧
          CallsX P N.f_girderlaw10_of #[.int .i64 0, .int .i64 3, .slice none 0 0] w392 fun v398 w397 =>
          ∃ n399 : Int, ∃ n400 : Int, ∃ (s401a : Option Addr) (s401l s401c : Nat), v398 = (.agg #[.int .i64 n399, .int .i64 n400, .slice s401a s401l s401c]) ∧
          CallsX P N.f_matrix_Mul #[.agg #[.int .i64 n394, .int .i64 n395, .slice s396a s396l s396c], .agg #[.int .i64 n399, .int .i64 n400, .slice s401a s401l s401c]] w397 fun v403 w402 =>
          ∃ n404 : Int, ∃ n405 : Int, ∃ (s406a : Option Addr) (s406l s406c : Nat), ∃ n407 : Int, v403 = (.tuple #[.agg #[.int .i64 n404, .int .i64 n405, .slice s406a s406l s406c], .int .i64 n407]) ∧
          newM #[.int .i64 0, .int .i64 0, .slice none 0 0] N.t_Matrix w402 fun p408 w409 =>
          stM p408 (.int .i64 n404) w409 fun w410 =>
          stM (p408.add 1) (.int .i64 n405) w410 fun w411 =>
          stM (p408.add 2) (.slice s406a s406l s406c) w411 fun w412 =>
          cutM (σ := Bool × Unit) (fun J413 =>
            optM s132.1 fun a416 =>
            ∃ n417 : Int, w412.cell? a416 = some (.int .i64 n417) ∧
            ∃ n418 : Int, w412.cell? (a416.add 1) = some (.int .i64 n418) ∧
            ∃ (s419a : Option Addr) (s419l s419c : Nat), w412.cell? (a416.add 2) = some (.slice s419a s419l s419c) ∧
            drM w412 fun w420 =>
            newM #[.float .f64 0] N.t_float64 w420 fun p421 w422 =>
            w422.cell? a416 = some (.int .i64 n417) ∧
            w422.cell? (a416.add 1) = some (.int .i64 n418) ∧
            w422.cell? (a416.add 2) = some (.slice s419a s419l s419c) ∧
            drM w422 fun w423 =>
            CallsX P N.f_girderlaw10_of #[.int .i64 1, .int .i64 1, .slice (some p421) 1 1] w423 fun v425 w424 =>
            ∃ n426 : Int, ∃ n427 : Int, ∃ (s428a : Option Addr) (s428l s428c : Nat), v425 = (.agg #[.int .i64 n426, .int .i64 n427, .slice s428a s428l s428c]) ∧
            w424.cell? a416 = some (.int .i64 n417) ∧
            w424.cell? (a416.add 1) = some (.int .i64 n418) ∧
            w424.cell? (a416.add 2) = some (.slice s419a s419l s419c) ∧
            drM w424 fun w429 =>
            CallsX P N.f_girderlaw10_is #[.agg #[.int .i64 n417, .int .i64 n418, .slice s419a s419l s419c], .int .i64 s132.2.1, .agg #[.int .i64 n426, .int .i64 n427, .slice s428a s428l s428c], .int .i64 0] w429 fun v431 w430 =>
            ∃ b432 : Bool, v431 = (.bool b432) ∧
            cond b432
            (optM s222.1 fun a433 =>
              ∃ n434 : Int, w430.cell? a433 = some (.int .i64 n434) ∧
              ∃ n435 : Int, w430.cell? (a433.add 1) = some (.int .i64 n435) ∧
              ∃ (s436a : Option Addr) (s436l s436c : Nat), w430.cell? (a433.add 2) = some (.slice s436a s436l s436c) ∧
              drM w430 fun w437 =>
              newM #[.float .f64 4607182418800017408] N.t_float64 w437 fun p438 w439 =>
              w439.cell? a433 = some (.int .i64 n434) ∧
              w439.cell? (a433.add 1) = some (.int .i64 n435) ∧
              w439.cell? (a433.add 2) = some (.slice s436a s436l s436c) ∧
              drM w439 fun w440 =>
              CallsX P N.f_girderlaw10_of #[.int .i64 1, .int .i64 1, .slice (some p438) 1 1] w440 fun v442 w441 =>
              ∃ n443 : Int, ∃ n444 : Int, ∃ (s445a : Option Addr) (s445l s445c : Nat), v442 = (.agg #[.int .i64 n443, .int .i64 n444, .slice s445a s445l s445c]) ∧
              w441.cell? a433 = some (.int .i64 n434) ∧
              w441.cell? (a433.add 1) = some (.int .i64 n435) ∧
              w441.cell? (a433.add 2) = some (.slice s436a s436l s436c) ∧
              drM w441 fun w446 =>
              CallsX P N.f_girderlaw10_is #[.agg #[.int .i64 n434, .int .i64 n435, .slice s436a s436l s436c], .int .i64 s222.2.1, .agg #[.int .i64 n443, .int .i64 n444, .slice s445a s445l s445c], .int .i64 0] w446 fun v448 w447 =>
              ∃ b449 : Bool, v448 = (.bool b449) ∧
              cond b449
              (∃ n450 : Int, w447.cell? p334 = some (.int .i64 n450) ∧
                ∃ n451 : Int, w447.cell? (p334.add 1) = some (.int .i64 n451) ∧
                ∃ (s452a : Option Addr) (s452l s452c : Nat), w447.cell? (p334.add 2) = some (.slice s452a s452l s452c) ∧
                drM w447 fun w453 =>
                newM #[.float .f64 0] N.t_float64 w453 fun p454 w455 =>
                w455.cell? p334 = some (.int .i64 n450) ∧
                w455.cell? (p334.add 1) = some (.int .i64 n451) ∧
                w455.cell? (p334.add 2) = some (.slice s452a s452l s452c) ∧
                drM w455 fun w456 =>
                CallsX P N.f_girderlaw10_of #[.int .i64 1, .int .i64 1, .slice (some p454) 1 1] w456 fun v458 w457 =>
                ∃ n459 : Int, ∃ n460 : Int, ∃ (s461a : Option Addr) (s461l s461c : Nat), v458 = (.agg #[.int .i64 n459, .int .i64 n460, .slice s461a s461l s461c]) ∧
                w457.cell? p334 = some (.int .i64 n450) ∧
                w457.cell? (p334.add 1) = some (.int .i64 n451) ∧
                w457.cell? (p334.add 2) = some (.slice s452a s452l s452c) ∧
                drM w457 fun w462 =>
                CallsX P N.f_girderlaw10_is #[.agg #[.int .i64 n450, .int .i64 n451, .slice s452a s452l s452c], .int .i64 n333, .agg #[.int .i64 n459, .int .i64 n460, .slice s461a s461l s461c], .int .i64 0] w462 fun v464 w463 =>
                ∃ b465 : Bool, v464 = (.bool b465) ∧
                cond b465
                (∃ n466 : Int, w463.cell? p362 = some (.int .i64 n466) ∧
                  ∃ n467 : Int, w463.cell? (p362.add 1) = some (.int .i64 n467) ∧
                  ∃ (s468a : Option Addr) (s468l s468c : Nat), w463.cell? (p362.add 2) = some (.slice s468a s468l s468c) ∧
                  drM w463 fun w469 =>
                  CallsX P N.f_math_NaN #[] w469 fun v471 w470 =>
                  ∃ x472 : Nat, v471 = (.float .f64 x472) ∧
                  w470.cell? p362 = some (.int .i64 n466) ∧
                  w470.cell? (p362.add 1) = some (.int .i64 n467) ∧
                  w470.cell? (p362.add 2) = some (.slice s468a s468l s468c) ∧
                  drM w470 fun w473 =>
                  newM #[.float .f64 x472] N.t_float64 w473 fun p474 w475 =>
                  w475.cell? p362 = some (.int .i64 n466) ∧
                  w475.cell? (p362.add 1) = some (.int .i64 n467) ∧
                  w475.cell? (p362.add 2) = some (.slice s468a s468l s468c) ∧
                  drM w475 fun w476 =>
                  CallsX P N.f_girderlaw10_of #[.int .i64 1, .int .i64 1, .slice (some p474) 1 1] w476 fun v478 w477 =>
                  ∃ n479 : Int, ∃ n480 : Int, ∃ (s481a : Option Addr) (s481l s481c : Nat), v478 = (.agg #[.int .i64 n479, .int .i64 n480, .slice s481a s481l s481c]) ∧
                  w477.cell? p362 = some (.int .i64 n466) ∧
                  w477.cell? (p362.add 1) = some (.int .i64 n467) ∧
                  w477.cell? (p362.add 2) = some (.slice s468a s468l s468c) ∧
                  drM w477 fun w482 =>
                  CallsX P N.f_girderlaw10_is #[.agg #[.int .i64 n466, .int .i64 n467, .slice s468a s468l s468c], .int .i64 n361, .agg #[.int .i64 n479, .int .i64 n480, .slice s481a s481l s481c], .int .i64 0] w482 fun v484 w483 =>
                  ∃ b485 : Bool, v484 = (.bool b485) ∧
                  cond b485
                  (∃ n486 : Int, w483.cell? p408 = some (.int .i64 n486) ∧
                    ∃ n487 : Int, w483.cell? (p408.add 1) = some (.int .i64 n487) ∧
                    ∃ (s488a : Option Addr) (s488l s488c : Nat), w483.cell? (p408.add 2) = some (.slice s488a s488l s488c) ∧
                    drM w483 fun w489 =>
                    newM #[.float .f64 0, .float .f64 0, .float .f64 0, .float .f64 0, .float .f64 0, .float .f64 0] N.t_float64 w489 fun p490 w491 =>
                    w491.cell? p408 = some (.int .i64 n486) ∧
                    w491.cell? (p408.add 1) = some (.int .i64 n487) ∧
                    w491.cell? (p408.add 2) = some (.slice s488a s488l s488c) ∧
                    drM w491 fun w492 =>
                    CallsX P N.f_girderlaw10_of #[.int .i64 2, .int .i64 3, .slice (some p490) 6 6] w492 fun v494 w493 =>
                    ∃ n495 : Int, ∃ n496 : Int, ∃ (s497a : Option Addr) (s497l s497c : Nat), v494 = (.agg #[.int .i64 n495, .int .i64 n496, .slice s497a s497l s497c]) ∧
                    w493.cell? p408 = some (.int .i64 n486) ∧
                    w493.cell? (p408.add 1) = some (.int .i64 n487) ∧
                    w493.cell? (p408.add 2) = some (.slice s488a s488l s488c) ∧
                    drM w493 fun w498 =>
                    CallsX P N.f_girderlaw10_is #[.agg #[.int .i64 n486, .int .i64 n487, .slice s488a s488l s488c], .int .i64 n407, .agg #[.int .i64 n495, .int .i64 n496, .slice s497a s497l s497c], .int .i64 0] w498 fun v500 w499 =>
                    ∃ b501 : Bool, v500 = (.bool b501) ∧
                    drM w499 fun w502 =>
                    J413 (b501, ()) w502)
                  (drM w483 fun w503 =>
                    drM w503 fun w504 =>
                    drM w504 fun w505 =>
                    drM w505 fun w506 =>
                    J413 (false, ()) w506))
                (drM w463 fun w507 =>
                  drM w507 fun w508 =>
                  drM w508 fun w509 =>
                  drM w509 fun w510 =>
                  drM w510 fun w511 =>
                  drM w511 fun w512 =>
                  drM w512 fun w513 =>
                  drM w513 fun w514 =>
                  J413 (false, ()) w514))
              (drM w447 fun w515 =>
                drM w515 fun w516 =>
                drM w516 fun w517 =>
                drM w517 fun w518 =>
                drM w518 fun w519 =>
                drM w519 fun w520 =>
                drM w520 fun w521 =>
                drM w521 fun w522 =>
                drM w522 fun w523 =>
                drM w523 fun w524 =>
                drM w524 fun w525 =>
                J413 (false, ()) w525))
            (drM w430 fun w526 =>
              drM w526 fun w527 =>
              drM w527 fun w528 =>
              drM w528 fun w529 =>
              drM w529 fun w530 =>
              drM w530 fun w531 =>
              drM w531 fun w532 =>
              drM w532 fun w533 =>
              drM w533 fun w534 =>
              drM w534 fun w535 =>
              drM w535 fun w536 =>
              drM w536 fun w537 =>
              drM w537 fun w538 =>
              drM w538 fun w539 =>
              J413 (false, ()) w539))
          (fun s414 w415 =>
            cutM (σ := Bool × Unit) (fun J540 =>
              cond (feq x376 4845873199050653697)
              (cond (n377 == 0)
                (cond (feq x390 0)
                  (cond (n391 == 5)
                    (CallsX P N.f_math_Copysign #[.float .f64 0, .float .f64 13830554455654793216] w415 fun v544 w543 =>
                      ∃ x545 : Nat, v544 = (.float .f64 x545) ∧
                      newM #[.float .f64 4607182418800017408, .float .f64 0, .float .f64 x545, .float .f64 4607182418800017408] N.t_float64 w543 fun p546 w547 =>
                      CallsX P N.f_girderlaw10_of #[.int .i64 2, .int .i64 2, .slice (some p546) 4 4] w547 fun v549 w548 =>
                      ∃ n550 : Int, ∃ n551 : Int, ∃ (s552a : Option Addr) (s552l s552c : Nat), v549 = (.agg #[.int .i64 n550, .int .i64 n551, .slice s552a s552l s552c]) ∧
                      CallsX P N.f_matrix_Symmetric #[.agg #[.int .i64 n550, .int .i64 n551, .slice s552a s552l s552c]] w548 fun v554 w553 =>
                      ∃ b555 : Bool, v554 = (.bool b555) ∧
                      cond (!b555)
                      (newM #[.float .f64 4607182418800017408, .float .f64 4611686018427387904, .float .f64 4613937818241073152] N.t_float64 w553 fun p556 w557 =>
                        CallsX P N.f_girderlaw10_of #[.int .i64 2, .int .i64 2, .slice (some p556) 3 3] w557 fun v559 w558 =>
                        ∃ n560 : Int, ∃ n561 : Int, ∃ (s562a : Option Addr) (s562l s562c : Nat), v559 = (.agg #[.int .i64 n560, .int .i64 n561, .slice s562a s562l s562c]) ∧
                        CallsX P N.f_matrix_Right #[.agg #[.int .i64 n560, .int .i64 n561, .slice s562a s562l s562c]] w558 fun v564 w563 =>
                        ∃ b565 : Bool, v564 = (.bool b565) ∧
                        J540 ((!b565), ()) w563)
                      (J540 (false, ()) w553))
                    (J540 (false, ()) w415))
                  (J540 (false, ()) w415))
                (J540 (false, ()) w415))
              (J540 (false, ()) w415))
            (fun s541 w542 =>
              newM #[.float .f64 4607182418800017408] N.t_float64 w542 fun p566 w567 =>
              CallsX P N.f_girderlaw10_of #[.int .i64 2, .int .i64 2, .slice (some p566) 1 1] w567 fun v569 w568 =>
              ∃ n570 : Int, ∃ n571 : Int, ∃ (s572a : Option Addr) (s572l s572c : Nat), v569 = (.agg #[.int .i64 n570, .int .i64 n571, .slice s572a s572l s572c]) ∧
              CallsX P N.f_matrix_Norm #[.agg #[.int .i64 n570, .int .i64 n571, .slice s572a s572l s572c]] w568 fun v574 w573 =>
              ∃ x575 : Nat, ∃ n576 : Int, v574 = (.tuple #[.float .f64 x575, .int .i64 n576]) ∧
              cond s414.1
              (cond s541.1
                (cond (feq x575 0)
                  (cond (n576 == 4)
                    (CallsX P N.f_girderlaw10_awake #[] w573 fun v578 w577 =>
                      ∃ b579 : Bool, v578 = (.bool b579) ∧
                      K (.bool b579) w577)
                    (K (.bool false) w573))
                  (K (.bool false) w573))
                (K (.bool false) w573))
              (K (.bool false) w573)))))))

/-- girder/girderkit.LentMatrix -/
def S_girderkit_LentMatrix (N : Nums) (P : Program) (q0_0 : Int) (q0_1 : Int) (q0_2 : Option Addr) (q0_2l q0_2c : Nat) (w : World) (K : Value → World → Prop) : Prop :=
  newM #[.int .i64 q0_0, .int .i64 q0_1, .slice q0_2 q0_2l q0_2c] N.t_Matrix w fun p1 w2 =>
  newM #[.int .i64 0, .int .i64 0, .slice none 0 0] N.t_Matrix w2 fun p3 w4 =>
  ∃ (s5a : Option Addr) (s5l s5c : Nat), w4.cell? (p1.add 2) = some (.slice s5a s5l s5c) ∧
  CallsX P N.f_girderkit_LentReals #[.slice s5a s5l s5c] w4 fun v7 w6 =>
  ∃ (s8a : Option Addr) (s8l s8c : Nat), v7 = (.slice s8a s8l s8c) ∧
  stM (p1.add 2) (.slice s8a s8l s8c) w6 fun w9 =>
  ∃ n10 : Int, w9.cell? p1 = some (.int .i64 n10) ∧
  ∃ n11 : Int, w9.cell? (p1.add 1) = some (.int .i64 n11) ∧
  ∃ (s12a : Option Addr) (s12l s12c : Nat), w9.cell? (p1.add 2) = some (.slice s12a s12l s12c) ∧
  stM p3 (.int .i64 n10) w9 fun w13 =>
  stM (p3.add 1) (.int .i64 n11) w13 fun w14 =>
  stM (p3.add 2) (.slice s12a s12l s12c) w14 fun w15 =>
  ∃ n16 : Int, w15.cell? p3 = some (.int .i64 n16) ∧
  ∃ n17 : Int, w15.cell? (p3.add 1) = some (.int .i64 n17) ∧
  ∃ (s18a : Option Addr) (s18l s18c : Nat), w15.cell? (p3.add 2) = some (.slice s18a s18l s18c) ∧
  K (.agg #[.int .i64 n16, .int .i64 n17, .slice s18a s18l s18c]) w15

/-- girder/girderkit.LentReals -/
def S_girderkit_LentReals (N : Nums) (P : Program) (q0 : Option Addr) (q0l q0c : Nat) (w : World) (K : Value → World → Prop) : Prop :=
  mkM N.t_float64 1 8 #[.float .f64 0] 0 (IntKind.i64.wrap (((q0l : Nat) : Int) + 12)) w fun p1 w2 =>
  appM N.t_float64 1 8 #[.float .f64 0] (some p1) ((0 : Int).toNat) ((IntKind.i64.wrap (((q0l : Nat) : Int) + 12)).toNat) q0 q0l w2 fun s3a s3l s3c w4 =>
  cutM (σ := (Option Addr × Nat × Nat) × Unit) (fun J5 =>
    loopM (σ := (Option Addr × Nat × Nat) × Int × Unit) (fun s8 X9 w10 =>
      cond (decide (s8.2.1 < 12))
      (CallsX P N.f_girderkit_mark #[.int .i64 1, .int .i64 s8.2.1] w10 fun v12 w11 =>
        ∃ n13 : Int, v12 = (.int .i64 n13) ∧
        newM #[.float .f64 (FloatKind.f64.nearest n13)] N.t_float64 w11 fun p14 w15 =>
        appM N.t_float64 1 8 #[.float .f64 0] s8.1.1 s8.1.2.1 s8.1.2.2 (some p14) 1 w15 fun s16a s16l s16c w17 =>
        X9 ((s16a, s16l, s16c), (IntKind.i64.wrap (s8.2.1 + 1)), ()) w17)
      (J5 ((s8.1.1, s8.1.2.1, s8.1.2.2), ()) w10))
    ((s3a, s3l, s3c), 0, ()) w4)
  (fun s6 w7 =>
    (0 : Int) ≤ ((q0l : Nat) : Int) ∧ ((q0l : Nat) : Int) ≤ (s6.1.2.2 : Nat) ∧
    K (.slice (slBase s6.1.1 0 s6.1.2.2 1) (((q0l : Nat) : Int).toNat) s6.1.2.2) w7)

/-- girder/matrix.Mul -/
def S_matrix_Mul (N : Nums) (P : Program) (q0_0 : Int) (q0_1 : Int) (q0_2 : Option Addr) (q0_2l q0_2c : Nat) (q1_0 : Int) (q1_1 : Int) (q1_2 : Option Addr) (q1_2l q1_2c : Nat) (w : World) (K : Value → World → Prop) : Prop :=
  newM #[.int .i64 q0_0, .int .i64 q0_1, .slice q0_2 q0_2l q0_2c] N.t_Matrix w fun p1 w2 =>
  newM #[.int .i64 q1_0, .int .i64 q1_1, .slice q1_2 q1_2l q1_2c] N.t_Matrix w2 fun p3 w4 =>
  newM #[.int .i64 0, .int .i64 0, .slice none 0 0] N.t_Matrix w4 fun p5 w6 =>
  cutM (σ := Bool × Unit) (fun J7 =>
    ∃ n10 : Int, w6.cell? p1 = some (.int .i64 n10) ∧
    ∃ n11 : Int, w6.cell? (p1.add 1) = some (.int .i64 n11) ∧
    ∃ (s12a : Option Addr) (s12l s12c : Nat), w6.cell? (p1.add 2) = some (.slice s12a s12l s12c) ∧
    CallsX P N.f_matrix_Right #[.agg #[.int .i64 n10, .int .i64 n11, .slice s12a s12l s12c]] w6 fun v14 w13 =>
    ∃ b15 : Bool, v14 = (.bool b15) ∧
    cond (!(!b15))
    (∃ n16 : Int, w13.cell? p3 = some (.int .i64 n16) ∧
      ∃ n17 : Int, w13.cell? (p3.add 1) = some (.int .i64 n17) ∧
      ∃ (s18a : Option Addr) (s18l s18c : Nat), w13.cell? (p3.add 2) = some (.slice s18a s18l s18c) ∧
      CallsX P N.f_matrix_Right #[.agg #[.int .i64 n16, .int .i64 n17, .slice s18a s18l s18c]] w13 fun v20 w19 =>
      ∃ b21 : Bool, v20 = (.bool b21) ∧
      cond (!(!b21))
      (∃ n22 : Int, w19.cell? (p1.add 1) = some (.int .i64 n22) ∧
        ∃ n23 : Int, w19.cell? p3 = some (.int .i64 n23) ∧
        J7 ((n22 != n23), ()) w19)
      (J7 (true, ()) w19))
    (J7 (true, ()) w13))
  (fun s8 w9 =>
    cond s8.1
    (stM p5 (.int .i64 0) w9 fun w24 =>
      stM (p5.add 1) (.int .i64 0) w24 fun w25 =>
      stM (p5.add 2) (.slice none 0 0) w25 fun w26 =>
      ∃ n27 : Int, w26.cell? p5 = some (.int .i64 n27) ∧
      ∃ n28 : Int, w26.cell? (p5.add 1) = some (.int .i64 n28) ∧
      ∃ (s29a : Option Addr) (s29l s29c : Nat), w26.cell? (p5.add 2) = some (.slice s29a s29l s29c) ∧
      K (.tuple #[.agg #[.int .i64 n27, .int .i64 n28, .slice s29a s29l s29c], .int .i64 4]) w26)
    (∃ n30 : Int, w9.cell? p1 = some (.int .i64 n30) ∧
      ∃ n31 : Int, w9.cell? (p3.add 1) = some (.int .i64 n31) ∧
      CallsX P N.f_matrix_laid #[.int .i64 n30, .int .i64 n31, .func (.func N.f_matrix_Mul_1) #[] #[.pointer (some p1), .pointer (some p3)]] w9 fun v33 w32 =>
      ∃ n34 : Int, ∃ n35 : Int, ∃ (s36a : Option Addr) (s36l s36c : Nat), v33 = (.agg #[.int .i64 n34, .int .i64 n35, .slice s36a s36l s36c]) ∧
      stM p5 (.int .i64 n34) w32 fun w37 =>
      stM (p5.add 1) (.int .i64 n35) w37 fun w38 =>
      stM (p5.add 2) (.slice s36a s36l s36c) w38 fun w39 =>
      ∃ n40 : Int, w39.cell? p5 = some (.int .i64 n40) ∧
      ∃ n41 : Int, w39.cell? (p5.add 1) = some (.int .i64 n41) ∧
      ∃ (s42a : Option Addr) (s42l s42c : Nat), w39.cell? (p5.add 2) = some (.slice s42a s42l s42c) ∧
      K (.tuple #[.agg #[.int .i64 n40, .int .i64 n41, .slice s42a s42l s42c], .int .i64 0]) w39))

/-- girder/girderref10.Mul -/
def S_girderref10_Mul (N : Nums) (P : Program) (q0_0 : Int) (q0_1 : Int) (q0_2 : Option Addr) (q0_2l q0_2c : Nat) (q1_0 : Int) (q1_1 : Int) (q1_2 : Option Addr) (q1_2l q1_2c : Nat) (w : World) (K : Value → World → Prop) : Prop :=
  newM #[.int .i64 q0_0, .int .i64 q0_1, .slice q0_2 q0_2l q0_2c] N.t_Matrix w fun p1 w2 =>
  newM #[.int .i64 q1_0, .int .i64 q1_1, .slice q1_2 q1_2l q1_2c] N.t_Matrix w2 fun p3 w4 =>
  newM #[.int .i64 0, .int .i64 0, .slice none 0 0] N.t_Matrix w4 fun p5 w6 =>
  cutM (σ := Bool × Unit) (fun J7 =>
    ∃ n10 : Int, w6.cell? p1 = some (.int .i64 n10) ∧
    ∃ n11 : Int, w6.cell? (p1.add 1) = some (.int .i64 n11) ∧
    ∃ (s12a : Option Addr) (s12l s12c : Nat), w6.cell? (p1.add 2) = some (.slice s12a s12l s12c) ∧
    CallsX P N.f_girderref10_Right #[.agg #[.int .i64 n10, .int .i64 n11, .slice s12a s12l s12c]] w6 fun v14 w13 =>
    ∃ b15 : Bool, v14 = (.bool b15) ∧
    cond (!(!b15))
    (∃ n16 : Int, w13.cell? p3 = some (.int .i64 n16) ∧
      ∃ n17 : Int, w13.cell? (p3.add 1) = some (.int .i64 n17) ∧
      ∃ (s18a : Option Addr) (s18l s18c : Nat), w13.cell? (p3.add 2) = some (.slice s18a s18l s18c) ∧
      CallsX P N.f_girderref10_Right #[.agg #[.int .i64 n16, .int .i64 n17, .slice s18a s18l s18c]] w13 fun v20 w19 =>
      ∃ b21 : Bool, v20 = (.bool b21) ∧
      cond (!(!b21))
      (∃ n22 : Int, w19.cell? (p1.add 1) = some (.int .i64 n22) ∧
        ∃ n23 : Int, w19.cell? p3 = some (.int .i64 n23) ∧
        J7 ((n22 != n23), ()) w19)
      (J7 (true, ()) w19))
    (J7 (true, ()) w13))
  (fun s8 w9 =>
    cond s8.1
    (stM p5 (.int .i64 0) w9 fun w24 =>
      stM (p5.add 1) (.int .i64 0) w24 fun w25 =>
      stM (p5.add 2) (.slice none 0 0) w25 fun w26 =>
      ∃ n27 : Int, w26.cell? p5 = some (.int .i64 n27) ∧
      ∃ n28 : Int, w26.cell? (p5.add 1) = some (.int .i64 n28) ∧
      ∃ (s29a : Option Addr) (s29l s29c : Nat), w26.cell? (p5.add 2) = some (.slice s29a s29l s29c) ∧
      K (.tuple #[.agg #[.int .i64 n27, .int .i64 n28, .slice s29a s29l s29c], .int .i64 4]) w26)
    (∃ n30 : Int, w9.cell? p1 = some (.int .i64 n30) ∧
      ∃ n31 : Int, w9.cell? (p3.add 1) = some (.int .i64 n31) ∧
      CallsX P N.f_girderref10_Make #[.int .i64 n30, .int .i64 n31] w9 fun v33 w32 =>
      ∃ n34 : Int, ∃ n35 : Int, ∃ (s36a : Option Addr) (s36l s36c : Nat), ∃ n37 : Int, v33 = (.tuple #[.agg #[.int .i64 n34, .int .i64 n35, .slice s36a s36l s36c], .int .i64 n37]) ∧
      newM #[.int .i64 0, .int .i64 0, .slice none 0 0] N.t_Matrix w32 fun p38 w39 =>
      stM p38 (.int .i64 n34) w39 fun w40 =>
      stM (p38.add 1) (.int .i64 n35) w40 fun w41 =>
      stM (p38.add 2) (.slice s36a s36l s36c) w41 fun w42 =>
      cutM (σ := Unit) (fun J43 =>
        loopM (σ := Int × Unit) (fun s46 X47 w48 =>
          ∃ n49 : Int, w48.cell? p1 = some (.int .i64 n49) ∧
          cond (decide (s46.1 < n49))
          (cutM (σ := Unit) (fun J50 =>
              loopM (σ := Int × Unit) (fun s53 X54 w55 =>
                ∃ n56 : Int, w55.cell? (p3.add 1) = some (.int .i64 n56) ∧
                cond (decide (s53.1 < n56))
                (cutM (σ := Nat × Unit) (fun J57 =>
                    loopM (σ := Nat × Int × Unit) (fun s60 X61 w62 =>
                      ∃ n63 : Int, w62.cell? (p1.add 1) = some (.int .i64 n63) ∧
                      cond (decide (s60.2.1 < n63))
                      (∃ n64 : Int, w62.cell? p1 = some (.int .i64 n64) ∧
                        ∃ n65 : Int, w62.cell? (p1.add 1) = some (.int .i64 n65) ∧
                        ∃ (s66a : Option Addr) (s66l s66c : Nat), w62.cell? (p1.add 2) = some (.slice s66a s66l s66c) ∧
                        ∃ n67 : Int, w62.cell? p3 = some (.int .i64 n67) ∧
                        ∃ n68 : Int, w62.cell? (p3.add 1) = some (.int .i64 n68) ∧
                        ∃ (s69a : Option Addr) (s69l s69c : Nat), w62.cell? (p3.add 2) = some (.slice s69a s69l s69c) ∧
                        drM w62 fun w70 =>
                        CallsX P N.f_girderref10_At #[.agg #[.int .i64 n64, .int .i64 n65, .slice s66a s66l s66c], .int .i64 s46.1, .int .i64 s60.2.1] w70 fun v72 w71 =>
                        ∃ x73 : Nat, v72 = (.float .f64 x73) ∧
                        w71.cell? p3 = some (.int .i64 n67) ∧
                        w71.cell? (p3.add 1) = some (.int .i64 n68) ∧
                        w71.cell? (p3.add 2) = some (.slice s69a s69l s69c) ∧
                        drM w71 fun w74 =>
                        CallsX P N.f_girderref10_At #[.agg #[.int .i64 n67, .int .i64 n68, .slice s69a s69l s69c], .int .i64 s60.2.1, .int .i64 s53.1] w74 fun v76 w75 =>
                        ∃ x77 : Nat, v76 = (.float .f64 x77) ∧
                        fresM (fmul x73 x77) w75 fun x78 w79 =>
                        drM w75 fun w80 =>
                        fresM (fadd s60.1 x78) w80 fun x81 w82 =>
                        X61 (x81, (IntKind.i64.wrap (s60.2.1 + 1)), ()) w82)
                      (J57 (s60.1, ()) w62))
                    (0, 0, ()) w55)
                  (fun s58 w59 =>
                    ∃ (s83a : Option Addr) (s83l s83c : Nat), w59.cell? (p38.add 2) = some (.slice s83a s83l s83c) ∧
                    ∃ n84 : Int, w59.cell? (p3.add 1) = some (.int .i64 n84) ∧
                    (0 : Int) ≤ (IntKind.i64.wrap ((IntKind.i64.wrap (s46.1 * n84)) + s53.1)) ∧ (IntKind.i64.wrap ((IntKind.i64.wrap (s46.1 * n84)) + s53.1)) < (s83l : Nat) ∧
                    optM s83a fun a85 =>
                    stM (a85.add ((IntKind.i64.wrap ((IntKind.i64.wrap (s46.1 * n84)) + s53.1)).toNat * 1)) (.float .f64 s58.1) w59 fun w86 =>
                    X54 ((IntKind.i64.wrap (s53.1 + 1)), ()) w86))
                (J50 (()) w55))
              (0, ()) w48)
            (fun s51 w52 =>
              X47 ((IntKind.i64.wrap (s46.1 + 1)), ()) w52))
          (J43 (()) w48))
        (0, ()) w42)
      (fun s44 w45 =>
        ∃ n87 : Int, w45.cell? p38 = some (.int .i64 n87) ∧
        ∃ n88 : Int, w45.cell? (p38.add 1) = some (.int .i64 n88) ∧
        ∃ (s89a : Option Addr) (s89l s89c : Nat), w45.cell? (p38.add 2) = some (.slice s89a s89l s89c) ∧
        stM p5 (.int .i64 n87) w45 fun w90 =>
        stM (p5.add 1) (.int .i64 n88) w90 fun w91 =>
        stM (p5.add 2) (.slice s89a s89l s89c) w91 fun w92 =>
        ∃ n93 : Int, w92.cell? p5 = some (.int .i64 n93) ∧
        ∃ n94 : Int, w92.cell? (p5.add 1) = some (.int .i64 n94) ∧
        ∃ (s95a : Option Addr) (s95l s95c : Nat), w92.cell? (p5.add 2) = some (.slice s95a s95l s95c) ∧
        K (.tuple #[.agg #[.int .i64 n93, .int .i64 n94, .slice s95a s95l s95c], .int .i64 0]) w92)))

/-- girder/matrix.Apply -/
def S_matrix_Apply (N : Nums) (P : Program) (q0_0 : Int) (q0_1 : Int) (q0_2 : Option Addr) (q0_2l q0_2c : Nat) (q1 : Option Addr) (q1l q1c : Nat) (w : World) (K : Value → World → Prop) : Prop :=
  newM #[.int .i64 q0_0, .int .i64 q0_1, .slice q0_2 q0_2l q0_2c] N.t_Matrix w fun p1 w2 =>
  ∃ n3 : Int, w2.cell? p1 = some (.int .i64 n3) ∧
  ∃ n4 : Int, w2.cell? (p1.add 1) = some (.int .i64 n4) ∧
  ∃ (s5a : Option Addr) (s5l s5c : Nat), w2.cell? (p1.add 2) = some (.slice s5a s5l s5c) ∧
  CallsX P N.f_matrix_Mul #[.agg #[.int .i64 n3, .int .i64 n4, .slice s5a s5l s5c], .agg #[.int .i64 ((q1l : Nat) : Int), .int .i64 1, .slice q1 q1l q1c]] w2 fun v7 w6 =>
  ∃ n8 : Int, ∃ n9 : Int, ∃ (s10a : Option Addr) (s10l s10c : Nat), ∃ n11 : Int, v7 = (.tuple #[.agg #[.int .i64 n8, .int .i64 n9, .slice s10a s10l s10c], .int .i64 n11]) ∧
  newM #[.int .i64 0, .int .i64 0, .slice none 0 0] N.t_Matrix w6 fun p12 w13 =>
  stM p12 (.int .i64 n8) w13 fun w14 =>
  stM (p12.add 1) (.int .i64 n9) w14 fun w15 =>
  stM (p12.add 2) (.slice s10a s10l s10c) w15 fun w16 =>
  ∃ (s17a : Option Addr) (s17l s17c : Nat), w16.cell? (p12.add 2) = some (.slice s17a s17l s17c) ∧
  K (.tuple #[.slice s17a s17l s17c, .int .i64 n11]) w16

/-- girder/girderref10.Apply -/
def S_girderref10_Apply (N : Nums) (P : Program) (q0_0 : Int) (q0_1 : Int) (q0_2 : Option Addr) (q0_2l q0_2c : Nat) (q1 : Option Addr) (q1l q1c : Nat) (w : World) (K : Value → World → Prop) : Prop :=
  newM #[.int .i64 q0_0, .int .i64 q0_1, .slice q0_2 q0_2l q0_2c] N.t_Matrix w fun p1 w2 =>
  cutM (σ := Bool × Unit) (fun J3 =>
    ∃ n6 : Int, w2.cell? p1 = some (.int .i64 n6) ∧
    ∃ n7 : Int, w2.cell? (p1.add 1) = some (.int .i64 n7) ∧
    ∃ (s8a : Option Addr) (s8l s8c : Nat), w2.cell? (p1.add 2) = some (.slice s8a s8l s8c) ∧
    CallsX P N.f_girderref10_Right #[.agg #[.int .i64 n6, .int .i64 n7, .slice s8a s8l s8c]] w2 fun v10 w9 =>
    ∃ b11 : Bool, v10 = (.bool b11) ∧
    cond (!(!b11))
    (∃ n12 : Int, w9.cell? (p1.add 1) = some (.int .i64 n12) ∧
      J3 ((((q1l : Nat) : Int) != n12), ()) w9)
    (J3 (true, ()) w9))
  (fun s4 w5 =>
    cond s4.1
    (K (.tuple #[.slice none 0 0, .int .i64 4]) w5)
    (cutM (σ := (Option Addr × Nat × Nat) × Unit) (fun J13 =>
        loopM (σ := (Option Addr × Nat × Nat) × Int × Unit) (fun s16 X17 w18 =>
          ∃ n19 : Int, w18.cell? p1 = some (.int .i64 n19) ∧
          cond (decide (s16.2.1 < n19))
          (cutM (σ := Nat × Unit) (fun J20 =>
              loopM (σ := Nat × Int × Unit) (fun s23 X24 w25 =>
                ∃ n26 : Int, w25.cell? (p1.add 1) = some (.int .i64 n26) ∧
                cond (decide (s23.2.1 < n26))
                (∃ n27 : Int, w25.cell? p1 = some (.int .i64 n27) ∧
                  ∃ n28 : Int, w25.cell? (p1.add 1) = some (.int .i64 n28) ∧
                  ∃ (s29a : Option Addr) (s29l s29c : Nat), w25.cell? (p1.add 2) = some (.slice s29a s29l s29c) ∧
                  (0 : Int) ≤ s23.2.1 ∧ s23.2.1 < (q1l : Nat) ∧
                  optM q1 fun a30 =>
                  ∃ x31 : Nat, w25.cell? (a30.add (s23.2.1.toNat * 1)) = some (.float .f64 x31) ∧
                  drM w25 fun w32 =>
                  CallsX P N.f_girderref10_At #[.agg #[.int .i64 n27, .int .i64 n28, .slice s29a s29l s29c], .int .i64 s16.2.1, .int .i64 s23.2.1] w32 fun v34 w33 =>
                  ∃ x35 : Nat, v34 = (.float .f64 x35) ∧
                  w33.cell? (a30.add (s23.2.1.toNat * 1)) = some (.float .f64 x31) ∧
                  fresM (fmul x35 x31) w33 fun x36 w37 =>
                  drM w33 fun w38 =>
                  fresM (fadd s23.1 x36) w38 fun x39 w40 =>
                  X24 (x39, (IntKind.i64.wrap (s23.2.1 + 1)), ()) w40)
                (J20 (s23.1, ()) w25))
              (0, 0, ()) w18)
            (fun s21 w22 =>
              newM #[.float .f64 s21.1] N.t_float64 w22 fun p41 w42 =>
              appM N.t_float64 1 8 #[.float .f64 0] s16.1.1 s16.1.2.1 s16.1.2.2 (some p41) 1 w42 fun s43a s43l s43c w44 =>
              X17 ((s43a, s43l, s43c), (IntKind.i64.wrap (s16.2.1 + 1)), ()) w44))
          (J13 ((s16.1.1, s16.1.2.1, s16.1.2.2), ()) w18))
        ((none, 0, 0), 0, ()) w5)
      (fun s14 w15 =>
        K (.tuple #[.slice s14.1.1 s14.1.2.1 s14.1.2.2, .int .i64 0]) w15)))

/-- girder/girderlaw10.is -/
def S_girderlaw10_is (N : Nums) (P : Program) (q0_0 : Int) (q0_1 : Int) (q0_2 : Option Addr) (q0_2l q0_2c : Nat) (q1 : Int) (q2_0 : Int) (q2_1 : Int) (q2_2 : Option Addr) (q2_2l q2_2c : Nat) (q3 : Int) (w : World) (K : Value → World → Prop) : Prop :=
  newM #[.int .i64 q0_0, .int .i64 q0_1, .slice q0_2 q0_2l q0_2c] N.t_Matrix w fun p1 w2 =>
  newM #[.int .i64 q2_0, .int .i64 q2_1, .slice q2_2 q2_2l q2_2c] N.t_Matrix w2 fun p3 w4 =>
  cond (q1 == q3)
  (∃ n5 : Int, w4.cell? p1 = some (.int .i64 n5) ∧
    ∃ n6 : Int, w4.cell? (p1.add 1) = some (.int .i64 n6) ∧
    ∃ (s7a : Option Addr) (s7l s7c : Nat), w4.cell? (p1.add 2) = some (.slice s7a s7l s7c) ∧
    ∃ n8 : Int, w4.cell? p3 = some (.int .i64 n8) ∧
    ∃ n9 : Int, w4.cell? (p3.add 1) = some (.int .i64 n9) ∧
    ∃ (s10a : Option Addr) (s10l s10c : Nat), w4.cell? (p3.add 2) = some (.slice s10a s10l s10c) ∧
    CallsX P N.f_girderkit_SameMatrix #[.agg #[.int .i64 n5, .int .i64 n6, .slice s7a s7l s7c], .agg #[.int .i64 n8, .int .i64 n9, .slice s10a s10l s10c]] w4 fun v12 w11 =>
    ∃ b13 : Bool, v12 = (.bool b13) ∧
    K (.bool b13) w11)
  (K (.bool false) w4)

/-- girder/girderkit.SameReals -/
def S_girderkit_SameReals (N : Nums) (P : Program) (q0 : Option Addr) (q0l q0c : Nat) (q1 : Option Addr) (q1l q1c : Nat) (w : World) (K : Value → World → Prop) : Prop :=
  cond (((q0l : Nat) : Int) != ((q1l : Nat) : Int))
  (K (.bool false) w)
  (cutM (σ := Unit) (fun J1 =>
      loopM (σ := Int × Unit) (fun s4 X5 w6 =>
        cond (decide (s4.1 < ((q0l : Nat) : Int)))
        ((0 : Int) ≤ s4.1 ∧ s4.1 < (q0l : Nat) ∧
          optM q0 fun a7 =>
          ∃ x8 : Nat, w6.cell? (a7.add (s4.1.toNat * 1)) = some (.float .f64 x8) ∧
          (0 : Int) ≤ s4.1 ∧ s4.1 < (q1l : Nat) ∧
          optM q1 fun a9 =>
          ∃ x10 : Nat, w6.cell? (a9.add (s4.1.toNat * 1)) = some (.float .f64 x10) ∧
          drM w6 fun w11 =>
          CallsX P N.f_girderkit_SameFloat #[.float .f64 x8, .float .f64 x10] w11 fun v13 w12 =>
          ∃ b14 : Bool, v13 = (.bool b14) ∧
          drM w12 fun w15 =>
          cond (!b14)
          (K (.bool false) w15)
          (X5 ((IntKind.i64.wrap (s4.1 + 1)), ()) w15))
        (J1 (()) w6))
      (0, ()) w)
    (fun s2 w3 =>
      K (.bool true) w3))

/-- girder/girderkit.KeptMatrix -/
def S_girderkit_KeptMatrix (N : Nums) (P : Program) (q0_0 : Int) (q0_1 : Int) (q0_2 : Option Addr) (q0_2l q0_2c : Nat) (q1_0 : Int) (q1_1 : Int) (q1_2 : Option Addr) (q1_2l q1_2c : Nat) (w : World) (K : Value → World → Prop) : Prop :=
  newM #[.int .i64 q0_0, .int .i64 q0_1, .slice q0_2 q0_2l q0_2c] N.t_Matrix w fun p1 w2 =>
  newM #[.int .i64 q1_0, .int .i64 q1_1, .slice q1_2 q1_2l q1_2c] N.t_Matrix w2 fun p3 w4 =>
  ∃ n5 : Int, w4.cell? p1 = some (.int .i64 n5) ∧
  ∃ n6 : Int, w4.cell? (p1.add 1) = some (.int .i64 n6) ∧
  ∃ (s7a : Option Addr) (s7l s7c : Nat), w4.cell? (p1.add 2) = some (.slice s7a s7l s7c) ∧
  ∃ n8 : Int, w4.cell? p3 = some (.int .i64 n8) ∧
  ∃ n9 : Int, w4.cell? (p3.add 1) = some (.int .i64 n9) ∧
  ∃ (s10a : Option Addr) (s10l s10c : Nat), w4.cell? (p3.add 2) = some (.slice s10a s10l s10c) ∧
  CallsX P N.f_girderkit_SameMatrix #[.agg #[.int .i64 n5, .int .i64 n6, .slice s7a s7l s7c], .agg #[.int .i64 n8, .int .i64 n9, .slice s10a s10l s10c]] w4 fun v12 w11 =>
  ∃ b13 : Bool, v12 = (.bool b13) ∧
  cond b13
  (∃ (s14a : Option Addr) (s14l s14c : Nat), w11.cell? (p1.add 2) = some (.slice s14a s14l s14c) ∧
    ∃ (s15a : Option Addr) (s15l s15c : Nat), w11.cell? (p3.add 2) = some (.slice s15a s15l s15c) ∧
    CallsX P N.f_girderkit_KeptReals #[.slice s14a s14l s14c, .slice s15a s15l s15c] w11 fun v17 w16 =>
    ∃ b18 : Bool, v17 = (.bool b18) ∧
    K (.bool b18) w16)
  (K (.bool false) w11)

/-- girder/girderkit.KeptReals -/
def S_girderkit_KeptReals (N : Nums) (P : Program) (q0 : Option Addr) (q0l q0c : Nat) (q1 : Option Addr) (q1l q1c : Nat) (w : World) (K : Value → World → Prop) : Prop :=
  cond (((q0l : Nat) : Int) != ((q1l : Nat) : Int))
  (K (.bool false) w)
  ((0 : Int) ≤ (IntKind.i64.wrap (((q1l : Nat) : Int) + 12)) ∧ (IntKind.i64.wrap (((q1l : Nat) : Int) + 12)) ≤ (q0c : Nat) ∧
    cutM (σ := Unit) (fun J1 =>
      loopM (σ := Int × Unit) (fun s4 X5 w6 =>
        cond (decide (s4.1 < (((IntKind.i64.wrap (((q1l : Nat) : Int) + 12)).toNat : Nat) : Int)))
        (cond (decide (s4.1 < ((q1l : Nat) : Int)))
          ((0 : Int) ≤ s4.1 ∧ s4.1 < ((IntKind.i64.wrap (((q1l : Nat) : Int) + 12)).toNat : Nat) ∧
            optM (slBase q0 0 q0c 1) fun a7 =>
            ∃ x8 : Nat, w6.cell? (a7.add (s4.1.toNat * 1)) = some (.float .f64 x8) ∧
            (0 : Int) ≤ s4.1 ∧ s4.1 < (q1l : Nat) ∧
            optM q1 fun a9 =>
            ∃ x10 : Nat, w6.cell? (a9.add (s4.1.toNat * 1)) = some (.float .f64 x10) ∧
            drM w6 fun w11 =>
            CallsX P N.f_girderkit_SameFloat #[.float .f64 x8, .float .f64 x10] w11 fun v13 w12 =>
            ∃ b14 : Bool, v13 = (.bool b14) ∧
            cond (!(!b14))
            (cond (decide (s4.1 ≥ ((q1l : Nat) : Int)))
              ((0 : Int) ≤ s4.1 ∧ s4.1 < ((IntKind.i64.wrap (((q1l : Nat) : Int) + 12)).toNat : Nat) ∧
                optM (slBase q0 0 q0c 1) fun a15 =>
                ∃ x16 : Nat, w12.cell? (a15.add (s4.1.toNat * 1)) = some (.float .f64 x16) ∧
                drM w12 fun w17 =>
                CallsX P N.f_girderkit_mark #[.int .i64 1, .int .i64 (IntKind.i64.wrap (s4.1 - ((q1l : Nat) : Int)))] w17 fun v19 w18 =>
                ∃ n20 : Int, v19 = (.int .i64 n20) ∧
                w18.cell? (a15.add (s4.1.toNat * 1)) = some (.float .f64 x16) ∧
                drM w18 fun w21 =>
                cond (!(feq x16 (FloatKind.f64.nearest n20)))
                (K (.bool false) w21)
                (X5 ((IntKind.i64.wrap (s4.1 + 1)), ()) w21))
              (drM w12 fun w22 =>
                drM w22 fun w23 =>
                X5 ((IntKind.i64.wrap (s4.1 + 1)), ()) w23))
            (drM w12 fun w24 =>
              drM w24 fun w25 =>
              K (.bool false) w25))
          (drM w6 fun w26 =>
            cond (decide (s4.1 ≥ ((q1l : Nat) : Int)))
            ((0 : Int) ≤ s4.1 ∧ s4.1 < ((IntKind.i64.wrap (((q1l : Nat) : Int) + 12)).toNat : Nat) ∧
              optM (slBase q0 0 q0c 1) fun a27 =>
              ∃ x28 : Nat, w26.cell? (a27.add (s4.1.toNat * 1)) = some (.float .f64 x28) ∧
              drM w26 fun w29 =>
              CallsX P N.f_girderkit_mark #[.int .i64 1, .int .i64 (IntKind.i64.wrap (s4.1 - ((q1l : Nat) : Int)))] w29 fun v31 w30 =>
              ∃ n32 : Int, v31 = (.int .i64 n32) ∧
              w30.cell? (a27.add (s4.1.toNat * 1)) = some (.float .f64 x28) ∧
              drM w30 fun w33 =>
              cond (!(feq x28 (FloatKind.f64.nearest n32)))
              (K (.bool false) w33)
              (X5 ((IntKind.i64.wrap (s4.1 + 1)), ()) w33))
            (drM w26 fun w34 =>
              drM w34 fun w35 =>
              X5 ((IntKind.i64.wrap (s4.1 + 1)), ()) w35)))
        (J1 (()) w6))
      (0, ()) w)
    (fun s2 w3 =>
      K (.bool true) w3))

/-- girder/girderlaw10.awake -/
def S_girderlaw10_awake (N : Nums) (P : Program)  (w : World) (K : Value → World → Prop) : Prop :=
  newM #[.float .f64 4607182418800017408, .float .f64 4611686018427387904, .float .f64 4613937818241073152, .float .f64 4616189618054758400] N.t_float64 w fun p1 w2 =>
  CallsX P N.f_girderlaw10_of #[.int .i64 2, .int .i64 2, .slice (some p1) 4 4] w2 fun v4 w3 =>
  ∃ n5 : Int, ∃ n6 : Int, ∃ (s7a : Option Addr) (s7l s7c : Nat), v4 = (.agg #[.int .i64 n5, .int .i64 n6, .slice s7a s7l s7c]) ∧
  newM #[.float .f64 4617315517961601024, .float .f64 4618441417868443648, .float .f64 4619567317775286272, .float .f64 4620693217682128896] N.t_float64 w3 fun p8 w9 =>
  CallsX P N.f_girderlaw10_of #[.int .i64 2, .int .i64 2, .slice (some p8) 4 4] w9 fun v11 w10 =>
  ∃ n12 : Int, ∃ n13 : Int, ∃ (s14a : Option Addr) (s14l s14c : Nat), v11 = (.agg #[.int .i64 n12, .int .i64 n13, .slice s14a s14l s14c]) ∧
  CallsX P N.f_matrix_Mul #[.agg #[.int .i64 n5, .int .i64 n6, .slice s7a s7l s7c], .agg #[.int .i64 n12, .int .i64 n13, .slice s14a s14l s14c]] w10 fun v16 w15 =>
  ∃ n17 : Int, ∃ n18 : Int, ∃ (s19a : Option Addr) (s19l s19c : Nat), ∃ n20 : Int, v16 = (.tuple #[.agg #[.int .i64 n17, .int .i64 n18, .slice s19a s19l s19c], .int .i64 n20]) ∧
  newM #[.int .i64 0, .int .i64 0, .slice none 0 0] N.t_Matrix w15 fun p21 w22 =>
  stM p21 (.int .i64 n17) w22 fun w23 =>
  stM (p21.add 1) (.int .i64 n18) w23 fun w24 =>
  stM (p21.add 2) (.slice s19a s19l s19c) w24 fun w25 =>
  newM #[.float .f64 4607182418800017408, .float .f64 4611686018427387904, .float .f64 4613937818241073152, .float .f64 4616189618054758400] N.t_float64 w25 fun p26 w27 =>
  CallsX P N.f_girderlaw10_of #[.int .i64 2, .int .i64 2, .slice (some p26) 4 4] w27 fun v29 w28 =>
  ∃ n30 : Int, ∃ n31 : Int, ∃ (s32a : Option Addr) (s32l s32c : Nat), v29 = (.agg #[.int .i64 n30, .int .i64 n31, .slice s32a s32l s32c]) ∧
  newM #[.float .f64 4617315517961601024, .float .f64 4618441417868443648] N.t_float64 w28 fun p33 w34 =>
  CallsX P N.f_matrix_Apply #[.agg #[.int .i64 n30, .int .i64 n31, .slice s32a s32l s32c], .slice (some p33) 2 2] w34 fun v36 w35 =>
  ∃ (s37a : Option Addr) (s37l s37c : Nat), ∃ n38 : Int, v36 = (.tuple #[.slice s37a s37l s37c, .int .i64 n38]) ∧
  ∃ n39 : Int, w35.cell? p21 = some (.int .i64 n39) ∧
  ∃ n40 : Int, w35.cell? (p21.add 1) = some (.int .i64 n40) ∧
  ∃ (s41a : Option Addr) (s41l s41c : Nat), w35.cell? (p21.add 2) = some (.slice s41a s41l s41c) ∧
  drM w35 fun w42 =>
  newM #[.float .f64 4626041242239631360, .float .f64 4626885667169763328, .float .f64 4631248529308778496, .float .f64 4632233691727265792] N.t_float64 w42 fun p43 w44 =>
  w44.cell? p21 = some (.int .i64 n39) ∧
  w44.cell? (p21.add 1) = some (.int .i64 n40) ∧
  w44.cell? (p21.add 2) = some (.slice s41a s41l s41c) ∧
  drM w44 fun w45 =>
  CallsX P N.f_girderlaw10_of #[.int .i64 2, .int .i64 2, .slice (some p43) 4 4] w45 fun v47 w46 =>
  ∃ n48 : Int, ∃ n49 : Int, ∃ (s50a : Option Addr) (s50l s50c : Nat), v47 = (.agg #[.int .i64 n48, .int .i64 n49, .slice s50a s50l s50c]) ∧
  w46.cell? p21 = some (.int .i64 n39) ∧
  w46.cell? (p21.add 1) = some (.int .i64 n40) ∧
  w46.cell? (p21.add 2) = some (.slice s41a s41l s41c) ∧
  drM w46 fun w51 =>
  CallsX P N.f_girderlaw10_is #[.agg #[.int .i64 n39, .int .i64 n40, .slice s41a s41l s41c], .int .i64 n20, .agg #[.int .i64 n48, .int .i64 n49, .slice s50a s50l s50c], .int .i64 0] w51 fun v53 w52 =>
  ∃ b54 : Bool, v53 = (.bool b54) ∧
  cond b54
  (cond (n38 == 0)
    (drM w52 fun w55 =>
      newM #[.float .f64 4625478292286210048, .float .f64 4630685579355357184] N.t_float64 w55 fun p56 w57 =>
      drM w57 fun w58 =>
      CallsX P N.f_girderkit_SameReals #[.slice s37a s37l s37c, .slice (some p56) 2 2] w58 fun v60 w59 =>
      ∃ b61 : Bool, v60 = (.bool b61) ∧
      drM w59 fun w62 =>
      K (.bool b61) w62)
    (drM w52 fun w63 =>
      drM w63 fun w64 =>
      drM w64 fun w65 =>
      K (.bool false) w65))
  (drM w52 fun w66 =>
    drM w66 fun w67 =>
    drM w67 fun w68 =>
    K (.bool false) w68)

/-- girder/girderlaw10.laid -/
def S_girderlaw10_laid (N : Nums) (P : Program) (q0 : Int) (q1 : Int) (q2 : Option Addr) (q2l q2c : Nat) (q3 : Bool) (w : World) (K : Value → World → Prop) : Prop :=
  newM #[.int .i64 0, .int .i64 0, .slice none 0 0] N.t_Matrix w fun p1 w2 =>
  CallsX P N.f_girderkit_Pick #[.int .i64 q0, .int .i64 7] w2 fun v4 w3 =>
  ∃ n5 : Int, v4 = (.int .i64 n5) ∧
  CallsX P N.f_girderkit_Pick #[.int .i64 q1, .int .i64 7] w3 fun v7 w6 =>
  ∃ n8 : Int, v7 = (.int .i64 n8) ∧
  CallsX P N.f_girderlaw10_of #[.int .i64 n5, .int .i64 n8, .slice none 0 0] w6 fun v10 w9 =>
  ∃ n11 : Int, ∃ n12 : Int, ∃ (s13a : Option Addr) (s13l s13c : Nat), v10 = (.agg #[.int .i64 n11, .int .i64 n12, .slice s13a s13l s13c]) ∧
  newM #[.int .i64 0, .int .i64 0, .slice none 0 0] N.t_Matrix w9 fun p14 w15 =>
  stM p14 (.int .i64 n11) w15 fun w16 =>
  stM (p14.add 1) (.int .i64 n12) w16 fun w17 =>
  stM (p14.add 2) (.slice s13a s13l s13c) w17 fun w18 =>
  cutM (σ := Unit) (fun J19 =>
    loopM (σ := Int × Unit) (fun s22 X23 w24 =>
      ∃ n25 : Int, w24.cell? p14 = some (.int .i64 n25) ∧
      ∃ n26 : Int, w24.cell? (p14.add 1) = some (.int .i64 n26) ∧
      cond (decide (s22.1 < (IntKind.i64.wrap (n25 * n26))))
      (cutM (σ := Nat × Unit) (fun J27 =>
          cond (decide (((q2l : Nat) : Int) > 0))
          ((((q2l : Nat) : Int) : Int) ≠ 0 ∧
            (0 : Int) ≤ (s22.1.tmod ((q2l : Nat) : Int)) ∧ (s22.1.tmod ((q2l : Nat) : Int)) < (q2l : Nat) ∧
            optM q2 fun a30 =>
            ∃ x31 : Nat, w24.cell? (a30.add ((s22.1.tmod ((q2l : Nat) : Int)).toNat * 1)) = some (.float .f64 x31) ∧
            J27 (x31, ()) w24)
          (J27 (4607182418800017408, ()) w24))
        (fun s28 w29 =>
          cond q3
          (cond (fgt s28.1 13875379345695965184 || feq s28.1 13875379345695965184)
            (cutM (σ := Nat × Unit) (fun J32 =>
                cond (!(flt s28.1 4652007308841189376 || feq s28.1 4652007308841189376))
                (J32 (4613937818241073152, ()) w29)
                (J32 (s28.1, ()) w29))
              (fun s33 w34 =>
                cutM (σ := Nat × Unit) (fun J35 =>
                  cond q3
                  (f2iM s33.1 .i64 w34 fun n38 w39 =>
                    J35 ((FloatKind.f64.nearest n38), ()) w39)
                  (J35 (s33.1, ()) w34))
                (fun s36 w37 =>
                  ∃ (s40a : Option Addr) (s40l s40c : Nat), w37.cell? (p14.add 2) = some (.slice s40a s40l s40c) ∧
                  newM #[.float .f64 s36.1] N.t_float64 w37 fun p41 w42 =>
                  appM N.t_float64 1 8 #[.float .f64 0] s40a s40l s40c (some p41) 1 w42 fun s43a s43l s43c w44 =>
                  stM (p14.add 2) (.slice s43a s43l s43c) w44 fun w45 =>
                  X23 ((IntKind.i64.wrap (s22.1 + 1)), ()) w45)))
            (cutM (σ := Nat × Unit) (fun J46 =>
                J46 (4613937818241073152, ()) w29)
              (fun s47 w48 =>
                cutM (σ := Nat × Unit) (fun J49 =>
                  cond q3
                  (f2iM s47.1 .i64 w48 fun n52 w53 =>
                    J49 ((FloatKind.f64.nearest n52), ()) w53)
                  (J49 (s47.1, ()) w48))
                (fun s50 w51 =>
                  ∃ (s54a : Option Addr) (s54l s54c : Nat), w51.cell? (p14.add 2) = some (.slice s54a s54l s54c) ∧
                  newM #[.float .f64 s50.1] N.t_float64 w51 fun p55 w56 =>
                  appM N.t_float64 1 8 #[.float .f64 0] s54a s54l s54c (some p55) 1 w56 fun s57a s57l s57c w58 =>
                  stM (p14.add 2) (.slice s57a s57l s57c) w58 fun w59 =>
                  X23 ((IntKind.i64.wrap (s22.1 + 1)), ()) w59))))
          (cutM (σ := Nat × Unit) (fun J60 =>
              J60 (s28.1, ()) w29)
            (fun s61 w62 =>
              cutM (σ := Nat × Unit) (fun J63 =>
                cond q3
                (f2iM s61.1 .i64 w62 fun n66 w67 =>
                  J63 ((FloatKind.f64.nearest n66), ()) w67)
                (J63 (s61.1, ()) w62))
              (fun s64 w65 =>
                ∃ (s68a : Option Addr) (s68l s68c : Nat), w65.cell? (p14.add 2) = some (.slice s68a s68l s68c) ∧
                newM #[.float .f64 s64.1] N.t_float64 w65 fun p69 w70 =>
                appM N.t_float64 1 8 #[.float .f64 0] s68a s68l s68c (some p69) 1 w70 fun s71a s71l s71c w72 =>
                stM (p14.add 2) (.slice s71a s71l s71c) w72 fun w73 =>
                X23 ((IntKind.i64.wrap (s22.1 + 1)), ()) w73)))))
      (J19 (()) w24))
    (0, ()) w18)
  (fun s20 w21 =>
    ∃ n74 : Int, w21.cell? p14 = some (.int .i64 n74) ∧
    ∃ n75 : Int, w21.cell? (p14.add 1) = some (.int .i64 n75) ∧
    ∃ (s76a : Option Addr) (s76l s76c : Nat), w21.cell? (p14.add 2) = some (.slice s76a s76l s76c) ∧
    stM p1 (.int .i64 n74) w21 fun w77 =>
    stM (p1.add 1) (.int .i64 n75) w77 fun w78 =>
    stM (p1.add 2) (.slice s76a s76l s76c) w78 fun w79 =>
    ∃ n80 : Int, w79.cell? p1 = some (.int .i64 n80) ∧
    ∃ n81 : Int, w79.cell? (p1.add 1) = some (.int .i64 n81) ∧
    ∃ (s82a : Option Addr) (s82l s82c : Nat), w79.cell? (p1.add 2) = some (.slice s82a s82l s82c) ∧
    K (.agg #[.int .i64 n80, .int .i64 n81, .slice s82a s82l s82c]) w79)

/-- girder/matrix.Identity -/
def S_matrix_Identity (N : Nums) (P : Program) (q0 : Int) (w : World) (K : Value → World → Prop) : Prop :=
  newM #[.int .i64 0, .int .i64 0, .slice none 0 0] N.t_Matrix w fun p1 w2 =>
  CallsX P N.f_matrix_Make #[.int .i64 q0, .int .i64 q0] w2 fun v4 w3 =>
  ∃ n5 : Int, ∃ n6 : Int, ∃ (s7a : Option Addr) (s7l s7c : Nat), ∃ n8 : Int, v4 = (.tuple #[.agg #[.int .i64 n5, .int .i64 n6, .slice s7a s7l s7c], .int .i64 n8]) ∧
  newM #[.int .i64 0, .int .i64 0, .slice none 0 0] N.t_Matrix w3 fun p9 w10 =>
  stM p9 (.int .i64 n5) w10 fun w11 =>
  stM (p9.add 1) (.int .i64 n6) w11 fun w12 =>
  stM (p9.add 2) (.slice s7a s7l s7c) w12 fun w13 =>
  ∃ n14 : Int, w13.cell? p9 = some (.int .i64 n14) ∧
  cutM (σ := Unit) (fun J15 =>
    loopM (σ := Int × Unit) (fun s18 X19 w20 =>
      cond (decide (s18.1 < n14))
      (∃ (s21a : Option Addr) (s21l s21c : Nat), w20.cell? (p9.add 2) = some (.slice s21a s21l s21c) ∧
        (0 : Int) ≤ (IntKind.i64.wrap ((IntKind.i64.wrap (s18.1 * q0)) + s18.1)) ∧ (IntKind.i64.wrap ((IntKind.i64.wrap (s18.1 * q0)) + s18.1)) < (s21l : Nat) ∧
        optM s21a fun a22 =>
        stM (a22.add ((IntKind.i64.wrap ((IntKind.i64.wrap (s18.1 * q0)) + s18.1)).toNat * 1)) (.float .f64 4607182418800017408) w20 fun w23 =>
        X19 ((IntKind.i64.wrap (s18.1 + 1)), ()) w23)
      (J15 (()) w20))
    (0, ()) w13)
  (fun s16 w17 =>
    ∃ n24 : Int, w17.cell? p9 = some (.int .i64 n24) ∧
    ∃ n25 : Int, w17.cell? (p9.add 1) = some (.int .i64 n25) ∧
    ∃ (s26a : Option Addr) (s26l s26c : Nat), w17.cell? (p9.add 2) = some (.slice s26a s26l s26c) ∧
    stM p1 (.int .i64 n24) w17 fun w27 =>
    stM (p1.add 1) (.int .i64 n25) w27 fun w28 =>
    stM (p1.add 2) (.slice s26a s26l s26c) w28 fun w29 =>
    ∃ n30 : Int, w29.cell? p1 = some (.int .i64 n30) ∧
    ∃ n31 : Int, w29.cell? (p1.add 1) = some (.int .i64 n31) ∧
    ∃ (s32a : Option Addr) (s32l s32c : Nat), w29.cell? (p1.add 2) = some (.slice s32a s32l s32c) ∧
    K (.tuple #[.agg #[.int .i64 n30, .int .i64 n31, .slice s32a s32l s32c], .int .i64 n8]) w29)

/-- girder/matrix.Sub -/
def S_matrix_Sub (N : Nums) (P : Program) (q0_0 : Int) (q0_1 : Int) (q0_2 : Option Addr) (q0_2l q0_2c : Nat) (q1_0 : Int) (q1_1 : Int) (q1_2 : Option Addr) (q1_2l q1_2c : Nat) (w : World) (K : Value → World → Prop) : Prop :=
  newM #[.int .i64 q0_0, .int .i64 q0_1, .slice q0_2 q0_2l q0_2c] N.t_Matrix w fun p1 w2 =>
  newM #[.int .i64 q1_0, .int .i64 q1_1, .slice q1_2 q1_2l q1_2c] N.t_Matrix w2 fun p3 w4 =>
  newM #[.int .i64 0, .int .i64 0, .slice none 0 0] N.t_Matrix w4 fun p5 w6 =>
  cutM (σ := Bool × Unit) (fun J7 =>
    ∃ n10 : Int, w6.cell? p1 = some (.int .i64 n10) ∧
    ∃ n11 : Int, w6.cell? (p1.add 1) = some (.int .i64 n11) ∧
    ∃ (s12a : Option Addr) (s12l s12c : Nat), w6.cell? (p1.add 2) = some (.slice s12a s12l s12c) ∧
    CallsX P N.f_matrix_Right #[.agg #[.int .i64 n10, .int .i64 n11, .slice s12a s12l s12c]] w6 fun v14 w13 =>
    ∃ b15 : Bool, v14 = (.bool b15) ∧
    cond (!(!b15))
    (∃ n16 : Int, w13.cell? p3 = some (.int .i64 n16) ∧
      ∃ n17 : Int, w13.cell? (p3.add 1) = some (.int .i64 n17) ∧
      ∃ (s18a : Option Addr) (s18l s18c : Nat), w13.cell? (p3.add 2) = some (.slice s18a s18l s18c) ∧
      CallsX P N.f_matrix_Right #[.agg #[.int .i64 n16, .int .i64 n17, .slice s18a s18l s18c]] w13 fun v20 w19 =>
      ∃ b21 : Bool, v20 = (.bool b21) ∧
      cond (!(!b21))
      (∃ n22 : Int, w19.cell? p1 = some (.int .i64 n22) ∧
        ∃ n23 : Int, w19.cell? p3 = some (.int .i64 n23) ∧
        cond (!(n22 != n23))
        (∃ n24 : Int, w19.cell? (p1.add 1) = some (.int .i64 n24) ∧
          ∃ n25 : Int, w19.cell? (p3.add 1) = some (.int .i64 n25) ∧
          J7 ((n24 != n25), ()) w19)
        (J7 (true, ()) w19))
      (J7 (true, ()) w19))
    (J7 (true, ()) w13))
  (fun s8 w9 =>
    cond s8.1
    (stM p5 (.int .i64 0) w9 fun w26 =>
      stM (p5.add 1) (.int .i64 0) w26 fun w27 =>
      stM (p5.add 2) (.slice none 0 0) w27 fun w28 =>
      ∃ n29 : Int, w28.cell? p5 = some (.int .i64 n29) ∧
      ∃ n30 : Int, w28.cell? (p5.add 1) = some (.int .i64 n30) ∧
      ∃ (s31a : Option Addr) (s31l s31c : Nat), w28.cell? (p5.add 2) = some (.slice s31a s31l s31c) ∧
      K (.tuple #[.agg #[.int .i64 n29, .int .i64 n30, .slice s31a s31l s31c], .int .i64 4]) w28)
    (∃ n32 : Int, w9.cell? p1 = some (.int .i64 n32) ∧
      ∃ n33 : Int, w9.cell? (p1.add 1) = some (.int .i64 n33) ∧
      CallsX P N.f_matrix_laid #[.int .i64 n32, .int .i64 n33, .func (.func N.f_matrix_Sub_1) #[] #[.pointer (some p1), .pointer (some p3)]] w9 fun v35 w34 =>
      ∃ n36 : Int, ∃ n37 : Int, ∃ (s38a : Option Addr) (s38l s38c : Nat), v35 = (.agg #[.int .i64 n36, .int .i64 n37, .slice s38a s38l s38c]) ∧
      stM p5 (.int .i64 n36) w34 fun w39 =>
      stM (p5.add 1) (.int .i64 n37) w39 fun w40 =>
      stM (p5.add 2) (.slice s38a s38l s38c) w40 fun w41 =>
      ∃ n42 : Int, w41.cell? p5 = some (.int .i64 n42) ∧
      ∃ n43 : Int, w41.cell? (p5.add 1) = some (.int .i64 n43) ∧
      ∃ (s44a : Option Addr) (s44l s44c : Nat), w41.cell? (p5.add 2) = some (.slice s44a s44l s44c) ∧
      K (.tuple #[.agg #[.int .i64 n42, .int .i64 n43, .slice s44a s44l s44c], .int .i64 0]) w41))

end Go.Eng
