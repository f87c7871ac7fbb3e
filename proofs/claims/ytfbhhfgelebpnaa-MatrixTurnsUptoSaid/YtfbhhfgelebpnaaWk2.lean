/-
  Each function comes to what its function of plain Lean says, printed by a program of the session. No condition.
-/
import Derived.Test.YtfbhhfgelebpnaaWk1
set_option linter.unusedSimpArgs false
set_option linter.unusedVariables false
set_option maxRecDepth 100000
set_option maxHeartbeats 4000000
namespace Go.Eng
open Go

theorem wk_vector_Same {N : Nums} {P : Program} (H : AllOk N P) {w0 w : World} {L : List It} {q0 : Option Addr} {q0l q0c : Nat} {ws0 : List Nat} {q1 : Option Addr} {q1l q1c : Nat} {ws1 : List Nat} {u0 : Bool} (hS : Ho w0 w L) (hq0 : Ent L (rdA (List.map (Value.float .f64) ws0) q0 q0l q0c)) (hq1 : Ent L (rdA (List.map (Value.float .f64) ws1) q1 q1l q1c)) (hx : T_vector_Same (List.map nf ws0) (List.map nf ws1) = some u0) {K : Value → World → Prop} (hK : ∀  (w1 : World), Ho w0 w1 (L) → K (.bool u0) w1) : CallsX P N.f_vector_Same #[.slice q0 q0l q0c, .slice q1 q1l q1c] w K := by
  unfold T_vector_Same at hx
  have hd : (List.map nf ws0).length ≤ 4294967296 := by
    rcases Nat.lt_or_ge 4294967296 (List.map nf ws0).length with h | h
    · rw [decide_eq_false (by omega)] at hx; cases hx
    · exact h
  rw [decide_eq_true hd] at hx
  have hx := some_inj hx
  subst hx
  have r0 := (hq0.now (fun _ h => h) hS).reals
  refine (vsame_c H r0 (hq1.now (fun _ h => h) hS).reals (by have := r0.len; simp at hd; omega)).mono ?_
  rintro _ w1 ⟨rfl, h1⟩
  exact hK _ (hS.next h1)

theorem wk_matrix_Same {N : Nums} {P : Program} (H : AllOk N P) {w0 w : World} {L : List It} {q0_0 : Int} {q0_1 : Int} {q0_2 : Option Addr} {q0_2l q0_2c : Nat} {ws0_2 : List Nat} {q1_0 : Int} {q1_1 : Int} {q1_2 : Option Addr} {q1_2l q1_2c : Nat} {ws1_2 : List Nat} {u0 : Bool} (hS : Ho w0 w L) (hq0_2 : Ent L (rdA (List.map (Value.float .f64) ws0_2) q0_2 q0_2l q0_2c)) (hq1_2 : Ent L (rdA (List.map (Value.float .f64) ws1_2) q1_2 q1_2l q1_2c)) (hx : T_matrix_Same q0_0 q0_1 (List.map nf ws0_2) q1_0 q1_1 (List.map nf ws1_2) = some u0) {K : Value → World → Prop} (hK : ∀  (w1 : World), Ho w0 w1 (L) → K (.bool u0) w1) : CallsX P N.f_matrix_Same #[.agg #[.int .i64 q0_0, .int .i64 q0_1, .slice q0_2 q0_2l q0_2c], .agg #[.int .i64 q1_0, .int .i64 q1_1, .slice q1_2 q1_2l q1_2c]] w K := by
  refine H.matrix_Same q0_0 q0_1 q0_2 q0_2l q0_2c q1_0 q1_1 q1_2 q1_2l q1_2c w _ ?_
  unfold S_matrix_Same
  unfold T_matrix_Same at hx
  have h := hx
  clear hx
  try dsimp only
  refine newM_s hS ?_; clear hS; intro r1 w hS
  refine newM_s hS ?_; clear hS; intro r2 w hS
  refine ⟨_, (hS.cel mp1 rfl), ?_⟩
  refine ⟨_, (hS.cel mp0 rfl), ?_⟩
  refine cond_s h ?_ ?_ <;> clear h <;> intro hc h
  · refine ⟨_, (hS.cel mp1 rfl), ?_⟩
    refine ⟨_, (hS.cel mp0 rfl), ?_⟩
    refine cond_s h ?_ ?_ <;> clear h <;> intro hc h
    · refine ⟨_, _, _, (hS.cel mp1 rfl), ?_⟩
      refine ⟨_, _, _, (hS.cel mp0 rfl), ?_⟩
      replace h := bnd h
      obtain ⟨t1, ht1, h⟩ := h
      refine wk_vector_Same H hS (hq0_2.mono tl2) (hq1_2.mono tl2) ht1 ?_; clear hS ht1; rintro w hS
      refine ⟨_, rfl, ?_⟩
      have h := some_inj h
      cases h
      exact hK _ (hS.pick (A := [_, _]) [] rfl)
    · have h := some_inj h
      cases h
      exact hK _ (hS.pick (A := [_, _]) [] rfl)
  · have h := some_inj h
    cases h
    exact hK _ (hS.pick (A := [_, _]) [] rfl)

theorem wk_matrix_Symmetric {N : Nums} {P : Program} (H : AllOk N P) {w0 w : World} {L : List It} {q0_0 : Int} {q0_1 : Int} {q0_2 : Option Addr} {q0_2l q0_2c : Nat} {ws0_2 : List Nat} {u0 : Bool} (hS : Ho w0 w L) (hq0_2 : Ent L (rdA (List.map (Value.float .f64) ws0_2) q0_2 q0_2l q0_2c)) (hx : T_matrix_Symmetric q0_0 q0_1 (List.map nf ws0_2) = some u0) {K : Value → World → Prop} (hK : ∀  (w1 : World), Ho w0 w1 (L) → K (.bool u0) w1) : CallsX P N.f_matrix_Symmetric #[.agg #[.int .i64 q0_0, .int .i64 q0_1, .slice q0_2 q0_2l q0_2c]] w K := by
  refine H.matrix_Symmetric q0_0 q0_1 q0_2 q0_2l q0_2c w _ ?_
  unfold S_matrix_Symmetric
  unfold T_matrix_Symmetric at hx
  have h := hx
  clear hx
  try dsimp only
  refine newM_s hS ?_; clear hS; intro r1 w hS
  refine ⟨_, (hS.cel mp0 rfl), ?_⟩
  refine ⟨_, (hS.cel mp0 rfl), ?_⟩
  refine ⟨_, _, _, (hS.cel mp0 rfl), ?_⟩
  replace h := bnd h
  obtain ⟨⟨t1, t2, t3, t4⟩, ho1, h⟩ := h
  refine wk_matrix_Transpose H hS (hq0_2.mono tl1) ho1 ?_; clear hS ho1; rintro a2 m2 c2 ws2 w rfl hS
  refine ⟨_, _, _, _, _, _, rfl, ?_⟩
  refine newM_s hS ?_; clear hS; intro r3 w hS
  refine stc_s hS rfl rfl ?_; clear hS; intro w hS
  refine stc_s hS rfl rfl ?_; clear hS; intro w hS
  refine stc_s hS rfl rfl ?_; clear hS; intro w hS
  refine cond_s h ?_ ?_ <;> clear h <;> intro hc h
  · refine ⟨_, (hS.cel mp0 rfl), ?_⟩
    refine ⟨_, (hS.cel mp0 rfl), ?_⟩
    refine ⟨_, _, _, (hS.cel mp0 rfl), ?_⟩
    refine ⟨_, (hS.cel mp2 rfl), ?_⟩
    refine ⟨_, (hS.cel mp2 rfl), ?_⟩
    refine ⟨_, _, _, (hS.cel mp2 rfl), ?_⟩
    replace h := bnd h
    obtain ⟨t5, ht5, h⟩ := h
    refine wk_matrix_Same H hS (Ent.sl mp1) (hq0_2.mono tl3) ht5 ?_; clear hS ht5; rintro w hS
    refine ⟨_, rfl, ?_⟩
    have h := some_inj h
    cases h
    exact hK _ (hS.pick (A := [_, _, _]) [] rfl)
  · have h := some_inj h
    cases h
    exact hK _ (hS.pick (A := [_, _, _]) [] rfl)

theorem wk_girderlaw10_MatrixTurns {N : Nums} {P : Program} (H : AllOk N P) {w0 w : World} {L : List It} {q0 : Int} {q1 : Int} {q2 : Int} {q3 : Option Addr} {q3l q3c : Nat} {ws3 : List Nat} {q4 : Option Addr} {q4l q4c : Nat} {ws4 : List Nat} {u0 : Bool} (hS : Ho w0 w L) (hq3 : Ent L (rdA (List.map (Value.float .f64) ws3) q3 q3l q3c)) (hq4 : Ent L (rdA (List.map (Value.float .f64) ws4) q4 q4l q4c)) (hx : T_girderlaw10_MatrixTurns q0 q1 q2 (List.map nf ws3) (List.map nf ws4) = some u0) {K : Value → World → Prop} (hK : ∀  (w1 : World), Ho w0 w1 (L) → K (.bool u0) w1) : CallsX P N.f_girderlaw10_MatrixTurns #[.int .i64 q0, .int .i64 q1, .int .i64 q2, .slice q3 q3l q3c, .slice q4 q4l q4c] w K := by
  refine H.girderlaw10_MatrixTurns q0 q1 q2 q3 q3l q3c q4 q4l q4c w _ ?_
  unfold S_girderlaw10_MatrixTurns
  unfold T_girderlaw10_MatrixTurns at hx
  have h := hx
  clear hx
  try dsimp only
  replace h := bnd h
  obtain ⟨⟨t1, t2, t3⟩, ho1, h⟩ := h
  refine wk_girderlaw10_laid H hS hq3 ho1 ?_; clear hS ho1; rintro a1 m1 c1 ws1 w rfl hS
  refine ⟨_, _, _, _, _, rfl, ?_⟩
  replace h := bnd h
  obtain ⟨⟨t4, t5, t6⟩, ho4, h⟩ := h
  refine wk_girderlaw10_laid H hS (hq4.mono tl1) ho4 ?_; clear hS ho4; rintro a2 m2 c2 ws2 w rfl hS
  refine ⟨_, _, _, _, _, rfl, ?_⟩
  refine newM_s hS ?_; clear hS; intro r3 w hS
  refine newM_s hS ?_; clear hS; intro r4 w hS
  replace hS := ro1 hS
  refine stc_s hS rfl rfl ?_; clear hS; intro w hS
  refine stc_s hS rfl rfl ?_; clear hS; intro w hS
  refine stc_s hS rfl rfl ?_; clear hS; intro w hS
  replace hS := ro1 hS
  refine stc_s hS rfl rfl ?_; clear hS; intro w hS
  refine stc_s hS rfl rfl ?_; clear hS; intro w hS
  refine stc_s hS rfl rfl ?_; clear hS; intro w hS
  refine ⟨_, (hS.cel mp1 rfl), ?_⟩
  refine ⟨_, (hS.cel mp1 rfl), ?_⟩
  refine ⟨_, _, _, (hS.cel mp1 rfl), ?_⟩
  refine ⟨_, (hS.cel mp0 rfl), ?_⟩
  refine ⟨_, (hS.cel mp0 rfl), ?_⟩
  refine ⟨_, _, _, (hS.cel mp0 rfl), ?_⟩
  replace h := bnd h
  obtain ⟨⟨t7, t8, t9, t10⟩, ho7, h⟩ := h
  refine wk_matrix_Mul H hS (Ent.sl mp3) (Ent.sl mp2) ho7 ?_; clear hS ho7; rintro a5 m5 c5 ws5 w rfl hS
  refine ⟨_, _, _, _, _, _, rfl, ?_⟩
  refine newM_s hS ?_; clear hS; intro r6 w hS
  refine stc_s hS rfl rfl ?_; clear hS; intro w hS
  refine stc_s hS rfl rfl ?_; clear hS; intro w hS
  refine stc_s hS rfl rfl ?_; clear hS; intro w hS
  refine ⟨_, (hS.cel mp0 rfl), ?_⟩
  refine ⟨_, (hS.cel mp0 rfl), ?_⟩
  refine ⟨_, _, _, (hS.cel mp0 rfl), ?_⟩
  replace h := bnd h
  obtain ⟨⟨t11, t12, t13, t14⟩, ho11, h⟩ := h
  refine wk_matrix_Transpose H hS (Ent.sl mp1) ho11 ?_; clear hS ho11; rintro a7 m7 c7 ws7 w rfl hS
  refine ⟨_, _, _, _, _, _, rfl, ?_⟩
  refine newM_s hS ?_; clear hS; intro r8 w hS
  refine stc_s hS rfl rfl ?_; clear hS; intro w hS
  refine stc_s hS rfl rfl ?_; clear hS; intro w hS
  refine stc_s hS rfl rfl ?_; clear hS; intro w hS
  refine ⟨_, (hS.cel mp5 rfl), ?_⟩
  refine ⟨_, (hS.cel mp5 rfl), ?_⟩
  refine ⟨_, _, _, (hS.cel mp5 rfl), ?_⟩
  replace h := bnd h
  obtain ⟨⟨t15, t16, t17, t18⟩, ho15, h⟩ := h
  refine wk_matrix_Transpose H hS (Ent.sl mp7) ho15 ?_; clear hS ho15; rintro a9 m9 c9 ws9 w rfl hS
  refine ⟨_, _, _, _, _, _, rfl, ?_⟩
  refine newM_s hS ?_; clear hS; intro r10 w hS
  refine stc_s hS rfl rfl ?_; clear hS; intro w hS
  refine stc_s hS rfl rfl ?_; clear hS; intro w hS
  refine stc_s hS rfl rfl ?_; clear hS; intro w hS
  refine ⟨_, (hS.cel mp6 rfl), ?_⟩
  refine ⟨_, (hS.cel mp6 rfl), ?_⟩
  refine ⟨_, _, _, (hS.cel mp6 rfl), ?_⟩
  replace h := bnd h
  obtain ⟨⟨t19, t20, t21, t22⟩, ho19, h⟩ := h
  refine wk_matrix_Transpose H hS (Ent.sl mp8) ho19 ?_; clear hS ho19; rintro a11 m11 c11 ws11 w rfl hS
  refine ⟨_, _, _, _, _, _, rfl, ?_⟩
  refine newM_s hS ?_; clear hS; intro r12 w hS
  refine stc_s hS rfl rfl ?_; clear hS; intro w hS
  refine stc_s hS rfl rfl ?_; clear hS; intro w hS
  refine stc_s hS rfl rfl ?_; clear hS; intro w hS
  refine ⟨_, (hS.cel mp0 rfl), ?_⟩
  refine ⟨_, (hS.cel mp0 rfl), ?_⟩
  refine ⟨_, _, _, (hS.cel mp0 rfl), ?_⟩
  refine ⟨_, (hS.cel mp2 rfl), ?_⟩
  refine ⟨_, (hS.cel mp2 rfl), ?_⟩
  refine ⟨_, _, _, (hS.cel mp2 rfl), ?_⟩
  replace h := bnd h
  obtain ⟨⟨t23, t24, t25, t26⟩, ho23, h⟩ := h
  refine wk_matrix_Mul H hS (Ent.sl mp1) (Ent.sl mp3) ho23 ?_; clear hS ho23; rintro a13 m13 c13 ws13 w rfl hS
  refine ⟨_, _, _, _, _, _, rfl, ?_⟩
  refine newM_s hS ?_; clear hS; intro r14 w hS
  refine stc_s hS rfl rfl ?_; clear hS; intro w hS
  refine stc_s hS rfl rfl ?_; clear hS; intro w hS
  refine stc_s hS rfl rfl ?_; clear hS; intro w hS
  refine ⟨_, (hS.cel mp4 rfl), ?_⟩
  refine ⟨_, (hS.cel mp4 rfl), ?_⟩
  refine ⟨_, _, _, (hS.cel mp4 rfl), ?_⟩
  replace h := bnd h
  obtain ⟨⟨t27, t28, t29, t30⟩, ho27, h⟩ := h
  refine wk_matrix_Transpose H hS (Ent.sl mp5) ho27 ?_; clear hS ho27; rintro a15 m15 c15 ws15 w rfl hS
  refine ⟨_, _, _, _, _, _, rfl, ?_⟩
  refine newM_s hS ?_; clear hS; intro r16 w hS
  refine stc_s hS rfl rfl ?_; clear hS; intro w hS
  refine stc_s hS rfl rfl ?_; clear hS; intro w hS
  refine stc_s hS rfl rfl ?_; clear hS; intro w hS
  replace h := bnd h
  obtain ⟨o17, h17, c17⟩ := h
  refine cutM_i (fun s w => ∃ (t31 : Bool), o17 = t31 ∧ s = (t31, ()) ∧ Ho w0 w ((cl r12 [.int .i64 t19, .int .i64 t20, .slice a11 m11 c11] N.t_Matrix) :: (sl a11 m11 c11 (List.map (Value.float .f64) ws11) N.t_float64) :: (cl r6 [.int .i64 t7, .int .i64 t8, .slice a5 m5 c5] N.t_Matrix) :: (sl a5 m5 c5 (List.map (Value.float .f64) ws5) N.t_float64) :: (cl r4 [.int .i64 t4, .int .i64 t5, .slice a2 m2 c2] N.t_Matrix) :: (cl r3 [.int .i64 t1, .int .i64 t2, .slice a1 m1 c1] N.t_Matrix) :: (sl a2 m2 c2 (List.map (Value.float .f64) ws2) N.t_float64) :: (sl a1 m1 c1 (List.map (Value.float .f64) ws1) N.t_float64) :: L)) (fun J17 hJ17 => ?_) ?_
  · have h := h17
    clear h17
    refine cond_s h ?_ ?_ <;> clear h <;> intro hc h
    · refine cond_s h ?_ ?_ <;> clear h <;> intro hc h
      · refine cond_s h ?_ ?_ <;> clear h <;> intro hc h
        · refine cond_s h ?_ ?_ <;> clear h <;> intro hc h
          · refine cond_s h ?_ ?_ <;> clear h <;> intro hc h
            · refine cond_s h ?_ ?_ <;> clear h <;> intro hc h
              · refine ⟨_, (hS.cel mp8 rfl), ?_⟩
                refine ⟨_, (hS.cel mp8 rfl), ?_⟩
                refine ⟨_, _, _, (hS.cel mp8 rfl), ?_⟩
                refine ⟨_, (hS.cel mp2 rfl), ?_⟩
                refine ⟨_, (hS.cel mp2 rfl), ?_⟩
                refine ⟨_, _, _, (hS.cel mp2 rfl), ?_⟩
                replace h := bnd h
                obtain ⟨t32, ht32, h⟩ := h
                refine wk_girderkit_SameMatrix H hS (Ent.sl mp9) (Ent.sl mp3) ht32 ?_; clear hS ht32; rintro w hS
                refine ⟨_, rfl, ?_⟩
                refine cond_s h ?_ ?_ <;> clear h <;> intro hc h
                · refine ⟨_, (hS.cel mp0 rfl), ?_⟩
                  refine ⟨_, (hS.cel mp0 rfl), ?_⟩
                  refine ⟨_, _, _, (hS.cel mp0 rfl), ?_⟩
                  refine ⟨_, (hS.cel mp13 rfl), ?_⟩
                  refine ⟨_, (hS.cel mp13 rfl), ?_⟩
                  refine ⟨_, _, _, (hS.cel mp13 rfl), ?_⟩
                  replace h := bnd h
                  obtain ⟨t33, ht33, h⟩ := h
                  refine wk_girderkit_SameMatrix H hS (Ent.sl mp1) (Ent.sl mp15) ht33 ?_; clear hS ht33; rintro w hS
                  refine ⟨_, rfl, ?_⟩
                  refine cond_s h ?_ ?_ <;> clear h <;> intro hc h
                  · refine ⟨_, (hS.cel mp8 rfl), ?_⟩
                    refine ⟨_, (hS.cel mp8 rfl), ?_⟩
                    refine ⟨_, _, _, (hS.cel mp8 rfl), ?_⟩
                    refine ⟨_, (hS.cel mp2 rfl), ?_⟩
                    refine ⟨_, (hS.cel mp2 rfl), ?_⟩
                    refine ⟨_, _, _, (hS.cel mp2 rfl), ?_⟩
                    replace h := bnd h
                    obtain ⟨t34, ht34, h⟩ := h
                    refine wk_matrix_Same H hS (Ent.sl mp9) (Ent.sl mp3) ht34 ?_; clear hS ht34; rintro w hS
                    refine ⟨_, rfl, ?_⟩
                    obtain rfl := some_inj h
                    exact hJ17 _ _ ⟨_, rfl, rfl, (hS.pick (A := [_, _, _, _, _, _, _, _, _, _, _, _, _, _, _, _]) [4, 4, 8, 8, 8, 8, 8, 8] rfl)⟩
                  · obtain rfl := some_inj h
                    exact hJ17 _ _ ⟨_, rfl, rfl, (hS.pick (A := [_, _, _, _, _, _, _, _, _, _, _, _, _, _, _, _]) [4, 4, 8, 8, 8, 8, 8, 8] rfl)⟩
                · obtain rfl := some_inj h
                  exact hJ17 _ _ ⟨_, rfl, rfl, (hS.pick (A := [_, _, _, _, _, _, _, _, _, _, _, _, _, _, _, _]) [4, 4, 8, 8, 8, 8, 8, 8] rfl)⟩
              · obtain rfl := some_inj h
                exact hJ17 _ _ ⟨_, rfl, rfl, (hS.pick (A := [_, _, _, _, _, _, _, _, _, _, _, _, _, _, _, _]) [4, 4, 8, 8, 8, 8, 8, 8] rfl)⟩
            · obtain rfl := some_inj h
              exact hJ17 _ _ ⟨_, rfl, rfl, (hS.pick (A := [_, _, _, _, _, _, _, _, _, _, _, _, _, _, _, _]) [4, 4, 8, 8, 8, 8, 8, 8] rfl)⟩
          · obtain rfl := some_inj h
            exact hJ17 _ _ ⟨_, rfl, rfl, (hS.pick (A := [_, _, _, _, _, _, _, _, _, _, _, _, _, _, _, _]) [4, 4, 8, 8, 8, 8, 8, 8] rfl)⟩
        · obtain rfl := some_inj h
          exact hJ17 _ _ ⟨_, rfl, rfl, (hS.pick (A := [_, _, _, _, _, _, _, _, _, _, _, _, _, _, _, _]) [4, 4, 8, 8, 8, 8, 8, 8] rfl)⟩
      · obtain rfl := some_inj h
        exact hJ17 _ _ ⟨_, rfl, rfl, (hS.pick (A := [_, _, _, _, _, _, _, _, _, _, _, _, _, _, _, _]) [4, 4, 8, 8, 8, 8, 8, 8] rfl)⟩
    · obtain rfl := some_inj h
      exact hJ17 _ _ ⟨_, rfl, rfl, (hS.pick (A := [_, _, _, _, _, _, _, _, _, _, _, _, _, _, _, _]) [4, 4, 8, 8, 8, 8, 8, 8] rfl)⟩
  · clear h17 hS
    rintro s w ⟨t31, rfl, rfl, hS⟩
    have h := c17
    clear c17
    try dsimp only
    refine cond_s h ?_ ?_ <;> clear h <;> intro hc h
    · have h := some_inj h
      cases h
      exact hK _ (hS.pick (A := [_, _, _, _, _, _, _, _]) [] rfl)
    · replace h := bnd h
      obtain ⟨o18, h18, c18⟩ := h
      refine cutM_i (fun s w =>  o18 = .inl () ∧ s = (()) ∧ Ho w0 w ((cl r12 [.int .i64 t19, .int .i64 t20, .slice a11 m11 c11] N.t_Matrix) :: (sl a11 m11 c11 (List.map (Value.float .f64) ws11) N.t_float64) :: (cl r6 [.int .i64 t7, .int .i64 t8, .slice a5 m5 c5] N.t_Matrix) :: (sl a5 m5 c5 (List.map (Value.float .f64) ws5) N.t_float64) :: (cl r4 [.int .i64 t4, .int .i64 t5, .slice a2 m2 c2] N.t_Matrix) :: (cl r3 [.int .i64 t1, .int .i64 t2, .slice a1 m1 c1] N.t_Matrix) :: (sl a2 m2 c2 (List.map (Value.float .f64) ws2) N.t_float64) :: (sl a1 m1 c1 (List.map (Value.float .f64) ws1) N.t_float64) :: L)) (fun J18 hJ18 => ?_) ?_
      · have h := h18
        clear h18
        refine iter_sim (fun s w t => ∃ (t35 : Int), t = t35 ∧ s = (t35, ()) ∧ Ho w0 w ((cl r12 [.int .i64 t19, .int .i64 t20, .slice a11 m11 c11] N.t_Matrix) :: (sl a11 m11 c11 (List.map (Value.float .f64) ws11) N.t_float64) :: (cl r6 [.int .i64 t7, .int .i64 t8, .slice a5 m5 c5] N.t_Matrix) :: (sl a5 m5 c5 (List.map (Value.float .f64) ws5) N.t_float64) :: (cl r4 [.int .i64 t4, .int .i64 t5, .slice a2 m2 c2] N.t_Matrix) :: (cl r3 [.int .i64 t1, .int .i64 t2, .slice a1 m1 c1] N.t_Matrix) :: (sl a2 m2 c2 (List.map (Value.float .f64) ws2) N.t_float64) :: (sl a1 m1 c1 (List.map (Value.float .f64) ws1) N.t_float64) :: L)) ?_ h ⟨_, rfl, rfl, hS⟩
        clear h hS
        rintro s w t X q ⟨t35, rfl, rfl, hS⟩ h hX hO
        unfold T_girderlaw10_MatrixTurns_b14 at h
        try dsimp only
        refine ⟨_, (hS.cel mp4 rfl), ?_⟩
        refine cond_s h ?_ ?_ <;> clear h <;> intro hc h
        · replace h := bnd h
          obtain ⟨o23, h23, c23⟩ := h
          refine cutM_i (fun s w => ∃ (a19 : Option Addr) (m20 : Nat) (c21 : Nat) (ws22 : List Nat), o23 = (List.map nf ws22) ∧ s = ((a19, m20, c21), ()) ∧ Ho w0 w ((cl r12 [.int .i64 t19, .int .i64 t20, .slice a11 m11 c11] N.t_Matrix) :: (sl a11 m11 c11 (List.map (Value.float .f64) ws11) N.t_float64) :: (cl r6 [.int .i64 t7, .int .i64 t8, .slice a5 m5 c5] N.t_Matrix) :: (sl a5 m5 c5 (List.map (Value.float .f64) ws5) N.t_float64) :: (cl r4 [.int .i64 t4, .int .i64 t5, .slice a2 m2 c2] N.t_Matrix) :: (cl r3 [.int .i64 t1, .int .i64 t2, .slice a1 m1 c1] N.t_Matrix) :: (sl a2 m2 c2 (List.map (Value.float .f64) ws2) N.t_float64) :: (sl a1 m1 c1 (List.map (Value.float .f64) ws1) N.t_float64) :: (sl a19 m20 c21 (List.map (Value.float .f64) ws22) N.t_float64) :: L)) (fun J23 hJ23 => ?_) ?_
          · have h := h23
            clear h23
            replace hS := hS.none (α := Nat) (enc := (Value.float .f64)) (t := N.t_float64)
            refine iter_sim (fun s w t => ∃ (t37 : Int) (a24 : Option Addr) (m25 : Nat) (c26 : Nat) (ws27 : List Nat), t = (t37, (List.map nf ws27)) ∧ s = ((a24, m25, c26), t37, ()) ∧ Ho w0 w ((cl r12 [.int .i64 t19, .int .i64 t20, .slice a11 m11 c11] N.t_Matrix) :: (sl a11 m11 c11 (List.map (Value.float .f64) ws11) N.t_float64) :: (cl r6 [.int .i64 t7, .int .i64 t8, .slice a5 m5 c5] N.t_Matrix) :: (sl a5 m5 c5 (List.map (Value.float .f64) ws5) N.t_float64) :: (cl r4 [.int .i64 t4, .int .i64 t5, .slice a2 m2 c2] N.t_Matrix) :: (cl r3 [.int .i64 t1, .int .i64 t2, .slice a1 m1 c1] N.t_Matrix) :: (sl a2 m2 c2 (List.map (Value.float .f64) ws2) N.t_float64) :: (sl a1 m1 c1 (List.map (Value.float .f64) ws1) N.t_float64) :: (sl a24 m25 c26 (List.map (Value.float .f64) ws27) N.t_float64) :: L)) ?_ h ⟨_, _, _, _, _, rfl, rfl, (hS.pick (A := [_, _, _, _, _, _, _, _, _]) [1, 1, 1, 1, 1, 1, 1, 1, 0] rfl)⟩
            clear h hS
            rintro s w t X q ⟨t37, a24, m25, c26, ws27, rfl, rfl, hS⟩ h hX hO
            unfold T_girderlaw10_MatrixTurns_b16 at h
            try dsimp only
            refine ⟨_, (hS.cel mp4 rfl), ?_⟩
            refine cond_s h ?_ ?_ <;> clear h <;> intro hc h
            · refine ⟨_, _, _, (hS.cel mp4 rfl), ?_⟩
              refine ⟨_, (hS.cel mp4 rfl), ?_⟩
              replace h := bnd h
              obtain ⟨t39, ht39, h⟩ := h
              obtain ⟨z28, rfl, q29x, q29l, q29r⟩ := atF ht39
              clear ht39
              refine idx_s ((Ent.sl mp6).now (fun _ h => h) hS) q29x q29l q29r ?_; intro b30 hb30
              refine ⟨_, rd_get ((Ent.sl mp6).now (fun _ h => h) hS) hb30 q29x, ?_⟩
              replace h := bnd h
              obtain ⟨t40, ht40, h⟩ := h
              obtain rfl : (List.map nf ([z28] : List Nat)) = t40 := some_inj ht40
              clear ht40
              refine lit_s (ks := [z28]) (enc := (Value.float .f64)) (m := 1) hS rfl rfl ?_; clear hS; intro r31 w hS
              replace h := bnd h
              obtain ⟨t41, ht41, h⟩ := h
              obtain ⟨rfl, kt41⟩ := appF ht41
              clear ht41
              replace hS := ro9 hS
              refine app_s hS kt41 ((Ent.sl mp1).now (fun _ h => h) hS) (fun _ => rfl) rfl ?_; clear hS kt41; intro a32 c32 w hS
              obtain rfl := some_inj h
              exact hX _ rfl _ _ ⟨_, _, _, _, _, rfl, rfl, (hS.pick (A := [_, _, _, _, _, _, _, _, _, _]) [2, 2, 2, 2, 2, 2, 2, 2, 0] rfl)⟩
            · obtain rfl := some_inj h
              have h := congrArg some (hO _ rfl)
              obtain rfl := some_inj h
              exact hJ23 _ _ ⟨_, _, _, _, rfl, rfl, hS⟩
          · clear h23 hS
            rintro s w ⟨a19, m20, c21, ws22, rfl, rfl, hS⟩
            have h := c23
            clear c23
            try dsimp only
            replace h := bnd h
            obtain ⟨o37, h37, c37⟩ := h
            refine cutM_i (fun s w => ∃ (a33 : Option Addr) (m34 : Nat) (c35 : Nat) (ws36 : List Nat), o37 = (List.map nf ws36) ∧ s = ((a33, m34, c35), ()) ∧ Ho w0 w ((cl r12 [.int .i64 t19, .int .i64 t20, .slice a11 m11 c11] N.t_Matrix) :: (sl a11 m11 c11 (List.map (Value.float .f64) ws11) N.t_float64) :: (cl r6 [.int .i64 t7, .int .i64 t8, .slice a5 m5 c5] N.t_Matrix) :: (sl a5 m5 c5 (List.map (Value.float .f64) ws5) N.t_float64) :: (cl r4 [.int .i64 t4, .int .i64 t5, .slice a2 m2 c2] N.t_Matrix) :: (cl r3 [.int .i64 t1, .int .i64 t2, .slice a1 m1 c1] N.t_Matrix) :: (sl a2 m2 c2 (List.map (Value.float .f64) ws2) N.t_float64) :: (sl a1 m1 c1 (List.map (Value.float .f64) ws1) N.t_float64) :: (sl a19 m20 c21 (List.map (Value.float .f64) ws22) N.t_float64) :: (sl a33 m34 c35 (List.map (Value.float .f64) ws36) N.t_float64) :: L)) (fun J37 hJ37 => ?_) ?_
            · have h := h37
              clear h37
              replace hS := hS.none (α := Nat) (enc := (Value.float .f64)) (t := N.t_float64)
              refine iter_sim (fun s w t => ∃ (t43 : Int) (a38 : Option Addr) (m39 : Nat) (c40 : Nat) (ws41 : List Nat), t = (t43, (List.map nf ws41)) ∧ s = ((a38, m39, c40), t43, ()) ∧ Ho w0 w ((cl r12 [.int .i64 t19, .int .i64 t20, .slice a11 m11 c11] N.t_Matrix) :: (sl a11 m11 c11 (List.map (Value.float .f64) ws11) N.t_float64) :: (cl r6 [.int .i64 t7, .int .i64 t8, .slice a5 m5 c5] N.t_Matrix) :: (sl a5 m5 c5 (List.map (Value.float .f64) ws5) N.t_float64) :: (cl r4 [.int .i64 t4, .int .i64 t5, .slice a2 m2 c2] N.t_Matrix) :: (cl r3 [.int .i64 t1, .int .i64 t2, .slice a1 m1 c1] N.t_Matrix) :: (sl a2 m2 c2 (List.map (Value.float .f64) ws2) N.t_float64) :: (sl a1 m1 c1 (List.map (Value.float .f64) ws1) N.t_float64) :: (sl a19 m20 c21 (List.map (Value.float .f64) ws22) N.t_float64) :: (sl a38 m39 c40 (List.map (Value.float .f64) ws41) N.t_float64) :: L)) ?_ h ⟨_, _, _, _, _, rfl, rfl, (hS.pick (A := [_, _, _, _, _, _, _, _, _, _]) [1, 1, 1, 1, 1, 1, 1, 1, 1, 0] rfl)⟩
              clear h hS
              rintro s w t X q ⟨t43, a38, m39, c40, ws41, rfl, rfl, hS⟩ h hX hO
              unfold T_girderlaw10_MatrixTurns_b18 at h
              try dsimp only
              refine ⟨_, (hS.cel mp5 rfl), ?_⟩
              refine cond_s h ?_ ?_ <;> clear h <;> intro hc h
              · refine ⟨_, _, _, (hS.cel mp2 rfl), ?_⟩
                refine ⟨_, (hS.cel mp4 rfl), ?_⟩
                replace h := bnd h
                obtain ⟨t45, ht45, h⟩ := h
                obtain ⟨z42, rfl, q43x, q43l, q43r⟩ := atF ht45
                clear ht45
                refine idx_s ((Ent.sl mp3).now (fun _ h => h) hS) q43x q43l q43r ?_; intro b44 hb44
                refine ⟨_, rd_get ((Ent.sl mp3).now (fun _ h => h) hS) hb44 q43x, ?_⟩
                replace h := bnd h
                obtain ⟨t46, ht46, h⟩ := h
                obtain rfl : (List.map nf ([z42] : List Nat)) = t46 := some_inj ht46
                clear ht46
                refine lit_s (ks := [z42]) (enc := (Value.float .f64)) (m := 1) hS rfl rfl ?_; clear hS; intro r45 w hS
                replace h := bnd h
                obtain ⟨t47, ht47, h⟩ := h
                obtain ⟨rfl, kt47⟩ := appF ht47
                clear ht47
                replace hS := ro10 hS
                refine app_s hS kt47 ((Ent.sl mp1).now (fun _ h => h) hS) (fun _ => rfl) rfl ?_; clear hS kt47; intro a46 c46 w hS
                obtain rfl := some_inj h
                exact hX _ rfl _ _ ⟨_, _, _, _, _, rfl, rfl, (hS.pick (A := [_, _, _, _, _, _, _, _, _, _, _]) [2, 2, 2, 2, 2, 2, 2, 2, 2, 0] rfl)⟩
              · obtain rfl := some_inj h
                have h := congrArg some (hO _ rfl)
                obtain rfl := some_inj h
                exact hJ37 _ _ ⟨_, _, _, _, rfl, rfl, hS⟩
            · clear h37 hS
              rintro s w ⟨a33, m34, c35, ws36, rfl, rfl, hS⟩
              have h := c37
              clear c37
              try dsimp only
              refine ⟨_, (hS.cel mp5 rfl), ?_⟩
              refine ⟨_, (hS.cel mp5 rfl), ?_⟩
              refine ⟨_, _, _, (hS.cel mp5 rfl), ?_⟩
              replace h := bnd h
              obtain ⟨⟨t48, t49⟩, ho48, h⟩ := h
              refine wk_matrix_Apply H hS (Ent.sl mp7) (Ent.sl mp8) ho48 ?_; clear hS ho48; rintro a47 m47 c47 ws47 w rfl hS
              refine ⟨_, _, _, _, rfl, ?_⟩
              refine cond_s h ?_ ?_ <;> clear h <;> intro hc h
              · replace h := bnd h
                obtain ⟨t50, ht50, h⟩ := h
                refine wk_girderkit_SameReals H hS (Ent.sl mp0) (Ent.sl mp10) ht50 ?_; clear hS ht50; rintro w hS
                refine ⟨_, rfl, ?_⟩
                refine cond_s h ?_ ?_ <;> clear h <;> intro hc h
                · obtain rfl := some_inj h
                  have h := congrArg some (hO _ rfl)
                  obtain rfl := some_inj h
                  have h := c18
                  have h := some_inj h
                  cases h
                  exact hK _ (hS.pick (A := [_, _, _, _, _, _, _, _, _, _, _]) [] rfl)
                · obtain rfl := some_inj h
                  exact hX _ rfl _ _ ⟨_, rfl, rfl, (hS.pick (A := [_, _, _, _, _, _, _, _, _, _, _]) [1, 1, 1, 1, 1, 1, 1, 1] rfl)⟩
              · obtain rfl := some_inj h
                have h := congrArg some (hO _ rfl)
                obtain rfl := some_inj h
                have h := c18
                have h := some_inj h
                cases h
                exact hK _ (hS.pick (A := [_, _, _, _, _, _, _, _, _, _, _]) [] rfl)
        · obtain rfl := some_inj h
          have h := congrArg some (hO _ rfl)
          obtain rfl := some_inj h
          exact hJ18 _ _ ⟨rfl, rfl, hS⟩
      · clear h18 hS
        rintro s w ⟨rfl, rfl, hS⟩
        have h := c18
        clear c18
        try dsimp only
        refine ⟨_, (hS.cel mp5 rfl), ?_⟩
        refine ⟨_, (hS.cel mp4 rfl), ?_⟩
        refine cond_s h ?_ ?_ <;> clear h <;> intro hc h
        · refine ⟨_, (hS.cel mp0 rfl), ?_⟩
          refine ⟨_, (hS.cel mp0 rfl), ?_⟩
          refine ⟨_, _, _, (hS.cel mp0 rfl), ?_⟩
          refine ⟨_, (hS.cel mp5 rfl), ?_⟩
          refine ⟨_, (hS.cel mp5 rfl), ?_⟩
          refine ⟨_, _, _, (hS.cel mp5 rfl), ?_⟩
          replace h := bnd h
          obtain ⟨t51, ht51, h⟩ := h
          refine wk_girderkit_SameMatrix H hS (Ent.sl mp1) (Ent.sl mp7) ht51 ?_; clear hS ht51; rintro w hS
          refine ⟨_, rfl, ?_⟩
          refine cond_s h ?_ ?_ <;> clear h <;> intro hc h
          · refine ⟨_, (hS.cel mp5 rfl), ?_⟩
            refine ⟨_, (hS.cel mp5 rfl), ?_⟩
            refine cond_s h ?_ ?_ <;> clear h <;> intro hc h
            · refine ⟨_, (hS.cel mp2 rfl), ?_⟩
              refine ⟨_, (hS.cel mp2 rfl), ?_⟩
              refine ⟨_, _, _, (hS.cel mp2 rfl), ?_⟩
              replace h := bnd h
              obtain ⟨t52, ht52, h⟩ := h
              refine wk_matrix_Symmetric H hS (Ent.sl mp3) ht52 ?_; clear hS ht52; rintro w hS
              refine ⟨_, rfl, ?_⟩
              refine cond_s h ?_ ?_ <;> clear h <;> intro hc h
              · have h := some_inj h
                cases h
                exact hK _ (hS.pick (A := [_, _, _, _, _, _, _, _]) [] rfl)
              · replace h := bnd h
                obtain ⟨t53, ht53, h⟩ := h
                refine wk_girderlaw10_awake H hS  ht53 ?_; clear hS ht53; rintro w hS
                refine ⟨_, rfl, ?_⟩
                have h := some_inj h
                cases h
                exact hK _ (hS.pick (A := [_, _, _, _, _, _, _, _]) [] rfl)
            · replace h := bnd h
              obtain ⟨t54, ht54, h⟩ := h
              refine wk_girderlaw10_awake H hS  ht54 ?_; clear hS ht54; rintro w hS
              refine ⟨_, rfl, ?_⟩
              have h := some_inj h
              cases h
              exact hK _ (hS.pick (A := [_, _, _, _, _, _, _, _]) [] rfl)
          · replace h := bnd h
            obtain ⟨t55, ht55, h⟩ := h
            refine wk_girderlaw10_awake H hS  ht55 ?_; clear hS ht55; rintro w hS
            refine ⟨_, rfl, ?_⟩
            have h := some_inj h
            cases h
            exact hK _ (hS.pick (A := [_, _, _, _, _, _, _, _]) [] rfl)
        · replace h := bnd h
          obtain ⟨t56, ht56, h⟩ := h
          refine wk_girderlaw10_awake H hS  ht56 ?_; clear hS ht56; rintro w hS
          refine ⟨_, rfl, ?_⟩
          have h := some_inj h
          cases h
          exact hK _ (hS.pick (A := [_, _, _, _, _, _, _, _]) [] rfl)

theorem wk_slices_IndexFunc___float64_float64 {N : Nums} {P : Program} (H : AllOk N P) {w0 w : World} {L : List It} {q0 : Option Addr} {q0l q0c : Nat} {ws0 : List Nat} {q1 : Value} {f1 : Nat → Option Bool} {u0 : Int} (hS : Ho w0 w L) (hq0 : Ent L (rdA (List.map (Value.float .f64) ws0) q0 q0l q0c)) (hf1 : ∀ (v0 : Nat) (w : World) (L1 : List It) (r1 : Bool) (K : Value → World → Prop), (∀ e, e ∈ L → e ∈ L1) → f1 (nf v0) = some r1 → Ho w0 w L1 → (∀ w1 : World, Ho w0 w1 L1 → K (.bool r1) w1) → fnM q1 fun g gp gq => CallsX P g (gp.toList ++ (([.float .f64 v0] : List Value) ++ gq.toList)).toArray w K) (hx : T_slices_IndexFunc___float64_float64 (List.map nf ws0) f1 = some u0) {K : Value → World → Prop} (hK : ∀  (w1 : World), Ho w0 w1 (L) → K (.int .i64 u0) w1) : CallsX P N.f_slices_IndexFunc___float64_float64 #[.slice q0 q0l q0c, q1] w K := by
  refine H.slices_IndexFunc___float64_float64 q0 q0l q0c q1 w _ ?_
  unfold S_slices_IndexFunc___float64_float64
  unfold T_slices_IndexFunc___float64_float64 at hx
  have h := hx
  clear hx
  try dsimp only
  replace h := bnd h
  obtain ⟨t1, ht1, h⟩ := h
  obtain rfl := lenF ht1 (hq0.now (fun _ h => h) hS)
  clear ht1
  replace h := bnd h
  obtain ⟨o1, h1, c1⟩ := h
  refine cutM_i (fun s w =>  o1 = .inl () ∧ s = (()) ∧ Ho w0 w (L)) (fun J1 hJ1 => ?_) ?_
  · have h := h1
    clear h1
    refine iter_sim (fun s w t => ∃ (t2 : Int), t = t2 ∧ s = (t2, ()) ∧ Ho w0 w (L)) ?_ h ⟨_, rfl, rfl, hS⟩
    clear h hS
    rintro s w t X q ⟨t2, rfl, rfl, hS⟩ h hX hO
    unfold T_slices_IndexFunc___float64_float64_b2 at h
    try dsimp only
    refine cond_s h ?_ ?_ <;> clear h <;> intro hc h
    · replace h := bnd h
      obtain ⟨t3, ht3, h⟩ := h
      obtain ⟨z2, rfl, q3x, q3l, q3r⟩ := atF ht3
      clear ht3
      refine idx_s (hq0.now (fun _ h => h) hS) q3x q3l q3r ?_; intro b4 hb4
      refine ⟨_, rd_get (hq0.now (fun _ h => h) hS) hb4 q3x, ?_⟩
      replace h := bnd h
      obtain ⟨t4, ht4, h⟩ := h
      refine hf1 _ _ _ _ _ (fun _ h => h) ht4 hS ?_; clear hS ht4; rintro w hS
      refine ⟨_, rfl, ?_⟩
      refine cond_s h ?_ ?_ <;> clear h <;> intro hc h
      · obtain rfl := some_inj h
        have h := congrArg some (hO _ rfl)
        obtain rfl := some_inj h
        have h := c1
        have h := some_inj h
        cases h
        exact hK _ hS
      · obtain rfl := some_inj h
        exact hX _ rfl _ _ ⟨_, rfl, rfl, hS⟩
    · obtain rfl := some_inj h
      have h := congrArg some (hO _ rfl)
      obtain rfl := some_inj h
      exact hJ1 _ _ ⟨rfl, rfl, hS⟩
  · clear h1 hS
    rintro s w ⟨rfl, rfl, hS⟩
    have h := c1
    clear c1
    try dsimp only
    have h := some_inj h
    cases h
    exact hK _ hS

theorem wk_slices_ContainsFunc___float64_float64 {N : Nums} {P : Program} (H : AllOk N P) {w0 w : World} {L : List It} {q0 : Option Addr} {q0l q0c : Nat} {ws0 : List Nat} {q1 : Value} {f1 : Nat → Option Bool} {u0 : Bool} (hS : Ho w0 w L) (hq0 : Ent L (rdA (List.map (Value.float .f64) ws0) q0 q0l q0c)) (hf1 : ∀ (v0 : Nat) (w : World) (L1 : List It) (r1 : Bool) (K : Value → World → Prop), (∀ e, e ∈ L → e ∈ L1) → f1 (nf v0) = some r1 → Ho w0 w L1 → (∀ w1 : World, Ho w0 w1 L1 → K (.bool r1) w1) → fnM q1 fun g gp gq => CallsX P g (gp.toList ++ (([.float .f64 v0] : List Value) ++ gq.toList)).toArray w K) (hx : T_slices_ContainsFunc___float64_float64 (List.map nf ws0) f1 = some u0) {K : Value → World → Prop} (hK : ∀  (w1 : World), Ho w0 w1 (L) → K (.bool u0) w1) : CallsX P N.f_slices_ContainsFunc___float64_float64 #[.slice q0 q0l q0c, q1] w K := by
  refine H.slices_ContainsFunc___float64_float64 q0 q0l q0c q1 w _ ?_
  unfold S_slices_ContainsFunc___float64_float64
  unfold T_slices_ContainsFunc___float64_float64 at hx
  have h := hx
  clear hx
  try dsimp only
  replace h := bnd h
  obtain ⟨t1, ht1, h⟩ := h
  refine wk_slices_IndexFunc___float64_float64 H hS hq0 (by intro v0 w L1 r1 K hL hx hS hK; exact hf1 v0 w L1 r1 K hL hx hS hK) ht1 ?_; clear hS ht1; rintro w hS
  refine ⟨_, rfl, ?_⟩
  have h := some_inj h
  cases h
  exact hK _ hS

theorem wk_matrix_Norm_1 {N : Nums} {P : Program} (H : AllOk N P) {w0 w : World} {L : List It} {q0 : Nat} {u0 : Bool} (hS : Ho w0 w L)  (hx : T_matrix_Norm_1 (nf q0) = some u0) {K : Value → World → Prop} (hK : ∀  (w1 : World), Ho w0 w1 (L) → K (.bool u0) w1) : CallsX P N.f_matrix_Norm_1 #[.float .f64 q0] w K := by
  refine H.matrix_Norm_1 q0 w _ ?_
  unfold S_matrix_Norm_1
  unfold T_matrix_Norm_1 at hx
  have h := hx
  clear hx
  try dsimp only
  replace h := bnd h
  obtain ⟨t1, ht1, h⟩ := h
  refine fsub_s ht1 hS ?_; clear hS ht1; rintro z1 w rfl hS
  replace h := bnd h
  obtain ⟨t2, ht2, h⟩ := h
  obtain rfl := fne_s ht2
  clear ht2
  have h := some_inj h
  cases h
  exact hK _ hS

theorem wk_math_Float64frombits {N : Nums} {P : Program} (H : AllOk N P) {w0 w : World} {L : List It} {q0 : Int} {u0 : Nat} (hS : Ho w0 w L)  (hx : T_math_Float64frombits q0 = some u0) {K : Value → World → Prop} (hK : ∀ (z0 : Nat) (w1 : World), nf z0 = u0 → Ho w0 w1 (L) → K (.float .f64 z0) w1) : CallsX P N.f_math_Float64frombits #[.int .u64 q0] w K := by
  unfold T_math_Float64frombits at hx
  have hx := some_inj hx
  exact H.math_Float64frombits q0 w _ (hK _ _ hx hS)

theorem wk_math_Abs {N : Nums} {P : Program} (H : AllOk N P) {w0 w : World} {L : List It} {q0 : Nat} {u0 : Nat} (hS : Ho w0 w L)  (hx : T_math_Abs (nf q0) = some u0) {K : Value → World → Prop} (hK : ∀ (z0 : Nat) (w1 : World), nf z0 = u0 → Ho w0 w1 (L) → K (.float .f64 z0) w1) : CallsX P N.f_math_Abs #[.float .f64 q0] w K := by
  unfold T_math_Abs at hx
  have hx := some_inj hx
  refine (abs_c H q0 w).mono ?_
  rintro _ w1 ⟨rfl, h1⟩
  exact hK _ _ ((nf_magF q0).symm.trans hx) (hS.next h1)

theorem wk_round_way {N : Nums} {P : Program} (H : AllOk N P) {w0 w : World} {L : List It} {q0 : Int} {u0 : Int} (hS : Ho w0 w L)  (hx : T_round_way q0 = some u0) {K : Value → World → Prop} (hK : ∀  (w1 : World), Ho w0 w1 (L) → K (.int .i8 u0) w1) : CallsX P N.f_round_way #[.int .i8 q0] w K := by
  refine H.round_way q0 w _ ?_
  unfold S_round_way
  unfold T_round_way at hx
  have h := hx
  clear hx
  try dsimp only
  refine cond_s h ?_ ?_ <;> clear h <;> intro hc h
  · refine cond_s h ?_ ?_ <;> clear h <;> intro hc h
    · have h := some_inj h
      cases h
      exact hK _ hS
    · have h := some_inj h
      cases h
      exact hK _ hS
  · have h := some_inj h
    cases h
    exact hK _ hS

theorem wk_math_IsInf {N : Nums} {P : Program} (H : AllOk N P) {w0 w : World} {L : List It} {q0 : Nat} {q1 : Int} {u0 : Bool} (hS : Ho w0 w L)  (hx : T_math_IsInf (nf q0) q1 = some u0) {K : Value → World → Prop} (hK : ∀  (w1 : World), Ho w0 w1 (L) → K (.bool u0) w1) : CallsX P N.f_math_IsInf #[.float .f64 q0, .int .i64 q1] w K := by
  refine H.math_IsInf q0 q1 w _ ?_
  unfold S_math_IsInf
  unfold T_math_IsInf at hx
  have h := hx
  clear hx
  try dsimp only
  replace h := bnd h
  obtain ⟨o2, h2, c2⟩ := h
  refine cutM_i (fun s w => ∃ (z1 : Nat), o2 = (nf z1) ∧ s = (z1, ()) ∧ Ho w0 w (L)) (fun J2 hJ2 => ?_) ?_
  · have h := h2
    clear h2
    refine cond_s h ?_ ?_ <;> clear h <;> intro hc h
    · replace h := bnd h
      obtain ⟨t2, ht2, h⟩ := h
      refine wk_math_Abs H hS  ht2 ?_; clear hS ht2; rintro z3 w rfl hS
      refine ⟨_, rfl, ?_⟩
      obtain rfl := some_inj h
      exact hJ2 _ _ ⟨_, rfl, rfl, hS⟩
    · replace h := bnd h
      obtain ⟨o5, h5, c5⟩ := h
      refine cutM_i (fun s w => ∃ (z4 : Nat), o5 = (nf z4) ∧ s = (z4, ()) ∧ Ho w0 w (L)) (fun J5 hJ5 => ?_) ?_
      · have h := h5
        clear h5
        refine cond_s h ?_ ?_ <;> clear h <;> intro hc h
        · replace h := bnd h
          obtain ⟨t4, ht4, h⟩ := h
          obtain rfl := fneg_s ht4
          clear ht4
          obtain rfl := some_inj h
          exact hJ5 _ _ ⟨_, rfl, rfl, hS⟩
        · obtain rfl := some_inj h
          exact hJ5 _ _ ⟨_, rfl, rfl, hS⟩
      · clear h5 hS
        rintro s w ⟨z4, rfl, rfl, hS⟩
        have h := c5
        clear c5
        try dsimp only
        obtain rfl := some_inj h
        exact hJ2 _ _ ⟨_, rfl, rfl, hS⟩
  · clear h2 hS
    rintro s w ⟨z1, rfl, rfl, hS⟩
    have h := c2
    clear c2
    try dsimp only
    replace h := bnd h
    obtain ⟨t5, ht5, h⟩ := h
    obtain rfl := fgt_s ht5
    clear ht5
    have h := some_inj h
    cases h
    exact hK _ hS

theorem wk_round_finite {N : Nums} {P : Program} (H : AllOk N P) {w0 w : World} {L : List It} {q0 : Option Addr} {q0l q0c : Nat} {ws0 : List Nat} {u0 : Bool} (hS : Ho w0 w L) (hq0 : Ent L (rdA (List.map (Value.float .f64) ws0) q0 q0l q0c)) (hx : T_round_finite (List.map nf ws0) = some u0) {K : Value → World → Prop} (hK : ∀  (w1 : World), Ho w0 w1 (L) → K (.bool u0) w1) : CallsX P N.f_round_finite #[.slice q0 q0l q0c] w K := by
  refine H.round_finite q0 q0l q0c w _ ?_
  unfold S_round_finite
  unfold T_round_finite at hx
  have h := hx
  clear hx
  try dsimp only
  replace h := bnd h
  obtain ⟨t1, ht1, h⟩ := h
  obtain rfl := lenF ht1 (hq0.now (fun _ h => h) hS)
  clear ht1
  replace h := bnd h
  obtain ⟨o1, h1, c1⟩ := h
  refine cutM_i (fun s w =>  o1 = .inl () ∧ s = (()) ∧ Ho w0 w (L)) (fun J1 hJ1 => ?_) ?_
  · have h := h1
    clear h1
    refine iter_sim (fun s w t => ∃ (t2 : Int), t = t2 ∧ s = (t2, ()) ∧ Ho w0 w (L)) ?_ h ⟨_, rfl, rfl, hS⟩
    clear h hS
    rintro s w t X q ⟨t2, rfl, rfl, hS⟩ h hX hO
    unfold T_round_finite_b2 at h
    try dsimp only
    refine cond_s h ?_ ?_ <;> clear h <;> intro hc h
    · replace h := bnd h
      obtain ⟨t3, ht3, h⟩ := h
      obtain ⟨z2, rfl, q3x, q3l, q3r⟩ := atF ht3
      clear ht3
      refine idx_s (hq0.now (fun _ h => h) hS) q3x q3l q3r ?_; intro b4 hb4
      refine ⟨_, rd_get (hq0.now (fun _ h => h) hS) hb4 q3x, ?_⟩
      replace h := bnd h
      obtain ⟨t4, ht4, h⟩ := h
      refine wk_math_IsNaN H hS  ht4 ?_; clear hS ht4; rintro w hS
      refine ⟨_, rfl, ?_⟩
      refine cond_s h ?_ ?_ <;> clear h <;> intro hc h
      · replace h := bnd h
        obtain ⟨t5, ht5, h⟩ := h
        refine wk_math_IsInf H hS  ht5 ?_; clear hS ht5; rintro w hS
        refine ⟨_, rfl, ?_⟩
        refine cond_s h ?_ ?_ <;> clear h <;> intro hc h
        · obtain rfl := some_inj h
          have h := congrArg some (hO _ rfl)
          obtain rfl := some_inj h
          have h := c1
          have h := some_inj h
          cases h
          exact hK _ hS
        · obtain rfl := some_inj h
          exact hX _ rfl _ _ ⟨_, rfl, rfl, hS⟩
      · obtain rfl := some_inj h
        have h := congrArg some (hO _ rfl)
        obtain rfl := some_inj h
        have h := c1
        have h := some_inj h
        cases h
        exact hK _ hS
    · obtain rfl := some_inj h
      have h := congrArg some (hO _ rfl)
      obtain rfl := some_inj h
      exact hJ1 _ _ ⟨rfl, rfl, hS⟩
  · clear h1 hS
    rintro s w ⟨rfl, rfl, hS⟩
    have h := c1
    clear c1
    try dsimp only
    have h := some_inj h
    cases h
    exact hK _ hS

theorem wk_math_Signbit {N : Nums} {P : Program} (H : AllOk N P) {w0 w : World} {L : List It} {q0 : Nat} {u0 : Bool} (hS : Ho w0 w L)  (hx : T_math_Signbit (nf q0) = some u0) {K : Value → World → Prop} (hK : ∀  (w1 : World), Ho w0 w1 (L) → K (.bool u0) w1) : CallsX P N.f_math_Signbit #[.float .f64 q0] w K := by
  unfold T_math_Signbit at hx
  have hn : isNaN q0 = false := by
    cases e : isNaN q0 with
    | false => rfl
    | true => rw [isNaN_nf, e] at hx; cases hx
  rw [isNaN_nf, hn, nf_of_not hn] at hx
  have hx := some_inj hx
  subst hx
  refine (signbit_c H q0 w).mono ?_
  rintro _ w1 ⟨rfl, h1⟩
  exact hK _ (hS.next h1)

theorem wk_math_Copysign {N : Nums} {P : Program} (H : AllOk N P) {w0 w : World} {L : List It} {q0 : Nat} {q1 : Nat} {u0 : Nat} (hS : Ho w0 w L)  (hx : T_math_Copysign (nf q0) (nf q1) = some u0) {K : Value → World → Prop} (hK : ∀ (z0 : Nat) (w1 : World), nf z0 = u0 → Ho w0 w1 (L) → K (.float .f64 z0) w1) : CallsX P N.f_math_Copysign #[.float .f64 q0, .float .f64 q1] w K := by
  unfold T_math_Copysign at hx
  have hn : isNaN q1 = false := by
    cases e : isNaN q1 with
    | false => rfl
    | true => rw [isNaN_nf, e] at hx; cases hx
  rw [isNaN_nf, hn, nf_of_not hn] at hx
  have hx := some_inj hx
  refine (copysign_c H q0 q1 w).mono ?_
  rintro _ w1 ⟨rfl, h1⟩
  exact hK _ _ ((nf_copy _ _).symm.trans hx) (hS.next h1)

theorem wk_round_none {N : Nums} {P : Program} (H : AllOk N P) {w0 w : World} {L : List It} {q0 : Int} {u0 : Nat} (hS : Ho w0 w L)  (hx : T_round_none q0 = some u0) {K : Value → World → Prop} (hK : ∀ (z0 : Nat) (w1 : World), nf z0 = u0 → Ho w0 w1 (L) → K (.float .f64 z0) w1) : CallsX P N.f_round_none #[.int .i8 q0] w K := by
  refine H.round_none q0 w _ ?_
  unfold S_round_none
  unfold T_round_none at hx
  have h := hx
  clear hx
  try dsimp only
  refine cond_s h ?_ ?_ <;> clear h <;> intro hc h
  · replace h := bnd h
    obtain ⟨t1, ht1, h⟩ := h
    refine wk_math_Copysign H hS  ht1 ?_; clear hS ht1; rintro z1 w rfl hS
    refine ⟨_, rfl, ?_⟩
    have h := some_inj h
    cases h
    exact hK _ _ rfl hS
  · have h := some_inj h
    cases h
    exact hK _ _ rfl hS

theorem wk_round_step {N : Nums} {P : Program} (H : AllOk N P) {w0 w : World} {L : List It} {q0 : Nat} {q1 : Bool} {u0 : Nat} (hS : Ho w0 w L)  (hx : T_round_step (nf q0) q1 = some u0) {K : Value → World → Prop} (hK : ∀ (z0 : Nat) (w1 : World), nf z0 = u0 → Ho w0 w1 (L) → K (.float .f64 z0) w1) : CallsX P N.f_round_step #[.float .f64 q0, .bool q1] w K := by
  refine H.round_step q0 q1 w _ ?_
  unfold S_round_step
  unfold T_round_step at hx
  have h := hx
  clear hx
  try dsimp only
  replace h := bnd h
  obtain ⟨t1, ht1, h⟩ := h
  refine wk_math_Float64bits H hS  ht1 ?_; clear hS ht1; rintro w hS
  refine ⟨_, rfl, ?_⟩
  replace h := bnd h
  obtain ⟨o1, h1, c1⟩ := h
  refine cutM_i (fun s w => ∃ (t2 : Int), o1 = t2 ∧ s = (t2, ()) ∧ Ho w0 w (L)) (fun J1 hJ1 => ?_) ?_
  · have h := h1
    clear h1
    replace h := bnd h
    obtain ⟨t3, ht3, h⟩ := h
    obtain rfl := feq_s ht3
    clear ht3
    replace h := bnd h
    obtain ⟨o2, h2, c2⟩ := h
    refine cutM_i (fun s w => ∃ (t4 : Int), o2 = t4 ∧ s = (t4, ()) ∧ Ho w0 w (L)) (fun J2 hJ2 => ?_) ?_
    · have h := h2
      clear h2
      refine cond_s h ?_ ?_ <;> clear h <;> intro hc h
      · replace h := bnd h
        obtain ⟨o3, h3, c3⟩ := h
        refine cutM_i (fun s w => ∃ (t5 : Int), o3 = t5 ∧ s = (t5, ()) ∧ Ho w0 w (L)) (fun J3 hJ3 => ?_) ?_
        · have h := h3
          clear h3
          refine cond_s h ?_ ?_ <;> clear h <;> intro hc h
          · obtain rfl := some_inj h
            exact hJ3 _ _ ⟨_, rfl, rfl, hS⟩
          · obtain rfl := some_inj h
            exact hJ3 _ _ ⟨_, rfl, rfl, hS⟩
        · clear h3 hS
          rintro s w ⟨t5, rfl, rfl, hS⟩
          have h := c3
          clear c3
          try dsimp only
          obtain rfl := some_inj h
          exact hJ2 _ _ ⟨_, rfl, rfl, hS⟩
      · replace h := bnd h
        obtain ⟨t6, ht6, h⟩ := h
        obtain rfl := fgt_s ht6
        clear ht6
        replace h := bnd h
        obtain ⟨o4, h4, c4⟩ := h
        refine cutM_i (fun s w => ∃ (t7 : Int), o4 = t7 ∧ s = (t7, ()) ∧ Ho w0 w (L)) (fun J4 hJ4 => ?_) ?_
        · have h := h4
          clear h4
          refine cond_s h ?_ ?_ <;> clear h <;> intro hc h
          · obtain rfl := some_inj h
            exact hJ4 _ _ ⟨_, rfl, rfl, hS⟩
          · obtain rfl := some_inj h
            exact hJ4 _ _ ⟨_, rfl, rfl, hS⟩
        · clear h4 hS
          rintro s w ⟨t7, rfl, rfl, hS⟩
          have h := c4
          clear c4
          try dsimp only
          obtain rfl := some_inj h
          exact hJ2 _ _ ⟨_, rfl, rfl, hS⟩
    · clear h2 hS
      rintro s w ⟨t4, rfl, rfl, hS⟩
      have h := c2
      clear c2
      try dsimp only
      obtain rfl := some_inj h
      exact hJ1 _ _ ⟨_, rfl, rfl, hS⟩
  · clear h1 hS
    rintro s w ⟨t2, rfl, rfl, hS⟩
    have h := c1
    clear c1
    try dsimp only
    replace h := bnd h
    obtain ⟨t8, ht8, h⟩ := h
    refine wk_math_Float64frombits H hS  ht8 ?_; clear hS ht8; rintro z5 w rfl hS
    refine ⟨_, rfl, ?_⟩
    have h := some_inj h
    cases h
    exact hK _ _ rfl hS

theorem wk_round_settle {N : Nums} {P : Program} (H : AllOk N P) {w0 w : World} {L : List It} {q0 : Nat} {q1 : Int} {q2 : Int} {u0 : Nat} (hS : Ho w0 w L)  (hx : T_round_settle (nf q0) q1 q2 = some u0) {K : Value → World → Prop} (hK : ∀ (z0 : Nat) (w1 : World), nf z0 = u0 → Ho w0 w1 (L) → K (.float .f64 z0) w1) : CallsX P N.f_round_settle #[.float .f64 q0, .int .i64 q1, .int .i8 q2] w K := by
  refine H.round_settle q0 q1 q2 w _ ?_
  unfold S_round_settle
  unfold T_round_settle at hx
  have h := hx
  clear hx
  try dsimp only
  replace h := bnd h
  obtain ⟨o1, h1, c1⟩ := h
  refine cutM_i (fun s w => ∃ (t1 : Int), o1 = t1 ∧ s = (t1, ()) ∧ Ho w0 w (L)) (fun J1 hJ1 => ?_) ?_
  · have h := h1
    clear h1
    refine cond_s h ?_ ?_ <;> clear h <;> intro hc h
    · replace h := bnd h
      obtain ⟨t2, ht2, h⟩ := h
      refine wk_math_Signbit H hS  ht2 ?_; clear hS ht2; rintro w hS
      refine ⟨_, rfl, ?_⟩
      replace h := bnd h
      obtain ⟨o2, h2, c2⟩ := h
      refine cutM_i (fun s w => ∃ (t3 : Int), o2 = t3 ∧ s = (t3, ()) ∧ Ho w0 w (L)) (fun J2 hJ2 => ?_) ?_
      · have h := h2
        clear h2
        refine cond_s h ?_ ?_ <;> clear h <;> intro hc h
        · obtain rfl := some_inj h
          exact hJ2 _ _ ⟨_, rfl, rfl, hS⟩
        · obtain rfl := some_inj h
          exact hJ2 _ _ ⟨_, rfl, rfl, hS⟩
      · clear h2 hS
        rintro s w ⟨t3, rfl, rfl, hS⟩
        have h := c2
        clear c2
        try dsimp only
        obtain rfl := some_inj h
        exact hJ1 _ _ ⟨_, rfl, rfl, hS⟩
    · obtain rfl := some_inj h
      exact hJ1 _ _ ⟨_, rfl, rfl, hS⟩
  · clear h1 hS
    rintro s w ⟨t1, rfl, rfl, hS⟩
    have h := c1
    clear c1
    try dsimp only
    replace h := bnd h
    obtain ⟨t4, ht4, h⟩ := h
    refine wk_math_IsInf H hS  ht4 ?_; clear hS ht4; rintro w hS
    refine ⟨_, rfl, ?_⟩
    refine cond_s h ?_ ?_ <;> clear h <;> intro hc h
    · replace h := bnd h
      obtain ⟨t5, ht5, h⟩ := h
      obtain rfl := fgt_s ht5
      clear ht5
      refine cond_s h ?_ ?_ <;> clear h <;> intro hc h
      · refine cond_s h ?_ ?_ <;> clear h <;> intro hc h
        · replace h := bnd h
          obtain ⟨t6, ht6, h⟩ := h
          obtain rfl := flt_s ht6
          clear ht6
          refine cond_s h ?_ ?_ <;> clear h <;> intro hc h
          · refine cond_s h ?_ ?_ <;> clear h <;> intro hc h
            · replace h := bnd h
              obtain ⟨t7, ht7, h⟩ := h
              refine wk_math_Copysign H hS  ht7 ?_; clear hS ht7; rintro z3 w rfl hS
              refine ⟨_, rfl, ?_⟩
              have h := some_inj h
              cases h
              exact hK _ _ rfl hS
            · have h := some_inj h
              cases h
              exact hK _ _ rfl hS
          · have h := some_inj h
            cases h
            exact hK _ _ rfl hS
        · replace h := bnd h
          obtain ⟨t8, ht8, h⟩ := h
          refine wk_math_Copysign H hS  ht8 ?_; clear hS ht8; rintro z4 w rfl hS
          refine ⟨_, rfl, ?_⟩
          have h := some_inj h
          cases h
          exact hK _ _ rfl hS
      · replace h := bnd h
        obtain ⟨t9, ht9, h⟩ := h
        obtain rfl := flt_s ht9
        clear ht9
        refine cond_s h ?_ ?_ <;> clear h <;> intro hc h
        · refine cond_s h ?_ ?_ <;> clear h <;> intro hc h
          · replace h := bnd h
            obtain ⟨t10, ht10, h⟩ := h
            refine wk_math_Copysign H hS  ht10 ?_; clear hS ht10; rintro z5 w rfl hS
            refine ⟨_, rfl, ?_⟩
            have h := some_inj h
            cases h
            exact hK _ _ rfl hS
          · have h := some_inj h
            cases h
            exact hK _ _ rfl hS
        · have h := some_inj h
          cases h
          exact hK _ _ rfl hS
    · refine cond_s h ?_ ?_ <;> clear h <;> intro hc h
      · refine cond_s h ?_ ?_ <;> clear h <;> intro hc h
        · refine cond_s h ?_ ?_ <;> clear h <;> intro hc h
          · refine cond_s h ?_ ?_ <;> clear h <;> intro hc h
            · replace h := bnd h
              obtain ⟨t11, ht11, h⟩ := h
              refine wk_round_step H hS  ht11 ?_; clear hS ht11; rintro z6 w rfl hS
              refine ⟨_, rfl, ?_⟩
              have h := some_inj h
              cases h
              exact hK _ _ rfl hS
            · have h := some_inj h
              cases h
              exact hK _ _ rfl hS
          · have h := some_inj h
            cases h
            exact hK _ _ rfl hS
        · replace h := bnd h
          obtain ⟨t12, ht12, h⟩ := h
          refine wk_round_step H hS  ht12 ?_; clear hS ht12; rintro z7 w rfl hS
          refine ⟨_, rfl, ?_⟩
          have h := some_inj h
          cases h
          exact hK _ _ rfl hS
      · refine cond_s h ?_ ?_ <;> clear h <;> intro hc h
        · refine cond_s h ?_ ?_ <;> clear h <;> intro hc h
          · replace h := bnd h
            obtain ⟨t13, ht13, h⟩ := h
            refine wk_round_step H hS  ht13 ?_; clear hS ht13; rintro z8 w rfl hS
            refine ⟨_, rfl, ?_⟩
            have h := some_inj h
            cases h
            exact hK _ _ rfl hS
          · have h := some_inj h
            cases h
            exact hK _ _ rfl hS
        · have h := some_inj h
          cases h
          exact hK _ _ rfl hS

theorem wk_round_sign {N : Nums} {P : Program} (H : AllOk N P) {w0 w : World} {L : List It} {q0 : Nat} {u0 : Int} (hS : Ho w0 w L)  (hx : T_round_sign (nf q0) = some u0) {K : Value → World → Prop} (hK : ∀  (w1 : World), Ho w0 w1 (L) → K (.int .i64 u0) w1) : CallsX P N.f_round_sign #[.float .f64 q0] w K := by
  refine H.round_sign q0 w _ ?_
  unfold S_round_sign
  unfold T_round_sign at hx
  have h := hx
  clear hx
  try dsimp only
  replace h := bnd h
  obtain ⟨t1, ht1, h⟩ := h
  obtain rfl := fgt_s ht1
  clear ht1
  refine cond_s h ?_ ?_ <;> clear h <;> intro hc h
  · have h := some_inj h
    cases h
    exact hK _ hS
  · replace h := bnd h
    obtain ⟨t2, ht2, h⟩ := h
    obtain rfl := flt_s ht2
    clear ht2
    refine cond_s h ?_ ?_ <;> clear h <;> intro hc h
    · have h := some_inj h
      cases h
      exact hK _ hS
    · have h := some_inj h
      cases h
      exact hK _ hS

theorem wk_round_Add {N : Nums} {P : Program} (H : AllOk N P) {w0 w : World} {L : List It} {q0 : Nat} {q1 : Nat} {q2 : Int} {u0 : Nat} (hS : Ho w0 w L)  (hx : T_round_Add (nf q0) (nf q1) q2 = some u0) {K : Value → World → Prop} (hK : ∀ (z0 : Nat) (w1 : World), nf z0 = u0 → Ho w0 w1 (L) → K (.float .f64 z0) w1) : CallsX P N.f_round_Add #[.float .f64 q0, .float .f64 q1, .int .i8 q2] w K := by
  refine H.round_Add q0 q1 q2 w _ ?_
  unfold S_round_Add
  unfold T_round_Add at hx
  have h := hx
  clear hx
  try dsimp only
  replace h := bnd h
  obtain ⟨t1, ht1, h⟩ := h
  refine wk_round_way H hS  ht1 ?_; clear hS ht1; rintro w hS
  refine ⟨_, rfl, ?_⟩
  replace h := bnd h
  obtain ⟨t2, ht2, h⟩ := h
  refine fadd_s ht2 hS ?_; clear hS ht2; rintro z1 w rfl hS
  replace h := bnd h
  obtain ⟨t3, ht3, h⟩ := h
  obtain rfl : (List.map nf ([q0, q1] : List Nat)) = t3 := some_inj ht3
  clear ht3
  refine lit_s (ks := [q0, q1]) (enc := (Value.float .f64)) (m := 2) hS rfl rfl ?_; clear hS; intro r2 w hS
  replace h := bnd h
  obtain ⟨t4, ht4, h⟩ := h
  refine wk_round_finite H hS (Ent.sl mp0) ht4 ?_; clear hS ht4; rintro w hS
  refine ⟨_, rfl, ?_⟩
  refine cond_s h ?_ ?_ <;> clear h <;> intro hc h
  · have h := some_inj h
    cases h
    exact hK _ _ rfl (hS.pick (A := [_]) [] rfl)
  · replace h := bnd h
    obtain ⟨o3, h3, c3⟩ := h
    refine cutM_i (fun s w => ∃ (t5 : Bool), o3 = t5 ∧ s = (t5, ()) ∧ Ho w0 w (L)) (fun J3 hJ3 => ?_) ?_
    · have h := h3
      clear h3
      replace h := bnd h
      obtain ⟨t6, ht6, h⟩ := h
      obtain rfl := feq_s ht6
      clear ht6
      refine cond_s h ?_ ?_ <;> clear h <;> intro hc h
      · replace h := bnd h
        obtain ⟨t7, ht7, h⟩ := h
        obtain rfl := fne_s ht7
        clear ht7
        refine cond_s h ?_ ?_ <;> clear h <;> intro hc h
        · replace h := bnd h
          obtain ⟨t8, ht8, h⟩ := h
          obtain rfl := feq_s ht8
          clear ht8
          refine cond_s h ?_ ?_ <;> clear h <;> intro hc h
          · replace h := bnd h
            obtain ⟨t9, ht9, h⟩ := h
            refine wk_math_Signbit H hS  ht9 ?_; clear hS ht9; rintro w hS
            refine ⟨_, rfl, ?_⟩
            replace h := bnd h
            obtain ⟨t10, ht10, h⟩ := h
            refine wk_math_Signbit H hS  ht10 ?_; clear hS ht10; rintro w hS
            refine ⟨_, rfl, ?_⟩
            obtain rfl := some_inj h
            exact hJ3 _ _ ⟨_, rfl, rfl, (hS.pick (A := [_]) [] rfl)⟩
          · obtain rfl := some_inj h
            exact hJ3 _ _ ⟨_, rfl, rfl, (hS.pick (A := [_]) [] rfl)⟩
        · obtain rfl := some_inj h
          exact hJ3 _ _ ⟨_, rfl, rfl, (hS.pick (A := [_]) [] rfl)⟩
      · replace h := bnd h
        obtain ⟨t11, ht11, h⟩ := h
        obtain rfl := feq_s ht11
        clear ht11
        refine cond_s h ?_ ?_ <;> clear h <;> intro hc h
        · replace h := bnd h
          obtain ⟨t12, ht12, h⟩ := h
          refine wk_math_Signbit H hS  ht12 ?_; clear hS ht12; rintro w hS
          refine ⟨_, rfl, ?_⟩
          replace h := bnd h
          obtain ⟨t13, ht13, h⟩ := h
          refine wk_math_Signbit H hS  ht13 ?_; clear hS ht13; rintro w hS
          refine ⟨_, rfl, ?_⟩
          obtain rfl := some_inj h
          exact hJ3 _ _ ⟨_, rfl, rfl, (hS.pick (A := [_]) [] rfl)⟩
        · obtain rfl := some_inj h
          exact hJ3 _ _ ⟨_, rfl, rfl, (hS.pick (A := [_]) [] rfl)⟩
    · clear h3 hS
      rintro s w ⟨t5, rfl, rfl, hS⟩
      have h := c3
      clear c3
      try dsimp only
      refine cond_s h ?_ ?_ <;> clear h <;> intro hc h
      · replace h := bnd h
        obtain ⟨t14, ht14, h⟩ := h
        refine wk_round_none H hS  ht14 ?_; clear hS ht14; rintro z4 w rfl hS
        refine ⟨_, rfl, ?_⟩
        have h := some_inj h
        cases h
        exact hK _ _ rfl hS
      · replace h := bnd h
        obtain ⟨t15, ht15, h⟩ := h
        obtain rfl := feq_s ht15
        clear ht15
        refine cond_s h ?_ ?_ <;> clear h <;> intro hc h
        · have h := some_inj h
          cases h
          exact hK _ _ rfl hS
        · replace h := bnd h
          obtain ⟨t16, ht16, h⟩ := h
          refine wk_math_IsInf H hS  ht16 ?_; clear hS ht16; rintro w hS
          refine ⟨_, rfl, ?_⟩
          refine cond_s h ?_ ?_ <;> clear h <;> intro hc h
          · replace h := bnd h
            obtain ⟨t17, ht17, h⟩ := h
            refine wk_round_settle H hS  ht17 ?_; clear hS ht17; rintro z5 w rfl hS
            refine ⟨_, rfl, ?_⟩
            have h := some_inj h
            cases h
            exact hK _ _ rfl hS
          · replace h := bnd h
            obtain ⟨t18, ht18, h⟩ := h
            refine wk_math_Abs H hS  ht18 ?_; clear hS ht18; rintro z6 w rfl hS
            refine ⟨_, rfl, ?_⟩
            replace h := bnd h
            obtain ⟨t19, ht19, h⟩ := h
            refine wk_math_Abs H hS  ht19 ?_; clear hS ht19; rintro z7 w rfl hS
            refine ⟨_, rfl, ?_⟩
            replace h := bnd h
            obtain ⟨t20, ht20, h⟩ := h
            obtain rfl := flt_s ht20
            clear ht20
            replace h := bnd h
            obtain ⟨o10, h10, c10⟩ := h
            refine cutM_i (fun s w => ∃ (z8 : Nat) (z9 : Nat), o10 = ((nf z8), (nf z9)) ∧ s = (z8, z9, ()) ∧ Ho w0 w (L)) (fun J10 hJ10 => ?_) ?_
            · have h := h10
              clear h10
              refine cond_s h ?_ ?_ <;> clear h <;> intro hc h
              · obtain rfl := some_inj h
                exact hJ10 _ _ ⟨_, _, rfl, rfl, hS⟩
              · obtain rfl := some_inj h
                exact hJ10 _ _ ⟨_, _, rfl, rfl, hS⟩
            · clear h10 hS
              rintro s w ⟨z8, z9, rfl, rfl, hS⟩
              have h := c10
              clear c10
              try dsimp only
              replace h := bnd h
              obtain ⟨t23, ht23, h⟩ := h
              refine fsub_s ht23 hS ?_; clear hS ht23; rintro z11 w rfl hS
              replace h := bnd h
              obtain ⟨t24, ht24, h⟩ := h
              refine fsub_s ht24 hS ?_; clear hS ht24; rintro z12 w rfl hS
              replace h := bnd h
              obtain ⟨t25, ht25, h⟩ := h
              refine wk_round_sign H hS  ht25 ?_; clear hS ht25; rintro w hS
              refine ⟨_, rfl, ?_⟩
              replace h := bnd h
              obtain ⟨t26, ht26, h⟩ := h
              refine wk_round_settle H hS  ht26 ?_; clear hS ht26; rintro z13 w rfl hS
              refine ⟨_, rfl, ?_⟩
              have h := some_inj h
              cases h
              exact hK _ _ rfl hS

theorem wk_vector_Norm {N : Nums} {P : Program} (H : AllOk N P) {w0 w : World} {L : List It} {q0 : Option Addr} {q0l q0c : Nat} {ws0 : List Nat} {u0 : Nat} (hS : Ho w0 w L) (hq0 : Ent L (rdA (List.map (Value.float .f64) ws0) q0 q0l q0c)) (hx : T_vector_Norm (List.map nf ws0) = some u0) {K : Value → World → Prop} (hK : ∀ (z0 : Nat) (w1 : World), nf z0 = u0 → Ho w0 w1 (L) → K (.float .f64 z0) w1) : CallsX P N.f_vector_Norm #[.slice q0 q0l q0c] w K := by
  refine H.vector_Norm q0 q0l q0c w _ ?_
  unfold S_vector_Norm
  unfold T_vector_Norm at hx
  have h := hx
  clear hx
  try dsimp only
  replace h := bnd h
  obtain ⟨t1, ht1, h⟩ := h
  obtain rfl := lenF ht1 (hq0.now (fun _ h => h) hS)
  clear ht1
  replace h := bnd h
  obtain ⟨o2, h2, c2⟩ := h
  refine cutM_i (fun s w => ∃ (z1 : Nat), o2 = (nf z1) ∧ s = (z1, ()) ∧ Ho w0 w (L)) (fun J2 hJ2 => ?_) ?_
  · have h := h2
    clear h2
    refine iter_sim (fun s w t => ∃ (z3 : Nat) (t4 : Int), t = ((nf z3), t4) ∧ s = (z3, t4, ()) ∧ Ho w0 w (L)) ?_ h ⟨_, _, rfl, rfl, hS⟩
    clear h hS
    rintro s w t X q ⟨z3, t4, rfl, rfl, hS⟩ h hX hO
    unfold T_vector_Norm_b2 at h
    try dsimp only
    refine cond_s h ?_ ?_ <;> clear h <;> intro hc h
    · replace h := bnd h
      obtain ⟨t5, ht5, h⟩ := h
      obtain ⟨z4, rfl, q5x, q5l, q5r⟩ := atF ht5
      clear ht5
      refine idx_s (hq0.now (fun _ h => h) hS) q5x q5l q5r ?_; intro b6 hb6
      refine ⟨_, rd_get (hq0.now (fun _ h => h) hS) hb6 q5x, ?_⟩
      replace h := bnd h
      obtain ⟨t6, ht6, h⟩ := h
      refine wk_math_Abs H hS  ht6 ?_; clear hS ht6; rintro z7 w rfl hS
      refine ⟨_, rfl, ?_⟩
      replace h := bnd h
      obtain ⟨t7, ht7, h⟩ := h
      refine wk_round_Add H hS  ht7 ?_; clear hS ht7; rintro z8 w rfl hS
      refine ⟨_, rfl, ?_⟩
      obtain rfl := some_inj h
      exact hX _ rfl _ _ ⟨_, _, rfl, rfl, hS⟩
    · obtain rfl := some_inj h
      have h := congrArg some (hO _ rfl)
      obtain rfl := some_inj h
      exact hJ2 _ _ ⟨_, rfl, rfl, hS⟩
  · clear h2 hS
    rintro s w ⟨z1, rfl, rfl, hS⟩
    have h := c2
    clear c2
    try dsimp only
    have h := some_inj h
    cases h
    exact hK _ _ rfl hS

theorem wk_matrix_Norm {N : Nums} {P : Program} (H : AllOk N P) {w0 w : World} {L : List It} {q0_0 : Int} {q0_1 : Int} {q0_2 : Option Addr} {q0_2l q0_2c : Nat} {ws0_2 : List Nat} {u0 : Nat} {u1 : Int} (hS : Ho w0 w L) (hq0_2 : Ent L (rdA (List.map (Value.float .f64) ws0_2) q0_2 q0_2l q0_2c)) (hx : T_matrix_Norm q0_0 q0_1 (List.map nf ws0_2) = some (u0, u1)) {K : Value → World → Prop} (hK : ∀ (z0 : Nat) (w1 : World), nf z0 = u0 → Ho w0 w1 (L) → K (.tuple #[.float .f64 z0, .int .i64 u1]) w1) : CallsX P N.f_matrix_Norm #[.agg #[.int .i64 q0_0, .int .i64 q0_1, .slice q0_2 q0_2l q0_2c]] w K := by
  refine H.matrix_Norm q0_0 q0_1 q0_2 q0_2l q0_2c w _ ?_
  unfold S_matrix_Norm
  unfold T_matrix_Norm at hx
  have h := hx
  clear hx
  try dsimp only
  refine newM_s hS ?_; clear hS; intro r1 w hS
  refine ⟨_, (hS.cel mp0 rfl), ?_⟩
  refine ⟨_, (hS.cel mp0 rfl), ?_⟩
  refine ⟨_, _, _, (hS.cel mp0 rfl), ?_⟩
  replace h := bnd h
  obtain ⟨t1, ht1, h⟩ := h
  refine wk_matrix_Right H hS (hq0_2.mono tl1) ht1 ?_; clear hS ht1; rintro w hS
  refine ⟨_, rfl, ?_⟩
  refine cond_s h ?_ ?_ <;> clear h <;> intro hc h
  · have h := some_inj h
    cases h
    exact hK _ _ rfl (hS.pick (A := [_]) [] rfl)
  · refine ⟨_, _, _, (hS.cel mp0 rfl), ?_⟩
    replace h := bnd h
    obtain ⟨t2, ht2, h⟩ := h
    refine wk_slices_ContainsFunc___float64_float64 H hS (hq0_2.mono tl1) (by intro v0 w L1 r1 K hL hx hS hK; exact wk_matrix_Norm_1 H hS  hx hK) ht2 ?_; clear hS ht2; rintro w hS
    refine ⟨_, rfl, ?_⟩
    refine cond_s h ?_ ?_ <;> clear h <;> intro hc h
    · have h := some_inj h
      cases h
      exact hK _ _ rfl (hS.pick (A := [_]) [] rfl)
    · refine ⟨_, (hS.cel mp0 rfl), ?_⟩
      replace h := bnd h
      obtain ⟨o3, h3, c3⟩ := h
      refine cutM_i (fun s w => ∃ (z2 : Nat), o3 = (nf z2) ∧ s = (z2, ()) ∧ Ho w0 w (L)) (fun J3 hJ3 => ?_) ?_
      · have h := h3
        clear h3
        refine iter_sim (fun s w t => ∃ (z4 : Nat) (t5 : Int), t = ((nf z4), t5) ∧ s = (z4, t5, ()) ∧ Ho w0 w ((cl r1 [.int .i64 q0_0, .int .i64 q0_1, .slice q0_2 q0_2l q0_2c] N.t_Matrix) :: L)) ?_ h ⟨_, _, rfl, rfl, hS⟩
        clear h hS
        rintro s w t X q ⟨z4, t5, rfl, rfl, hS⟩ h hX hO
        unfold T_matrix_Norm_b2 at h
        try dsimp only
        refine cond_s h ?_ ?_ <;> clear h <;> intro hc h
        · refine ⟨_, _, _, (hS.cel mp0 rfl), ?_⟩
          refine ⟨_, (hS.cel mp0 rfl), ?_⟩
          refine ⟨_, (hS.cel mp0 rfl), ?_⟩
          replace h := bnd h
          obtain ⟨t6, ht6, h⟩ := h
          obtain ⟨rfl, q50, q51, q52⟩ := subF ht6
          clear ht6
          have q53 := ((hq0_2.mono tl1).now (fun _ h => h) hS).hiCap q52
          refine ⟨Int.le_trans q50 q51, q53, q50, q51, ?_⟩
          replace h := bnd h
          obtain ⟨t7, ht7, h⟩ := h
          refine wk_vector_Norm H hS (Ent.part (hq0_2.mono tl1) q50 q51 q52) ht7 ?_; clear hS ht7; rintro z6 w rfl hS
          refine ⟨_, rfl, ?_⟩
          replace h := bnd h
          obtain ⟨t8, ht8, h⟩ := h
          refine fmx_s ht8 hS ?_; clear hS ht8; rintro z7 w rfl hS
          obtain rfl := some_inj h
          exact hX _ rfl _ _ ⟨_, _, rfl, rfl, hS⟩
        · obtain rfl := some_inj h
          have h := congrArg some (hO _ rfl)
          obtain rfl := some_inj h
          exact hJ3 _ _ ⟨_, rfl, rfl, (hS.pick (A := [_]) [] rfl)⟩
      · clear h3 hS
        rintro s w ⟨z2, rfl, rfl, hS⟩
        have h := c3
        clear c3
        try dsimp only
        have h := some_inj h
        cases h
        exact hK _ _ rfl hS

theorem wk_girderkit_CopyReals {N : Nums} {P : Program} (H : AllOk N P) {w0 w : World} {L : List It} {q0 : Option Addr} {q0l q0c : Nat} {ws0 : List Nat} {u0 : List Nat} (hS : Ho w0 w L) (hq0 : Ent L (rdA (List.map (Value.float .f64) ws0) q0 q0l q0c)) (hx : T_girderkit_CopyReals (List.map nf ws0) = some u0) {K : Value → World → Prop} (hK : ∀ (a0 : Option Addr) (n0 c0 : Nat) (ws0 : List Nat) (w1 : World), List.map nf ws0 = u0 → Ho w0 w1 ((sl a0 n0 c0 (List.map (Value.float .f64) ws0) N.t_float64) :: L) → K (.slice a0 n0 c0) w1) : CallsX P N.f_girderkit_CopyReals #[.slice q0 q0l q0c] w K := by
  refine H.girderkit_CopyReals q0 q0l q0c w _ ?_
  unfold S_girderkit_CopyReals
  unfold T_girderkit_CopyReals at hx
  have h := hx
  clear hx
  try dsimp only
  replace h := bnd h
  obtain ⟨t1, ht1, h⟩ := h
  obtain ⟨rfl, kt1⟩ := appF ht1
  clear ht1
  replace hS := hS.none (α := Nat) (enc := (Value.float .f64)) (t := N.t_float64)
  refine app_s hS kt1 ((hq0.mono tl1).now (fun _ h => h) hS) (fun _ => rfl) rfl ?_; clear hS kt1; intro a1 c1 w hS
  have h := some_inj h
  cases h
  exact hK _ _ _ _ _ rfl hS

theorem wk_girderlaw10_MatrixSizes {N : Nums} {P : Program} (H : AllOk N P) {w0 w : World} {L : List It} {q0 : Int} {q1 : Int} {q2 : Option Addr} {q2l q2c : Nat} {ws2 : List Nat} {q3 : Option Addr} {q3l q3c : Nat} {l3 : List Bool} {u0 : Bool} (hS : Ho w0 w L) (hq2 : Ent L (rdA (List.map (Value.float .f64) ws2) q2 q2l q2c)) (hq3 : Ent L (rdA (List.map Value.bool l3) q3 q3l q3c)) (hx : T_girderlaw10_MatrixSizes q0 q1 (List.map nf ws2) l3 = some u0) {K : Value → World → Prop} (hK : ∀  (w1 : World), Ho w0 w1 (L) → K (.bool u0) w1) : CallsX P N.f_girderlaw10_MatrixSizes #[.int .i64 q0, .int .i64 q1, .slice q2 q2l q2c, .slice q3 q3l q3c] w K := by
  refine H.girderlaw10_MatrixSizes q0 q1 q2 q2l q2c q3 q3l q3c w _ ?_
  unfold S_girderlaw10_MatrixSizes
  unfold T_girderlaw10_MatrixSizes at hx
  have h := hx
  clear hx
  try dsimp only
  replace h := bnd h
  obtain ⟨⟨t1, t2, t3⟩, ho1, h⟩ := h
  refine wk_girderlaw10_laid H hS hq2 ho1 ?_; clear hS ho1; rintro a1 m1 c1 ws1 w rfl hS
  refine ⟨_, _, _, _, _, rfl, ?_⟩
  refine newM_s hS ?_; clear hS; intro r2 w hS
  refine stc_s hS rfl rfl ?_; clear hS; intro w hS
  refine stc_s hS rfl rfl ?_; clear hS; intro w hS
  refine stc_s hS rfl rfl ?_; clear hS; intro w hS
  refine ⟨_, (hS.cel mp0 rfl), ?_⟩
  refine ⟨_, (hS.cel mp0 rfl), ?_⟩
  refine ⟨_, _, _, (hS.cel mp0 rfl), ?_⟩
  replace h := bnd h
  obtain ⟨⟨t4, t5⟩, ho4, h⟩ := h
  refine wk_matrix_Norm H hS (Ent.sl mp1) ho4 ?_; clear hS ho4; rintro z3 w rfl hS
  refine ⟨_, _, rfl, ?_⟩
  refine ⟨_, _, _, (hS.cel mp0 rfl), ?_⟩
  replace h := bnd h
  obtain ⟨t6, ht6, h⟩ := h
  refine wk_girderlaw10_finite H hS (Ent.sl mp1) ht6 ?_; clear hS ht6; rintro w hS
  refine ⟨_, rfl, ?_⟩
  refine cond_s h ?_ ?_ <;> clear h <;> intro hc h
  · refine cond_s h ?_ ?_ <;> clear h <;> intro hc h
    · replace h := bnd h
      obtain ⟨t7, ht7, h⟩ := h
      obtain rfl := feq_s ht7
      clear ht7
      refine cond_s h ?_ ?_ <;> clear h <;> intro hc h
      · replace h := bnd h
        obtain ⟨t8, ht8, h⟩ := h
        refine wk_girderlaw10_awake H hS  ht8 ?_; clear hS ht8; rintro w hS
        refine ⟨_, rfl, ?_⟩
        have h := some_inj h
        cases h
        exact hK _ (hS.pick (A := [_, _]) [] rfl)
      · have h := some_inj h
        cases h
        exact hK _ (hS.pick (A := [_, _]) [] rfl)
    · have h := some_inj h
      cases h
      exact hK _ (hS.pick (A := [_, _]) [] rfl)
  · replace h := bnd h
    obtain ⟨o4, h4, c4⟩ := h
    refine cutM_i (fun s w => ∃ (t9 : Bool), o4 = t9 ∧ s = (t9, ()) ∧ Ho w0 w ((cl r2 [.int .i64 t1, .int .i64 t2, .slice a1 m1 c1] N.t_Matrix) :: (sl a1 m1 c1 (List.map (Value.float .f64) ws1) N.t_float64) :: L)) (fun J4 hJ4 => ?_) ?_
    · have h := h4
      clear h4
      refine cond_s h ?_ ?_ <;> clear h <;> intro hc h
      · replace h := bnd h
        obtain ⟨t10, ht10, h⟩ := h
        obtain rfl := fge_s ht10
        clear ht10
        obtain rfl := some_inj h
        exact hJ4 _ _ ⟨_, rfl, rfl, hS⟩
      · obtain rfl := some_inj h
        exact hJ4 _ _ ⟨_, rfl, rfl, hS⟩
    · clear h4 hS
      rintro s w ⟨t9, rfl, rfl, hS⟩
      have h := c4
      clear c4
      try dsimp only
      refine cond_s h ?_ ?_ <;> clear h <;> intro hc h
      · have h := some_inj h
        cases h
        exact hK _ (hS.pick (A := [_, _]) [] rfl)
      · replace h := bnd h
        obtain ⟨o6, h6, c6⟩ := h
        refine cutM_i (fun s w => ∃ (z5 : Nat), o6 = .inl (nf z5) ∧ s = (z5, ()) ∧ Ho w0 w (L)) (fun J6 hJ6 => ?_) ?_
        · have h := h6
          clear h6
          refine iter_sim (fun s w t => ∃ (z7 : Nat) (t13 : Int), t = ((nf z7), t13) ∧ s = (z7, t13, ()) ∧ Ho w0 w ((cl r2 [.int .i64 t1, .int .i64 t2, .slice a1 m1 c1] N.t_Matrix) :: (sl a1 m1 c1 (List.map (Value.float .f64) ws1) N.t_float64) :: L)) ?_ h ⟨_, _, rfl, rfl, hS⟩
          clear h hS
          rintro s w t X q ⟨z7, t13, rfl, rfl, hS⟩ h hX hO
          unfold T_girderlaw10_MatrixSizes_b8 at h
          try dsimp only
          refine ⟨_, (hS.cel mp0 rfl), ?_⟩
          refine cond_s h ?_ ?_ <;> clear h <;> intro hc h
          · refine ⟨_, (hS.cel mp0 rfl), ?_⟩
            refine ⟨_, _, _, (hS.cel mp0 rfl), ?_⟩
            refine ⟨_, (hS.cel mp0 rfl), ?_⟩
            refine ⟨_, (hS.cel mp0 rfl), ?_⟩
            replace h := bnd h
            obtain ⟨t14, ht14, h⟩ := h
            obtain ⟨rfl, q80, q81, q82⟩ := subF ht14
            clear ht14
            have q83 := ((Ent.sl mp1).now (fun _ h => h) hS).hiCap q82
            refine ⟨Int.le_trans q80 q81, q83, q80, q81, ?_⟩
            refine drM_s hS ?_; clear hS; intro w hS
            replace h := bnd h
            obtain ⟨t15, ht15, h⟩ := h
            refine wk_girderkit_CopyReals H hS (Ent.part (Ent.sl mp1) q80 q81 q82) ht15 ?_; clear hS ht15; rintro a9 m9 c9 ws9 w rfl hS
            refine ⟨_, _, _, rfl, ?_⟩
            refine ⟨(hS.cel mp1 rfl), ?_⟩
            refine ⟨(hS.cel mp1 rfl), ?_⟩
            refine ⟨(hS.cel mp1 rfl), ?_⟩
            refine ⟨(hS.cel mp1 rfl), ?_⟩
            refine drM_s hS ?_; clear hS; intro w hS
            replace h := bnd h
            obtain ⟨⟨t16, t17, t18⟩, ho16, h⟩ := h
            refine wk_girderlaw10_of H hS (Ent.sl mp0) ho16 ?_; clear hS ho16; rintro w rfl hS
            refine ⟨_, _, _, _, _, rfl, ?_⟩
            refine ⟨(hS.cel mp1 rfl), ?_⟩
            refine ⟨(hS.cel mp1 rfl), ?_⟩
            refine ⟨(hS.cel mp1 rfl), ?_⟩
            refine drM_s hS ?_; clear hS; intro w hS
            replace h := bnd h
            obtain ⟨⟨t19, t20⟩, ho19, h⟩ := h
            refine wk_matrix_Norm H hS (Ent.sl mp0) ho19 ?_; clear hS ho19; rintro z11 w rfl hS
            refine ⟨_, _, rfl, ?_⟩
            refine ⟨(hS.cel mp1 rfl), ?_⟩
            refine ⟨(hS.cel mp1 rfl), ?_⟩
            refine ⟨(hS.cel mp1 rfl), ?_⟩
            refine drM_s hS ?_; clear hS; intro w hS
            refine cond_s h ?_ ?_ <;> clear h <;> intro hc h
            · replace h := bnd h
              obtain ⟨t21, ht21, h⟩ := h
              obtain rfl := fgt_s ht21
              clear ht21
              refine cond_s h ?_ ?_ <;> clear h <;> intro hc h
              · obtain rfl := some_inj h
                have h := congrArg some (hO _ rfl)
                obtain rfl := some_inj h
                have h := c6
                have h := some_inj h
                cases h
                exact hK _ (hS.pick (A := [_, _, _]) [] rfl)
              · replace h := bnd h
                obtain ⟨t22, ht22, h⟩ := h
                refine fmx_s ht22 hS ?_; clear hS ht22; rintro z12 w rfl hS
                replace h := bnd h
                obtain ⟨o13, h13, c13⟩ := h
                refine cutM_i (fun s w =>  o13 = .inl () ∧ s = (()) ∧ Ho w0 w ((cl r2 [.int .i64 t1, .int .i64 t2, .slice a1 m1 c1] N.t_Matrix) :: (sl a1 m1 c1 (List.map (Value.float .f64) ws1) N.t_float64) :: L)) (fun J13 hJ13 => ?_) ?_
                · have h := h13
                  clear h13
                  refine iter_sim (fun s w t => ∃ (t23 : Int), t = t23 ∧ s = (t23, ()) ∧ Ho w0 w ((cl r2 [.int .i64 t1, .int .i64 t2, .slice a1 m1 c1] N.t_Matrix) :: (sl a1 m1 c1 (List.map (Value.float .f64) ws1) N.t_float64) :: L)) ?_ h ⟨_, rfl, rfl, (hS.pick (A := [_, _, _]) [1, 1] rfl)⟩
                  clear h hS
                  rintro s w t X q ⟨t23, rfl, rfl, hS⟩ h hX hO
                  unfold T_girderlaw10_MatrixSizes_b10 at h
                  try dsimp only
                  refine ⟨_, (hS.cel mp0 rfl), ?_⟩
                  refine cond_s h ?_ ?_ <;> clear h <;> intro hc h
                  · refine ⟨_, _, _, (hS.cel mp0 rfl), ?_⟩
                    refine ⟨_, (hS.cel mp0 rfl), ?_⟩
                    replace h := bnd h
                    obtain ⟨t24, ht24, h⟩ := h
                    obtain ⟨z14, rfl, q15x, q15l, q15r⟩ := atF ht24
                    clear ht24
                    refine idx_s ((Ent.sl mp1).now (fun _ h => h) hS) q15x q15l q15r ?_; intro b16 hb16
                    refine ⟨_, rd_get ((Ent.sl mp1).now (fun _ h => h) hS) hb16 q15x, ?_⟩
                    replace h := bnd h
                    obtain ⟨t25, ht25, h⟩ := h
                    obtain rfl := fgt_s ht25
                    clear ht25
                    refine cond_s h ?_ ?_ <;> clear h <;> intro hc h
                    · replace h := bnd h
                      obtain ⟨t26, ht26, h⟩ := h
                      obtain rfl := fneg_s ht26
                      clear ht26
                      replace h := bnd h
                      obtain ⟨t27, ht27, h⟩ := h
                      obtain rfl := fgt_s ht27
                      clear ht27
                      refine cond_s h ?_ ?_ <;> clear h <;> intro hc h
                      · obtain rfl := some_inj h
                        have h := congrArg some (hO _ rfl)
                        obtain rfl := some_inj h
                        have h := c13
                        obtain rfl := some_inj h
                        have h := congrArg some (hO _ rfl)
                        obtain rfl := some_inj h
                        have h := c6
                        have h := some_inj h
                        cases h
                        exact hK _ (hS.pick (A := [_, _]) [] rfl)
                      · obtain rfl := some_inj h
                        exact hX _ rfl _ _ ⟨_, rfl, rfl, hS⟩
                    · obtain rfl := some_inj h
                      have h := congrArg some (hO _ rfl)
                      obtain rfl := some_inj h
                      have h := c13
                      obtain rfl := some_inj h
                      have h := congrArg some (hO _ rfl)
                      obtain rfl := some_inj h
                      have h := c6
                      have h := some_inj h
                      cases h
                      exact hK _ (hS.pick (A := [_, _]) [] rfl)
                  · obtain rfl := some_inj h
                    have h := congrArg some (hO _ rfl)
                    obtain rfl := some_inj h
                    exact hJ13 _ _ ⟨rfl, rfl, hS⟩
                · clear h13 hS
                  rintro s w ⟨rfl, rfl, hS⟩
                  have h := c13
                  clear c13
                  try dsimp only
                  obtain rfl := some_inj h
                  exact hX _ rfl _ _ ⟨_, _, rfl, rfl, hS⟩
            · obtain rfl := some_inj h
              have h := congrArg some (hO _ rfl)
              obtain rfl := some_inj h
              have h := c6
              have h := some_inj h
              cases h
              exact hK _ (hS.pick (A := [_, _, _]) [] rfl)
          · obtain rfl := some_inj h
            have h := congrArg some (hO _ rfl)
            obtain rfl := some_inj h
            exact hJ6 _ _ ⟨_, rfl, rfl, (hS.pick (A := [_, _]) [] rfl)⟩
        · clear h6 hS
          rintro s w ⟨z5, rfl, rfl, hS⟩
          have h := c6
          clear c6
          try dsimp only
          replace h := bnd h
          obtain ⟨⟨t28, t29, t30⟩, ho28, h⟩ := h
          refine wk_girderlaw10_laid H hS hq2 ho28 ?_; clear hS ho28; rintro a17 m17 c17 ws17 w rfl hS
          refine ⟨_, _, _, _, _, rfl, ?_⟩
          refine newM_s hS ?_; clear hS; intro r18 w hS
          refine stc_s hS rfl rfl ?_; clear hS; intro w hS
          refine stc_s hS rfl rfl ?_; clear hS; intro w hS
          refine stc_s hS rfl rfl ?_; clear hS; intro w hS
          refine ⟨_, (hS.cel mp0 rfl), ?_⟩
          refine ⟨_, (hS.cel mp0 rfl), ?_⟩
          refine ⟨_, _, _, (hS.cel mp0 rfl), ?_⟩
          replace h := bnd h
          obtain ⟨⟨t31, t32⟩, ho31, h⟩ := h
          refine wk_matrix_Norm H hS (Ent.sl mp1) ho31 ?_; clear hS ho31; rintro z19 w rfl hS
          refine ⟨_, _, rfl, ?_⟩
          replace h := bnd h
          obtain ⟨o24, h24, c24⟩ := h
          refine cutM_i (fun s w => ∃ (a20 : Option Addr) (m21 : Nat) (c22 : Nat) (ws23 : List Nat), o24 = (List.map nf ws23) ∧ s = ((a20, m21, c22), ()) ∧ Ho w0 w ((cl r18 [.int .i64 t28, .int .i64 t29, .slice a17 m17 c17] N.t_Matrix) :: (sl a17 m17 c17 (List.map (Value.float .f64) ws17) N.t_float64) :: (sl a20 m21 c22 (List.map (Value.float .f64) ws23) N.t_float64) :: L)) (fun J24 hJ24 => ?_) ?_
          · have h := h24
            clear h24
            replace hS := hS.none (α := Nat) (enc := (Value.float .f64)) (t := N.t_float64)
            refine iter_sim (fun s w t => ∃ (t34 : Int) (a25 : Option Addr) (m26 : Nat) (c27 : Nat) (ws28 : List Nat), t = (t34, (List.map nf ws28)) ∧ s = ((a25, m26, c27), t34, ()) ∧ Ho w0 w ((cl r18 [.int .i64 t28, .int .i64 t29, .slice a17 m17 c17] N.t_Matrix) :: (sl a17 m17 c17 (List.map (Value.float .f64) ws17) N.t_float64) :: (sl a25 m26 c27 (List.map (Value.float .f64) ws28) N.t_float64) :: L)) ?_ h ⟨_, _, _, _, _, rfl, rfl, (hS.pick (A := [_, _, _]) [1, 1, 0] rfl)⟩
            clear h hS
            rintro s w t X q ⟨t34, a25, m26, c27, ws28, rfl, rfl, hS⟩ h hX hO
            unfold T_girderlaw10_MatrixSizes_b12 at h
            try dsimp only
            refine ⟨_, (hS.cel mp0 rfl), ?_⟩
            refine cond_s h ?_ ?_ <;> clear h <;> intro hc h
            · replace h := bnd h
              obtain ⟨o32, h32, c32⟩ := h
              refine cutM_i (fun s w => ∃ (a29 : Option Addr) (c30 : Nat) (ws31 : List Nat), o32 = (List.map nf ws31) ∧ s = ((a29, (m26 + 1), c30), ()) ∧ Ho w0 w ((sl a29 (m26 + 1) c30 (List.map (Value.float .f64) ws31) N.t_float64) :: (cl r18 [.int .i64 t28, .int .i64 t29, .slice a17 m17 c17] N.t_Matrix) :: (sl a17 m17 c17 (List.map (Value.float .f64) ws17) N.t_float64) :: L)) (fun J32 hJ32 => ?_) ?_
              · have h := h32
                clear h32
                replace h := bnd h
                obtain ⟨t37, ht37, h⟩ := h
                obtain rfl : (List.map nf ([4607182418800017408] : List Nat)) = t37 := some_inj ht37
                clear ht37
                refine lit_s (ks := [4607182418800017408]) (enc := (Value.float .f64)) (m := 1) hS rfl rfl ?_; clear hS; intro r33 w hS
                replace h := bnd h
                obtain ⟨t38, ht38, h⟩ := h
                obtain ⟨rfl, kt38⟩ := appF ht38
                clear ht38
                replace hS := ro3 hS
                refine app_s hS kt38 ((Ent.sl mp1).now (fun _ h => h) hS) (fun _ => rfl) rfl ?_; clear hS kt38; intro a34 c34 w hS
                replace h := bnd h
                obtain ⟨t39, ht39, h⟩ := h
                obtain rfl := lenE ht39 ((hq3.mono tl4).now (fun _ h => h) hS)
                clear ht39
                refine cond_s h ?_ ?_ <;> clear h <;> intro hc h
                · replace h := bnd h
                  obtain ⟨t40, ht40, h⟩ := h
                  obtain ⟨q35x, q35l, q35r⟩ := atE ht40
                  clear ht40
                  refine idx_s ((hq3.mono tl4).now (fun _ h => h) hS) q35x q35l q35r ?_; intro b36 hb36
                  refine ⟨_, rd_get ((hq3.mono tl4).now (fun _ h => h) hS) hb36 q35x, ?_⟩
                  replace h := bnd h
                  obtain ⟨o38, h38, c38⟩ := h
                  refine cutM_i (fun s w => ∃ (ws37 : List Nat), o38 = (List.map nf ws37) ∧ s = (()) ∧ Ho w0 w ((sl a34 (m26 + 1) c34 (List.map (Value.float .f64) ws37) N.t_float64) :: (cl r18 [.int .i64 t28, .int .i64 t29, .slice a17 m17 c17] N.t_Matrix) :: (sl a17 m17 c17 (List.map (Value.float .f64) ws17) N.t_float64) :: L)) (fun J38 hJ38 => ?_) ?_
                  · have h := h38
                    clear h38
                    refine cond_s h ?_ ?_ <;> clear h <;> intro hc h
                    · replace h := bnd h
                      obtain ⟨t42, ht42, h⟩ := h
                      obtain ⟨z39, rfl, q40x, q40l, q40r⟩ := atF ht42
                      clear ht42
                      refine idx_s ((Ent.sl mp0).now (fun _ h => h) hS) q40x q40l q40r ?_; intro b41 hb41
                      replace h := bnd h
                      obtain ⟨t43, ht43, h⟩ := h
                      obtain rfl := setF ht43
                      clear ht43
                      refine sto_s hS hb41 q40r ?_; clear hS; intro w hS
                      obtain rfl := some_inj h
                      exact hJ38 _ _ ⟨_, rfl, rfl, (hS.pick (A := [_, _, _, _]) [0, 1, 1] rfl)⟩
                    · obtain rfl := some_inj h
                      exact hJ38 _ _ ⟨_, rfl, rfl, (hS.pick (A := [_, _, _, _]) [0, 1, 1] rfl)⟩
                  · clear h38 hS
                    rintro s w ⟨ws37, rfl, rfl, hS⟩
                    have h := c38
                    clear c38
                    try dsimp only
                    obtain rfl := some_inj h
                    exact hJ32 _ _ ⟨_, _, _, rfl, rfl, hS⟩
                · replace h := bnd h
                  obtain ⟨o42, h42, c42⟩ := h
                  refine cutM_i (fun s w =>  o42 = () ∧ s = (()) ∧ Ho w0 w ((sl a34 (m26 + 1) c34 (List.map (Value.float .f64) (ws28 ++ [4607182418800017408])) N.t_float64) :: (cl r18 [.int .i64 t28, .int .i64 t29, .slice a17 m17 c17] N.t_Matrix) :: (sl a17 m17 c17 (List.map (Value.float .f64) ws17) N.t_float64) :: L)) (fun J42 hJ42 => ?_) ?_
                  · have h := h42
                    clear h42
                    obtain rfl := some_inj h
                    exact hJ42 _ _ ⟨rfl, rfl, (hS.pick (A := [_, _, _, _]) [0, 1, 1] rfl)⟩
                  · clear h42 hS
                    rintro s w ⟨rfl, rfl, hS⟩
                    have h := c42
                    clear c42
                    try dsimp only
                    obtain rfl := some_inj h
                    exact hJ32 _ _ ⟨_, _, _, rfl, rfl, hS⟩
              · clear h32 hS
                rintro s w ⟨a29, c30, ws31, rfl, rfl, hS⟩
                have h := c32
                clear c32
                try dsimp only
                obtain rfl := some_inj h
                exact hX _ rfl _ _ ⟨_, _, _, _, _, rfl, rfl, (hS.pick (A := [_, _, _]) [1, 1, 0] rfl)⟩
            · obtain rfl := some_inj h
              have h := congrArg some (hO _ rfl)
              obtain rfl := some_inj h
              exact hJ24 _ _ ⟨_, _, _, _, rfl, rfl, hS⟩
          · clear h24 hS
            rintro s w ⟨a20, m21, c22, ws23, rfl, rfl, hS⟩
            have h := c24
            clear c24
            try dsimp only
            refine ⟨_, (hS.cel mp0 rfl), ?_⟩
            refine ⟨_, (hS.cel mp0 rfl), ?_⟩
            refine ⟨_, _, _, (hS.cel mp0 rfl), ?_⟩
            replace h := bnd h
            obtain ⟨⟨t44, t45⟩, ho44, h⟩ := h
            refine wk_matrix_Apply H hS (Ent.sl mp1) (Ent.sl mp2) ho44 ?_; clear hS ho44; rintro a43 m43 c43 ws43 w rfl hS
            refine ⟨_, _, _, _, rfl, ?_⟩
            replace h := bnd h
            obtain ⟨o44, h44, c44⟩ := h
            refine cutM_i (fun s w => ∃ (t46 : Bool), o44 = t46 ∧ s = (t46, ()) ∧ Ho w0 w ((sl a43 m43 c43 (List.map (Value.float .f64) ws43) N.t_float64) :: L)) (fun J44 hJ44 => ?_) ?_
            · have h := h44
              clear h44
              refine cond_s h ?_ ?_ <;> clear h <;> intro hc h
              · refine cond_s h ?_ ?_ <;> clear h <;> intro hc h
                · replace h := bnd h
                  obtain ⟨t47, ht47, h⟩ := h
                  obtain rfl := lenF ht47 ((Ent.sl mp0).now (fun _ h => h) hS)
                  clear ht47
                  refine ⟨_, (hS.cel mp1 rfl), ?_⟩
                  obtain rfl := some_inj h
                  exact hJ44 _ _ ⟨_, rfl, rfl, (hS.pick (A := [_, _, _, _]) [0] rfl)⟩
                · obtain rfl := some_inj h
                  exact hJ44 _ _ ⟨_, rfl, rfl, (hS.pick (A := [_, _, _, _]) [0] rfl)⟩
              · obtain rfl := some_inj h
                exact hJ44 _ _ ⟨_, rfl, rfl, (hS.pick (A := [_, _, _, _]) [0] rfl)⟩
            · clear h44 hS
              rintro s w ⟨t46, rfl, rfl, hS⟩
              have h := c44
              clear c44
              try dsimp only
              refine cond_s h ?_ ?_ <;> clear h <;> intro hc h
              · have h := some_inj h
                cases h
                exact hK _ (hS.pick (A := [_]) [] rfl)
              · replace h := bnd h
                obtain ⟨o45, h45, c45⟩ := h
                refine cutM_i (fun s w =>  o45 = .inl () ∧ s = (()) ∧ Ho w0 w (L)) (fun J45 hJ45 => ?_) ?_
                · have h := h45
                  clear h45
                  refine iter_sim (fun s w t => ∃ (t48 : Int), t = t48 ∧ s = (t48, ()) ∧ Ho w0 w ((sl a43 m43 c43 (List.map (Value.float .f64) ws43) N.t_float64) :: L)) ?_ h ⟨_, rfl, rfl, hS⟩
                  clear h hS
                  rintro s w t X q ⟨t48, rfl, rfl, hS⟩ h hX hO
                  unfold T_girderlaw10_MatrixSizes_b14 at h
                  try dsimp only
                  replace h := bnd h
                  obtain ⟨t49, ht49, h⟩ := h
                  obtain rfl := lenF ht49 ((Ent.sl mp0).now (fun _ h => h) hS)
                  clear ht49
                  refine cond_s h ?_ ?_ <;> clear h <;> intro hc h
                  · replace h := bnd h
                    obtain ⟨t50, ht50, h⟩ := h
                    obtain ⟨z46, rfl, q47x, q47l, q47r⟩ := atF ht50
                    clear ht50
                    refine idx_s ((Ent.sl mp0).now (fun _ h => h) hS) q47x q47l q47r ?_; intro b48 hb48
                    refine ⟨_, rd_get ((Ent.sl mp0).now (fun _ h => h) hS) hb48 q47x, ?_⟩
                    replace h := bnd h
                    obtain ⟨t51, ht51, h⟩ := h
                    obtain rfl := fgt_s ht51
                    clear ht51
                    refine cond_s h ?_ ?_ <;> clear h <;> intro hc h
                    · replace h := bnd h
                      obtain ⟨t52, ht52, h⟩ := h
                      obtain ⟨z49, rfl, q50x, q50l, q50r⟩ := atF ht52
                      clear ht52
                      refine idx_s ((Ent.sl mp0).now (fun _ h => h) hS) q50x q50l q50r ?_; intro b51 hb51
                      refine ⟨_, rd_get ((Ent.sl mp0).now (fun _ h => h) hS) hb51 q50x, ?_⟩
                      replace h := bnd h
                      obtain ⟨t53, ht53, h⟩ := h
                      obtain rfl := fneg_s ht53
                      clear ht53
                      replace h := bnd h
                      obtain ⟨t54, ht54, h⟩ := h
                      obtain rfl := fgt_s ht54
                      clear ht54
                      refine cond_s h ?_ ?_ <;> clear h <;> intro hc h
                      · obtain rfl := some_inj h
                        have h := congrArg some (hO _ rfl)
                        obtain rfl := some_inj h
                        have h := c45
                        have h := some_inj h
                        cases h
                        exact hK _ (hS.pick (A := [_]) [] rfl)
                      · obtain rfl := some_inj h
                        exact hX _ rfl _ _ ⟨_, rfl, rfl, hS⟩
                    · obtain rfl := some_inj h
                      have h := congrArg some (hO _ rfl)
                      obtain rfl := some_inj h
                      have h := c45
                      have h := some_inj h
                      cases h
                      exact hK _ (hS.pick (A := [_]) [] rfl)
                  · obtain rfl := some_inj h
                    have h := congrArg some (hO _ rfl)
                    obtain rfl := some_inj h
                    exact hJ45 _ _ ⟨rfl, rfl, (hS.pick (A := [_]) [] rfl)⟩
                · clear h45 hS
                  rintro s w ⟨rfl, rfl, hS⟩
                  have h := c45
                  clear c45
                  try dsimp only
                  replace h := bnd h
                  obtain ⟨t55, ht55, h⟩ := h
                  obtain rfl := feq_s ht55
                  clear ht55
                  refine cond_s h ?_ ?_ <;> clear h <;> intro hc h
                  · replace h := bnd h
                    obtain ⟨t56, ht56, h⟩ := h
                    refine wk_girderlaw10_awake H hS  ht56 ?_; clear hS ht56; rintro w hS
                    refine ⟨_, rfl, ?_⟩
                    have h := some_inj h
                    cases h
                    exact hK _ hS
                  · have h := some_inj h
                    cases h
                    exact hK _ hS

theorem wk_girderref10_Identity {N : Nums} {P : Program} (H : AllOk N P) {w0 w : World} {L : List It} {q0 : Int} {u0 : Int} {u1 : Int} {u2 : List Nat} {u3 : Int} (hS : Ho w0 w L)  (hx : T_girderref10_Identity q0 = some (u0, u1, u2, u3)) {K : Value → World → Prop} (hK : ∀ (a2 : Option Addr) (n2 c2 : Nat) (ws2 : List Nat) (w1 : World), List.map nf ws2 = u2 → Ho w0 w1 ((sl a2 n2 c2 (List.map (Value.float .f64) ws2) N.t_float64) :: L) → K (.tuple #[.agg #[.int .i64 u0, .int .i64 u1, .slice a2 n2 c2], .int .i64 u3]) w1) : CallsX P N.f_girderref10_Identity #[.int .i64 q0] w K := by
  refine H.girderref10_Identity q0 w _ ?_
  unfold S_girderref10_Identity
  unfold T_girderref10_Identity at hx
  have h := hx
  clear hx
  try dsimp only
  refine newM_s hS ?_; clear hS; intro r1 w hS
  replace h := bnd h
  obtain ⟨⟨t1, t2, t3, t4⟩, ho1, h⟩ := h
  refine wk_girderref10_Make H hS  ho1 ?_; clear hS ho1; rintro a2 m2 c2 ws2 w rfl hS
  refine ⟨_, _, _, _, _, _, rfl, ?_⟩
  refine newM_s hS ?_; clear hS; intro r3 w hS
  refine stc_s hS rfl rfl ?_; clear hS; intro w hS
  refine stc_s hS rfl rfl ?_; clear hS; intro w hS
  refine stc_s hS rfl rfl ?_; clear hS; intro w hS
  replace h := bnd h
  obtain ⟨o5, h5, c5⟩ := h
  refine cutM_i (fun s w => ∃ (ws4 : List Nat), o5 = (List.map nf ws4) ∧ s = (()) ∧ Ho w0 w ((cl r3 [.int .i64 t1, .int .i64 t2, .slice a2 m2 c2] N.t_Matrix) :: (sl a2 m2 c2 (List.map (Value.float .f64) ws4) N.t_float64) :: (cl r1 [.int .i64 0, .int .i64 0, .slice none 0 0] N.t_Matrix) :: L)) (fun J5 hJ5 => ?_) ?_
  · have h := h5
    clear h5
    refine iter_sim (fun s w t => ∃ (t6 : Int) (ws6 : List Nat), t = (t6, (List.map nf ws6)) ∧ s = (t6, ()) ∧ Ho w0 w ((cl r3 [.int .i64 t1, .int .i64 t2, .slice a2 m2 c2] N.t_Matrix) :: (sl a2 m2 c2 (List.map (Value.float .f64) ws6) N.t_float64) :: (cl r1 [.int .i64 0, .int .i64 0, .slice none 0 0] N.t_Matrix) :: L)) ?_ h ⟨_, _, rfl, rfl, hS⟩
    clear h hS
    rintro s w t X q ⟨t6, ws6, rfl, rfl, hS⟩ h hX hO
    unfold T_girderref10_Identity_b2 at h
    try dsimp only
    refine cond_s h ?_ ?_ <;> clear h <;> intro hc h
    · refine cond_s h ?_ ?_ <;> clear h <;> intro hc h
      · refine ⟨_, _, _, (hS.cel mp0 rfl), ?_⟩
        replace h := bnd h
        obtain ⟨t8, ht8, h⟩ := h
        obtain ⟨z7, rfl, q8x, q8l, q8r⟩ := atF ht8
        clear ht8
        refine idx_s ((Ent.sl mp1).now (fun _ h => h) hS) q8x q8l q8r ?_; intro b9 hb9
        replace hS := ro1 hS
        replace h := bnd h
        obtain ⟨t9, ht9, h⟩ := h
        obtain rfl := setF ht9
        clear ht9
        refine sto_s hS hb9 q8r ?_; clear hS; intro w hS
        obtain rfl := some_inj h
        exact hX _ rfl _ _ ⟨_, _, rfl, rfl, (hS.pick (A := [_, _, _]) [1, 0, 0] rfl)⟩
      · obtain rfl := some_inj h
        have h := congrArg some (hO _ rfl)
        obtain rfl := some_inj h
        exact hJ5 _ _ ⟨_, rfl, rfl, hS⟩
    · obtain rfl := some_inj h
      have h := congrArg some (hO _ rfl)
      obtain rfl := some_inj h
      exact hJ5 _ _ ⟨_, rfl, rfl, hS⟩
  · clear h5 hS
    rintro s w ⟨ws4, rfl, rfl, hS⟩
    have h := c5
    clear c5
    try dsimp only
    refine ⟨_, (hS.cel mp0 rfl), ?_⟩
    refine ⟨_, (hS.cel mp0 rfl), ?_⟩
    refine ⟨_, _, _, (hS.cel mp0 rfl), ?_⟩
    replace hS := ro2 hS
    refine stc_s hS rfl rfl ?_; clear hS; intro w hS
    refine stc_s hS rfl rfl ?_; clear hS; intro w hS
    refine stc_s hS rfl rfl ?_; clear hS; intro w hS
    refine ⟨_, (hS.cel mp0 rfl), ?_⟩
    refine ⟨_, (hS.cel mp0 rfl), ?_⟩
    refine ⟨_, _, _, (hS.cel mp0 rfl), ?_⟩
    have h := some_inj h
    cases h
    exact hK _ _ _ _ _ rfl (hS.pick (A := [_, _, _]) [2] rfl)

theorem wk_girderref01_fields {N : Nums} {P : Program} (H : AllOk N P) {w0 w : World} {L : List It} {q0 : Nat} {u0 : Bool} {u1 : Int} {u2 : Int} (hS : Ho w0 w L)  (hx : T_girderref01_fields (nf q0) = some (u0, u1, u2)) {K : Value → World → Prop} (hK : ∀  (w1 : World), Ho w0 w1 (L) → K (.tuple #[.bool u0, .int .i64 u1, .int .u64 u2]) w1) : CallsX P N.f_girderref01_fields #[.float .f64 q0] w K := by
  refine H.girderref01_fields q0 w _ ?_
  unfold S_girderref01_fields
  unfold T_girderref01_fields at hx
  have h := hx
  clear hx
  try dsimp only
  replace h := bnd h
  obtain ⟨t1, ht1, h⟩ := h
  refine wk_math_Float64bits H hS  ht1 ?_; clear hS ht1; rintro w hS
  refine ⟨_, rfl, ?_⟩
  refine ⟨by decide, ?_⟩
  refine ⟨by decide, ?_⟩
  refine ⟨by decide, ?_⟩
  refine ⟨by decide, ?_⟩
  have h := some_inj h
  cases h
  exact hK _ hS

theorem wk_girderref01_Kind {N : Nums} {P : Program} (H : AllOk N P) {w0 w : World} {L : List It} {q0 : Nat} {u0 : Int} (hS : Ho w0 w L)  (hx : T_girderref01_Kind (nf q0) = some u0) {K : Value → World → Prop} (hK : ∀  (w1 : World), Ho w0 w1 (L) → K (.int .i64 u0) w1) : CallsX P N.f_girderref01_Kind #[.float .f64 q0] w K := by
  unfold T_girderref01_Kind at hx
  have hx := some_inj hx
  refine (kind_c H q0 w).mono ?_
  rintro _ w1 ⟨rfl, h1⟩
  have e : (if expF q0 = 2047 then (if fracF q0 = 0 then (3 : Int) else 4) else if expF q0 = 0 then (if fracF q0 = 0 then 0 else 1) else 2) = u0 := by
    rw [← hx]
    cases hn : isNaN q0 with
    | false => rw [nf_of_not hn]
    | true =>
      rw [nf_of_nan hn]
      have e1 : expF qnan = 2047 := by decide +kernel
      have e2 : fracF qnan ≠ 0 := by decide +kernel
      rw [isNaN_fields] at hn
      simp at hn
      simp [hn, e1, e2]
  rw [e]
  exact hK _ (hS.next h1)

theorem wk_girderref01_Nan {N : Nums} {P : Program} (H : AllOk N P) {w0 w : World} {L : List It} {q0 : Nat} {u0 : Bool} (hS : Ho w0 w L)  (hx : T_girderref01_Nan (nf q0) = some u0) {K : Value → World → Prop} (hK : ∀  (w1 : World), Ho w0 w1 (L) → K (.bool u0) w1) : CallsX P N.f_girderref01_Nan #[.float .f64 q0] w K := by
  refine H.girderref01_Nan q0 w _ ?_
  unfold S_girderref01_Nan
  unfold T_girderref01_Nan at hx
  have h := hx
  clear hx
  try dsimp only
  replace h := bnd h
  obtain ⟨t1, ht1, h⟩ := h
  refine wk_girderref01_Kind H hS  ht1 ?_; clear hS ht1; rintro w hS
  refine ⟨_, rfl, ?_⟩
  have h := some_inj h
  cases h
  exact hK _ hS

theorem wk_girderref01_Same {N : Nums} {P : Program} (H : AllOk N P) {w0 w : World} {L : List It} {q0 : Nat} {q1 : Nat} {u0 : Bool} (hS : Ho w0 w L)  (hx : T_girderref01_Same (nf q0) (nf q1) = some u0) {K : Value → World → Prop} (hK : ∀  (w1 : World), Ho w0 w1 (L) → K (.bool u0) w1) : CallsX P N.f_girderref01_Same #[.float .f64 q0, .float .f64 q1] w K := by
  unfold T_girderref01_Same at hx
  have hx := some_inj hx
  subst hx
  refine (rSameF_c H q0 q1 w).mono ?_
  rintro _ w1 ⟨rfl, h1⟩
  exact hK _ (hS.next h1)

theorem wk_girderref10_Same {N : Nums} {P : Program} (H : AllOk N P) {w0 w : World} {L : List It} {q0_0 : Int} {q0_1 : Int} {q0_2 : Option Addr} {q0_2l q0_2c : Nat} {ws0_2 : List Nat} {q1_0 : Int} {q1_1 : Int} {q1_2 : Option Addr} {q1_2l q1_2c : Nat} {ws1_2 : List Nat} {u0 : Bool} (hS : Ho w0 w L) (hq0_2 : Ent L (rdA (List.map (Value.float .f64) ws0_2) q0_2 q0_2l q0_2c)) (hq1_2 : Ent L (rdA (List.map (Value.float .f64) ws1_2) q1_2 q1_2l q1_2c)) (hx : T_girderref10_Same q0_0 q0_1 (List.map nf ws0_2) q1_0 q1_1 (List.map nf ws1_2) = some u0) {K : Value → World → Prop} (hK : ∀  (w1 : World), Ho w0 w1 (L) → K (.bool u0) w1) : CallsX P N.f_girderref10_Same #[.agg #[.int .i64 q0_0, .int .i64 q0_1, .slice q0_2 q0_2l q0_2c], .agg #[.int .i64 q1_0, .int .i64 q1_1, .slice q1_2 q1_2l q1_2c]] w K := by
  refine H.girderref10_Same q0_0 q0_1 q0_2 q0_2l q0_2c q1_0 q1_1 q1_2 q1_2l q1_2c w _ ?_
  unfold S_girderref10_Same
  unfold T_girderref10_Same at hx
  have h := hx
  clear hx
  try dsimp only
  refine newM_s hS ?_; clear hS; intro r1 w hS
  refine newM_s hS ?_; clear hS; intro r2 w hS
  replace h := bnd h
  obtain ⟨o3, h3, c3⟩ := h
  refine cutM_i (fun s w => ∃ (t1 : Bool), o3 = t1 ∧ s = (t1, ()) ∧ Ho w0 w ((cl r2 [.int .i64 q1_0, .int .i64 q1_1, .slice q1_2 q1_2l q1_2c] N.t_Matrix) :: (cl r1 [.int .i64 q0_0, .int .i64 q0_1, .slice q0_2 q0_2l q0_2c] N.t_Matrix) :: L)) (fun J3 hJ3 => ?_) ?_
  · have h := h3
    clear h3
    refine ⟨_, (hS.cel mp1 rfl), ?_⟩
    refine ⟨_, (hS.cel mp0 rfl), ?_⟩
    refine cond_s h ?_ ?_ <;> clear h <;> intro hc h
    · refine ⟨_, (hS.cel mp1 rfl), ?_⟩
      refine ⟨_, (hS.cel mp0 rfl), ?_⟩
      refine cond_s h ?_ ?_ <;> clear h <;> intro hc h
      · refine ⟨_, _, _, (hS.cel mp1 rfl), ?_⟩
        replace h := bnd h
        obtain ⟨t2, ht2, h⟩ := h
        obtain rfl := lenF ht2 ((hq0_2.mono tl2).now (fun _ h => h) hS)
        clear ht2
        refine ⟨_, _, _, (hS.cel mp0 rfl), ?_⟩
        replace h := bnd h
        obtain ⟨t3, ht3, h⟩ := h
        obtain rfl := lenF ht3 ((hq1_2.mono tl2).now (fun _ h => h) hS)
        clear ht3
        obtain rfl := some_inj h
        exact hJ3 _ _ ⟨_, rfl, rfl, hS⟩
      · obtain rfl := some_inj h
        exact hJ3 _ _ ⟨_, rfl, rfl, hS⟩
    · obtain rfl := some_inj h
      exact hJ3 _ _ ⟨_, rfl, rfl, hS⟩
  · clear h3 hS
    rintro s w ⟨t1, rfl, rfl, hS⟩
    have h := c3
    clear c3
    try dsimp only
    refine cond_s h ?_ ?_ <;> clear h <;> intro hc h
    · have h := some_inj h
      cases h
      exact hK _ (hS.pick (A := [_, _]) [] rfl)
    · replace h := bnd h
      obtain ⟨o4, h4, c4⟩ := h
      refine cutM_i (fun s w =>  o4 = .inl () ∧ s = (()) ∧ Ho w0 w (L)) (fun J4 hJ4 => ?_) ?_
      · have h := h4
        clear h4
        refine iter_sim (fun s w t => ∃ (t4 : Int), t = t4 ∧ s = (t4, ()) ∧ Ho w0 w ((cl r2 [.int .i64 q1_0, .int .i64 q1_1, .slice q1_2 q1_2l q1_2c] N.t_Matrix) :: (cl r1 [.int .i64 q0_0, .int .i64 q0_1, .slice q0_2 q0_2l q0_2c] N.t_Matrix) :: L)) ?_ h ⟨_, rfl, rfl, hS⟩
        clear h hS
        rintro s w t X q ⟨t4, rfl, rfl, hS⟩ h hX hO
        unfold T_girderref10_Same_b2 at h
        try dsimp only
        refine ⟨_, _, _, (hS.cel mp1 rfl), ?_⟩
        replace h := bnd h
        obtain ⟨t5, ht5, h⟩ := h
        obtain rfl := lenF ht5 ((hq0_2.mono tl2).now (fun _ h => h) hS)
        clear ht5
        refine cond_s h ?_ ?_ <;> clear h <;> intro hc h
        · refine ⟨_, _, _, (hS.cel mp1 rfl), ?_⟩
          replace h := bnd h
          obtain ⟨t6, ht6, h⟩ := h
          obtain ⟨z5, rfl, q6x, q6l, q6r⟩ := atF ht6
          clear ht6
          refine idx_s ((hq0_2.mono tl2).now (fun _ h => h) hS) q6x q6l q6r ?_; intro b7 hb7
          refine ⟨_, rd_get ((hq0_2.mono tl2).now (fun _ h => h) hS) hb7 q6x, ?_⟩
          refine ⟨_, _, _, (hS.cel mp0 rfl), ?_⟩
          replace h := bnd h
          obtain ⟨t7, ht7, h⟩ := h
          obtain ⟨z8, rfl, q9x, q9l, q9r⟩ := atF ht7
          clear ht7
          refine idx_s ((hq1_2.mono tl2).now (fun _ h => h) hS) q9x q9l q9r ?_; intro b10 hb10
          refine ⟨_, rd_get ((hq1_2.mono tl2).now (fun _ h => h) hS) hb10 q9x, ?_⟩
          refine drM_s hS ?_; clear hS; intro w hS
          replace h := bnd h
          obtain ⟨t8, ht8, h⟩ := h
          refine wk_girderref01_Same H hS  ht8 ?_; clear hS ht8; rintro w hS
          refine ⟨_, rfl, ?_⟩
          refine ⟨(hS.cel mp0 rfl), ?_⟩
          refine ⟨(hS.cel mp1 rfl), ?_⟩
          refine drM_s hS ?_; clear hS; intro w hS
          refine cond_s h ?_ ?_ <;> clear h <;> intro hc h
          · obtain rfl := some_inj h
            have h := congrArg some (hO _ rfl)
            obtain rfl := some_inj h
            have h := c4
            have h := some_inj h
            cases h
            exact hK _ (hS.pick (A := [_, _]) [] rfl)
          · obtain rfl := some_inj h
            exact hX _ rfl _ _ ⟨_, rfl, rfl, hS⟩
        · obtain rfl := some_inj h
          have h := congrArg some (hO _ rfl)
          obtain rfl := some_inj h
          exact hJ4 _ _ ⟨rfl, rfl, (hS.pick (A := [_, _]) [] rfl)⟩
      · clear h4 hS
        rintro s w ⟨rfl, rfl, hS⟩
        have h := c4
        clear c4
        try dsimp only
        have h := some_inj h
        cases h
        exact hK _ hS

theorem wk_girderref10_Symmetric {N : Nums} {P : Program} (H : AllOk N P) {w0 w : World} {L : List It} {q0_0 : Int} {q0_1 : Int} {q0_2 : Option Addr} {q0_2l q0_2c : Nat} {ws0_2 : List Nat} {u0 : Bool} (hS : Ho w0 w L) (hq0_2 : Ent L (rdA (List.map (Value.float .f64) ws0_2) q0_2 q0_2l q0_2c)) (hx : T_girderref10_Symmetric q0_0 q0_1 (List.map nf ws0_2) = some u0) {K : Value → World → Prop} (hK : ∀  (w1 : World), Ho w0 w1 (L) → K (.bool u0) w1) : CallsX P N.f_girderref10_Symmetric #[.agg #[.int .i64 q0_0, .int .i64 q0_1, .slice q0_2 q0_2l q0_2c]] w K := by
  refine H.girderref10_Symmetric q0_0 q0_1 q0_2 q0_2l q0_2c w _ ?_
  unfold S_girderref10_Symmetric
  unfold T_girderref10_Symmetric at hx
  have h := hx
  clear hx
  try dsimp only
  refine newM_s hS ?_; clear hS; intro r1 w hS
  replace h := bnd h
  obtain ⟨o2, h2, c2⟩ := h
  refine cutM_i (fun s w => ∃ (t1 : Bool), o2 = t1 ∧ s = (t1, ()) ∧ Ho w0 w ((cl r1 [.int .i64 q0_0, .int .i64 q0_1, .slice q0_2 q0_2l q0_2c] N.t_Matrix) :: L)) (fun J2 hJ2 => ?_) ?_
  · have h := h2
    clear h2
    refine ⟨_, (hS.cel mp0 rfl), ?_⟩
    refine ⟨_, (hS.cel mp0 rfl), ?_⟩
    refine ⟨_, _, _, (hS.cel mp0 rfl), ?_⟩
    replace h := bnd h
    obtain ⟨t2, ht2, h⟩ := h
    refine wk_girderref10_Right H hS (hq0_2.mono tl1) ht2 ?_; clear hS ht2; rintro w hS
    refine ⟨_, rfl, ?_⟩
    refine cond_s h ?_ ?_ <;> clear h <;> intro hc h
    · refine ⟨_, (hS.cel mp0 rfl), ?_⟩
      refine ⟨_, (hS.cel mp0 rfl), ?_⟩
      obtain rfl := some_inj h
      exact hJ2 _ _ ⟨_, rfl, rfl, hS⟩
    · obtain rfl := some_inj h
      exact hJ2 _ _ ⟨_, rfl, rfl, hS⟩
  · clear h2 hS
    rintro s w ⟨t1, rfl, rfl, hS⟩
    have h := c2
    clear c2
    try dsimp only
    refine cond_s h ?_ ?_ <;> clear h <;> intro hc h
    · have h := some_inj h
      cases h
      exact hK _ (hS.pick (A := [_]) [] rfl)
    · replace h := bnd h
      obtain ⟨o3, h3, c3⟩ := h
      refine cutM_i (fun s w =>  o3 = .inl () ∧ s = (()) ∧ Ho w0 w (L)) (fun J3 hJ3 => ?_) ?_
      · have h := h3
        clear h3
        refine iter_sim (fun s w t => ∃ (t3 : Int), t = t3 ∧ s = (t3, ()) ∧ Ho w0 w ((cl r1 [.int .i64 q0_0, .int .i64 q0_1, .slice q0_2 q0_2l q0_2c] N.t_Matrix) :: L)) ?_ h ⟨_, rfl, rfl, hS⟩
        clear h hS
        rintro s w t X q ⟨t3, rfl, rfl, hS⟩ h hX hO
        unfold T_girderref10_Symmetric_b8 at h
        try dsimp only
        refine ⟨_, (hS.cel mp0 rfl), ?_⟩
        refine cond_s h ?_ ?_ <;> clear h <;> intro hc h
        · replace h := bnd h
          obtain ⟨o4, h4, c4⟩ := h
          refine cutM_i (fun s w =>  o4 = .inl () ∧ s = (()) ∧ Ho w0 w ((cl r1 [.int .i64 q0_0, .int .i64 q0_1, .slice q0_2 q0_2l q0_2c] N.t_Matrix) :: L)) (fun J4 hJ4 => ?_) ?_
          · have h := h4
            clear h4
            refine iter_sim (fun s w t => ∃ (t4 : Int), t = t4 ∧ s = (t4, ()) ∧ Ho w0 w ((cl r1 [.int .i64 q0_0, .int .i64 q0_1, .slice q0_2 q0_2l q0_2c] N.t_Matrix) :: L)) ?_ h ⟨_, rfl, rfl, hS⟩
            clear h hS
            rintro s w t X q ⟨t4, rfl, rfl, hS⟩ h hX hO
            unfold T_girderref10_Symmetric_b10 at h
            try dsimp only
            refine cond_s h ?_ ?_ <;> clear h <;> intro hc h
            · refine ⟨_, (hS.cel mp0 rfl), ?_⟩
              refine ⟨_, (hS.cel mp0 rfl), ?_⟩
              refine ⟨_, _, _, (hS.cel mp0 rfl), ?_⟩
              refine ⟨_, (hS.cel mp0 rfl), ?_⟩
              refine ⟨_, (hS.cel mp0 rfl), ?_⟩
              refine ⟨_, _, _, (hS.cel mp0 rfl), ?_⟩
              refine drM_s hS ?_; clear hS; intro w hS
              replace h := bnd h
              obtain ⟨t5, ht5, h⟩ := h
              refine wk_girderref10_At H hS (hq0_2.mono tl1) ht5 ?_; clear hS ht5; rintro z5 w rfl hS
              refine ⟨_, rfl, ?_⟩
              refine ⟨(hS.cel mp0 rfl), ?_⟩
              refine ⟨(hS.cel mp0 rfl), ?_⟩
              refine ⟨(hS.cel mp0 rfl), ?_⟩
              refine drM_s hS ?_; clear hS; intro w hS
              replace h := bnd h
              obtain ⟨t6, ht6, h⟩ := h
              refine wk_girderref10_At H hS (hq0_2.mono tl1) ht6 ?_; clear hS ht6; rintro z6 w rfl hS
              refine ⟨_, rfl, ?_⟩
              refine drM_s hS ?_; clear hS; intro w hS
              replace h := bnd h
              obtain ⟨t7, ht7, h⟩ := h
              refine wk_girderref01_Same H hS  ht7 ?_; clear hS ht7; rintro w hS
              refine ⟨_, rfl, ?_⟩
              refine drM_s hS ?_; clear hS; intro w hS
              refine cond_s h ?_ ?_ <;> clear h <;> intro hc h
              · obtain rfl := some_inj h
                have h := congrArg some (hO _ rfl)
                obtain rfl := some_inj h
                have h := c4
                obtain rfl := some_inj h
                have h := congrArg some (hO _ rfl)
                obtain rfl := some_inj h
                have h := c3
                have h := some_inj h
                cases h
                exact hK _ (hS.pick (A := [_]) [] rfl)
              · obtain rfl := some_inj h
                exact hX _ rfl _ _ ⟨_, rfl, rfl, hS⟩
            · obtain rfl := some_inj h
              have h := congrArg some (hO _ rfl)
              obtain rfl := some_inj h
              exact hJ4 _ _ ⟨rfl, rfl, hS⟩
          · clear h4 hS
            rintro s w ⟨rfl, rfl, hS⟩
            have h := c4
            clear c4
            try dsimp only
            obtain rfl := some_inj h
            exact hX _ rfl _ _ ⟨_, rfl, rfl, hS⟩
        · obtain rfl := some_inj h
          have h := congrArg some (hO _ rfl)
          obtain rfl := some_inj h
          exact hJ3 _ _ ⟨rfl, rfl, (hS.pick (A := [_]) [] rfl)⟩
      · clear h3 hS
        rintro s w ⟨rfl, rfl, hS⟩
        have h := c3
        clear c3
        try dsimp only
        have h := some_inj h
        cases h
        exact hK _ hS

theorem wk_girderref10_Transpose {N : Nums} {P : Program} (H : AllOk N P) {w0 w : World} {L : List It} {q0_0 : Int} {q0_1 : Int} {q0_2 : Option Addr} {q0_2l q0_2c : Nat} {ws0_2 : List Nat} {u0 : Int} {u1 : Int} {u2 : List Nat} {u3 : Int} (hS : Ho w0 w L) (hq0_2 : Ent L (rdA (List.map (Value.float .f64) ws0_2) q0_2 q0_2l q0_2c)) (hx : T_girderref10_Transpose q0_0 q0_1 (List.map nf ws0_2) = some (u0, u1, u2, u3)) {K : Value → World → Prop} (hK : ∀ (a2 : Option Addr) (n2 c2 : Nat) (ws2 : List Nat) (w1 : World), List.map nf ws2 = u2 → Ho w0 w1 ((sl a2 n2 c2 (List.map (Value.float .f64) ws2) N.t_float64) :: L) → K (.tuple #[.agg #[.int .i64 u0, .int .i64 u1, .slice a2 n2 c2], .int .i64 u3]) w1) : CallsX P N.f_girderref10_Transpose #[.agg #[.int .i64 q0_0, .int .i64 q0_1, .slice q0_2 q0_2l q0_2c]] w K := by
  refine H.girderref10_Transpose q0_0 q0_1 q0_2 q0_2l q0_2c w _ ?_
  unfold S_girderref10_Transpose
  unfold T_girderref10_Transpose at hx
  have h := hx
  clear hx
  try dsimp only
  refine newM_s hS ?_; clear hS; intro r1 w hS
  refine newM_s hS ?_; clear hS; intro r2 w hS
  refine ⟨_, (hS.cel mp1 rfl), ?_⟩
  refine ⟨_, (hS.cel mp1 rfl), ?_⟩
  refine ⟨_, _, _, (hS.cel mp1 rfl), ?_⟩
  replace h := bnd h
  obtain ⟨t1, ht1, h⟩ := h
  refine wk_girderref10_Right H hS (hq0_2.mono tl2) ht1 ?_; clear hS ht1; rintro w hS
  refine ⟨_, rfl, ?_⟩
  refine cond_s h ?_ ?_ <;> clear h <;> intro hc h
  · refine stc_s hS rfl rfl ?_; clear hS; intro w hS
    refine stc_s hS rfl rfl ?_; clear hS; intro w hS
    refine stc_s hS rfl rfl ?_; clear hS; intro w hS
    refine ⟨_, (hS.cel mp0 rfl), ?_⟩
    refine ⟨_, (hS.cel mp0 rfl), ?_⟩
    refine ⟨_, _, _, (hS.cel mp0 rfl), ?_⟩
    replace hS := hS.none (α := Nat) (enc := (Value.float .f64)) (t := N.t_float64)
    have h := some_inj h
    cases h
    exact hK _ _ _ _ _ rfl (hS.pick (A := [_, _, _]) [0] rfl)
  · refine ⟨_, (hS.cel mp1 rfl), ?_⟩
    refine ⟨_, (hS.cel mp1 rfl), ?_⟩
    replace h := bnd h
    obtain ⟨⟨t2, t3, t4, t5⟩, ho2, h⟩ := h
    refine wk_girderref10_Make H hS  ho2 ?_; clear hS ho2; rintro a3 m3 c3 ws3 w rfl hS
    refine ⟨_, _, _, _, _, _, rfl, ?_⟩
    refine newM_s hS ?_; clear hS; intro r4 w hS
    refine stc_s hS rfl rfl ?_; clear hS; intro w hS
    refine stc_s hS rfl rfl ?_; clear hS; intro w hS
    refine stc_s hS rfl rfl ?_; clear hS; intro w hS
    replace h := bnd h
    obtain ⟨o6, h6, c6⟩ := h
    refine cutM_i (fun s w => ∃ (ws5 : List Nat), o6 = (List.map nf ws5) ∧ s = (()) ∧ Ho w0 w ((cl r4 [.int .i64 t2, .int .i64 t3, .slice a3 m3 c3] N.t_Matrix) :: (sl a3 m3 c3 (List.map (Value.float .f64) ws5) N.t_float64) :: (cl r2 [.int .i64 0, .int .i64 0, .slice none 0 0] N.t_Matrix) :: L)) (fun J6 hJ6 => ?_) ?_
    · have h := h6
      clear h6
      refine iter_sim (fun s w t => ∃ (t7 : Int) (ws7 : List Nat), t = (t7, (List.map nf ws7)) ∧ s = (t7, ()) ∧ Ho w0 w ((cl r4 [.int .i64 t2, .int .i64 t3, .slice a3 m3 c3] N.t_Matrix) :: (sl a3 m3 c3 (List.map (Value.float .f64) ws7) N.t_float64) :: (cl r2 [.int .i64 0, .int .i64 0, .slice none 0 0] N.t_Matrix) :: (cl r1 [.int .i64 q0_0, .int .i64 q0_1, .slice q0_2 q0_2l q0_2c] N.t_Matrix) :: L)) ?_ h ⟨_, _, rfl, rfl, hS⟩
      clear h hS
      rintro s w t X q ⟨t7, ws7, rfl, rfl, hS⟩ h hX hO
      unfold T_girderref10_Transpose_b12 at h
      try dsimp only
      refine ⟨_, (hS.cel mp3 rfl), ?_⟩
      refine cond_s h ?_ ?_ <;> clear h <;> intro hc h
      · replace h := bnd h
        obtain ⟨o9, h9, c9⟩ := h
        refine cutM_i (fun s w => ∃ (ws8 : List Nat), o9 = (List.map nf ws8) ∧ s = (()) ∧ Ho w0 w ((cl r4 [.int .i64 t2, .int .i64 t3, .slice a3 m3 c3] N.t_Matrix) :: (sl a3 m3 c3 (List.map (Value.float .f64) ws8) N.t_float64) :: (cl r2 [.int .i64 0, .int .i64 0, .slice none 0 0] N.t_Matrix) :: (cl r1 [.int .i64 q0_0, .int .i64 q0_1, .slice q0_2 q0_2l q0_2c] N.t_Matrix) :: L)) (fun J9 hJ9 => ?_) ?_
        · have h := h9
          clear h9
          refine iter_sim (fun s w t => ∃ (t10 : Int) (ws10 : List Nat), t = (t10, (List.map nf ws10)) ∧ s = (t10, ()) ∧ Ho w0 w ((cl r4 [.int .i64 t2, .int .i64 t3, .slice a3 m3 c3] N.t_Matrix) :: (sl a3 m3 c3 (List.map (Value.float .f64) ws10) N.t_float64) :: (cl r2 [.int .i64 0, .int .i64 0, .slice none 0 0] N.t_Matrix) :: (cl r1 [.int .i64 q0_0, .int .i64 q0_1, .slice q0_2 q0_2l q0_2c] N.t_Matrix) :: L)) ?_ h ⟨_, _, rfl, rfl, hS⟩
          clear h hS
          rintro s w t X q ⟨t10, ws10, rfl, rfl, hS⟩ h hX hO
          unfold T_girderref10_Transpose_b14 at h
          try dsimp only
          refine ⟨_, (hS.cel mp3 rfl), ?_⟩
          refine cond_s h ?_ ?_ <;> clear h <;> intro hc h
          · refine ⟨_, _, _, (hS.cel mp0 rfl), ?_⟩
            refine ⟨_, (hS.cel mp3 rfl), ?_⟩
            refine ⟨_, (hS.cel mp3 rfl), ?_⟩
            refine ⟨_, (hS.cel mp3 rfl), ?_⟩
            refine ⟨_, _, _, (hS.cel mp3 rfl), ?_⟩
            refine drM_s hS ?_; clear hS; intro w hS
            replace h := bnd h
            obtain ⟨t12, ht12, h⟩ := h
            refine wk_girderref10_At H hS (hq0_2.mono tl4) ht12 ?_; clear hS ht12; rintro z11 w rfl hS
            refine ⟨_, rfl, ?_⟩
            refine ⟨(hS.cel mp3 rfl), ?_⟩
            refine ⟨(hS.cel mp0 rfl), ?_⟩
            replace h := bnd h
            obtain ⟨t13, ht13, h⟩ := h
            obtain ⟨z12, rfl, q13x, q13l, q13r⟩ := atF ht13
            clear ht13
            refine idx_s ((Ent.sl mp1).now (fun _ h => h) hS) q13x q13l q13r ?_; intro b14 hb14
            refine drM_s hS ?_; clear hS; intro w hS
            replace hS := ro1 hS
            replace h := bnd h
            obtain ⟨t14, ht14, h⟩ := h
            obtain rfl := setF ht14
            clear ht14
            refine sto_s hS hb14 q13r ?_; clear hS; intro w hS
            refine drM_s hS ?_; clear hS; intro w hS
            obtain rfl := some_inj h
            exact hX _ rfl _ _ ⟨_, _, rfl, rfl, (hS.pick (A := [_, _, _, _]) [1, 0, 0, 0] rfl)⟩
          · obtain rfl := some_inj h
            have h := congrArg some (hO _ rfl)
            obtain rfl := some_inj h
            exact hJ9 _ _ ⟨_, rfl, rfl, hS⟩
        · clear h9 hS
          rintro s w ⟨ws8, rfl, rfl, hS⟩
          have h := c9
          clear c9
          try dsimp only
          obtain rfl := some_inj h
          exact hX _ rfl _ _ ⟨_, _, rfl, rfl, hS⟩
      · obtain rfl := some_inj h
        have h := congrArg some (hO _ rfl)
        obtain rfl := some_inj h
        exact hJ6 _ _ ⟨_, rfl, rfl, (hS.pick (A := [_, _, _, _]) [0, 0, 0] rfl)⟩
    · clear h6 hS
      rintro s w ⟨ws5, rfl, rfl, hS⟩
      have h := c6
      clear c6
      try dsimp only
      refine ⟨_, (hS.cel mp0 rfl), ?_⟩
      refine ⟨_, (hS.cel mp0 rfl), ?_⟩
      refine ⟨_, _, _, (hS.cel mp0 rfl), ?_⟩
      replace hS := ro2 hS
      refine stc_s hS rfl rfl ?_; clear hS; intro w hS
      refine stc_s hS rfl rfl ?_; clear hS; intro w hS
      refine stc_s hS rfl rfl ?_; clear hS; intro w hS
      refine ⟨_, (hS.cel mp0 rfl), ?_⟩
      refine ⟨_, (hS.cel mp0 rfl), ?_⟩
      refine ⟨_, _, _, (hS.cel mp0 rfl), ?_⟩
      have h := some_inj h
      cases h
      exact hK _ _ _ _ _ rfl (hS.pick (A := [_, _, _]) [2] rfl)

theorem wk_girderref10_Sub {N : Nums} {P : Program} (H : AllOk N P) {w0 w : World} {L : List It} {q0_0 : Int} {q0_1 : Int} {q0_2 : Option Addr} {q0_2l q0_2c : Nat} {ws0_2 : List Nat} {q1_0 : Int} {q1_1 : Int} {q1_2 : Option Addr} {q1_2l q1_2c : Nat} {ws1_2 : List Nat} {u0 : Int} {u1 : Int} {u2 : List Nat} {u3 : Int} (hS : Ho w0 w L) (hq0_2 : Ent L (rdA (List.map (Value.float .f64) ws0_2) q0_2 q0_2l q0_2c)) (hq1_2 : Ent L (rdA (List.map (Value.float .f64) ws1_2) q1_2 q1_2l q1_2c)) (hx : T_girderref10_Sub q0_0 q0_1 (List.map nf ws0_2) q1_0 q1_1 (List.map nf ws1_2) = some (u0, u1, u2, u3)) {K : Value → World → Prop} (hK : ∀ (a2 : Option Addr) (n2 c2 : Nat) (ws2 : List Nat) (w1 : World), List.map nf ws2 = u2 → Ho w0 w1 ((sl a2 n2 c2 (List.map (Value.float .f64) ws2) N.t_float64) :: L) → K (.tuple #[.agg #[.int .i64 u0, .int .i64 u1, .slice a2 n2 c2], .int .i64 u3]) w1) : CallsX P N.f_girderref10_Sub #[.agg #[.int .i64 q0_0, .int .i64 q0_1, .slice q0_2 q0_2l q0_2c], .agg #[.int .i64 q1_0, .int .i64 q1_1, .slice q1_2 q1_2l q1_2c]] w K := by
  refine H.girderref10_Sub q0_0 q0_1 q0_2 q0_2l q0_2c q1_0 q1_1 q1_2 q1_2l q1_2c w _ ?_
  unfold S_girderref10_Sub
  unfold T_girderref10_Sub at hx
  have h := hx
  clear hx
  try dsimp only
  refine newM_s hS ?_; clear hS; intro r1 w hS
  refine newM_s hS ?_; clear hS; intro r2 w hS
  refine newM_s hS ?_; clear hS; intro r3 w hS
  replace h := bnd h
  obtain ⟨o4, h4, c4⟩ := h
  refine cutM_i (fun s w => ∃ (t1 : Bool), o4 = t1 ∧ s = (t1, ()) ∧ Ho w0 w ((cl r3 [.int .i64 0, .int .i64 0, .slice none 0 0] N.t_Matrix) :: (cl r2 [.int .i64 q1_0, .int .i64 q1_1, .slice q1_2 q1_2l q1_2c] N.t_Matrix) :: (cl r1 [.int .i64 q0_0, .int .i64 q0_1, .slice q0_2 q0_2l q0_2c] N.t_Matrix) :: L)) (fun J4 hJ4 => ?_) ?_
  · have h := h4
    clear h4
    refine ⟨_, (hS.cel mp2 rfl), ?_⟩
    refine ⟨_, (hS.cel mp2 rfl), ?_⟩
    refine ⟨_, _, _, (hS.cel mp2 rfl), ?_⟩
    replace h := bnd h
    obtain ⟨t2, ht2, h⟩ := h
    refine wk_girderref10_Right H hS (hq0_2.mono tl3) ht2 ?_; clear hS ht2; rintro w hS
    refine ⟨_, rfl, ?_⟩
    refine cond_s h ?_ ?_ <;> clear h <;> intro hc h
    · refine ⟨_, (hS.cel mp1 rfl), ?_⟩
      refine ⟨_, (hS.cel mp1 rfl), ?_⟩
      refine ⟨_, _, _, (hS.cel mp1 rfl), ?_⟩
      replace h := bnd h
      obtain ⟨t3, ht3, h⟩ := h
      refine wk_girderref10_Right H hS (hq1_2.mono tl3) ht3 ?_; clear hS ht3; rintro w hS
      refine ⟨_, rfl, ?_⟩
      refine cond_s h ?_ ?_ <;> clear h <;> intro hc h
      · refine ⟨_, (hS.cel mp2 rfl), ?_⟩
        refine ⟨_, (hS.cel mp1 rfl), ?_⟩
        refine cond_s h ?_ ?_ <;> clear h <;> intro hc h
        · refine ⟨_, (hS.cel mp2 rfl), ?_⟩
          refine ⟨_, (hS.cel mp1 rfl), ?_⟩
          obtain rfl := some_inj h
          exact hJ4 _ _ ⟨_, rfl, rfl, hS⟩
        · obtain rfl := some_inj h
          exact hJ4 _ _ ⟨_, rfl, rfl, hS⟩
      · obtain rfl := some_inj h
        exact hJ4 _ _ ⟨_, rfl, rfl, hS⟩
    · obtain rfl := some_inj h
      exact hJ4 _ _ ⟨_, rfl, rfl, hS⟩
  · clear h4 hS
    rintro s w ⟨t1, rfl, rfl, hS⟩
    have h := c4
    clear c4
    try dsimp only
    refine cond_s h ?_ ?_ <;> clear h <;> intro hc h
    · refine stc_s hS rfl rfl ?_; clear hS; intro w hS
      refine stc_s hS rfl rfl ?_; clear hS; intro w hS
      refine stc_s hS rfl rfl ?_; clear hS; intro w hS
      refine ⟨_, (hS.cel mp0 rfl), ?_⟩
      refine ⟨_, (hS.cel mp0 rfl), ?_⟩
      refine ⟨_, _, _, (hS.cel mp0 rfl), ?_⟩
      replace hS := hS.none (α := Nat) (enc := (Value.float .f64)) (t := N.t_float64)
      have h := some_inj h
      cases h
      exact hK _ _ _ _ _ rfl (hS.pick (A := [_, _, _, _]) [0] rfl)
    · refine ⟨_, (hS.cel mp2 rfl), ?_⟩
      refine ⟨_, (hS.cel mp2 rfl), ?_⟩
      replace h := bnd h
      obtain ⟨⟨t4, t5, t6, t7⟩, ho4, h⟩ := h
      refine wk_girderref10_Make H hS  ho4 ?_; clear hS ho4; rintro a5 m5 c5 ws5 w rfl hS
      refine ⟨_, _, _, _, _, _, rfl, ?_⟩
      refine newM_s hS ?_; clear hS; intro r6 w hS
      refine stc_s hS rfl rfl ?_; clear hS; intro w hS
      refine stc_s hS rfl rfl ?_; clear hS; intro w hS
      refine stc_s hS rfl rfl ?_; clear hS; intro w hS
      replace h := bnd h
      obtain ⟨o8, h8, c8⟩ := h
      refine cutM_i (fun s w => ∃ (ws7 : List Nat), o8 = (List.map nf ws7) ∧ s = (()) ∧ Ho w0 w ((cl r6 [.int .i64 t4, .int .i64 t5, .slice a5 m5 c5] N.t_Matrix) :: (sl a5 m5 c5 (List.map (Value.float .f64) ws7) N.t_float64) :: (cl r3 [.int .i64 0, .int .i64 0, .slice none 0 0] N.t_Matrix) :: L)) (fun J8 hJ8 => ?_) ?_
      · have h := h8
        clear h8
        refine iter_sim (fun s w t => ∃ (t9 : Int) (ws9 : List Nat), t = (t9, (List.map nf ws9)) ∧ s = (t9, ()) ∧ Ho w0 w ((cl r6 [.int .i64 t4, .int .i64 t5, .slice a5 m5 c5] N.t_Matrix) :: (sl a5 m5 c5 (List.map (Value.float .f64) ws9) N.t_float64) :: (cl r3 [.int .i64 0, .int .i64 0, .slice none 0 0] N.t_Matrix) :: (cl r2 [.int .i64 q1_0, .int .i64 q1_1, .slice q1_2 q1_2l q1_2c] N.t_Matrix) :: (cl r1 [.int .i64 q0_0, .int .i64 q0_1, .slice q0_2 q0_2l q0_2c] N.t_Matrix) :: L)) ?_ h ⟨_, _, rfl, rfl, hS⟩
        clear h hS
        rintro s w t X q ⟨t9, ws9, rfl, rfl, hS⟩ h hX hO
        unfold T_girderref10_Sub_b2 at h
        try dsimp only
        refine ⟨_, _, _, (hS.cel mp4 rfl), ?_⟩
        replace h := bnd h
        obtain ⟨t11, ht11, h⟩ := h
        obtain rfl := lenF ht11 ((hq0_2.mono tl5).now (fun _ h => h) hS)
        clear ht11
        refine cond_s h ?_ ?_ <;> clear h <;> intro hc h
        · refine ⟨_, _, _, (hS.cel mp0 rfl), ?_⟩
          refine ⟨_, _, _, (hS.cel mp4 rfl), ?_⟩
          replace h := bnd h
          obtain ⟨t12, ht12, h⟩ := h
          obtain ⟨z10, rfl, q11x, q11l, q11r⟩ := atF ht12
          clear ht12
          refine idx_s ((hq0_2.mono tl5).now (fun _ h => h) hS) q11x q11l q11r ?_; intro b12 hb12
          refine ⟨_, rd_get ((hq0_2.mono tl5).now (fun _ h => h) hS) hb12 q11x, ?_⟩
          refine ⟨_, _, _, (hS.cel mp3 rfl), ?_⟩
          replace h := bnd h
          obtain ⟨t13, ht13, h⟩ := h
          obtain ⟨z13, rfl, q14x, q14l, q14r⟩ := atF ht13
          clear ht13
          refine idx_s ((hq1_2.mono tl5).now (fun _ h => h) hS) q14x q14l q14r ?_; intro b15 hb15
          refine ⟨_, rd_get ((hq1_2.mono tl5).now (fun _ h => h) hS) hb15 q14x, ?_⟩
          replace h := bnd h
          obtain ⟨t14, ht14, h⟩ := h
          refine fsub_s ht14 hS ?_; clear ht14; rintro z16 _ rfl _
          replace h := bnd h
          obtain ⟨t15, ht15, h⟩ := h
          obtain ⟨z17, rfl, q18x, q18l, q18r⟩ := atF ht15
          clear ht15
          refine idx_s ((Ent.sl mp1).now (fun _ h => h) hS) q18x q18l q18r ?_; intro b19 hb19
          refine drM_s hS ?_; clear hS; intro w hS
          replace hS := ro1 hS
          replace h := bnd h
          obtain ⟨t16, ht16, h⟩ := h
          obtain rfl := setF ht16
          clear ht16
          refine sto_s hS hb19 q18r ?_; clear hS; intro w hS
          refine drM_s hS ?_; clear hS; intro w hS
          obtain rfl := some_inj h
          exact hX _ rfl _ _ ⟨_, _, rfl, rfl, (hS.pick (A := [_, _, _, _, _]) [1, 0, 0, 0, 0] rfl)⟩
        · obtain rfl := some_inj h
          have h := congrArg some (hO _ rfl)
          obtain rfl := some_inj h
          exact hJ8 _ _ ⟨_, rfl, rfl, (hS.pick (A := [_, _, _, _, _]) [0, 0, 0] rfl)⟩
      · clear h8 hS
        rintro s w ⟨ws7, rfl, rfl, hS⟩
        have h := c8
        clear c8
        try dsimp only
        refine ⟨_, (hS.cel mp0 rfl), ?_⟩
        refine ⟨_, (hS.cel mp0 rfl), ?_⟩
        refine ⟨_, _, _, (hS.cel mp0 rfl), ?_⟩
        replace hS := ro2 hS
        refine stc_s hS rfl rfl ?_; clear hS; intro w hS
        refine stc_s hS rfl rfl ?_; clear hS; intro w hS
        refine stc_s hS rfl rfl ?_; clear hS; intro w hS
        refine ⟨_, (hS.cel mp0 rfl), ?_⟩
        refine ⟨_, (hS.cel mp0 rfl), ?_⟩
        refine ⟨_, _, _, (hS.cel mp0 rfl), ?_⟩
        have h := some_inj h
        cases h
        exact hK _ _ _ _ _ rfl (hS.pick (A := [_, _, _]) [2] rfl)

theorem wk_girderref01_Finite {N : Nums} {P : Program} (H : AllOk N P) {w0 w : World} {L : List It} {q0 : Nat} {u0 : Bool} (hS : Ho w0 w L)  (hx : T_girderref01_Finite (nf q0) = some u0) {K : Value → World → Prop} (hK : ∀  (w1 : World), Ho w0 w1 (L) → K (.bool u0) w1) : CallsX P N.f_girderref01_Finite #[.float .f64 q0] w K := by
  refine H.girderref01_Finite q0 w _ ?_
  unfold S_girderref01_Finite
  unfold T_girderref01_Finite at hx
  have h := hx
  clear hx
  try dsimp only
  replace h := bnd h
  obtain ⟨t1, ht1, h⟩ := h
  refine wk_girderref01_Kind H hS  ht1 ?_; clear hS ht1; rintro w hS
  refine ⟨_, rfl, ?_⟩
  have h := some_inj h
  cases h
  exact hK _ hS

theorem wk_girderref03_Finite {N : Nums} {P : Program} (H : AllOk N P) {w0 w : World} {L : List It} {q0 : Nat} {u0 : Bool} (hS : Ho w0 w L)  (hx : T_girderref03_Finite (nf q0) = some u0) {K : Value → World → Prop} (hK : ∀  (w1 : World), Ho w0 w1 (L) → K (.bool u0) w1) : CallsX P N.f_girderref03_Finite #[.float .f64 q0] w K := by
  refine H.girderref03_Finite q0 w _ ?_
  unfold S_girderref03_Finite
  unfold T_girderref03_Finite at hx
  have h := hx
  clear hx
  try dsimp only
  replace h := bnd h
  obtain ⟨t1, ht1, h⟩ := h
  refine fsub_s ht1 hS ?_; clear hS ht1; rintro z1 w rfl hS
  replace h := bnd h
  obtain ⟨t2, ht2, h⟩ := h
  obtain rfl := feq_s ht2
  clear ht2
  have h := some_inj h
  cases h
  exact hK _ hS

theorem wk_girderref03_great {N : Nums} {P : Program} (H : AllOk N P) {w0 w : World} {L : List It} {q0 : Nat} {q1 : Int} {u0 : Nat} (hS : Ho w0 w L)  (hx : T_girderref03_great (nf q0) q1 = some u0) {K : Value → World → Prop} (hK : ∀ (z0 : Nat) (w1 : World), nf z0 = u0 → Ho w0 w1 (L) → K (.float .f64 z0) w1) : CallsX P N.f_girderref03_great #[.float .f64 q0, .int .i8 q1] w K := by
  refine H.girderref03_great q0 q1 w _ ?_
  unfold S_girderref03_great
  unfold T_girderref03_great at hx
  have h := hx
  clear hx
  try dsimp only
  refine cond_s h ?_ ?_ <;> clear h <;> intro hc h
  · replace h := bnd h
    obtain ⟨t1, ht1, h⟩ := h
    obtain rfl := fgt_s ht1
    clear ht1
    refine cond_s h ?_ ?_ <;> clear h <;> intro hc h
    · refine cond_s h ?_ ?_ <;> clear h <;> intro hc h
      · replace h := bnd h
        obtain ⟨t2, ht2, h⟩ := h
        obtain rfl := flt_s ht2
        clear ht2
        refine cond_s h ?_ ?_ <;> clear h <;> intro hc h
        · refine cond_s h ?_ ?_ <;> clear h <;> intro hc h
          · replace h := bnd h
            obtain ⟨t3, ht3, h⟩ := h
            refine wk_math_Copysign H hS  ht3 ?_; clear hS ht3; rintro z1 w rfl hS
            refine ⟨_, rfl, ?_⟩
            have h := some_inj h
            cases h
            exact hK _ _ rfl hS
          · have h := some_inj h
            cases h
            exact hK _ _ rfl hS
        · have h := some_inj h
          cases h
          exact hK _ _ rfl hS
      · replace h := bnd h
        obtain ⟨t4, ht4, h⟩ := h
        refine wk_math_Copysign H hS  ht4 ?_; clear hS ht4; rintro z2 w rfl hS
        refine ⟨_, rfl, ?_⟩
        have h := some_inj h
        cases h
        exact hK _ _ rfl hS
    · replace h := bnd h
      obtain ⟨t5, ht5, h⟩ := h
      obtain rfl := flt_s ht5
      clear ht5
      refine cond_s h ?_ ?_ <;> clear h <;> intro hc h
      · refine cond_s h ?_ ?_ <;> clear h <;> intro hc h
        · replace h := bnd h
          obtain ⟨t6, ht6, h⟩ := h
          refine wk_math_Copysign H hS  ht6 ?_; clear hS ht6; rintro z3 w rfl hS
          refine ⟨_, rfl, ?_⟩
          have h := some_inj h
          cases h
          exact hK _ _ rfl hS
        · have h := some_inj h
          cases h
          exact hK _ _ rfl hS
      · have h := some_inj h
        cases h
        exact hK _ _ rfl hS
  · replace h := bnd h
    obtain ⟨t7, ht7, h⟩ := h
    refine wk_math_Copysign H hS  ht7 ?_; clear hS ht7; rintro z4 w rfl hS
    refine ⟨_, rfl, ?_⟩
    have h := some_inj h
    cases h
    exact hK _ _ rfl hS

theorem wk_girderref03_nought {N : Nums} {P : Program} (H : AllOk N P) {w0 w : World} {L : List It} {q0 : Bool} {q1 : Bool} {q2 : Nat} {q3 : Int} {u0 : Nat} (hS : Ho w0 w L)  (hx : T_girderref03_nought q0 q1 (nf q2) q3 = some u0) {K : Value → World → Prop} (hK : ∀ (z0 : Nat) (w1 : World), nf z0 = u0 → Ho w0 w1 (L) → K (.float .f64 z0) w1) : CallsX P N.f_girderref03_nought #[.bool q0, .bool q1, .float .f64 q2, .int .i8 q3] w K := by
  refine H.girderref03_nought q0 q1 q2 q3 w _ ?_
  unfold S_girderref03_nought
  unfold T_girderref03_nought at hx
  have h := hx
  clear hx
  try dsimp only
  refine cond_s h ?_ ?_ <;> clear h <;> intro hc h
  · replace h := bnd h
    obtain ⟨t1, ht1, h⟩ := h
    obtain rfl := feq_s ht1
    clear ht1
    refine cond_s h ?_ ?_ <;> clear h <;> intro hc h
    · replace h := bnd h
      obtain ⟨t2, ht2, h⟩ := h
      refine wk_math_Signbit H hS  ht2 ?_; clear hS ht2; rintro w hS
      refine ⟨_, rfl, ?_⟩
      refine cond_s h ?_ ?_ <;> clear h <;> intro hc h
      · have h := some_inj h
        cases h
        exact hK _ _ rfl hS
      · refine cond_s h ?_ ?_ <;> clear h <;> intro hc h
        · replace h := bnd h
          obtain ⟨t3, ht3, h⟩ := h
          refine wk_math_Copysign H hS  ht3 ?_; clear hS ht3; rintro z1 w rfl hS
          refine ⟨_, rfl, ?_⟩
          have h := some_inj h
          cases h
          exact hK _ _ rfl hS
        · have h := some_inj h
          cases h
          exact hK _ _ rfl hS
    · refine cond_s h ?_ ?_ <;> clear h <;> intro hc h
      · replace h := bnd h
        obtain ⟨t4, ht4, h⟩ := h
        refine wk_math_Copysign H hS  ht4 ?_; clear hS ht4; rintro z2 w rfl hS
        refine ⟨_, rfl, ?_⟩
        have h := some_inj h
        cases h
        exact hK _ _ rfl hS
      · have h := some_inj h
        cases h
        exact hK _ _ rfl hS
  · refine cond_s h ?_ ?_ <;> clear h <;> intro hc h
    · replace h := bnd h
      obtain ⟨t5, ht5, h⟩ := h
      refine wk_math_Copysign H hS  ht5 ?_; clear hS ht5; rintro z3 w rfl hS
      refine ⟨_, rfl, ?_⟩
      have h := some_inj h
      cases h
      exact hK _ _ rfl hS
    · have h := some_inj h
      cases h
      exact hK _ _ rfl hS

theorem wk_girderref03_sign {N : Nums} {P : Program} (H : AllOk N P) {w0 w : World} {L : List It} {q0 : Nat} {u0 : Int} (hS : Ho w0 w L)  (hx : T_girderref03_sign (nf q0) = some u0) {K : Value → World → Prop} (hK : ∀  (w1 : World), Ho w0 w1 (L) → K (.int .i64 u0) w1) : CallsX P N.f_girderref03_sign #[.float .f64 q0] w K := by
  refine H.girderref03_sign q0 w _ ?_
  unfold S_girderref03_sign
  unfold T_girderref03_sign at hx
  have h := hx
  clear hx
  try dsimp only
  replace h := bnd h
  obtain ⟨t1, ht1, h⟩ := h
  obtain rfl := flt_s ht1
  clear ht1
  refine cond_s h ?_ ?_ <;> clear h <;> intro hc h
  · have h := some_inj h
    cases h
    exact hK _ hS
  · replace h := bnd h
    obtain ⟨t2, ht2, h⟩ := h
    obtain rfl := fgt_s ht2
    clear ht2
    refine cond_s h ?_ ?_ <;> clear h <;> intro hc h
    · have h := some_inj h
      cases h
      exact hK _ hS
    · have h := some_inj h
      cases h
      exact hK _ hS

theorem wk_girderref03_further {N : Nums} {P : Program} (H : AllOk N P) {w0 w : World} {L : List It} {q0 : Nat} {u0 : Nat} (hS : Ho w0 w L)  (hx : T_girderref03_further (nf q0) = some u0) {K : Value → World → Prop} (hK : ∀ (z0 : Nat) (w1 : World), nf z0 = u0 → Ho w0 w1 (L) → K (.float .f64 z0) w1) : CallsX P N.f_girderref03_further #[.float .f64 q0] w K := by
  refine H.girderref03_further q0 w _ ?_
  unfold S_girderref03_further
  unfold T_girderref03_further at hx
  have h := hx
  clear hx
  try dsimp only
  replace h := bnd h
  obtain ⟨t1, ht1, h⟩ := h
  refine wk_math_Float64bits H hS  ht1 ?_; clear hS ht1; rintro w hS
  refine ⟨_, rfl, ?_⟩
  replace h := bnd h
  obtain ⟨t2, ht2, h⟩ := h
  refine wk_math_Float64frombits H hS  ht2 ?_; clear hS ht2; rintro z1 w rfl hS
  refine ⟨_, rfl, ?_⟩
  have h := some_inj h
  cases h
  exact hK _ _ rfl hS

theorem wk_girderref03_nearer {N : Nums} {P : Program} (H : AllOk N P) {w0 w : World} {L : List It} {q0 : Nat} {u0 : Nat} (hS : Ho w0 w L)  (hx : T_girderref03_nearer (nf q0) = some u0) {K : Value → World → Prop} (hK : ∀ (z0 : Nat) (w1 : World), nf z0 = u0 → Ho w0 w1 (L) → K (.float .f64 z0) w1) : CallsX P N.f_girderref03_nearer #[.float .f64 q0] w K := by
  refine H.girderref03_nearer q0 w _ ?_
  unfold S_girderref03_nearer
  unfold T_girderref03_nearer at hx
  have h := hx
  clear hx
  try dsimp only
  replace h := bnd h
  obtain ⟨t1, ht1, h⟩ := h
  refine wk_math_Float64bits H hS  ht1 ?_; clear hS ht1; rintro w hS
  refine ⟨_, rfl, ?_⟩
  replace h := bnd h
  obtain ⟨t2, ht2, h⟩ := h
  refine wk_math_Float64frombits H hS  ht2 ?_; clear hS ht2; rintro z1 w rfl hS
  refine ⟨_, rfl, ?_⟩
  have h := some_inj h
  cases h
  exact hK _ _ rfl hS

theorem wk_girderref03_up {N : Nums} {P : Program} (H : AllOk N P) {w0 w : World} {L : List It} {q0 : Nat} {u0 : Nat} (hS : Ho w0 w L)  (hx : T_girderref03_up (nf q0) = some u0) {K : Value → World → Prop} (hK : ∀ (z0 : Nat) (w1 : World), nf z0 = u0 → Ho w0 w1 (L) → K (.float .f64 z0) w1) : CallsX P N.f_girderref03_up #[.float .f64 q0] w K := by
  refine H.girderref03_up q0 w _ ?_
  unfold S_girderref03_up
  unfold T_girderref03_up at hx
  have h := hx
  clear hx
  try dsimp only
  replace h := bnd h
  obtain ⟨t1, ht1, h⟩ := h
  obtain rfl := feq_s ht1
  clear ht1
  refine cond_s h ?_ ?_ <;> clear h <;> intro hc h
  · replace h := bnd h
    obtain ⟨t2, ht2, h⟩ := h
    refine wk_math_Float64frombits H hS  ht2 ?_; clear hS ht2; rintro z1 w rfl hS
    refine ⟨_, rfl, ?_⟩
    have h := some_inj h
    cases h
    exact hK _ _ rfl hS
  · replace h := bnd h
    obtain ⟨t3, ht3, h⟩ := h
    obtain rfl := fgt_s ht3
    clear ht3
    refine cond_s h ?_ ?_ <;> clear h <;> intro hc h
    · replace h := bnd h
      obtain ⟨t4, ht4, h⟩ := h
      refine wk_girderref03_further H hS  ht4 ?_; clear hS ht4; rintro z2 w rfl hS
      refine ⟨_, rfl, ?_⟩
      have h := some_inj h
      cases h
      exact hK _ _ rfl hS
    · replace h := bnd h
      obtain ⟨t5, ht5, h⟩ := h
      refine wk_girderref03_nearer H hS  ht5 ?_; clear hS ht5; rintro z3 w rfl hS
      refine ⟨_, rfl, ?_⟩
      have h := some_inj h
      cases h
      exact hK _ _ rfl hS

theorem wk_girderref03_down {N : Nums} {P : Program} (H : AllOk N P) {w0 w : World} {L : List It} {q0 : Nat} {u0 : Nat} (hS : Ho w0 w L)  (hx : T_girderref03_down (nf q0) = some u0) {K : Value → World → Prop} (hK : ∀ (z0 : Nat) (w1 : World), nf z0 = u0 → Ho w0 w1 (L) → K (.float .f64 z0) w1) : CallsX P N.f_girderref03_down #[.float .f64 q0] w K := by
  refine H.girderref03_down q0 w _ ?_
  unfold S_girderref03_down
  unfold T_girderref03_down at hx
  have h := hx
  clear hx
  try dsimp only
  replace h := bnd h
  obtain ⟨t1, ht1, h⟩ := h
  obtain rfl := fneg_s ht1
  clear ht1
  replace h := bnd h
  obtain ⟨t2, ht2, h⟩ := h
  refine wk_girderref03_up H hS  ht2 ?_; clear hS ht2; rintro z1 w rfl hS
  refine ⟨_, rfl, ?_⟩
  replace h := bnd h
  obtain ⟨t3, ht3, h⟩ := h
  obtain rfl := fneg_s ht3
  clear ht3
  have h := some_inj h
  cases h
  exact hK _ _ rfl hS

theorem wk_girderref03_side {N : Nums} {P : Program} (H : AllOk N P) {w0 w : World} {L : List It} {q0 : Nat} {q1 : Int} {q2 : Int} {u0 : Nat} (hS : Ho w0 w L)  (hx : T_girderref03_side (nf q0) q1 q2 = some u0) {K : Value → World → Prop} (hK : ∀ (z0 : Nat) (w1 : World), nf z0 = u0 → Ho w0 w1 (L) → K (.float .f64 z0) w1) : CallsX P N.f_girderref03_side #[.float .f64 q0, .int .i64 q1, .int .i8 q2] w K := by
  refine H.girderref03_side q0 q1 q2 w _ ?_
  unfold S_girderref03_side
  unfold T_girderref03_side at hx
  have h := hx
  clear hx
  try dsimp only
  replace h := bnd h
  obtain ⟨t1, ht1, h⟩ := h
  refine wk_math_Signbit H hS  ht1 ?_; clear hS ht1; rintro w hS
  refine ⟨_, rfl, ?_⟩
  replace h := bnd h
  obtain ⟨o1, h1, c1⟩ := h
  refine cutM_i (fun s w => ∃ (t2 : Bool), o1 = t2 ∧ s = (t2, ()) ∧ Ho w0 w (L)) (fun J1 hJ1 => ?_) ?_
  · have h := h1
    clear h1
    refine cond_s h ?_ ?_ <;> clear h <;> intro hc h
    · refine cond_s h ?_ ?_ <;> clear h <;> intro hc h
      · refine cond_s h ?_ ?_ <;> clear h <;> intro hc h
        · refine cond_s h ?_ ?_ <;> clear h <;> intro hc h
          · replace h := bnd h
            obtain ⟨t3, ht3, h⟩ := h
            obtain rfl := fne_s ht3
            clear ht3
            obtain rfl := some_inj h
            exact hJ1 _ _ ⟨_, rfl, rfl, hS⟩
          · obtain rfl := some_inj h
            exact hJ1 _ _ ⟨_, rfl, rfl, hS⟩
        · obtain rfl := some_inj h
          exact hJ1 _ _ ⟨_, rfl, rfl, hS⟩
      · obtain rfl := some_inj h
        exact hJ1 _ _ ⟨_, rfl, rfl, hS⟩
    · obtain rfl := some_inj h
      exact hJ1 _ _ ⟨_, rfl, rfl, hS⟩
  · clear h1 hS
    rintro s w ⟨t2, rfl, rfl, hS⟩
    have h := c1
    clear c1
    try dsimp only
    refine cond_s h ?_ ?_ <;> clear h <;> intro hc h
    · replace h := bnd h
      obtain ⟨t4, ht4, h⟩ := h
      refine wk_girderref03_down H hS  ht4 ?_; clear hS ht4; rintro z2 w rfl hS
      refine ⟨_, rfl, ?_⟩
      have h := some_inj h
      cases h
      exact hK _ _ rfl hS
    · refine cond_s h ?_ ?_ <;> clear h <;> intro hc h
      · refine cond_s h ?_ ?_ <;> clear h <;> intro hc h
        · refine cond_s h ?_ ?_ <;> clear h <;> intro hc h
          · refine cond_s h ?_ ?_ <;> clear h <;> intro hc h
            · replace h := bnd h
              obtain ⟨t5, ht5, h⟩ := h
              obtain rfl := fne_s ht5
              clear ht5
              refine cond_s h ?_ ?_ <;> clear h <;> intro hc h
              · replace h := bnd h
                obtain ⟨t6, ht6, h⟩ := h
                refine wk_girderref03_up H hS  ht6 ?_; clear hS ht6; rintro z3 w rfl hS
                refine ⟨_, rfl, ?_⟩
                have h := some_inj h
                cases h
                exact hK _ _ rfl hS
              · have h := some_inj h
                cases h
                exact hK _ _ rfl hS
            · have h := some_inj h
              cases h
              exact hK _ _ rfl hS
          · have h := some_inj h
            cases h
            exact hK _ _ rfl hS
        · replace h := bnd h
          obtain ⟨t7, ht7, h⟩ := h
          refine wk_girderref03_up H hS  ht7 ?_; clear hS ht7; rintro z4 w rfl hS
          refine ⟨_, rfl, ?_⟩
          have h := some_inj h
          cases h
          exact hK _ _ rfl hS
      · have h := some_inj h
        cases h
        exact hK _ _ rfl hS

theorem wk_girderref03_Add {N : Nums} {P : Program} (H : AllOk N P) {w0 w : World} {L : List It} {q0 : Nat} {q1 : Nat} {q2 : Int} {u0 : Nat} (hS : Ho w0 w L)  (hx : T_girderref03_Add (nf q0) (nf q1) q2 = some u0) {K : Value → World → Prop} (hK : ∀ (z0 : Nat) (w1 : World), nf z0 = u0 → Ho w0 w1 (L) → K (.float .f64 z0) w1) : CallsX P N.f_girderref03_Add #[.float .f64 q0, .float .f64 q1, .int .i8 q2] w K := by
  refine H.girderref03_Add q0 q1 q2 w _ ?_
  unfold S_girderref03_Add
  unfold T_girderref03_Add at hx
  have h := hx
  clear hx
  try dsimp only
  replace h := bnd h
  obtain ⟨t1, ht1, h⟩ := h
  refine fadd_s ht1 hS ?_; clear hS ht1; rintro z1 w rfl hS
  replace h := bnd h
  obtain ⟨t2, ht2, h⟩ := h
  refine wk_girderref03_Finite H hS  ht2 ?_; clear hS ht2; rintro w hS
  refine ⟨_, rfl, ?_⟩
  refine cond_s h ?_ ?_ <;> clear h <;> intro hc h
  · replace h := bnd h
    obtain ⟨t3, ht3, h⟩ := h
    refine wk_girderref03_Finite H hS  ht3 ?_; clear hS ht3; rintro w hS
    refine ⟨_, rfl, ?_⟩
    refine cond_s h ?_ ?_ <;> clear h <;> intro hc h
    · have h := some_inj h
      cases h
      exact hK _ _ rfl hS
    · replace h := bnd h
      obtain ⟨t4, ht4, h⟩ := h
      refine wk_girderref03_Finite H hS  ht4 ?_; clear hS ht4; rintro w hS
      refine ⟨_, rfl, ?_⟩
      refine cond_s h ?_ ?_ <;> clear h <;> intro hc h
      · replace h := bnd h
        obtain ⟨t5, ht5, h⟩ := h
        refine wk_girderref03_great H hS  ht5 ?_; clear hS ht5; rintro z2 w rfl hS
        refine ⟨_, rfl, ?_⟩
        have h := some_inj h
        cases h
        exact hK _ _ rfl hS
      · replace h := bnd h
        obtain ⟨t6, ht6, h⟩ := h
        obtain rfl := feq_s ht6
        clear ht6
        refine cond_s h ?_ ?_ <;> clear h <;> intro hc h
        · replace h := bnd h
          obtain ⟨t7, ht7, h⟩ := h
          obtain rfl := feq_s ht7
          clear ht7
          replace h := bnd h
          obtain ⟨t8, ht8, h⟩ := h
          refine wk_math_Signbit H hS  ht8 ?_; clear hS ht8; rintro w hS
          refine ⟨_, rfl, ?_⟩
          replace h := bnd h
          obtain ⟨t9, ht9, h⟩ := h
          refine wk_girderref03_nought H hS  ht9 ?_; clear hS ht9; rintro z3 w rfl hS
          refine ⟨_, rfl, ?_⟩
          have h := some_inj h
          cases h
          exact hK _ _ rfl hS
        · replace h := bnd h
          obtain ⟨t10, ht10, h⟩ := h
          refine wk_math_Abs H hS  ht10 ?_; clear hS ht10; rintro z4 w rfl hS
          refine ⟨_, rfl, ?_⟩
          replace h := bnd h
          obtain ⟨t11, ht11, h⟩ := h
          refine wk_math_Abs H hS  ht11 ?_; clear hS ht11; rintro z5 w rfl hS
          refine ⟨_, rfl, ?_⟩
          replace h := bnd h
          obtain ⟨t12, ht12, h⟩ := h
          obtain rfl := flt_s ht12
          clear ht12
          replace h := bnd h
          obtain ⟨o8, h8, c8⟩ := h
          refine cutM_i (fun s w => ∃ (z6 : Nat) (z7 : Nat), o8 = ((nf z6), (nf z7)) ∧ s = (z6, z7, ()) ∧ Ho w0 w (L)) (fun J8 hJ8 => ?_) ?_
          · have h := h8
            clear h8
            refine cond_s h ?_ ?_ <;> clear h <;> intro hc h
            · obtain rfl := some_inj h
              exact hJ8 _ _ ⟨_, _, rfl, rfl, hS⟩
            · obtain rfl := some_inj h
              exact hJ8 _ _ ⟨_, _, rfl, rfl, hS⟩
          · clear h8 hS
            rintro s w ⟨z6, z7, rfl, rfl, hS⟩
            have h := c8
            clear c8
            try dsimp only
            replace h := bnd h
            obtain ⟨t15, ht15, h⟩ := h
            refine fsub_s ht15 hS ?_; clear hS ht15; rintro z9 w rfl hS
            replace h := bnd h
            obtain ⟨t16, ht16, h⟩ := h
            refine fsub_s ht16 hS ?_; clear hS ht16; rintro z10 w rfl hS
            replace h := bnd h
            obtain ⟨t17, ht17, h⟩ := h
            refine wk_girderref03_sign H hS  ht17 ?_; clear hS ht17; rintro w hS
            refine ⟨_, rfl, ?_⟩
            replace h := bnd h
            obtain ⟨t18, ht18, h⟩ := h
            refine wk_girderref03_side H hS  ht18 ?_; clear hS ht18; rintro z11 w rfl hS
            refine ⟨_, rfl, ?_⟩
            have h := some_inj h
            cases h
            exact hK _ _ rfl hS
  · have h := some_inj h
    cases h
    exact hK _ _ rfl hS

theorem wk_girderref10_Norm {N : Nums} {P : Program} (H : AllOk N P) {w0 w : World} {L : List It} {q0_0 : Int} {q0_1 : Int} {q0_2 : Option Addr} {q0_2l q0_2c : Nat} {ws0_2 : List Nat} {u0 : Nat} {u1 : Int} (hS : Ho w0 w L) (hq0_2 : Ent L (rdA (List.map (Value.float .f64) ws0_2) q0_2 q0_2l q0_2c)) (hx : T_girderref10_Norm q0_0 q0_1 (List.map nf ws0_2) = some (u0, u1)) {K : Value → World → Prop} (hK : ∀ (z0 : Nat) (w1 : World), nf z0 = u0 → Ho w0 w1 (L) → K (.tuple #[.float .f64 z0, .int .i64 u1]) w1) : CallsX P N.f_girderref10_Norm #[.agg #[.int .i64 q0_0, .int .i64 q0_1, .slice q0_2 q0_2l q0_2c]] w K := by
  refine H.girderref10_Norm q0_0 q0_1 q0_2 q0_2l q0_2c w _ ?_
  unfold S_girderref10_Norm
  unfold T_girderref10_Norm at hx
  have h := hx
  clear hx
  try dsimp only
  refine newM_s hS ?_; clear hS; intro r1 w hS
  refine ⟨_, (hS.cel mp0 rfl), ?_⟩
  refine ⟨_, (hS.cel mp0 rfl), ?_⟩
  refine ⟨_, _, _, (hS.cel mp0 rfl), ?_⟩
  replace h := bnd h
  obtain ⟨t1, ht1, h⟩ := h
  refine wk_girderref10_Right H hS (hq0_2.mono tl1) ht1 ?_; clear hS ht1; rintro w hS
  refine ⟨_, rfl, ?_⟩
  refine cond_s h ?_ ?_ <;> clear h <;> intro hc h
  · have h := some_inj h
    cases h
    exact hK _ _ rfl (hS.pick (A := [_]) [] rfl)
  · replace h := bnd h
    obtain ⟨o2, h2, c2⟩ := h
    refine cutM_i (fun s w =>  o2 = .inl () ∧ s = (()) ∧ Ho w0 w ((cl r1 [.int .i64 q0_0, .int .i64 q0_1, .slice q0_2 q0_2l q0_2c] N.t_Matrix) :: L)) (fun J2 hJ2 => ?_) ?_
    · have h := h2
      clear h2
      refine iter_sim (fun s w t => ∃ (t2 : Int), t = t2 ∧ s = (t2, ()) ∧ Ho w0 w ((cl r1 [.int .i64 q0_0, .int .i64 q0_1, .slice q0_2 q0_2l q0_2c] N.t_Matrix) :: L)) ?_ h ⟨_, rfl, rfl, hS⟩
      clear h hS
      rintro s w t X q ⟨t2, rfl, rfl, hS⟩ h hX hO
      unfold T_girderref10_Norm_b2 at h
      try dsimp only
      refine ⟨_, _, _, (hS.cel mp0 rfl), ?_⟩
      replace h := bnd h
      obtain ⟨t3, ht3, h⟩ := h
      obtain rfl := lenF ht3 ((hq0_2.mono tl1).now (fun _ h => h) hS)
      clear ht3
      refine cond_s h ?_ ?_ <;> clear h <;> intro hc h
      · refine ⟨_, _, _, (hS.cel mp0 rfl), ?_⟩
        replace h := bnd h
        obtain ⟨t4, ht4, h⟩ := h
        obtain ⟨z3, rfl, q4x, q4l, q4r⟩ := atF ht4
        clear ht4
        refine idx_s ((hq0_2.mono tl1).now (fun _ h => h) hS) q4x q4l q4r ?_; intro b5 hb5
        refine ⟨_, rd_get ((hq0_2.mono tl1).now (fun _ h => h) hS) hb5 q4x, ?_⟩
        replace h := bnd h
        obtain ⟨t5, ht5, h⟩ := h
        refine wk_girderref01_Finite H hS  ht5 ?_; clear hS ht5; rintro w hS
        refine ⟨_, rfl, ?_⟩
        refine cond_s h ?_ ?_ <;> clear h <;> intro hc h
        · obtain rfl := some_inj h
          have h := congrArg some (hO _ rfl)
          obtain rfl := some_inj h
          have h := c2
          have h := some_inj h
          cases h
          exact hK _ _ rfl (hS.pick (A := [_]) [] rfl)
        · obtain rfl := some_inj h
          exact hX _ rfl _ _ ⟨_, rfl, rfl, hS⟩
      · obtain rfl := some_inj h
        have h := congrArg some (hO _ rfl)
        obtain rfl := some_inj h
        exact hJ2 _ _ ⟨rfl, rfl, hS⟩
    · clear h2 hS
      rintro s w ⟨rfl, rfl, hS⟩
      have h := c2
      clear c2
      try dsimp only
      replace h := bnd h
      obtain ⟨o7, h7, c7⟩ := h
      refine cutM_i (fun s w => ∃ (z6 : Nat), o7 = (nf z6) ∧ s = (z6, ()) ∧ Ho w0 w (L)) (fun J7 hJ7 => ?_) ?_
      · have h := h7
        clear h7
        refine iter_sim (fun s w t => ∃ (z8 : Nat) (t8 : Int), t = ((nf z8), t8) ∧ s = (z8, t8, ()) ∧ Ho w0 w ((cl r1 [.int .i64 q0_0, .int .i64 q0_1, .slice q0_2 q0_2l q0_2c] N.t_Matrix) :: L)) ?_ h ⟨_, _, rfl, rfl, hS⟩
        clear h hS
        rintro s w t X q ⟨z8, t8, rfl, rfl, hS⟩ h hX hO
        unfold T_girderref10_Norm_b16 at h
        try dsimp only
        refine ⟨_, (hS.cel mp0 rfl), ?_⟩
        refine cond_s h ?_ ?_ <;> clear h <;> intro hc h
        · replace h := bnd h
          obtain ⟨o10, h10, c10⟩ := h
          refine cutM_i (fun s w => ∃ (z9 : Nat), o10 = (nf z9) ∧ s = (z9, ()) ∧ Ho w0 w ((cl r1 [.int .i64 q0_0, .int .i64 q0_1, .slice q0_2 q0_2l q0_2c] N.t_Matrix) :: L)) (fun J10 hJ10 => ?_) ?_
          · have h := h10
            clear h10
            replace h := bnd h
            obtain ⟨o12, h12, c12⟩ := h
            refine cutM_i (fun s w => ∃ (z11 : Nat), o12 = (nf z11) ∧ s = (z11, ()) ∧ Ho w0 w ((cl r1 [.int .i64 q0_0, .int .i64 q0_1, .slice q0_2 q0_2l q0_2c] N.t_Matrix) :: L)) (fun J12 hJ12 => ?_) ?_
            · have h := h12
              clear h12
              refine iter_sim (fun s w t => ∃ (z13 : Nat) (t12 : Int), t = ((nf z13), t12) ∧ s = (z13, t12, ()) ∧ Ho w0 w ((cl r1 [.int .i64 q0_0, .int .i64 q0_1, .slice q0_2 q0_2l q0_2c] N.t_Matrix) :: L)) ?_ h ⟨_, _, rfl, rfl, hS⟩
              clear h hS
              rintro s w t X q ⟨z13, t12, rfl, rfl, hS⟩ h hX hO
              unfold T_girderref10_Norm_b20 at h
              try dsimp only
              refine ⟨_, (hS.cel mp0 rfl), ?_⟩
              refine cond_s h ?_ ?_ <;> clear h <;> intro hc h
              · refine ⟨_, (hS.cel mp0 rfl), ?_⟩
                refine ⟨_, (hS.cel mp0 rfl), ?_⟩
                refine ⟨_, _, _, (hS.cel mp0 rfl), ?_⟩
                replace h := bnd h
                obtain ⟨t13, ht13, h⟩ := h
                refine wk_girderref10_At H hS (hq0_2.mono tl1) ht13 ?_; clear hS ht13; rintro z14 w rfl hS
                refine ⟨_, rfl, ?_⟩
                replace h := bnd h
                obtain ⟨t14, ht14, h⟩ := h
                obtain rfl := flt_s ht14
                clear ht14
                replace h := bnd h
                obtain ⟨o16, h16, c16⟩ := h
                refine cutM_i (fun s w => ∃ (z15 : Nat), o16 = (nf z15) ∧ s = (z15, ()) ∧ Ho w0 w ((cl r1 [.int .i64 q0_0, .int .i64 q0_1, .slice q0_2 q0_2l q0_2c] N.t_Matrix) :: L)) (fun J16 hJ16 => ?_) ?_
                · have h := h16
                  clear h16
                  refine cond_s h ?_ ?_ <;> clear h <;> intro hc h
                  · replace h := bnd h
                    obtain ⟨t16, ht16, h⟩ := h
                    obtain rfl := fneg_s ht16
                    clear ht16
                    obtain rfl := some_inj h
                    exact hJ16 _ _ ⟨_, rfl, rfl, hS⟩
                  · obtain rfl := some_inj h
                    exact hJ16 _ _ ⟨_, rfl, rfl, hS⟩
                · clear h16 hS
                  rintro s w ⟨z15, rfl, rfl, hS⟩
                  have h := c16
                  clear c16
                  try dsimp only
                  replace h := bnd h
                  obtain ⟨t17, ht17, h⟩ := h
                  refine wk_girderref03_Add H hS  ht17 ?_; clear hS ht17; rintro z17 w rfl hS
                  refine ⟨_, rfl, ?_⟩
                  obtain rfl := some_inj h
                  exact hX _ rfl _ _ ⟨_, _, rfl, rfl, hS⟩
              · obtain rfl := some_inj h
                have h := congrArg some (hO _ rfl)
                obtain rfl := some_inj h
                exact hJ12 _ _ ⟨_, rfl, rfl, hS⟩
            · clear h12 hS
              rintro s w ⟨z11, rfl, rfl, hS⟩
              have h := c12
              clear c12
              try dsimp only
              replace h := bnd h
              obtain ⟨t18, ht18, h⟩ := h
              obtain rfl := fgt_s ht18
              clear ht18
              replace h := bnd h
              obtain ⟨o19, h19, c19⟩ := h
              refine cutM_i (fun s w => ∃ (z18 : Nat), o19 = (nf z18) ∧ s = (z18, ()) ∧ Ho w0 w ((cl r1 [.int .i64 q0_0, .int .i64 q0_1, .slice q0_2 q0_2l q0_2c] N.t_Matrix) :: L)) (fun J19 hJ19 => ?_) ?_
              · have h := h19
                clear h19
                refine cond_s h ?_ ?_ <;> clear h <;> intro hc h
                · obtain rfl := some_inj h
                  exact hJ19 _ _ ⟨_, rfl, rfl, hS⟩
                · obtain rfl := some_inj h
                  exact hJ19 _ _ ⟨_, rfl, rfl, hS⟩
              · clear h19 hS
                rintro s w ⟨z18, rfl, rfl, hS⟩
                have h := c19
                clear c19
                try dsimp only
                obtain rfl := some_inj h
                exact hJ10 _ _ ⟨_, rfl, rfl, hS⟩
          · clear h10 hS
            rintro s w ⟨z9, rfl, rfl, hS⟩
            have h := c10
            clear c10
            try dsimp only
            obtain rfl := some_inj h
            exact hX _ rfl _ _ ⟨_, _, rfl, rfl, hS⟩
        · obtain rfl := some_inj h
          have h := congrArg some (hO _ rfl)
          obtain rfl := some_inj h
          exact hJ7 _ _ ⟨_, rfl, rfl, (hS.pick (A := [_]) [] rfl)⟩
      · clear h7 hS
        rintro s w ⟨z6, rfl, rfl, hS⟩
        have h := c7
        clear c7
        try dsimp only
        have h := some_inj h
        cases h
        exact hK _ _ rfl hS

end Go.Eng
