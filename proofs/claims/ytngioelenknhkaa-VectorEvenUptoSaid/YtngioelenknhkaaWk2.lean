/-
  Each function comes to what its function of plain Lean says, printed by a program of the session. No condition.
-/
import Derived.Test.YtngioelenknhkaaWk1
set_option linter.unusedSimpArgs false
set_option linter.unnecessarySimpa false
set_option linter.unusedSectionVars false
set_option linter.unusedVariables false
set_option maxRecDepth 100000
set_option maxHeartbeats 4000000
namespace Go.Eng
open Go

theorem wk_girderlaw09_VectorEven {N : Nums} {P : Program} (H : AllOk N P) {w0 w : World} {L : List It} {q0 : Option Addr} {q0l q0c : Nat} {ws0 : List Nat} {q1 : Option Addr} {q1l q1c : Nat} {ws1 : List Nat} {q2 : Int} {u0 : Bool} (hS : Ho w0 w (L)) (hq0 : Ent L (rdA (List.map (Value.float .f64) ws0) q0 q0l q0c)) (hq1 : Ent L (rdA (List.map (Value.float .f64) ws1) q1 q1l q1c)) (hx : T_girderlaw09_VectorEven (List.map nf ws0) (List.map nf ws1) q2 = some u0) {K : Value → World → Prop} (hK : ∀  (w1 : World), Ho w0 w1 (L) → K (.bool u0) w1) : CallsX P N.f_girderlaw09_VectorEven #[.slice q0 q0l q0c, .slice q1 q1l q1c, .int .i64 q2] w K := by
  refine H.girderlaw09_VectorEven q0 q0l q0c q1 q1l q1c q2 w _ ?_
  unfold S_girderlaw09_VectorEven
  unfold T_girderlaw09_VectorEven at hx
  have h := hx
  clear hx
  try dsimp only
  replace h := bnd h
  obtain ⟨t1, ht1, h⟩ := h
  refine wk_girderlaw09_awake H hS  ht1 ?_; clear hS ht1; rintro w hS
  refine ⟨_, rfl, ?_⟩
  refine cond_s h ?_ ?_ <;> clear h <;> intro hc h
  · have h := some_inj h
    cases h
    exact hK _ hS
  · replace h := bnd h
    obtain ⟨t2, ht2, h⟩ := h
    obtain rfl := lenF ht2 (hq0.now (fun _ h => h) hS)
    clear ht2
    replace h := bnd h
    obtain ⟨t3, ht3, h⟩ := h
    obtain rfl := lenF ht3 (hq1.now (fun _ h => h) hS)
    clear ht3
    replace h := bnd h
    obtain ⟨t4, ht4, h⟩ := h
    obtain ⟨rfl, q10, q11, q12⟩ := subF ht4
    clear ht4
    have q13 := (hq0.now (fun _ h => h) hS).hiCap q12
    refine ⟨q11, q13, ?_⟩
    replace h := bnd h
    obtain ⟨t5, ht5, h⟩ := h
    obtain ⟨rfl, q20, q21, q22⟩ := subF ht5
    clear ht5
    have q23 := (hq1.now (fun _ h => h) hS).hiCap q22
    refine ⟨q21, q23, ?_⟩
    refine drM_s hS ?_; clear hS; intro w hS
    replace h := bnd h
    obtain ⟨⟨t6, t7⟩, ho6, h⟩ := h
    refine wk_vector_Dot H hS (Ent.upto hq0 q11 q12) (Ent.upto hq1 q21 q22) ho6 ?_; clear hS ho6; rintro z3 w rfl hS
    refine ⟨_, _, rfl, ?_⟩
    replace h := bnd h
    obtain ⟨⟨t8, t9⟩, ho8, h⟩ := h
    refine wk_vector_Dot H hS (Ent.upto hq1 q21 q22) (Ent.upto hq0 q11 q12) ho8 ?_; clear hS ho8; rintro z4 w rfl hS
    refine ⟨_, _, rfl, ?_⟩
    replace h := bnd h
    obtain ⟨⟨t10, t11⟩, ho10, h⟩ := h
    refine wk_vector_Axpy H hS (Ent.upto hq0 q11 q12) (Ent.upto hq1 q21 q22) ho10 ?_; clear hS ho10; rintro a5 m5 c5 ws5 w rfl hS
    refine ⟨_, _, _, _, rfl, ?_⟩
    replace h := bnd h
    obtain ⟨⟨t12, t13⟩, ho12, h⟩ := h
    refine wk_vector_Add H hS (Ent.upto (hq0.mono tl1) q11 q12) (Ent.upto (hq1.mono tl1) q21 q22) ho12 ?_; clear hS ho12; rintro a6 m6 c6 ws6 w rfl hS
    refine ⟨_, _, _, _, rfl, ?_⟩
    replace h := bnd h
    obtain ⟨⟨t14, t15⟩, ho14, h⟩ := h
    refine wk_vector_Axpy H hS (Ent.upto (hq0.mono tl2) q11 q12) (Ent.upto (hq1.mono tl2) q21 q22) ho14 ?_; clear hS ho14; rintro a7 m7 c7 ws7 w rfl hS
    refine ⟨_, _, _, _, rfl, ?_⟩
    replace h := bnd h
    obtain ⟨⟨t16, t17⟩, ho16, h⟩ := h
    refine wk_vector_Sub H hS (Ent.upto (hq1.mono tl3) q21 q22) (Ent.upto (hq0.mono tl3) q11 q12) ho16 ?_; clear hS ho16; rintro a8 m8 c8 ws8 w rfl hS
    refine ⟨_, _, _, _, rfl, ?_⟩
    replace h := bnd h
    obtain ⟨o9, h9, c9⟩ := h
    refine cutM_i (fun s w => ∃ (t18 : Bool), t18 = o9 ∧ s = (t18, ()) ∧ Ho w0 w (L)) (fun J9 hJ9 => ?_) ?_
    · have h := h9
      clear h9
      refine cond_s h ?_ ?_ <;> clear h <;> intro hc h
      · refine cond_s h ?_ ?_ <;> clear h <;> intro hc h
        · refine cond_s h ?_ ?_ <;> clear h <;> intro hc h
          · refine cond_s h ?_ ?_ <;> clear h <;> intro hc h
            · refine cond_s h ?_ ?_ <;> clear h <;> intro hc h
              · refine cond_s h ?_ ?_ <;> clear h <;> intro hc h
                · replace h := bnd h
                  obtain ⟨t19, ht19, h⟩ := h
                  refine wk_girderkit_SameFloat H hS  ht19 ?_; clear hS ht19; rintro w hS
                  refine ⟨_, rfl, ?_⟩
                  refine cond_s h ?_ ?_ <;> clear h <;> intro hc h
                  · replace h := bnd h
                    obtain ⟨t20, ht20, h⟩ := h
                    refine wk_vector_Same H hS (Ent.sl mp3) (Ent.sl mp2) ht20 ?_; clear hS ht20; rintro w hS
                    refine ⟨_, rfl, ?_⟩
                    refine cond_s h ?_ ?_ <;> clear h <;> intro hc h
                    · replace h := bnd h
                      obtain ⟨t21, ht21, h⟩ := h
                      refine wk_vector_Same H hS (Ent.sl mp1) (Ent.sl mp0) ht21 ?_; clear hS ht21; rintro w hS
                      refine ⟨_, rfl, ?_⟩
                      obtain rfl := some_inj h
                      exact hJ9 _ _ ⟨_, rfl, rfl, (hS.pick (A := [_, _, _, _]) [] rfl)⟩
                    · obtain rfl := some_inj h
                      exact hJ9 _ _ ⟨_, rfl, rfl, (hS.pick (A := [_, _, _, _]) [] rfl)⟩
                  · obtain rfl := some_inj h
                    exact hJ9 _ _ ⟨_, rfl, rfl, (hS.pick (A := [_, _, _, _]) [] rfl)⟩
                · obtain rfl := some_inj h
                  exact hJ9 _ _ ⟨_, rfl, rfl, (hS.pick (A := [_, _, _, _]) [] rfl)⟩
              · obtain rfl := some_inj h
                exact hJ9 _ _ ⟨_, rfl, rfl, (hS.pick (A := [_, _, _, _]) [] rfl)⟩
            · obtain rfl := some_inj h
              exact hJ9 _ _ ⟨_, rfl, rfl, (hS.pick (A := [_, _, _, _]) [] rfl)⟩
          · obtain rfl := some_inj h
            exact hJ9 _ _ ⟨_, rfl, rfl, (hS.pick (A := [_, _, _, _]) [] rfl)⟩
        · obtain rfl := some_inj h
          exact hJ9 _ _ ⟨_, rfl, rfl, (hS.pick (A := [_, _, _, _]) [] rfl)⟩
      · obtain rfl := some_inj h
        exact hJ9 _ _ ⟨_, rfl, rfl, (hS.pick (A := [_, _, _, _]) [] rfl)⟩
    · clear h9 hS
      rintro s w ⟨t18, rfl, rfl, hS⟩
      have h := c9
      clear c9
      try dsimp only
      refine cond_s h ?_ ?_ <;> clear h <;> intro hc h
      · have h := some_inj h
        cases h
        exact hK _ hS
      · replace h := bnd h
        obtain ⟨o10, h10, c10⟩ := h
        refine cutM_i (fun s w =>  .inl () = o10 ∧ s = (()) ∧ Ho w0 w (L)) (fun J10 hJ10 => ?_) ?_
        · have h := h10
          clear h10
          refine iter_sim (fun s w t => ∃ (t22 : Int), t22 = t ∧ s = (t22, ()) ∧ Ho w0 w (L)) ?_ h ⟨_, rfl, rfl, hS⟩
          clear h hS
          rintro s w t X q ⟨t22, rfl, rfl, hS⟩ h hX hO
          unfold T_girderlaw09_VectorEven_b2 at h
          try dsimp only
          refine cond_s h ?_ ?_ <;> clear h <;> intro hc h
          · replace h := bnd h
            obtain ⟨t23, ht23, h⟩ := h
            obtain ⟨z11, rfl, q12x, q12l, q12r⟩ := atF ht23
            clear ht23
            refine idx_s ((Ent.upto hq0 q11 q12).now (fun _ h => h) hS) q12x q12l q12r ?_; intro b13 hb13
            refine ⟨_, rd_get ((Ent.upto hq0 q11 q12).now (fun _ h => h) hS) hb13 q12x, ?_⟩
            replace h := bnd h
            obtain ⟨t24, ht24, h⟩ := h
            obtain ⟨z14, rfl, q15x, q15l, q15r⟩ := atF ht24
            clear ht24
            refine idx_s ((Ent.upto hq1 q21 q22).now (fun _ h => h) hS) q15x q15l q15r ?_; intro b16 hb16
            refine ⟨_, rd_get ((Ent.upto hq1 q21 q22).now (fun _ h => h) hS) hb16 q15x, ?_⟩
            refine drM_s hS ?_; clear hS; intro w hS
            replace h := bnd h
            obtain ⟨t25, ht25, h⟩ := h
            refine wk_math_Abs H hS  ht25 ?_; clear hS ht25; rintro z17 w rfl hS
            refine ⟨_, rfl, ?_⟩
            refine ⟨rd_get ((Ent.upto hq1 q21 q22).now (fun _ h => h) hS) hb16 q15x, ?_⟩
            refine drM_s hS ?_; clear hS; intro w hS
            replace h := bnd h
            obtain ⟨t26, ht26, h⟩ := h
            refine wk_math_Abs H hS  ht26 ?_; clear hS ht26; rintro z18 w rfl hS
            refine ⟨_, rfl, ?_⟩
            refine drM_s hS ?_; clear hS; intro w hS
            replace h := bnd h
            obtain ⟨t27, ht27, h⟩ := h
            obtain rfl := fne_s ht27
            clear ht27
            refine cond_s h ?_ ?_ <;> clear h <;> intro hc h
            · replace h := bnd h
              obtain ⟨t28, ht28, h⟩ := h
              obtain rfl := fge_s ht28
              clear ht28
              refine cond_s h ?_ ?_ <;> clear h <;> intro hc h
              · replace h := bnd h
                obtain ⟨t29, ht29, h⟩ := h
                obtain rfl := fle_s ht29
                clear ht29
                refine cond_s h ?_ ?_ <;> clear h <;> intro hc h
                · replace h := bnd h
                  obtain ⟨t30, ht30, h⟩ := h
                  obtain rfl := fne_s ht30
                  clear ht30
                  refine cond_s h ?_ ?_ <;> clear h <;> intro hc h
                  · replace h := bnd h
                    obtain ⟨t31, ht31, h⟩ := h
                    obtain rfl := fge_s ht31
                    clear ht31
                    refine cond_s h ?_ ?_ <;> clear h <;> intro hc h
                    · replace h := bnd h
                      obtain ⟨t32, ht32, h⟩ := h
                      obtain rfl := fle_s ht32
                      clear ht32
                      refine cond_s h ?_ ?_ <;> clear h <;> intro hc h
                      · obtain rfl := some_inj h
                        have h := congrArg some (hO _ rfl)
                        obtain rfl := some_inj h
                        have h := c10
                        have h := some_inj h
                        cases h
                        exact hK _ hS
                      · obtain rfl := some_inj h
                        exact hX _ rfl _ _ ⟨_, rfl, rfl, hS⟩
                    · obtain rfl := some_inj h
                      have h := congrArg some (hO _ rfl)
                      obtain rfl := some_inj h
                      have h := c10
                      have h := some_inj h
                      cases h
                      exact hK _ hS
                  · obtain rfl := some_inj h
                    exact hX _ rfl _ _ ⟨_, rfl, rfl, hS⟩
                · obtain rfl := some_inj h
                  have h := congrArg some (hO _ rfl)
                  obtain rfl := some_inj h
                  have h := c10
                  have h := some_inj h
                  cases h
                  exact hK _ hS
              · obtain rfl := some_inj h
                have h := congrArg some (hO _ rfl)
                obtain rfl := some_inj h
                have h := c10
                have h := some_inj h
                cases h
                exact hK _ hS
            · replace h := bnd h
              obtain ⟨t33, ht33, h⟩ := h
              obtain rfl := fne_s ht33
              clear ht33
              refine cond_s h ?_ ?_ <;> clear h <;> intro hc h
              · replace h := bnd h
                obtain ⟨t34, ht34, h⟩ := h
                obtain rfl := fge_s ht34
                clear ht34
                refine cond_s h ?_ ?_ <;> clear h <;> intro hc h
                · replace h := bnd h
                  obtain ⟨t35, ht35, h⟩ := h
                  obtain rfl := fle_s ht35
                  clear ht35
                  refine cond_s h ?_ ?_ <;> clear h <;> intro hc h
                  · obtain rfl := some_inj h
                    have h := congrArg some (hO _ rfl)
                    obtain rfl := some_inj h
                    have h := c10
                    have h := some_inj h
                    cases h
                    exact hK _ hS
                  · obtain rfl := some_inj h
                    exact hX _ rfl _ _ ⟨_, rfl, rfl, hS⟩
                · obtain rfl := some_inj h
                  have h := congrArg some (hO _ rfl)
                  obtain rfl := some_inj h
                  have h := c10
                  have h := some_inj h
                  cases h
                  exact hK _ hS
              · obtain rfl := some_inj h
                exact hX _ rfl _ _ ⟨_, rfl, rfl, hS⟩
          · obtain rfl := some_inj h
            have h := congrArg some (hO _ rfl)
            obtain rfl := some_inj h
            exact hJ10 _ _ ⟨rfl, rfl, hS⟩
        · clear h10 hS
          rintro s w ⟨rfl, rfl, hS⟩
          have h := c10
          clear c10
          try dsimp only
          replace h := bnd h
          obtain ⟨t36, ht36, h⟩ := h
          refine wk_girderkit_Pick H hS  ht36 ?_; clear hS ht36; rintro w hS
          refine ⟨_, rfl, ?_⟩
          replace h := bnd h
          obtain ⟨t37, ht37, h⟩ := h
          refine wk_math_Ldexp H hS  ht37 ?_; clear hS ht37; rintro z19 w rfl hS
          refine ⟨_, rfl, ?_⟩
          replace h := bnd h
          obtain ⟨t38, ht38, h⟩ := h
          refine wk_vector_Scale H hS (Ent.upto hq0 q11 q12) ht38 ?_; clear hS ht38; rintro a20 m20 c20 ws20 w rfl hS
          refine ⟨_, _, _, rfl, ?_⟩
          replace h := bnd h
          obtain ⟨⟨t39, t40⟩, ho39, h⟩ := h
          refine wk_vector_Dot H hS (Ent.sl mp0) (Ent.upto (hq1.mono tl1) q21 q22) ho39 ?_; clear hS ho39; rintro z21 w rfl hS
          refine ⟨_, _, rfl, ?_⟩
          replace h := bnd h
          obtain ⟨t41, ht41, h⟩ := h
          refine wk_vector_Scale H hS (Ent.upto (hq0.mono tl1) q11 q12) ht41 ?_; clear hS ht41; rintro a22 m22 c22 ws22 w rfl hS
          refine ⟨_, _, _, rfl, ?_⟩
          replace h := bnd h
          obtain ⟨⟨t42, t43⟩, ho42, h⟩ := h
          refine wk_vector_Dot H hS (Ent.sl mp0) (Ent.upto (hq1.mono tl2) q21 q22) ho42 ?_; clear hS ho42; rintro z23 w rfl hS
          refine ⟨_, _, rfl, ?_⟩
          replace h := bnd h
          obtain ⟨t44, ht44, h⟩ := h
          refine wk_vector_Scale H hS (Ent.upto (hq0.mono tl2) q11 q12) ht44 ?_; clear hS ht44; rintro a24 m24 c24 ws24 w rfl hS
          refine ⟨_, _, _, rfl, ?_⟩
          replace h := bnd h
          obtain ⟨⟨t45, t46⟩, ho45, h⟩ := h
          refine wk_vector_Add H hS (Ent.upto (hq0.mono tl3) q11 q12) (Ent.sl mp0) ho45 ?_; clear hS ho45; rintro a25 m25 c25 ws25 w rfl hS
          refine ⟨_, _, _, _, rfl, ?_⟩
          refine cond_s h ?_ ?_ <;> clear h <;> intro hc h
          · refine cond_s h ?_ ?_ <;> clear h <;> intro hc h
            · refine cond_s h ?_ ?_ <;> clear h <;> intro hc h
              · replace h := bnd h
                obtain ⟨t47, ht47, h⟩ := h
                refine fmul_s ht47 hS ?_; clear hS ht47; rintro z26 w rfl hS
                replace h := bnd h
                obtain ⟨t48, ht48, h⟩ := h
                refine wk_girderkit_SameFloat H hS  ht48 ?_; clear hS ht48; rintro w hS
                refine ⟨_, rfl, ?_⟩
                refine cond_s h ?_ ?_ <;> clear h <;> intro hc h
                · replace h := bnd h
                  obtain ⟨t49, ht49, h⟩ := h
                  obtain rfl := fneg_s ht49
                  clear ht49
                  replace h := bnd h
                  obtain ⟨t50, ht50, h⟩ := h
                  refine wk_girderkit_Like H hS  ht50 ?_; clear hS ht50; rintro w hS
                  refine ⟨_, rfl, ?_⟩
                  refine cond_s h ?_ ?_ <;> clear h <;> intro hc h
                  · replace h := bnd h
                    obtain ⟨t51, ht51, h⟩ := h
                    refine wk_vector_Norm H hS (Ent.sl mp0) ht51 ?_; clear hS ht51; rintro z27 w rfl hS
                    refine ⟨_, rfl, ?_⟩
                    replace h := bnd h
                    obtain ⟨t52, ht52, h⟩ := h
                    obtain rfl := feq_s ht52
                    clear ht52
                    refine cond_s h ?_ ?_ <;> clear h <;> intro hc h
                    · replace h := bnd h
                      obtain ⟨t53, ht53, h⟩ := h
                      refine wk_vector_Scale H hS (Ent.upto (hq0.mono tl4) q11 q12) ht53 ?_; clear hS ht53; rintro a28 m28 c28 ws28 w rfl hS
                      refine ⟨_, _, _, rfl, ?_⟩
                      replace h := bnd h
                      obtain ⟨t54, ht54, h⟩ := h
                      refine wk_vector_Norm H hS (Ent.sl mp0) ht54 ?_; clear hS ht54; rintro z29 w rfl hS
                      refine ⟨_, rfl, ?_⟩
                      replace h := bnd h
                      obtain ⟨t55, ht55, h⟩ := h
                      refine wk_vector_Norm H hS (Ent.upto (hq0.mono tl5) q11 q12) ht55 ?_; clear hS ht55; rintro z30 w rfl hS
                      refine ⟨_, rfl, ?_⟩
                      replace h := bnd h
                      obtain ⟨t56, ht56, h⟩ := h
                      refine fmul_s ht56 hS ?_; clear hS ht56; rintro z31 w rfl hS
                      replace h := bnd h
                      obtain ⟨t57, ht57, h⟩ := h
                      refine wk_girderkit_SameFloat H hS  ht57 ?_; clear hS ht57; rintro w hS
                      refine ⟨_, rfl, ?_⟩
                      have h := some_inj h
                      cases h
                      exact hK _ (hS.pick (A := [_, _, _, _, _]) [] rfl)
                    · have h := some_inj h
                      cases h
                      exact hK _ (hS.pick (A := [_, _, _, _]) [] rfl)
                  · have h := some_inj h
                    cases h
                    exact hK _ (hS.pick (A := [_, _, _, _]) [] rfl)
                · have h := some_inj h
                  cases h
                  exact hK _ (hS.pick (A := [_, _, _, _]) [] rfl)
              · have h := some_inj h
                cases h
                exact hK _ (hS.pick (A := [_, _, _, _]) [] rfl)
            · have h := some_inj h
              cases h
              exact hK _ (hS.pick (A := [_, _, _, _]) [] rfl)
          · have h := some_inj h
            cases h
            exact hK _ (hS.pick (A := [_, _, _, _]) [] rfl)

end Go.Eng
