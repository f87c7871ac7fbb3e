/-
  Each function comes to what its function of plain Lean says, printed by a program of the session; with contracts written by hand at the head. No condition.
-/
import Derived.Test.YtbegoalncgpbnaaTp
import Derived.Test.YtbegoalncgpbnaaSh
set_option linter.unusedSimpArgs false
set_option linter.unnecessarySimpa false
set_option linter.unusedSectionVars false
set_option linter.unusedVariables false
set_option maxRecDepth 100000
set_option maxHeartbeats 4000000
namespace Go.Eng
open Go

section
variable {N : Nums} {P : Program} (H : AllOk N P)
include H

theorem bits_c (x : Nat) (w : World) : CallsX P N.f_math_Float64bits #[.float .f64 x] w fun v w' => v = .int .u64 x ∧ St w w' [] :=
  H.math_Float64bits x w _ ⟨rfl, St.refl _⟩

theorem sameFloat_c (x y : Nat) (w : World) : CallsX P N.f_girderkit_SameFloat #[.float .f64 x, .float .f64 y] w fun v w' => v = .bool (nf x == nf y) ∧ St w w' [] := by
  refine H.girderkit_SameFloat x y w _ ?_
  unfold S_girderkit_SameFloat
  refine (bits_c H x w).mono ?_
  rintro _ w1 ⟨rfl, h1⟩
  refine ⟨_, rfl, ?_⟩
  refine (bits_c H y w1).mono ?_
  rintro _ w2 ⟨rfl, h2⟩
  refine ⟨_, rfl, ?_⟩
  have hS := h1.next h2
  have hxy : (((x : Nat) : Int) == ((y : Nat) : Int)) = (x == y) := by rw [Bool.eq_iff_iff]; simp; omega
  rw [same_bits, hxy, feq_self, feq_self]
  cases x == y <;> cases isNaN x <;> exact ⟨by simp, hS⟩

end

theorem wk_girderkit_Pick {N : Nums} {P : Program} (H : AllOk N P) {w0 w : World} {L : List It} {q0 : Int} {q1 : Int} {u0 : Int} (hS : Ho w0 w L)  (hx : T_girderkit_Pick q0 q1 = some u0) {K : Value → World → Prop} (hK : ∀  (w1 : World), Ho w0 w1 (L) → K (.int .i64 u0) w1) : CallsX P N.f_girderkit_Pick #[.int .i64 q0, .int .i64 q1] w K := by
  refine H.girderkit_Pick q0 q1 w _ ?_
  unfold S_girderkit_Pick
  unfold T_girderkit_Pick at hx
  have h := hx
  clear hx
  try dsimp only
  refine cond_s h ?_ ?_ <;> clear h <;> intro hc h
  · have h := some_inj h
    cases h
    exact hK _ hS
  · replace h := bnd h
    obtain ⟨t2, ht2, h⟩ := h
    refine ⟨nz_s ht2, ?_⟩
    clear ht2
    replace h := bnd h
    obtain ⟨o1, h1, c1⟩ := h
    refine cutM_i (fun s w => ∃ (t1 : Int), t1 = o1 ∧ s = (t1, ()) ∧ Ho w0 w (L)) (fun J1 hJ1 => ?_) ?_
    · have h := h1
      clear h1
      refine cond_s h ?_ ?_ <;> clear h <;> intro hc h
      · obtain rfl := some_inj h
        exact hJ1 _ _ ⟨_, rfl, rfl, hS⟩
      · obtain rfl := some_inj h
        exact hJ1 _ _ ⟨_, rfl, rfl, hS⟩
    · clear h1 hS
      rintro s w ⟨t1, rfl, rfl, hS⟩
      have h := c1
      clear c1
      try dsimp only
      have h := some_inj h
      cases h
      exact hK _ hS

theorem wk_girderlaw10_of {N : Nums} {P : Program} (H : AllOk N P) {w0 w : World} {L : List It} {q0 : Int} {q1 : Int} {q2 : Option Addr} {q2l q2c : Nat} {ws2 : List Nat} {u0 : Int} {u1 : Int} {u2 : List Nat} (hS : Ho w0 w L) (hq2 : Ent L (rdA (List.map (Value.float .f64) ws2) q2 q2l q2c)) (hx : T_girderlaw10_of q0 q1 (List.map nf ws2) = some (u0, u1, u2)) {K : Value → World → Prop} (hK : ∀  (w1 : World), (List.map nf ws2) = u2 → Ho w0 w1 (L) → K (.agg #[.int .i64 u0, .int .i64 u1, .slice q2 q2l q2c]) w1) : CallsX P N.f_girderlaw10_of #[.int .i64 q0, .int .i64 q1, .slice q2 q2l q2c] w K := by
  refine H.girderlaw10_of q0 q1 q2 q2l q2c w _ ?_
  unfold S_girderlaw10_of
  unfold T_girderlaw10_of at hx
  have h := hx
  clear hx
  try dsimp only
  refine newM_s hS ?_; clear hS; intro r1 w hS
  refine stc_s hS rfl rfl ?_; clear hS; intro w hS
  refine stc_s hS rfl rfl ?_; clear hS; intro w hS
  refine stc_s hS rfl rfl ?_; clear hS; intro w hS
  refine ⟨_, (hS.cel mp0 rfl), ?_⟩
  refine ⟨_, (hS.cel mp0 rfl), ?_⟩
  refine ⟨_, _, _, (hS.cel mp0 rfl), ?_⟩
  have h := some_inj h
  cases h
  exact hK _ rfl (hS.pick (A := [_]) [] rfl)

theorem wk_girderlaw10_laid {N : Nums} {P : Program} (H : AllOk N P) {w0 w : World} {L : List It} {q0 : Int} {q1 : Int} {q2 : Option Addr} {q2l q2c : Nat} {ws2 : List Nat} {q3 : Bool} {u0 : Int} {u1 : Int} {u2 : List Nat} (hS : Ho w0 w L) (hq2 : Ent L (rdA (List.map (Value.float .f64) ws2) q2 q2l q2c)) (hx : T_girderlaw10_laid q0 q1 (List.map nf ws2) q3 = some (u0, u1, u2)) {K : Value → World → Prop} (hK : ∀ (a2 : Option Addr) (n2 c2 : Nat) (rws2 : List Nat) (w1 : World), List.map nf rws2 = u2 → Ho w0 w1 ((sl a2 n2 c2 (List.map (Value.float .f64) rws2) N.t_float64) :: L) → K (.agg #[.int .i64 u0, .int .i64 u1, .slice a2 n2 c2]) w1) : CallsX P N.f_girderlaw10_laid #[.int .i64 q0, .int .i64 q1, .slice q2 q2l q2c, .bool q3] w K := by
  refine H.girderlaw10_laid q0 q1 q2 q2l q2c q3 w _ ?_
  unfold S_girderlaw10_laid
  unfold T_girderlaw10_laid at hx
  have h := hx
  clear hx
  try dsimp only
  refine newM_s hS ?_; clear hS; intro r1 w hS
  replace h := bnd h
  obtain ⟨t1, ht1, h⟩ := h
  refine wk_girderkit_Pick H hS  ht1 ?_; clear hS ht1; rintro w hS
  refine ⟨_, rfl, ?_⟩
  replace h := bnd h
  obtain ⟨t2, ht2, h⟩ := h
  refine wk_girderkit_Pick H hS  ht2 ?_; clear hS ht2; rintro w hS
  refine ⟨_, rfl, ?_⟩
  replace h := bnd h
  obtain ⟨⟨t3, t4, t5⟩, ho3, h⟩ := h
  refine wk_girderlaw10_of H hS (Ent.nil _) ho3 ?_; clear hS ho3; rintro w rfl hS
  refine ⟨_, _, _, _, _, rfl, ?_⟩
  refine newM_s hS ?_; clear hS; intro r3 w hS
  refine stc_s hS rfl rfl ?_; clear hS; intro w hS
  refine stc_s hS rfl rfl ?_; clear hS; intro w hS
  refine stc_s hS rfl rfl ?_; clear hS; intro w hS
  replace h := bnd h
  obtain ⟨o8, h8, c8⟩ := h
  refine cutM_i (fun s w => ∃ (a4 : Option Addr) (m5 : Nat) (c6 : Nat) (ws7 : List Nat), (List.map nf ws7) = o8 ∧ s = (()) ∧ Ho w0 w ((cl r3 [.int .i64 t3, .int .i64 t4, .slice a4 m5 c6] N.t_Matrix) :: (cl r1 [.int .i64 0, .int .i64 0, .slice none 0 0] N.t_Matrix) :: (sl a4 m5 c6 (List.map (Value.float .f64) ws7) N.t_float64) :: L)) (fun J8 hJ8 => ?_) ?_
  · have h := h8
    clear h8
    replace hS := hS.none (α := Nat) (enc := (Value.float .f64)) (t := N.t_float64)
    refine iter_sim (fun s w t => ∃ (t7 : Int) (a9 : Option Addr) (m10 : Nat) (c11 : Nat) (ws12 : List Nat), (t7, (List.map nf ws12)) = t ∧ s = (t7, ()) ∧ Ho w0 w ((cl r3 [.int .i64 t3, .int .i64 t4, .slice a9 m10 c11] N.t_Matrix) :: (cl r1 [.int .i64 0, .int .i64 0, .slice none 0 0] N.t_Matrix) :: (sl a9 m10 c11 (List.map (Value.float .f64) ws12) N.t_float64) :: L)) ?_ h ⟨_, _, _, _, _, rfl, rfl, (hS.pick (A := [_, _, _]) [1, 1, 0] rfl)⟩
    clear h hS
    rintro s w t X q ⟨t7, a9, m10, c11, ws12, rfl, rfl, hS⟩ h hX hO
    unfold T_girderlaw10_laid_b2 at h
    try dsimp only
    refine ⟨_, (hS.cel mp0 rfl), ?_⟩
    refine ⟨_, (hS.cel mp0 rfl), ?_⟩
    refine cond_s h ?_ ?_ <;> clear h <;> intro hc h
    · replace h := bnd h
      obtain ⟨t9, ht9, h⟩ := h
      obtain rfl := lenF ht9 ((hq2.mono tl3).now (fun _ h => h) hS)
      clear ht9
      replace h := bnd h
      obtain ⟨o14, h14, c14⟩ := h
      refine cutM_i (fun s w => ∃ (z13 : Nat), (nf z13) = o14 ∧ s = (z13, ()) ∧ Ho w0 w ((cl r3 [.int .i64 t3, .int .i64 t4, .slice a9 m10 c11] N.t_Matrix) :: (cl r1 [.int .i64 0, .int .i64 0, .slice none 0 0] N.t_Matrix) :: (sl a9 m10 c11 (List.map (Value.float .f64) ws12) N.t_float64) :: L)) (fun J14 hJ14 => ?_) ?_
      · have h := h14
        clear h14
        refine cond_s h ?_ ?_ <;> clear h <;> intro hc h
        · replace h := bnd h
          obtain ⟨t11, ht11, h⟩ := h
          obtain rfl := lenF ht11 ((hq2.mono tl3).now (fun _ h => h) hS)
          clear ht11
          replace h := bnd h
          obtain ⟨t13, ht13, h⟩ := h
          refine ⟨nz_s ht13, ?_⟩
          clear ht13
          replace h := bnd h
          obtain ⟨t12, ht12, h⟩ := h
          obtain ⟨z15, rfl, q16x, q16l, q16r⟩ := atF ht12
          clear ht12
          refine idx_s ((hq2.mono tl3).now (fun _ h => h) hS) q16x q16l q16r ?_; intro b17 hb17
          refine ⟨_, rd_get ((hq2.mono tl3).now (fun _ h => h) hS) hb17 q16x, ?_⟩
          obtain rfl := some_inj h
          exact hJ14 _ _ ⟨_, rfl, rfl, hS⟩
        · obtain rfl := some_inj h
          exact hJ14 _ _ ⟨_, rfl, rfl, hS⟩
      · clear h14 hS
        rintro s w ⟨z13, rfl, rfl, hS⟩
        have h := c14
        clear c14
        try dsimp only
        refine cond_s h ?_ ?_ <;> clear h <;> intro hc h
        · replace h := bnd h
          obtain ⟨t14, ht14, h⟩ := h
          obtain rfl := fge_s ht14
          clear ht14
          refine cond_s h ?_ ?_ <;> clear h <;> intro hc h
          · replace h := bnd h
            obtain ⟨t15, ht15, h⟩ := h
            obtain rfl := fle_s ht15
            clear ht15
            replace h := bnd h
            obtain ⟨o19, h19, c19⟩ := h
            refine cutM_i (fun s w => ∃ (z18 : Nat), (nf z18) = o19 ∧ s = (z18, ()) ∧ Ho w0 w ((cl r3 [.int .i64 t3, .int .i64 t4, .slice a9 m10 c11] N.t_Matrix) :: (cl r1 [.int .i64 0, .int .i64 0, .slice none 0 0] N.t_Matrix) :: (sl a9 m10 c11 (List.map (Value.float .f64) ws12) N.t_float64) :: L)) (fun J19 hJ19 => ?_) ?_
            · have h := h19
              clear h19
              refine cond_s h ?_ ?_ <;> clear h <;> intro hc h
              · obtain rfl := some_inj h
                exact hJ19 _ _ ⟨_, rfl, rfl, hS⟩
              · obtain rfl := some_inj h
                exact hJ19 _ _ ⟨_, rfl, rfl, hS⟩
            · clear h19 hS
              rintro s w ⟨z18, rfl, rfl, hS⟩
              have h := c19
              clear c19
              try dsimp only
              replace h := bnd h
              obtain ⟨o21, h21, c21⟩ := h
              refine cutM_i (fun s w => ∃ (z20 : Nat), (nf z20) = o21 ∧ s = (z20, ()) ∧ Ho w0 w ((cl r3 [.int .i64 t3, .int .i64 t4, .slice a9 m10 c11] N.t_Matrix) :: (cl r1 [.int .i64 0, .int .i64 0, .slice none 0 0] N.t_Matrix) :: (sl a9 m10 c11 (List.map (Value.float .f64) ws12) N.t_float64) :: L)) (fun J21 hJ21 => ?_) ?_
              · have h := h21
                clear h21
                refine cond_s h ?_ ?_ <;> clear h <;> intro hc h
                · replace h := bnd h
                  obtain ⟨t18, ht18, h⟩ := h
                  refine f2i_s ht18 hS ?_; clear hS ht18; intro w hS
                  obtain rfl := some_inj h
                  exact hJ21 _ _ ⟨_, rfl, rfl, hS⟩
                · obtain rfl := some_inj h
                  exact hJ21 _ _ ⟨_, rfl, rfl, hS⟩
              · clear h21 hS
                rintro s w ⟨z20, rfl, rfl, hS⟩
                have h := c21
                clear c21
                try dsimp only
                refine ⟨_, _, _, (hS.cel mp0 rfl), ?_⟩
                replace h := bnd h
                obtain ⟨t19, ht19, h⟩ := h
                obtain rfl : (List.map nf ([z20] : List Nat)) = t19 := some_inj ht19
                clear ht19
                refine lit_s (ks := [z20]) (enc := (Value.float .f64)) (m := 1) hS rfl rfl ?_; clear hS; intro r22 w hS
                replace h := bnd h
                obtain ⟨t20, ht20, h⟩ := h
                obtain ⟨rfl, kt20⟩ := appF ht20
                clear ht20
                replace hS := ro3 hS
                refine app_s hS kt20 ((Ent.sl mp1).now (fun _ h => h) hS) (fun _ => rfl) rfl ?_; clear hS kt20; intro a23 c23 w hS
                replace hS := ro2 hS
                refine stc_s hS rfl rfl ?_; clear hS; intro w hS
                obtain rfl := some_inj h
                exact hX _ rfl _ _ ⟨_, _, _, _, _, rfl, rfl, (hS.pick (A := [_, _, _, _]) [0, 2, 0] rfl)⟩
          · replace h := bnd h
            obtain ⟨o25, h25, c25⟩ := h
            refine cutM_i (fun s w => ∃ (z24 : Nat), (nf z24) = o25 ∧ s = (z24, ()) ∧ Ho w0 w ((cl r3 [.int .i64 t3, .int .i64 t4, .slice a9 m10 c11] N.t_Matrix) :: (cl r1 [.int .i64 0, .int .i64 0, .slice none 0 0] N.t_Matrix) :: (sl a9 m10 c11 (List.map (Value.float .f64) ws12) N.t_float64) :: L)) (fun J25 hJ25 => ?_) ?_
            · have h := h25
              clear h25
              obtain rfl := some_inj h
              exact hJ25 _ _ ⟨_, rfl, rfl, hS⟩
            · clear h25 hS
              rintro s w ⟨z24, rfl, rfl, hS⟩
              have h := c25
              clear c25
              try dsimp only
              replace h := bnd h
              obtain ⟨o27, h27, c27⟩ := h
              refine cutM_i (fun s w => ∃ (z26 : Nat), (nf z26) = o27 ∧ s = (z26, ()) ∧ Ho w0 w ((cl r3 [.int .i64 t3, .int .i64 t4, .slice a9 m10 c11] N.t_Matrix) :: (cl r1 [.int .i64 0, .int .i64 0, .slice none 0 0] N.t_Matrix) :: (sl a9 m10 c11 (List.map (Value.float .f64) ws12) N.t_float64) :: L)) (fun J27 hJ27 => ?_) ?_
              · have h := h27
                clear h27
                refine cond_s h ?_ ?_ <;> clear h <;> intro hc h
                · replace h := bnd h
                  obtain ⟨t23, ht23, h⟩ := h
                  refine f2i_s ht23 hS ?_; clear hS ht23; intro w hS
                  obtain rfl := some_inj h
                  exact hJ27 _ _ ⟨_, rfl, rfl, hS⟩
                · obtain rfl := some_inj h
                  exact hJ27 _ _ ⟨_, rfl, rfl, hS⟩
              · clear h27 hS
                rintro s w ⟨z26, rfl, rfl, hS⟩
                have h := c27
                clear c27
                try dsimp only
                refine ⟨_, _, _, (hS.cel mp0 rfl), ?_⟩
                replace h := bnd h
                obtain ⟨t24, ht24, h⟩ := h
                obtain rfl : (List.map nf ([z26] : List Nat)) = t24 := some_inj ht24
                clear ht24
                refine lit_s (ks := [z26]) (enc := (Value.float .f64)) (m := 1) hS rfl rfl ?_; clear hS; intro r28 w hS
                replace h := bnd h
                obtain ⟨t25, ht25, h⟩ := h
                obtain ⟨rfl, kt25⟩ := appF ht25
                clear ht25
                replace hS := ro3 hS
                refine app_s hS kt25 ((Ent.sl mp1).now (fun _ h => h) hS) (fun _ => rfl) rfl ?_; clear hS kt25; intro a29 c29 w hS
                replace hS := ro2 hS
                refine stc_s hS rfl rfl ?_; clear hS; intro w hS
                obtain rfl := some_inj h
                exact hX _ rfl _ _ ⟨_, _, _, _, _, rfl, rfl, (hS.pick (A := [_, _, _, _]) [0, 2, 0] rfl)⟩
        · replace h := bnd h
          obtain ⟨o31, h31, c31⟩ := h
          refine cutM_i (fun s w => ∃ (z30 : Nat), (nf z30) = o31 ∧ s = (z30, ()) ∧ Ho w0 w ((cl r3 [.int .i64 t3, .int .i64 t4, .slice a9 m10 c11] N.t_Matrix) :: (cl r1 [.int .i64 0, .int .i64 0, .slice none 0 0] N.t_Matrix) :: (sl a9 m10 c11 (List.map (Value.float .f64) ws12) N.t_float64) :: L)) (fun J31 hJ31 => ?_) ?_
          · have h := h31
            clear h31
            obtain rfl := some_inj h
            exact hJ31 _ _ ⟨_, rfl, rfl, hS⟩
          · clear h31 hS
            rintro s w ⟨z30, rfl, rfl, hS⟩
            have h := c31
            clear c31
            try dsimp only
            replace h := bnd h
            obtain ⟨o33, h33, c33⟩ := h
            refine cutM_i (fun s w => ∃ (z32 : Nat), (nf z32) = o33 ∧ s = (z32, ()) ∧ Ho w0 w ((cl r3 [.int .i64 t3, .int .i64 t4, .slice a9 m10 c11] N.t_Matrix) :: (cl r1 [.int .i64 0, .int .i64 0, .slice none 0 0] N.t_Matrix) :: (sl a9 m10 c11 (List.map (Value.float .f64) ws12) N.t_float64) :: L)) (fun J33 hJ33 => ?_) ?_
            · have h := h33
              clear h33
              refine cond_s h ?_ ?_ <;> clear h <;> intro hc h
              · replace h := bnd h
                obtain ⟨t28, ht28, h⟩ := h
                refine f2i_s ht28 hS ?_; clear hS ht28; intro w hS
                obtain rfl := some_inj h
                exact hJ33 _ _ ⟨_, rfl, rfl, hS⟩
              · obtain rfl := some_inj h
                exact hJ33 _ _ ⟨_, rfl, rfl, hS⟩
            · clear h33 hS
              rintro s w ⟨z32, rfl, rfl, hS⟩
              have h := c33
              clear c33
              try dsimp only
              refine ⟨_, _, _, (hS.cel mp0 rfl), ?_⟩
              replace h := bnd h
              obtain ⟨t29, ht29, h⟩ := h
              obtain rfl : (List.map nf ([z32] : List Nat)) = t29 := some_inj ht29
              clear ht29
              refine lit_s (ks := [z32]) (enc := (Value.float .f64)) (m := 1) hS rfl rfl ?_; clear hS; intro r34 w hS
              replace h := bnd h
              obtain ⟨t30, ht30, h⟩ := h
              obtain ⟨rfl, kt30⟩ := appF ht30
              clear ht30
              replace hS := ro3 hS
              refine app_s hS kt30 ((Ent.sl mp1).now (fun _ h => h) hS) (fun _ => rfl) rfl ?_; clear hS kt30; intro a35 c35 w hS
              replace hS := ro2 hS
              refine stc_s hS rfl rfl ?_; clear hS; intro w hS
              obtain rfl := some_inj h
              exact hX _ rfl _ _ ⟨_, _, _, _, _, rfl, rfl, (hS.pick (A := [_, _, _, _]) [0, 2, 0] rfl)⟩
    · obtain rfl := some_inj h
      have h := congrArg some (hO _ rfl)
      obtain rfl := some_inj h
      exact hJ8 _ _ ⟨_, _, _, _, rfl, rfl, hS⟩
  · clear h8 hS
    rintro s w ⟨a4, m5, c6, ws7, rfl, rfl, hS⟩
    have h := c8
    clear c8
    try dsimp only
    refine ⟨_, (hS.cel mp0 rfl), ?_⟩
    refine ⟨_, (hS.cel mp0 rfl), ?_⟩
    refine ⟨_, _, _, (hS.cel mp0 rfl), ?_⟩
    replace hS := ro1 hS
    refine stc_s hS rfl rfl ?_; clear hS; intro w hS
    refine stc_s hS rfl rfl ?_; clear hS; intro w hS
    refine stc_s hS rfl rfl ?_; clear hS; intro w hS
    refine ⟨_, (hS.cel mp0 rfl), ?_⟩
    refine ⟨_, (hS.cel mp0 rfl), ?_⟩
    refine ⟨_, _, _, (hS.cel mp0 rfl), ?_⟩
    have h := some_inj h
    cases h
    exact hK _ _ _ _ _ rfl (hS.pick (A := [_, _, _]) [2] rfl)

theorem wk_matrix_fits {N : Nums} {P : Program} (H : AllOk N P) {w0 w : World} {L : List It} {q0 : Int} {u0 : Bool} (hS : Ho w0 w L)  (hx : T_matrix_fits q0 = some u0) {K : Value → World → Prop} (hK : ∀  (w1 : World), Ho w0 w1 (L) → K (.bool u0) w1) : CallsX P N.f_matrix_fits #[.int .i64 q0] w K := by
  refine H.matrix_fits q0 w _ ?_
  unfold S_matrix_fits
  unfold T_matrix_fits at hx
  have h := hx
  clear hx
  try dsimp only
  refine cond_s h ?_ ?_ <;> clear h <;> intro hc h
  · have h := some_inj h
    cases h
    exact hK _ hS
  · have h := some_inj h
    cases h
    exact hK _ hS

theorem wk_matrix_Right {N : Nums} {P : Program} (H : AllOk N P) {w0 w : World} {L : List It} {q0_0 : Int} {q0_1 : Int} {q0_2 : Option Addr} {q0_2l q0_2c : Nat} {ws0_2 : List Nat} {u0 : Bool} (hS : Ho w0 w L) (hq0_2 : Ent L (rdA (List.map (Value.float .f64) ws0_2) q0_2 q0_2l q0_2c)) (hx : T_matrix_Right q0_0 q0_1 (List.map nf ws0_2) = some u0) {K : Value → World → Prop} (hK : ∀  (w1 : World), Ho w0 w1 (L) → K (.bool u0) w1) : CallsX P N.f_matrix_Right #[.agg #[.int .i64 q0_0, .int .i64 q0_1, .slice q0_2 q0_2l q0_2c]] w K := by
  refine H.matrix_Right q0_0 q0_1 q0_2 q0_2l q0_2c w _ ?_
  unfold S_matrix_Right
  unfold T_matrix_Right at hx
  have h := hx
  clear hx
  try dsimp only
  refine newM_s hS ?_; clear hS; intro r1 w hS
  refine ⟨_, (hS.cel mp0 rfl), ?_⟩
  replace h := bnd h
  obtain ⟨t1, ht1, h⟩ := h
  refine wk_matrix_fits H hS  ht1 ?_; clear hS ht1; rintro w hS
  refine ⟨_, rfl, ?_⟩
  refine cond_s h ?_ ?_ <;> clear h <;> intro hc h
  · refine ⟨_, (hS.cel mp0 rfl), ?_⟩
    replace h := bnd h
    obtain ⟨t2, ht2, h⟩ := h
    refine wk_matrix_fits H hS  ht2 ?_; clear hS ht2; rintro w hS
    refine ⟨_, rfl, ?_⟩
    refine cond_s h ?_ ?_ <;> clear h <;> intro hc h
    · refine ⟨_, _, _, (hS.cel mp0 rfl), ?_⟩
      replace h := bnd h
      obtain ⟨t3, ht3, h⟩ := h
      obtain rfl := lenF ht3 ((hq0_2.mono tl1).now (fun _ h => h) hS)
      clear ht3
      refine ⟨_, (hS.cel mp0 rfl), ?_⟩
      refine ⟨_, (hS.cel mp0 rfl), ?_⟩
      have h := some_inj h
      cases h
      exact hK _ (hS.pick (A := [_]) [] rfl)
    · have h := some_inj h
      cases h
      exact hK _ (hS.pick (A := [_]) [] rfl)
  · have h := some_inj h
    cases h
    exact hK _ (hS.pick (A := [_]) [] rfl)

theorem wk_matrix_Mul_1 {N : Nums} {P : Program} (H : AllOk N P) {w0 w : World} {L : List It} {q0 : Int} {q1 : Int} {r_2 : Nat} {q2_0 : Int} {q2_1 : Int} {q2_2 : Option Addr} {q2_2l q2_2c : Nat} {ws2_2 : List Nat} {r_3 : Nat} {q3_0 : Int} {q3_1 : Int} {q3_2 : Option Addr} {q3_2l q3_2c : Nat} {ws3_2 : List Nat} {u0 : Nat} (hS : Ho w0 w L) (eq2 : Ent L (cl r_2 [.int .i64 q2_0, .int .i64 q2_1, .slice q2_2 q2_2l q2_2c] N.t_Matrix).A) (hq2_2 : Ent L (rdA (List.map (Value.float .f64) ws2_2) q2_2 q2_2l q2_2c)) (eq3 : Ent L (cl r_3 [.int .i64 q3_0, .int .i64 q3_1, .slice q3_2 q3_2l q3_2c] N.t_Matrix).A) (hq3_2 : Ent L (rdA (List.map (Value.float .f64) ws3_2) q3_2 q3_2l q3_2c)) (hx : T_matrix_Mul_1 q0 q1 q2_0 q2_1 (List.map nf ws2_2) q3_0 q3_1 (List.map nf ws3_2) = some u0) {K : Value → World → Prop} (hK : ∀ (z0 : Nat) (w1 : World), nf z0 = u0 → Ho w0 w1 (L) → K (.float .f64 z0) w1) : CallsX P N.f_matrix_Mul_1 #[.int .i64 q0, .int .i64 q1, .pointer (some ⟨r_2, 0, none⟩), .pointer (some ⟨r_3, 0, none⟩)] w K := by
  refine H.matrix_Mul_1 q0 q1 (some ⟨r_2, 0, none⟩) (some ⟨r_3, 0, none⟩) w _ ?_
  unfold S_matrix_Mul_1
  unfold T_matrix_Mul_1 at hx
  have h := hx
  clear hx
  try dsimp only
  refine optM_s ?_
  refine ⟨_, (eq2.cel (fun _ h => h) hS rfl), ?_⟩
  replace h := bnd h
  obtain ⟨o2, h2, c2⟩ := h
  refine cutM_i (fun s w => ∃ (z1 : Nat), (nf z1) = o2 ∧ s = (z1, ()) ∧ Ho w0 w (L)) (fun J2 hJ2 => ?_) ?_
  · have h := h2
    clear h2
    refine iter_sim (fun s w t => ∃ (z3 : Nat) (t3 : Int), ((nf z3), t3) = t ∧ s = (z3, t3, ()) ∧ Ho w0 w (L)) ?_ h ⟨_, _, rfl, rfl, hS⟩
    clear h hS
    rintro s w t X q ⟨z3, t3, rfl, rfl, hS⟩ h hX hO
    unfold T_matrix_Mul_1_b2 at h
    try dsimp only
    refine cond_s h ?_ ?_ <;> clear h <;> intro hc h
    · refine optM_s ?_
      refine ⟨_, _, _, (eq2.cel (fun _ h => h) hS rfl), ?_⟩
      refine optM_s ?_
      refine ⟨_, (eq2.cel (fun _ h => h) hS rfl), ?_⟩
      replace h := bnd h
      obtain ⟨t4, ht4, h⟩ := h
      obtain ⟨z4, rfl, q5x, q5l, q5r⟩ := atF ht4
      clear ht4
      refine idx_s (hq2_2.now (fun _ h => h) hS) q5x q5l q5r ?_; intro b6 hb6
      refine ⟨_, rd_get (hq2_2.now (fun _ h => h) hS) hb6 q5x, ?_⟩
      refine optM_s ?_
      refine ⟨_, _, _, (eq3.cel (fun _ h => h) hS rfl), ?_⟩
      refine optM_s ?_
      refine ⟨_, (eq3.cel (fun _ h => h) hS rfl), ?_⟩
      replace h := bnd h
      obtain ⟨t5, ht5, h⟩ := h
      obtain ⟨z7, rfl, q8x, q8l, q8r⟩ := atF ht5
      clear ht5
      refine idx_s (hq3_2.now (fun _ h => h) hS) q8x q8l q8r ?_; intro b9 hb9
      refine ⟨_, rd_get (hq3_2.now (fun _ h => h) hS) hb9 q8x, ?_⟩
      replace h := bnd h
      obtain ⟨t6, ht6, h⟩ := h
      refine fmul_s ht6 hS ?_; clear ht6; rintro z10 _ rfl _
      replace h := bnd h
      obtain ⟨t7, ht7, h⟩ := h
      refine fadd_s ht7 hS ?_; clear ht7; rintro z11 _ rfl _
      refine drM_s hS ?_; clear hS; intro w hS
      obtain rfl := some_inj h
      exact hX _ rfl _ _ ⟨_, _, rfl, rfl, hS⟩
    · obtain rfl := some_inj h
      have h := congrArg some (hO _ rfl)
      obtain rfl := some_inj h
      exact hJ2 _ _ ⟨_, rfl, rfl, hS⟩
  · clear h2 hS
    rintro s w ⟨z1, rfl, rfl, hS⟩
    have h := c2
    clear c2
    try dsimp only
    have h := some_inj h
    cases h
    exact hK _ _ rfl hS

theorem wk_matrix_laid {N : Nums} {P : Program} (H : AllOk N P) {w0 w : World} {L : List It} {q0 : Int} {q1 : Int} {q2 : Value} {f2 : Int → Int → Option Nat} {u0 : Int} {u1 : Int} {u2 : List Nat} (hS : Ho w0 w L) (hf2 : ∀ (v0 : Int) (v1 : Int) (w : World) (L1 : List It) (r1 : Nat) (K : Value → World → Prop), (∀ e, e ∈ L → e ∈ L1) → f2 v0 v1 = some r1 → Ho w0 w L1 → (∀ (z : Nat) (w1 : World), nf z = r1 → Ho w0 w1 L1 → K (.float .f64 z) w1) → fnM q2 fun g gp gq => CallsX P g (gp.toList ++ (([.int .i64 v0, .int .i64 v1] : List Value) ++ gq.toList)).toArray w K) (hx : T_matrix_laid q0 q1 f2 = some (u0, u1, u2)) {K : Value → World → Prop} (hK : ∀ (a2 : Option Addr) (n2 c2 : Nat) (rws2 : List Nat) (w1 : World), List.map nf rws2 = u2 → Ho w0 w1 ((sl a2 n2 c2 (List.map (Value.float .f64) rws2) N.t_float64) :: L) → K (.agg #[.int .i64 u0, .int .i64 u1, .slice a2 n2 c2]) w1) : CallsX P N.f_matrix_laid #[.int .i64 q0, .int .i64 q1, q2] w K := by
  refine H.matrix_laid q0 q1 q2 w _ ?_
  unfold S_matrix_laid
  unfold T_matrix_laid at hx
  have h := hx
  clear hx
  try dsimp only
  refine newM_s hS ?_; clear hS; intro r1 w hS
  replace h := bnd h
  obtain ⟨t1, ht1, h⟩ := h
  obtain ⟨rfl, kt1⟩ := mkF ht1
  clear ht1
  refine mk_s (enc := (Value.float .f64)) hS kt1 rfl ?_; clear hS kt1; intro r2 w hS
  refine newM_s hS ?_; clear hS; intro r3 w hS
  refine stc_s hS rfl rfl ?_; clear hS; intro w hS
  refine stc_s hS rfl rfl ?_; clear hS; intro w hS
  refine stc_s hS rfl rfl ?_; clear hS; intro w hS
  replace h := bnd h
  obtain ⟨o5, h5, c5⟩ := h
  refine cutM_i (fun s w => ∃ (ws4 : List Nat), (List.map nf ws4) = o5 ∧ s = (()) ∧ Ho w0 w ((cl r3 [.int .i64 q0, .int .i64 q1, .slice (some ⟨r2, 0, none⟩) (((IntKind.i64.wrap (q0 * q1))).toNat) (((IntKind.i64.wrap (q0 * q1))).toNat)] N.t_Matrix) :: (sl (some ⟨r2, 0, none⟩) (((IntKind.i64.wrap (q0 * q1))).toNat) (((IntKind.i64.wrap (q0 * q1))).toNat) (List.map (Value.float .f64) ws4) N.t_float64) :: (cl r1 [.int .i64 0, .int .i64 0, .slice none 0 0] N.t_Matrix) :: L)) (fun J5 hJ5 => ?_) ?_
  · have h := h5
    clear h5
    refine iter_sim (fun s w t => ∃ (t3 : Int) (ws6 : List Nat), (t3, (List.map nf ws6)) = t ∧ s = (t3, ()) ∧ Ho w0 w ((cl r3 [.int .i64 q0, .int .i64 q1, .slice (some ⟨r2, 0, none⟩) (((IntKind.i64.wrap (q0 * q1))).toNat) (((IntKind.i64.wrap (q0 * q1))).toNat)] N.t_Matrix) :: (sl (some ⟨r2, 0, none⟩) (((IntKind.i64.wrap (q0 * q1))).toNat) (((IntKind.i64.wrap (q0 * q1))).toNat) (List.map (Value.float .f64) ws6) N.t_float64) :: (cl r1 [.int .i64 0, .int .i64 0, .slice none 0 0] N.t_Matrix) :: L)) ?_ h ⟨_, _, rfl, rfl, hS⟩
    clear h hS
    rintro s w t X q ⟨t3, ws6, rfl, rfl, hS⟩ h hX hO
    unfold T_matrix_laid_b7 at h
    try dsimp only
    refine cond_s h ?_ ?_ <;> clear h <;> intro hc h
    · replace h := bnd h
      obtain ⟨o8, h8, c8⟩ := h
      refine cutM_i (fun s w => ∃ (ws7 : List Nat), (List.map nf ws7) = o8 ∧ s = (()) ∧ Ho w0 w ((cl r3 [.int .i64 q0, .int .i64 q1, .slice (some ⟨r2, 0, none⟩) (((IntKind.i64.wrap (q0 * q1))).toNat) (((IntKind.i64.wrap (q0 * q1))).toNat)] N.t_Matrix) :: (sl (some ⟨r2, 0, none⟩) (((IntKind.i64.wrap (q0 * q1))).toNat) (((IntKind.i64.wrap (q0 * q1))).toNat) (List.map (Value.float .f64) ws7) N.t_float64) :: (cl r1 [.int .i64 0, .int .i64 0, .slice none 0 0] N.t_Matrix) :: L)) (fun J8 hJ8 => ?_) ?_
      · have h := h8
        clear h8
        refine iter_sim (fun s w t => ∃ (t6 : Int) (ws9 : List Nat), (t6, (List.map nf ws9)) = t ∧ s = (t6, ()) ∧ Ho w0 w ((cl r3 [.int .i64 q0, .int .i64 q1, .slice (some ⟨r2, 0, none⟩) (((IntKind.i64.wrap (q0 * q1))).toNat) (((IntKind.i64.wrap (q0 * q1))).toNat)] N.t_Matrix) :: (sl (some ⟨r2, 0, none⟩) (((IntKind.i64.wrap (q0 * q1))).toNat) (((IntKind.i64.wrap (q0 * q1))).toNat) (List.map (Value.float .f64) ws9) N.t_float64) :: (cl r1 [.int .i64 0, .int .i64 0, .slice none 0 0] N.t_Matrix) :: L)) ?_ h ⟨_, _, rfl, rfl, hS⟩
        clear h hS
        rintro s w t X q ⟨t6, ws9, rfl, rfl, hS⟩ h hX hO
        unfold T_matrix_laid_b9 at h
        try dsimp only
        refine cond_s h ?_ ?_ <;> clear h <;> intro hc h
        · refine ⟨_, _, _, (hS.cel mp0 rfl), ?_⟩
          refine drM_s hS ?_; clear hS; intro w hS
          replace h := bnd h
          obtain ⟨t8, ht8, h⟩ := h
          refine hf2 _ _ _ _ _ _ tl3 ht8 hS ?_; clear hS ht8; rintro z10 w rfl hS
          refine ⟨_, rfl, ?_⟩
          refine ⟨(hS.cel mp0 rfl), ?_⟩
          replace h := bnd h
          obtain ⟨t9, ht9, h⟩ := h
          obtain ⟨z11, rfl, q12x, q12l, q12r⟩ := atF ht9
          clear ht9
          refine idx_s ((Ent.sl mp1).now (fun _ h => h) hS) q12x q12l q12r ?_; intro b13 hb13
          refine drM_s hS ?_; clear hS; intro w hS
          replace hS := ro1 hS
          replace h := bnd h
          obtain ⟨t10, ht10, h⟩ := h
          obtain rfl := setF ht10
          clear ht10
          refine sto_s hS hb13 q12r ?_; clear hS; intro w hS
          refine drM_s hS ?_; clear hS; intro w hS
          obtain rfl := some_inj h
          exact hX _ rfl _ _ ⟨_, _, rfl, rfl, (hS.pick (A := [_, _, _]) [1, 0, 0] rfl)⟩
        · obtain rfl := some_inj h
          have h := congrArg some (hO _ rfl)
          obtain rfl := some_inj h
          exact hJ8 _ _ ⟨_, rfl, rfl, hS⟩
      · clear h8 hS
        rintro s w ⟨ws7, rfl, rfl, hS⟩
        have h := c8
        clear c8
        try dsimp only
        obtain rfl := some_inj h
        exact hX _ rfl _ _ ⟨_, _, rfl, rfl, hS⟩
    · obtain rfl := some_inj h
      have h := congrArg some (hO _ rfl)
      obtain rfl := some_inj h
      exact hJ5 _ _ ⟨_, rfl, rfl, hS⟩
  · clear h5 hS
    rintro s w ⟨ws4, rfl, rfl, hS⟩
    have h := c5
    clear c5
    try dsimp only
    refine ⟨_, (hS.cel mp0 rfl), ?_⟩
    refine ⟨_, (hS.cel mp0 rfl), ?_⟩
    refine ⟨_, _, _, (hS.cel mp0 rfl), ?_⟩
    replace hS := ro2 hS
    refine stc_s hS rfl rfl ?_; clear hS; intro w hS
    refine stc_s hS rfl rfl ?_; clear hS; intro w hS
    refine stc_s hS rfl rfl ?_; clear hS; intro w hS
    refine ⟨_, (hS.cel mp0 rfl), ?_⟩
    refine ⟨_, (hS.cel mp0 rfl), ?_⟩
    refine ⟨_, _, _, (hS.cel mp0 rfl), ?_⟩
    have h := some_inj h
    cases h
    exact hK _ _ _ _ _ rfl (hS.pick (A := [_, _, _]) [2] rfl)

theorem wk_matrix_Mul {N : Nums} {P : Program} (H : AllOk N P) {w0 w : World} {L : List It} {q0_0 : Int} {q0_1 : Int} {q0_2 : Option Addr} {q0_2l q0_2c : Nat} {ws0_2 : List Nat} {q1_0 : Int} {q1_1 : Int} {q1_2 : Option Addr} {q1_2l q1_2c : Nat} {ws1_2 : List Nat} {u0 : Int} {u1 : Int} {u2 : List Nat} {u3 : Int} (hS : Ho w0 w L) (hq0_2 : Ent L (rdA (List.map (Value.float .f64) ws0_2) q0_2 q0_2l q0_2c)) (hq1_2 : Ent L (rdA (List.map (Value.float .f64) ws1_2) q1_2 q1_2l q1_2c)) (hx : T_matrix_Mul q0_0 q0_1 (List.map nf ws0_2) q1_0 q1_1 (List.map nf ws1_2) = some (u0, u1, u2, u3)) {K : Value → World → Prop} (hK : ∀ (a2 : Option Addr) (n2 c2 : Nat) (rws2 : List Nat) (w1 : World), List.map nf rws2 = u2 → Ho w0 w1 ((sl a2 n2 c2 (List.map (Value.float .f64) rws2) N.t_float64) :: L) → K (.tuple #[.agg #[.int .i64 u0, .int .i64 u1, .slice a2 n2 c2], .int .i64 u3]) w1) : CallsX P N.f_matrix_Mul #[.agg #[.int .i64 q0_0, .int .i64 q0_1, .slice q0_2 q0_2l q0_2c], .agg #[.int .i64 q1_0, .int .i64 q1_1, .slice q1_2 q1_2l q1_2c]] w K := by
  refine H.matrix_Mul q0_0 q0_1 q0_2 q0_2l q0_2c q1_0 q1_1 q1_2 q1_2l q1_2c w _ ?_
  unfold S_matrix_Mul
  unfold T_matrix_Mul at hx
  have h := hx
  clear hx
  try dsimp only
  refine newM_s hS ?_; clear hS; intro r1 w hS
  refine newM_s hS ?_; clear hS; intro r2 w hS
  refine newM_s hS ?_; clear hS; intro r3 w hS
  replace h := bnd h
  obtain ⟨o4, h4, c4⟩ := h
  refine cutM_i (fun s w => ∃ (t1 : Bool), t1 = o4 ∧ s = (t1, ()) ∧ Ho w0 w ((cl r3 [.int .i64 0, .int .i64 0, .slice none 0 0] N.t_Matrix) :: (cl r2 [.int .i64 q1_0, .int .i64 q1_1, .slice q1_2 q1_2l q1_2c] N.t_Matrix) :: (cl r1 [.int .i64 q0_0, .int .i64 q0_1, .slice q0_2 q0_2l q0_2c] N.t_Matrix) :: L)) (fun J4 hJ4 => ?_) ?_
  · have h := h4
    clear h4
    refine ⟨_, (hS.cel mp2 rfl), ?_⟩
    refine ⟨_, (hS.cel mp2 rfl), ?_⟩
    refine ⟨_, _, _, (hS.cel mp2 rfl), ?_⟩
    replace h := bnd h
    obtain ⟨t2, ht2, h⟩ := h
    refine wk_matrix_Right H hS (hq0_2.mono tl3) ht2 ?_; clear hS ht2; rintro w hS
    refine ⟨_, rfl, ?_⟩
    refine cond_s h ?_ ?_ <;> clear h <;> intro hc h
    · refine ⟨_, (hS.cel mp1 rfl), ?_⟩
      refine ⟨_, (hS.cel mp1 rfl), ?_⟩
      refine ⟨_, _, _, (hS.cel mp1 rfl), ?_⟩
      replace h := bnd h
      obtain ⟨t3, ht3, h⟩ := h
      refine wk_matrix_Right H hS (hq1_2.mono tl3) ht3 ?_; clear hS ht3; rintro w hS
      refine ⟨_, rfl, ?_⟩
      refine cond_s h ?_ ?_ <;> clear h <;> intro hc h
      · refine ⟨_, (hS.cel mp2 rfl), ?_⟩
        refine ⟨_, (hS.cel mp1 rfl), ?_⟩
        obtain rfl := some_inj h
        exact hJ4 _ _ ⟨_, rfl, rfl, hS⟩
      · obtain rfl := some_inj h
        exact hJ4 _ _ ⟨_, rfl, rfl, hS⟩
    · obtain rfl := some_inj h
      exact hJ4 _ _ ⟨_, rfl, rfl, hS⟩
  · clear h4 hS
    rintro s w ⟨t1, rfl, rfl, hS⟩
    have h := c4
    clear c4
    try dsimp only
    refine cond_s h ?_ ?_ <;> clear h <;> intro hc h
    · refine stc_s hS rfl rfl ?_; clear hS; intro w hS
      refine stc_s hS rfl rfl ?_; clear hS; intro w hS
      refine stc_s hS rfl rfl ?_; clear hS; intro w hS
      refine ⟨_, (hS.cel mp0 rfl), ?_⟩
      refine ⟨_, (hS.cel mp0 rfl), ?_⟩
      refine ⟨_, _, _, (hS.cel mp0 rfl), ?_⟩
      replace hS := hS.none (α := Nat) (enc := (Value.float .f64)) (t := N.t_float64)
      have h := some_inj h
      cases h
      exact hK _ _ _ _ _ rfl (hS.pick (A := [_, _, _, _]) [0] rfl)
    · refine ⟨_, (hS.cel mp2 rfl), ?_⟩
      refine ⟨_, (hS.cel mp1 rfl), ?_⟩
      replace h := bnd h
      obtain ⟨⟨t4, t5, t6⟩, ho4, h⟩ := h
      refine wk_matrix_laid H hS (by intro v0 v1 w L1 r1 K hL hx hS hK; exact wk_matrix_Mul_1 H hS ((Ent.of mp2).mono hL) ((hq0_2.mono tl3).mono hL) ((Ent.of mp1).mono hL) ((hq1_2.mono tl3).mono hL) hx hK) ho4 ?_; clear hS ho4; rintro a5 m5 c5 ws5 w rfl hS
      refine ⟨_, _, _, _, _, rfl, ?_⟩
      replace hS := ro1 hS
      refine stc_s hS rfl rfl ?_; clear hS; intro w hS
      refine stc_s hS rfl rfl ?_; clear hS; intro w hS
      refine stc_s hS rfl rfl ?_; clear hS; intro w hS
      refine ⟨_, (hS.cel mp0 rfl), ?_⟩
      refine ⟨_, (hS.cel mp0 rfl), ?_⟩
      refine ⟨_, _, _, (hS.cel mp0 rfl), ?_⟩
      have h := some_inj h
      cases h
      exact hK _ _ _ _ _ rfl (hS.pick (A := [_, _, _, _]) [1] rfl)

theorem wk_matrix_Make_1 {N : Nums} {P : Program} (H : AllOk N P) {w0 w : World} {L : List It} {q0 : Int} {q1 : Int} {u0 : Nat} (hS : Ho w0 w L)  (hx : T_matrix_Make_1 q0 q1 = some u0) {K : Value → World → Prop} (hK : ∀ (z0 : Nat) (w1 : World), nf z0 = u0 → Ho w0 w1 (L) → K (.float .f64 z0) w1) : CallsX P N.f_matrix_Make_1 #[.int .i64 q0, .int .i64 q1] w K := by
  refine H.matrix_Make_1 q0 q1 w _ ?_
  unfold S_matrix_Make_1
  unfold T_matrix_Make_1 at hx
  have h := hx
  clear hx
  try dsimp only
  have h := some_inj h
  cases h
  exact hK _ _ rfl hS

theorem wk_matrix_Make {N : Nums} {P : Program} (H : AllOk N P) {w0 w : World} {L : List It} {q0 : Int} {q1 : Int} {u0 : Int} {u1 : Int} {u2 : List Nat} {u3 : Int} (hS : Ho w0 w L)  (hx : T_matrix_Make q0 q1 = some (u0, u1, u2, u3)) {K : Value → World → Prop} (hK : ∀ (a2 : Option Addr) (n2 c2 : Nat) (rws2 : List Nat) (w1 : World), List.map nf rws2 = u2 → Ho w0 w1 ((sl a2 n2 c2 (List.map (Value.float .f64) rws2) N.t_float64) :: L) → K (.tuple #[.agg #[.int .i64 u0, .int .i64 u1, .slice a2 n2 c2], .int .i64 u3]) w1) : CallsX P N.f_matrix_Make #[.int .i64 q0, .int .i64 q1] w K := by
  refine H.matrix_Make q0 q1 w _ ?_
  unfold S_matrix_Make
  unfold T_matrix_Make at hx
  have h := hx
  clear hx
  try dsimp only
  refine newM_s hS ?_; clear hS; intro r1 w hS
  replace h := bnd h
  obtain ⟨t1, ht1, h⟩ := h
  refine wk_matrix_fits H hS  ht1 ?_; clear hS ht1; rintro w hS
  refine ⟨_, rfl, ?_⟩
  refine cond_s h ?_ ?_ <;> clear h <;> intro hc h
  · replace h := bnd h
    obtain ⟨t2, ht2, h⟩ := h
    refine wk_matrix_fits H hS  ht2 ?_; clear hS ht2; rintro w hS
    refine ⟨_, rfl, ?_⟩
    refine cond_s h ?_ ?_ <;> clear h <;> intro hc h
    · refine stc_s hS rfl rfl ?_; clear hS; intro w hS
      refine stc_s hS rfl rfl ?_; clear hS; intro w hS
      refine stc_s hS rfl rfl ?_; clear hS; intro w hS
      refine ⟨_, (hS.cel mp0 rfl), ?_⟩
      refine ⟨_, (hS.cel mp0 rfl), ?_⟩
      refine ⟨_, _, _, (hS.cel mp0 rfl), ?_⟩
      replace hS := hS.none (α := Nat) (enc := (Value.float .f64)) (t := N.t_float64)
      have h := some_inj h
      cases h
      exact hK _ _ _ _ _ rfl (hS.pick (A := [_, _]) [0] rfl)
    · replace h := bnd h
      obtain ⟨⟨t3, t4, t5⟩, ho3, h⟩ := h
      refine wk_matrix_laid H hS (by intro v0 v1 w L1 r1 K hL hx hS hK; exact wk_matrix_Make_1 H hS  hx hK) ho3 ?_; clear hS ho3; rintro a2 m2 c2 ws2 w rfl hS
      refine ⟨_, _, _, _, _, rfl, ?_⟩
      replace hS := ro1 hS
      refine stc_s hS rfl rfl ?_; clear hS; intro w hS
      refine stc_s hS rfl rfl ?_; clear hS; intro w hS
      refine stc_s hS rfl rfl ?_; clear hS; intro w hS
      refine ⟨_, (hS.cel mp0 rfl), ?_⟩
      refine ⟨_, (hS.cel mp0 rfl), ?_⟩
      refine ⟨_, _, _, (hS.cel mp0 rfl), ?_⟩
      have h := some_inj h
      cases h
      exact hK _ _ _ _ _ rfl (hS.pick (A := [_, _]) [1] rfl)
  · refine stc_s hS rfl rfl ?_; clear hS; intro w hS
    refine stc_s hS rfl rfl ?_; clear hS; intro w hS
    refine stc_s hS rfl rfl ?_; clear hS; intro w hS
    refine ⟨_, (hS.cel mp0 rfl), ?_⟩
    refine ⟨_, (hS.cel mp0 rfl), ?_⟩
    refine ⟨_, _, _, (hS.cel mp0 rfl), ?_⟩
    replace hS := hS.none (α := Nat) (enc := (Value.float .f64)) (t := N.t_float64)
    have h := some_inj h
    cases h
    exact hK _ _ _ _ _ rfl (hS.pick (A := [_, _]) [0] rfl)

theorem wk_matrix_Identity {N : Nums} {P : Program} (H : AllOk N P) {w0 w : World} {L : List It} {q0 : Int} {u0 : Int} {u1 : Int} {u2 : List Nat} {u3 : Int} (hS : Ho w0 w L)  (hx : T_matrix_Identity q0 = some (u0, u1, u2, u3)) {K : Value → World → Prop} (hK : ∀ (a2 : Option Addr) (n2 c2 : Nat) (rws2 : List Nat) (w1 : World), List.map nf rws2 = u2 → Ho w0 w1 ((sl a2 n2 c2 (List.map (Value.float .f64) rws2) N.t_float64) :: L) → K (.tuple #[.agg #[.int .i64 u0, .int .i64 u1, .slice a2 n2 c2], .int .i64 u3]) w1) : CallsX P N.f_matrix_Identity #[.int .i64 q0] w K := by
  refine H.matrix_Identity q0 w _ ?_
  unfold S_matrix_Identity
  unfold T_matrix_Identity at hx
  have h := hx
  clear hx
  try dsimp only
  refine newM_s hS ?_; clear hS; intro r1 w hS
  replace h := bnd h
  obtain ⟨⟨t1, t2, t3, t4⟩, ho1, h⟩ := h
  refine wk_matrix_Make H hS  ho1 ?_; clear hS ho1; rintro a2 m2 c2 ws2 w rfl hS
  refine ⟨_, _, _, _, _, _, rfl, ?_⟩
  refine newM_s hS ?_; clear hS; intro r3 w hS
  refine stc_s hS rfl rfl ?_; clear hS; intro w hS
  refine stc_s hS rfl rfl ?_; clear hS; intro w hS
  refine stc_s hS rfl rfl ?_; clear hS; intro w hS
  refine ⟨_, (hS.cel mp0 rfl), ?_⟩
  replace h := bnd h
  obtain ⟨o5, h5, c5⟩ := h
  refine cutM_i (fun s w => ∃ (ws4 : List Nat), (List.map nf ws4) = o5 ∧ s = (()) ∧ Ho w0 w ((cl r3 [.int .i64 t1, .int .i64 t2, .slice a2 m2 c2] N.t_Matrix) :: (sl a2 m2 c2 (List.map (Value.float .f64) ws4) N.t_float64) :: (cl r1 [.int .i64 0, .int .i64 0, .slice none 0 0] N.t_Matrix) :: L)) (fun J5 hJ5 => ?_) ?_
  · have h := h5
    clear h5
    refine iter_sim (fun s w t => ∃ (t6 : Int) (ws6 : List Nat), (t6, (List.map nf ws6)) = t ∧ s = (t6, ()) ∧ Ho w0 w ((cl r3 [.int .i64 t1, .int .i64 t2, .slice a2 m2 c2] N.t_Matrix) :: (sl a2 m2 c2 (List.map (Value.float .f64) ws6) N.t_float64) :: (cl r1 [.int .i64 0, .int .i64 0, .slice none 0 0] N.t_Matrix) :: L)) ?_ h ⟨_, _, rfl, rfl, hS⟩
    clear h hS
    rintro s w t X q ⟨t6, ws6, rfl, rfl, hS⟩ h hX hO
    unfold T_matrix_Identity_b2 at h
    try dsimp only
    refine cond_s h ?_ ?_ <;> clear h <;> intro hc h
    · refine ⟨_, _, _, (hS.cel mp0 rfl), ?_⟩
      replace h := bnd h
      obtain ⟨t8, ht8, h⟩ := h
      obtain ⟨z7, rfl, q8x, q8l, q8r⟩ := atF ht8
      clear ht8
      refine idx_s ((Ent.sl mp1).now (fun _ h => h) hS) q8x q8l q8r ?_; intro b9 hb9
      replace hS := ro1 hS
      replace h := bnd h
      obtain ⟨t9, ht9, h⟩ := h
      obtain rfl := setF ht9
      clear ht9
      refine sto_s hS hb9 q8r ?_; clear hS; intro w hS
      obtain rfl := some_inj h
      exact hX _ rfl _ _ ⟨_, _, rfl, rfl, (hS.pick (A := [_, _, _]) [1, 0, 0] rfl)⟩
    · obtain rfl := some_inj h
      have h := congrArg some (hO _ rfl)
      obtain rfl := some_inj h
      exact hJ5 _ _ ⟨_, rfl, rfl, hS⟩
  · clear h5 hS
    rintro s w ⟨ws4, rfl, rfl, hS⟩
    have h := c5
    clear c5
    try dsimp only
    refine ⟨_, (hS.cel mp0 rfl), ?_⟩
    refine ⟨_, (hS.cel mp0 rfl), ?_⟩
    refine ⟨_, _, _, (hS.cel mp0 rfl), ?_⟩
    replace hS := ro2 hS
    refine stc_s hS rfl rfl ?_; clear hS; intro w hS
    refine stc_s hS rfl rfl ?_; clear hS; intro w hS
    refine stc_s hS rfl rfl ?_; clear hS; intro w hS
    refine ⟨_, (hS.cel mp0 rfl), ?_⟩
    refine ⟨_, (hS.cel mp0 rfl), ?_⟩
    refine ⟨_, _, _, (hS.cel mp0 rfl), ?_⟩
    have h := some_inj h
    cases h
    exact hK _ _ _ _ _ rfl (hS.pick (A := [_, _, _]) [2] rfl)

theorem wk_matrix_Sub_1 {N : Nums} {P : Program} (H : AllOk N P) {w0 w : World} {L : List It} {q0 : Int} {q1 : Int} {r_2 : Nat} {q2_0 : Int} {q2_1 : Int} {q2_2 : Option Addr} {q2_2l q2_2c : Nat} {ws2_2 : List Nat} {r_3 : Nat} {q3_0 : Int} {q3_1 : Int} {q3_2 : Option Addr} {q3_2l q3_2c : Nat} {ws3_2 : List Nat} {u0 : Nat} (hS : Ho w0 w L) (eq2 : Ent L (cl r_2 [.int .i64 q2_0, .int .i64 q2_1, .slice q2_2 q2_2l q2_2c] N.t_Matrix).A) (hq2_2 : Ent L (rdA (List.map (Value.float .f64) ws2_2) q2_2 q2_2l q2_2c)) (eq3 : Ent L (cl r_3 [.int .i64 q3_0, .int .i64 q3_1, .slice q3_2 q3_2l q3_2c] N.t_Matrix).A) (hq3_2 : Ent L (rdA (List.map (Value.float .f64) ws3_2) q3_2 q3_2l q3_2c)) (hx : T_matrix_Sub_1 q0 q1 q2_0 q2_1 (List.map nf ws2_2) q3_0 q3_1 (List.map nf ws3_2) = some u0) {K : Value → World → Prop} (hK : ∀ (z0 : Nat) (w1 : World), nf z0 = u0 → Ho w0 w1 (L) → K (.float .f64 z0) w1) : CallsX P N.f_matrix_Sub_1 #[.int .i64 q0, .int .i64 q1, .pointer (some ⟨r_2, 0, none⟩), .pointer (some ⟨r_3, 0, none⟩)] w K := by
  refine H.matrix_Sub_1 q0 q1 (some ⟨r_2, 0, none⟩) (some ⟨r_3, 0, none⟩) w _ ?_
  unfold S_matrix_Sub_1
  unfold T_matrix_Sub_1 at hx
  have h := hx
  clear hx
  try dsimp only
  refine optM_s ?_
  refine ⟨_, _, _, (eq2.cel (fun _ h => h) hS rfl), ?_⟩
  refine optM_s ?_
  refine ⟨_, (eq2.cel (fun _ h => h) hS rfl), ?_⟩
  replace h := bnd h
  obtain ⟨t1, ht1, h⟩ := h
  obtain ⟨z1, rfl, q2x, q2l, q2r⟩ := atF ht1
  clear ht1
  refine idx_s (hq2_2.now (fun _ h => h) hS) q2x q2l q2r ?_; intro b3 hb3
  refine ⟨_, rd_get (hq2_2.now (fun _ h => h) hS) hb3 q2x, ?_⟩
  refine optM_s ?_
  refine ⟨_, _, _, (eq3.cel (fun _ h => h) hS rfl), ?_⟩
  refine optM_s ?_
  refine ⟨_, (eq2.cel (fun _ h => h) hS rfl), ?_⟩
  replace h := bnd h
  obtain ⟨t2, ht2, h⟩ := h
  obtain ⟨z4, rfl, q5x, q5l, q5r⟩ := atF ht2
  clear ht2
  refine idx_s (hq3_2.now (fun _ h => h) hS) q5x q5l q5r ?_; intro b6 hb6
  refine ⟨_, rd_get (hq3_2.now (fun _ h => h) hS) hb6 q5x, ?_⟩
  replace h := bnd h
  obtain ⟨t3, ht3, h⟩ := h
  refine fsub_s ht3 hS ?_; clear ht3; rintro z7 _ rfl _
  refine drM_s hS ?_; clear hS; intro w hS
  have h := some_inj h
  cases h
  exact hK _ _ rfl hS

theorem wk_matrix_Sub {N : Nums} {P : Program} (H : AllOk N P) {w0 w : World} {L : List It} {q0_0 : Int} {q0_1 : Int} {q0_2 : Option Addr} {q0_2l q0_2c : Nat} {ws0_2 : List Nat} {q1_0 : Int} {q1_1 : Int} {q1_2 : Option Addr} {q1_2l q1_2c : Nat} {ws1_2 : List Nat} {u0 : Int} {u1 : Int} {u2 : List Nat} {u3 : Int} (hS : Ho w0 w L) (hq0_2 : Ent L (rdA (List.map (Value.float .f64) ws0_2) q0_2 q0_2l q0_2c)) (hq1_2 : Ent L (rdA (List.map (Value.float .f64) ws1_2) q1_2 q1_2l q1_2c)) (hx : T_matrix_Sub q0_0 q0_1 (List.map nf ws0_2) q1_0 q1_1 (List.map nf ws1_2) = some (u0, u1, u2, u3)) {K : Value → World → Prop} (hK : ∀ (a2 : Option Addr) (n2 c2 : Nat) (rws2 : List Nat) (w1 : World), List.map nf rws2 = u2 → Ho w0 w1 ((sl a2 n2 c2 (List.map (Value.float .f64) rws2) N.t_float64) :: L) → K (.tuple #[.agg #[.int .i64 u0, .int .i64 u1, .slice a2 n2 c2], .int .i64 u3]) w1) : CallsX P N.f_matrix_Sub #[.agg #[.int .i64 q0_0, .int .i64 q0_1, .slice q0_2 q0_2l q0_2c], .agg #[.int .i64 q1_0, .int .i64 q1_1, .slice q1_2 q1_2l q1_2c]] w K := by
  refine H.matrix_Sub q0_0 q0_1 q0_2 q0_2l q0_2c q1_0 q1_1 q1_2 q1_2l q1_2c w _ ?_
  unfold S_matrix_Sub
  unfold T_matrix_Sub at hx
  have h := hx
  clear hx
  try dsimp only
  refine newM_s hS ?_; clear hS; intro r1 w hS
  refine newM_s hS ?_; clear hS; intro r2 w hS
  refine newM_s hS ?_; clear hS; intro r3 w hS
  replace h := bnd h
  obtain ⟨o4, h4, c4⟩ := h
  refine cutM_i (fun s w => ∃ (t1 : Bool), t1 = o4 ∧ s = (t1, ()) ∧ Ho w0 w ((cl r3 [.int .i64 0, .int .i64 0, .slice none 0 0] N.t_Matrix) :: (cl r2 [.int .i64 q1_0, .int .i64 q1_1, .slice q1_2 q1_2l q1_2c] N.t_Matrix) :: (cl r1 [.int .i64 q0_0, .int .i64 q0_1, .slice q0_2 q0_2l q0_2c] N.t_Matrix) :: L)) (fun J4 hJ4 => ?_) ?_
  · have h := h4
    clear h4
    refine ⟨_, (hS.cel mp2 rfl), ?_⟩
    refine ⟨_, (hS.cel mp2 rfl), ?_⟩
    refine ⟨_, _, _, (hS.cel mp2 rfl), ?_⟩
    replace h := bnd h
    obtain ⟨t2, ht2, h⟩ := h
    refine wk_matrix_Right H hS (hq0_2.mono tl3) ht2 ?_; clear hS ht2; rintro w hS
    refine ⟨_, rfl, ?_⟩
    refine cond_s h ?_ ?_ <;> clear h <;> intro hc h
    · refine ⟨_, (hS.cel mp1 rfl), ?_⟩
      refine ⟨_, (hS.cel mp1 rfl), ?_⟩
      refine ⟨_, _, _, (hS.cel mp1 rfl), ?_⟩
      replace h := bnd h
      obtain ⟨t3, ht3, h⟩ := h
      refine wk_matrix_Right H hS (hq1_2.mono tl3) ht3 ?_; clear hS ht3; rintro w hS
      refine ⟨_, rfl, ?_⟩
      refine cond_s h ?_ ?_ <;> clear h <;> intro hc h
      · refine ⟨_, (hS.cel mp2 rfl), ?_⟩
        refine ⟨_, (hS.cel mp1 rfl), ?_⟩
        refine cond_s h ?_ ?_ <;> clear h <;> intro hc h
        · refine ⟨_, (hS.cel mp2 rfl), ?_⟩
          refine ⟨_, (hS.cel mp1 rfl), ?_⟩
          obtain rfl := some_inj h
          exact hJ4 _ _ ⟨_, rfl, rfl, hS⟩
        · obtain rfl := some_inj h
          exact hJ4 _ _ ⟨_, rfl, rfl, hS⟩
      · obtain rfl := some_inj h
        exact hJ4 _ _ ⟨_, rfl, rfl, hS⟩
    · obtain rfl := some_inj h
      exact hJ4 _ _ ⟨_, rfl, rfl, hS⟩
  · clear h4 hS
    rintro s w ⟨t1, rfl, rfl, hS⟩
    have h := c4
    clear c4
    try dsimp only
    refine cond_s h ?_ ?_ <;> clear h <;> intro hc h
    · refine stc_s hS rfl rfl ?_; clear hS; intro w hS
      refine stc_s hS rfl rfl ?_; clear hS; intro w hS
      refine stc_s hS rfl rfl ?_; clear hS; intro w hS
      refine ⟨_, (hS.cel mp0 rfl), ?_⟩
      refine ⟨_, (hS.cel mp0 rfl), ?_⟩
      refine ⟨_, _, _, (hS.cel mp0 rfl), ?_⟩
      replace hS := hS.none (α := Nat) (enc := (Value.float .f64)) (t := N.t_float64)
      have h := some_inj h
      cases h
      exact hK _ _ _ _ _ rfl (hS.pick (A := [_, _, _, _]) [0] rfl)
    · refine ⟨_, (hS.cel mp2 rfl), ?_⟩
      refine ⟨_, (hS.cel mp2 rfl), ?_⟩
      replace h := bnd h
      obtain ⟨⟨t4, t5, t6⟩, ho4, h⟩ := h
      refine wk_matrix_laid H hS (by intro v0 v1 w L1 r1 K hL hx hS hK; exact wk_matrix_Sub_1 H hS ((Ent.of mp2).mono hL) ((hq0_2.mono tl3).mono hL) ((Ent.of mp1).mono hL) ((hq1_2.mono tl3).mono hL) hx hK) ho4 ?_; clear hS ho4; rintro a5 m5 c5 ws5 w rfl hS
      refine ⟨_, _, _, _, _, rfl, ?_⟩
      replace hS := ro1 hS
      refine stc_s hS rfl rfl ?_; clear hS; intro w hS
      refine stc_s hS rfl rfl ?_; clear hS; intro w hS
      refine stc_s hS rfl rfl ?_; clear hS; intro w hS
      refine ⟨_, (hS.cel mp0 rfl), ?_⟩
      refine ⟨_, (hS.cel mp0 rfl), ?_⟩
      refine ⟨_, _, _, (hS.cel mp0 rfl), ?_⟩
      have h := some_inj h
      cases h
      exact hK _ _ _ _ _ rfl (hS.pick (A := [_, _, _, _]) [1] rfl)

theorem wk_girderlaw10_finite {N : Nums} {P : Program} (H : AllOk N P) {w0 w : World} {L : List It} {q0 : Option Addr} {q0l q0c : Nat} {ws0 : List Nat} {u0 : Bool} (hS : Ho w0 w L) (hq0 : Ent L (rdA (List.map (Value.float .f64) ws0) q0 q0l q0c)) (hx : T_girderlaw10_finite (List.map nf ws0) = some u0) {K : Value → World → Prop} (hK : ∀  (w1 : World), Ho w0 w1 (L) → K (.bool u0) w1) : CallsX P N.f_girderlaw10_finite #[.slice q0 q0l q0c] w K := by
  refine H.girderlaw10_finite q0 q0l q0c w _ ?_
  unfold S_girderlaw10_finite
  unfold T_girderlaw10_finite at hx
  have h := hx
  clear hx
  try dsimp only
  replace h := bnd h
  obtain ⟨o1, h1, c1⟩ := h
  refine cutM_i (fun s w =>  .inl () = o1 ∧ s = (()) ∧ Ho w0 w (L)) (fun J1 hJ1 => ?_) ?_
  · have h := h1
    clear h1
    refine iter_sim (fun s w t => ∃ (t1 : Int), t1 = t ∧ s = (t1, ()) ∧ Ho w0 w (L)) ?_ h ⟨_, rfl, rfl, hS⟩
    clear h hS
    rintro s w t X q ⟨t1, rfl, rfl, hS⟩ h hX hO
    unfold T_girderlaw10_finite_b2 at h
    try dsimp only
    replace h := bnd h
    obtain ⟨t2, ht2, h⟩ := h
    obtain rfl := lenF ht2 (hq0.now (fun _ h => h) hS)
    clear ht2
    refine cond_s h ?_ ?_ <;> clear h <;> intro hc h
    · replace h := bnd h
      obtain ⟨t3, ht3, h⟩ := h
      obtain ⟨z2, rfl, q3x, q3l, q3r⟩ := atF ht3
      clear ht3
      refine idx_s (hq0.now (fun _ h => h) hS) q3x q3l q3r ?_; intro b4 hb4
      refine ⟨_, rd_get (hq0.now (fun _ h => h) hS) hb4 q3x, ?_⟩
      replace h := bnd h
      obtain ⟨t4, ht4, h⟩ := h
      obtain ⟨z5, rfl, q6x, q6l, q6r⟩ := atF ht4
      clear ht4
      refine idx_s (hq0.now (fun _ h => h) hS) q6x q6l q6r ?_; intro b7 hb7
      refine ⟨_, rd_get (hq0.now (fun _ h => h) hS) hb7 q6x, ?_⟩
      replace h := bnd h
      obtain ⟨t5, ht5, h⟩ := h
      refine fsub_s ht5 hS ?_; clear ht5; rintro z8 _ rfl _
      replace h := bnd h
      obtain ⟨t6, ht6, h⟩ := h
      obtain rfl := fne_s ht6
      clear ht6
      refine drM_s hS ?_; clear hS; intro w hS
      refine cond_s h ?_ ?_ <;> clear h <;> intro hc h
      · obtain rfl := some_inj h
        have h := congrArg some (hO _ rfl)
        obtain rfl := some_inj h
        have h := c1
        have h := some_inj h
        cases h
        exact hK _ hS
      · obtain rfl := some_inj h
        exact hX _ rfl _ _ ⟨_, rfl, rfl, hS⟩
    · obtain rfl := some_inj h
      have h := congrArg some (hO _ rfl)
      obtain rfl := some_inj h
      exact hJ1 _ _ ⟨rfl, rfl, hS⟩
  · clear h1 hS
    rintro s w ⟨rfl, rfl, hS⟩
    have h := c1
    clear c1
    try dsimp only
    have h := some_inj h
    cases h
    exact hK _ hS

theorem wk_math_Float64bits {N : Nums} {P : Program} (H : AllOk N P) {w0 w : World} {L : List It} {q0 : Nat} {u0 : Int} (hS : Ho w0 w L)  (hx : T_math_Float64bits (nf q0) = some u0) {K : Value → World → Prop} (hK : ∀  (w1 : World), Ho w0 w1 (L) → K (.int .u64 u0) w1) : CallsX P N.f_math_Float64bits #[.float .f64 q0] w K := by
  unfold T_math_Float64bits at hx
  have hn : isNaN q0 = false := by
    cases e : isNaN q0 with
    | false => rfl
    | true => rw [isNaN_nf, e] at hx; cases hx
  rw [isNaN_nf, hn, nf_of_not hn] at hx
  have hx := some_inj hx
  subst hx
  exact H.math_Float64bits q0 w _ (hK _ hS)

theorem wk_girderkit_SameFloat {N : Nums} {P : Program} (H : AllOk N P) {w0 w : World} {L : List It} {q0 : Nat} {q1 : Nat} {u0 : Bool} (hS : Ho w0 w L)  (hx : T_girderkit_SameFloat (nf q0) (nf q1) = some u0) {K : Value → World → Prop} (hK : ∀  (w1 : World), Ho w0 w1 (L) → K (.bool u0) w1) : CallsX P N.f_girderkit_SameFloat #[.float .f64 q0, .float .f64 q1] w K := by
  unfold T_girderkit_SameFloat at hx
  have hx := some_inj hx
  subst hx
  refine (sameFloat_c H q0 q1 w).mono ?_
  rintro _ w1 ⟨rfl, h1⟩
  exact hK _ (hS.next h1)

theorem wk_matrix_Apply {N : Nums} {P : Program} (H : AllOk N P) {w0 w : World} {L : List It} {q0_0 : Int} {q0_1 : Int} {q0_2 : Option Addr} {q0_2l q0_2c : Nat} {ws0_2 : List Nat} {q1 : Option Addr} {q1l q1c : Nat} {ws1 : List Nat} {u0 : List Nat} {u1 : Int} (hS : Ho w0 w L) (hq0_2 : Ent L (rdA (List.map (Value.float .f64) ws0_2) q0_2 q0_2l q0_2c)) (hq1 : Ent L (rdA (List.map (Value.float .f64) ws1) q1 q1l q1c)) (hx : T_matrix_Apply q0_0 q0_1 (List.map nf ws0_2) (List.map nf ws1) = some (u0, u1)) {K : Value → World → Prop} (hK : ∀ (a0 : Option Addr) (n0 c0 : Nat) (rws0 : List Nat) (w1 : World), List.map nf rws0 = u0 → Ho w0 w1 ((sl a0 n0 c0 (List.map (Value.float .f64) rws0) N.t_float64) :: L) → K (.tuple #[.slice a0 n0 c0, .int .i64 u1]) w1) : CallsX P N.f_matrix_Apply #[.agg #[.int .i64 q0_0, .int .i64 q0_1, .slice q0_2 q0_2l q0_2c], .slice q1 q1l q1c] w K := by
  refine H.matrix_Apply q0_0 q0_1 q0_2 q0_2l q0_2c q1 q1l q1c w _ ?_
  unfold S_matrix_Apply
  unfold T_matrix_Apply at hx
  have h := hx
  clear hx
  try dsimp only
  refine newM_s hS ?_; clear hS; intro r1 w hS
  refine ⟨_, (hS.cel mp0 rfl), ?_⟩
  refine ⟨_, (hS.cel mp0 rfl), ?_⟩
  refine ⟨_, _, _, (hS.cel mp0 rfl), ?_⟩
  replace h := bnd h
  obtain ⟨t1, ht1, h⟩ := h
  obtain rfl := lenF ht1 ((hq1.mono tl1).now (fun _ h => h) hS)
  clear ht1
  replace h := bnd h
  obtain ⟨⟨t2, t3, t4, t5⟩, ho2, h⟩ := h
  refine wk_matrix_Mul H hS (hq0_2.mono tl1) (hq1.mono tl1) ho2 ?_; clear hS ho2; rintro a2 m2 c2 ws2 w rfl hS
  refine ⟨_, _, _, _, _, _, rfl, ?_⟩
  refine newM_s hS ?_; clear hS; intro r3 w hS
  refine stc_s hS rfl rfl ?_; clear hS; intro w hS
  refine stc_s hS rfl rfl ?_; clear hS; intro w hS
  refine stc_s hS rfl rfl ?_; clear hS; intro w hS
  refine ⟨_, _, _, (hS.cel mp0 rfl), ?_⟩
  have h := some_inj h
  cases h
  exact hK _ _ _ _ _ rfl (hS.pick (A := [_, _, _]) [1] rfl)

theorem wk_girderkit_SameReals {N : Nums} {P : Program} (H : AllOk N P) {w0 w : World} {L : List It} {q0 : Option Addr} {q0l q0c : Nat} {ws0 : List Nat} {q1 : Option Addr} {q1l q1c : Nat} {ws1 : List Nat} {u0 : Bool} (hS : Ho w0 w L) (hq0 : Ent L (rdA (List.map (Value.float .f64) ws0) q0 q0l q0c)) (hq1 : Ent L (rdA (List.map (Value.float .f64) ws1) q1 q1l q1c)) (hx : T_girderkit_SameReals (List.map nf ws0) (List.map nf ws1) = some u0) {K : Value → World → Prop} (hK : ∀  (w1 : World), Ho w0 w1 (L) → K (.bool u0) w1) : CallsX P N.f_girderkit_SameReals #[.slice q0 q0l q0c, .slice q1 q1l q1c] w K := by
  refine H.girderkit_SameReals q0 q0l q0c q1 q1l q1c w _ ?_
  unfold S_girderkit_SameReals
  unfold T_girderkit_SameReals at hx
  have h := hx
  clear hx
  try dsimp only
  replace h := bnd h
  obtain ⟨t1, ht1, h⟩ := h
  obtain rfl := lenF ht1 (hq0.now (fun _ h => h) hS)
  clear ht1
  replace h := bnd h
  obtain ⟨t2, ht2, h⟩ := h
  obtain rfl := lenF ht2 (hq1.now (fun _ h => h) hS)
  clear ht2
  refine cond_s h ?_ ?_ <;> clear h <;> intro hc h
  · have h := some_inj h
    cases h
    exact hK _ hS
  · replace h := bnd h
    obtain ⟨o1, h1, c1⟩ := h
    refine cutM_i (fun s w =>  .inl () = o1 ∧ s = (()) ∧ Ho w0 w (L)) (fun J1 hJ1 => ?_) ?_
    · have h := h1
      clear h1
      refine iter_sim (fun s w t => ∃ (t3 : Int), t3 = t ∧ s = (t3, ()) ∧ Ho w0 w (L)) ?_ h ⟨_, rfl, rfl, hS⟩
      clear h hS
      rintro s w t X q ⟨t3, rfl, rfl, hS⟩ h hX hO
      unfold T_girderkit_SameReals_b2 at h
      try dsimp only
      replace h := bnd h
      obtain ⟨t4, ht4, h⟩ := h
      obtain rfl := lenF ht4 (hq0.now (fun _ h => h) hS)
      clear ht4
      refine cond_s h ?_ ?_ <;> clear h <;> intro hc h
      · replace h := bnd h
        obtain ⟨t5, ht5, h⟩ := h
        obtain ⟨z2, rfl, q3x, q3l, q3r⟩ := atF ht5
        clear ht5
        refine idx_s (hq0.now (fun _ h => h) hS) q3x q3l q3r ?_; intro b4 hb4
        refine ⟨_, rd_get (hq0.now (fun _ h => h) hS) hb4 q3x, ?_⟩
        replace h := bnd h
        obtain ⟨t6, ht6, h⟩ := h
        obtain ⟨z5, rfl, q6x, q6l, q6r⟩ := atF ht6
        clear ht6
        refine idx_s (hq1.now (fun _ h => h) hS) q6x q6l q6r ?_; intro b7 hb7
        refine ⟨_, rd_get (hq1.now (fun _ h => h) hS) hb7 q6x, ?_⟩
        refine drM_s hS ?_; clear hS; intro w hS
        replace h := bnd h
        obtain ⟨t7, ht7, h⟩ := h
        refine wk_girderkit_SameFloat H hS  ht7 ?_; clear hS ht7; rintro w hS
        refine ⟨_, rfl, ?_⟩
        refine drM_s hS ?_; clear hS; intro w hS
        refine cond_s h ?_ ?_ <;> clear h <;> intro hc h
        · obtain rfl := some_inj h
          have h := congrArg some (hO _ rfl)
          obtain rfl := some_inj h
          have h := c1
          have h := some_inj h
          cases h
          exact hK _ hS
        · obtain rfl := some_inj h
          exact hX _ rfl _ _ ⟨_, rfl, rfl, hS⟩
      · obtain rfl := some_inj h
        have h := congrArg some (hO _ rfl)
        obtain rfl := some_inj h
        exact hJ1 _ _ ⟨rfl, rfl, hS⟩
    · clear h1 hS
      rintro s w ⟨rfl, rfl, hS⟩
      have h := c1
      clear c1
      try dsimp only
      have h := some_inj h
      cases h
      exact hK _ hS

theorem wk_girderkit_SameMatrix {N : Nums} {P : Program} (H : AllOk N P) {w0 w : World} {L : List It} {q0_0 : Int} {q0_1 : Int} {q0_2 : Option Addr} {q0_2l q0_2c : Nat} {ws0_2 : List Nat} {q1_0 : Int} {q1_1 : Int} {q1_2 : Option Addr} {q1_2l q1_2c : Nat} {ws1_2 : List Nat} {u0 : Bool} (hS : Ho w0 w L) (hq0_2 : Ent L (rdA (List.map (Value.float .f64) ws0_2) q0_2 q0_2l q0_2c)) (hq1_2 : Ent L (rdA (List.map (Value.float .f64) ws1_2) q1_2 q1_2l q1_2c)) (hx : T_girderkit_SameMatrix q0_0 q0_1 (List.map nf ws0_2) q1_0 q1_1 (List.map nf ws1_2) = some u0) {K : Value → World → Prop} (hK : ∀  (w1 : World), Ho w0 w1 (L) → K (.bool u0) w1) : CallsX P N.f_girderkit_SameMatrix #[.agg #[.int .i64 q0_0, .int .i64 q0_1, .slice q0_2 q0_2l q0_2c], .agg #[.int .i64 q1_0, .int .i64 q1_1, .slice q1_2 q1_2l q1_2c]] w K := by
  refine H.girderkit_SameMatrix q0_0 q0_1 q0_2 q0_2l q0_2c q1_0 q1_1 q1_2 q1_2l q1_2c w _ ?_
  unfold S_girderkit_SameMatrix
  unfold T_girderkit_SameMatrix at hx
  have h := hx
  clear hx
  try dsimp only
  refine newM_s hS ?_; clear hS; intro r1 w hS
  refine newM_s hS ?_; clear hS; intro r2 w hS
  refine ⟨_, (hS.cel mp1 rfl), ?_⟩
  refine ⟨_, (hS.cel mp0 rfl), ?_⟩
  refine cond_s h ?_ ?_ <;> clear h <;> intro hc h
  · refine ⟨_, (hS.cel mp1 rfl), ?_⟩
    refine ⟨_, (hS.cel mp0 rfl), ?_⟩
    refine cond_s h ?_ ?_ <;> clear h <;> intro hc h
    · refine ⟨_, _, _, (hS.cel mp1 rfl), ?_⟩
      refine ⟨_, _, _, (hS.cel mp0 rfl), ?_⟩
      replace h := bnd h
      obtain ⟨t1, ht1, h⟩ := h
      refine wk_girderkit_SameReals H hS (hq0_2.mono tl2) (hq1_2.mono tl2) ht1 ?_; clear hS ht1; rintro w hS
      refine ⟨_, rfl, ?_⟩
      have h := some_inj h
      cases h
      exact hK _ (hS.pick (A := [_, _]) [] rfl)
    · have h := some_inj h
      cases h
      exact hK _ (hS.pick (A := [_, _]) [] rfl)
  · have h := some_inj h
    cases h
    exact hK _ (hS.pick (A := [_, _]) [] rfl)

theorem wk_girderlaw10_is {N : Nums} {P : Program} (H : AllOk N P) {w0 w : World} {L : List It} {q0_0 : Int} {q0_1 : Int} {q0_2 : Option Addr} {q0_2l q0_2c : Nat} {ws0_2 : List Nat} {q1 : Int} {q2_0 : Int} {q2_1 : Int} {q2_2 : Option Addr} {q2_2l q2_2c : Nat} {ws2_2 : List Nat} {q3 : Int} {u0 : Bool} (hS : Ho w0 w L) (hq0_2 : Ent L (rdA (List.map (Value.float .f64) ws0_2) q0_2 q0_2l q0_2c)) (hq2_2 : Ent L (rdA (List.map (Value.float .f64) ws2_2) q2_2 q2_2l q2_2c)) (hx : T_girderlaw10_is q0_0 q0_1 (List.map nf ws0_2) q1 q2_0 q2_1 (List.map nf ws2_2) q3 = some u0) {K : Value → World → Prop} (hK : ∀  (w1 : World), Ho w0 w1 (L) → K (.bool u0) w1) : CallsX P N.f_girderlaw10_is #[.agg #[.int .i64 q0_0, .int .i64 q0_1, .slice q0_2 q0_2l q0_2c], .int .i64 q1, .agg #[.int .i64 q2_0, .int .i64 q2_1, .slice q2_2 q2_2l q2_2c], .int .i64 q3] w K := by
  refine H.girderlaw10_is q0_0 q0_1 q0_2 q0_2l q0_2c q1 q2_0 q2_1 q2_2 q2_2l q2_2c q3 w _ ?_
  unfold S_girderlaw10_is
  unfold T_girderlaw10_is at hx
  have h := hx
  clear hx
  try dsimp only
  refine newM_s hS ?_; clear hS; intro r1 w hS
  refine newM_s hS ?_; clear hS; intro r2 w hS
  refine cond_s h ?_ ?_ <;> clear h <;> intro hc h
  · refine ⟨_, (hS.cel mp1 rfl), ?_⟩
    refine ⟨_, (hS.cel mp1 rfl), ?_⟩
    refine ⟨_, _, _, (hS.cel mp1 rfl), ?_⟩
    refine ⟨_, (hS.cel mp0 rfl), ?_⟩
    refine ⟨_, (hS.cel mp0 rfl), ?_⟩
    refine ⟨_, _, _, (hS.cel mp0 rfl), ?_⟩
    replace h := bnd h
    obtain ⟨t1, ht1, h⟩ := h
    refine wk_girderkit_SameMatrix H hS (hq0_2.mono tl2) (hq2_2.mono tl2) ht1 ?_; clear hS ht1; rintro w hS
    refine ⟨_, rfl, ?_⟩
    have h := some_inj h
    cases h
    exact hK _ (hS.pick (A := [_, _]) [] rfl)
  · have h := some_inj h
    cases h
    exact hK _ (hS.pick (A := [_, _]) [] rfl)

theorem wk_girderlaw10_awake {N : Nums} {P : Program} (H : AllOk N P) {w0 w : World} {L : List It}  {u0 : Bool} (hS : Ho w0 w L)  (hx : T_girderlaw10_awake  = some u0) {K : Value → World → Prop} (hK : ∀  (w1 : World), Ho w0 w1 (L) → K (.bool u0) w1) : CallsX P N.f_girderlaw10_awake #[] w K := by
  refine H.girderlaw10_awake  w _ ?_
  unfold S_girderlaw10_awake
  unfold T_girderlaw10_awake at hx
  have h := hx
  clear hx
  try dsimp only
  replace h := bnd h
  obtain ⟨t1, ht1, h⟩ := h
  obtain rfl : (List.map nf ([4607182418800017408, 4611686018427387904, 4613937818241073152, 4616189618054758400] : List Nat)) = t1 := some_inj ht1
  clear ht1
  refine lit_s (ks := [4607182418800017408, 4611686018427387904, 4613937818241073152, 4616189618054758400]) (enc := (Value.float .f64)) (m := 4) hS rfl rfl ?_; clear hS; intro r1 w hS
  replace h := bnd h
  obtain ⟨⟨t2, t3, t4⟩, ho2, h⟩ := h
  refine wk_girderlaw10_of H hS (Ent.sl mp0) ho2 ?_; clear hS ho2; rintro w rfl hS
  refine ⟨_, _, _, _, _, rfl, ?_⟩
  replace h := bnd h
  obtain ⟨t5, ht5, h⟩ := h
  obtain rfl : (List.map nf ([4617315517961601024, 4618441417868443648, 4619567317775286272, 4620693217682128896] : List Nat)) = t5 := some_inj ht5
  clear ht5
  refine lit_s (ks := [4617315517961601024, 4618441417868443648, 4619567317775286272, 4620693217682128896]) (enc := (Value.float .f64)) (m := 4) hS rfl rfl ?_; clear hS; intro r3 w hS
  replace h := bnd h
  obtain ⟨⟨t6, t7, t8⟩, ho6, h⟩ := h
  refine wk_girderlaw10_of H hS (Ent.sl mp0) ho6 ?_; clear hS ho6; rintro w rfl hS
  refine ⟨_, _, _, _, _, rfl, ?_⟩
  replace h := bnd h
  obtain ⟨⟨t9, t10, t11, t12⟩, ho9, h⟩ := h
  refine wk_matrix_Mul H hS (Ent.sl mp1) (Ent.sl mp0) ho9 ?_; clear hS ho9; rintro a5 m5 c5 ws5 w rfl hS
  refine ⟨_, _, _, _, _, _, rfl, ?_⟩
  refine newM_s hS ?_; clear hS; intro r6 w hS
  refine stc_s hS rfl rfl ?_; clear hS; intro w hS
  refine stc_s hS rfl rfl ?_; clear hS; intro w hS
  refine stc_s hS rfl rfl ?_; clear hS; intro w hS
  replace h := bnd h
  obtain ⟨t13, ht13, h⟩ := h
  obtain rfl : (List.map nf ([4607182418800017408, 4611686018427387904, 4613937818241073152, 4616189618054758400] : List Nat)) = t13 := some_inj ht13
  clear ht13
  refine lit_s (ks := [4607182418800017408, 4611686018427387904, 4613937818241073152, 4616189618054758400]) (enc := (Value.float .f64)) (m := 4) hS rfl rfl ?_; clear hS; intro r7 w hS
  replace h := bnd h
  obtain ⟨⟨t14, t15, t16⟩, ho14, h⟩ := h
  refine wk_girderlaw10_of H hS (Ent.sl mp0) ho14 ?_; clear hS ho14; rintro w rfl hS
  refine ⟨_, _, _, _, _, rfl, ?_⟩
  replace h := bnd h
  obtain ⟨t17, ht17, h⟩ := h
  obtain rfl : (List.map nf ([4617315517961601024, 4618441417868443648] : List Nat)) = t17 := some_inj ht17
  clear ht17
  refine lit_s (ks := [4617315517961601024, 4618441417868443648]) (enc := (Value.float .f64)) (m := 2) hS rfl rfl ?_; clear hS; intro r9 w hS
  replace h := bnd h
  obtain ⟨⟨t18, t19⟩, ho18, h⟩ := h
  refine wk_matrix_Apply H hS (Ent.sl mp1) (Ent.sl mp0) ho18 ?_; clear hS ho18; rintro a10 m10 c10 ws10 w rfl hS
  refine ⟨_, _, _, _, rfl, ?_⟩
  refine ⟨_, (hS.cel mp3 rfl), ?_⟩
  refine ⟨_, (hS.cel mp3 rfl), ?_⟩
  refine ⟨_, _, _, (hS.cel mp3 rfl), ?_⟩
  refine drM_s hS ?_; clear hS; intro w hS
  replace h := bnd h
  obtain ⟨t20, ht20, h⟩ := h
  obtain rfl : (List.map nf ([4626041242239631360, 4626885667169763328, 4631248529308778496, 4632233691727265792] : List Nat)) = t20 := some_inj ht20
  clear ht20
  refine lit_s (ks := [4626041242239631360, 4626885667169763328, 4631248529308778496, 4632233691727265792]) (enc := (Value.float .f64)) (m := 4) hS rfl rfl ?_; clear hS; intro r11 w hS
  refine ⟨(hS.cel mp4 rfl), ?_⟩
  refine ⟨(hS.cel mp4 rfl), ?_⟩
  refine ⟨(hS.cel mp4 rfl), ?_⟩
  refine drM_s hS ?_; clear hS; intro w hS
  replace h := bnd h
  obtain ⟨⟨t21, t22, t23⟩, ho21, h⟩ := h
  refine wk_girderlaw10_of H hS (Ent.sl mp0) ho21 ?_; clear hS ho21; rintro w rfl hS
  refine ⟨_, _, _, _, _, rfl, ?_⟩
  refine ⟨(hS.cel mp4 rfl), ?_⟩
  refine ⟨(hS.cel mp4 rfl), ?_⟩
  refine ⟨(hS.cel mp4 rfl), ?_⟩
  refine drM_s hS ?_; clear hS; intro w hS
  replace h := bnd h
  obtain ⟨t24, ht24, h⟩ := h
  refine wk_girderlaw10_is H hS (Ent.sl mp5) (Ent.sl mp0) ht24 ?_; clear hS ht24; rintro w hS
  refine ⟨_, rfl, ?_⟩
  refine cond_s h ?_ ?_ <;> clear h <;> intro hc h
  · refine cond_s h ?_ ?_ <;> clear h <;> intro hc h
    · refine drM_s hS ?_; clear hS; intro w hS
      replace h := bnd h
      obtain ⟨t25, ht25, h⟩ := h
      obtain rfl : (List.map nf ([4625478292286210048, 4630685579355357184] : List Nat)) = t25 := some_inj ht25
      clear ht25
      refine lit_s (ks := [4625478292286210048, 4630685579355357184]) (enc := (Value.float .f64)) (m := 2) hS rfl rfl ?_; clear hS; intro r13 w hS
      refine drM_s hS ?_; clear hS; intro w hS
      replace h := bnd h
      obtain ⟨t26, ht26, h⟩ := h
      refine wk_girderkit_SameReals H hS (Ent.sl mp2) (Ent.sl mp0) ht26 ?_; clear hS ht26; rintro w hS
      refine ⟨_, rfl, ?_⟩
      refine drM_s hS ?_; clear hS; intro w hS
      have h := some_inj h
      cases h
      exact hK _ (hS.pick (A := [_, _, _, _, _, _, _, _, _]) [] rfl)
    · refine drM_s hS ?_; clear hS; intro w hS
      refine drM_s hS ?_; clear hS; intro w hS
      refine drM_s hS ?_; clear hS; intro w hS
      have h := some_inj h
      cases h
      exact hK _ (hS.pick (A := [_, _, _, _, _, _, _, _]) [] rfl)
  · refine drM_s hS ?_; clear hS; intro w hS
    refine drM_s hS ?_; clear hS; intro w hS
    refine drM_s hS ?_; clear hS; intro w hS
    have h := some_inj h
    cases h
    exact hK _ (hS.pick (A := [_, _, _, _, _, _, _, _]) [] rfl)

theorem wk_girderlaw10_MatrixWhole {N : Nums} {P : Program} (H : AllOk N P) {w0 w : World} {L : List It} {q0 : Int} {q1 : Int} {q2 : Int} {q3 : Int} {q4 : Option Addr} {q4l q4c : Nat} {ws4 : List Nat} {q5 : Option Addr} {q5l q5c : Nat} {ws5 : List Nat} {q6 : Option Addr} {q6l q6c : Nat} {ws6 : List Nat} {u0 : Bool} (hS : Ho w0 w L) (hq4 : Ent L (rdA (List.map (Value.float .f64) ws4) q4 q4l q4c)) (hq5 : Ent L (rdA (List.map (Value.float .f64) ws5) q5 q5l q5c)) (hq6 : Ent L (rdA (List.map (Value.float .f64) ws6) q6 q6l q6c)) (hx : T_girderlaw10_MatrixWhole q0 q1 q2 q3 (List.map nf ws4) (List.map nf ws5) (List.map nf ws6) = some u0) {K : Value → World → Prop} (hK : ∀  (w1 : World), Ho w0 w1 (L) → K (.bool u0) w1) : CallsX P N.f_girderlaw10_MatrixWhole #[.int .i64 q0, .int .i64 q1, .int .i64 q2, .int .i64 q3, .slice q4 q4l q4c, .slice q5 q5l q5c, .slice q6 q6l q6c] w K := by
  refine H.girderlaw10_MatrixWhole q0 q1 q2 q3 q4 q4l q4c q5 q5l q5c q6 q6l q6c w _ ?_
  unfold S_girderlaw10_MatrixWhole
  unfold T_girderlaw10_MatrixWhole at hx
  have h := hx
  clear hx
  try dsimp only
  replace h := bnd h
  obtain ⟨⟨t1, t2, t3⟩, ho1, h⟩ := h
  refine wk_girderlaw10_laid H hS hq4 ho1 ?_; clear hS ho1; rintro a1 m1 c1 ws1 w rfl hS
  refine ⟨_, _, _, _, _, rfl, ?_⟩
  replace h := bnd h
  obtain ⟨⟨t4, t5, t6⟩, ho4, h⟩ := h
  refine wk_girderlaw10_laid H hS (hq5.mono tl1) ho4 ?_; clear hS ho4; rintro a2 m2 c2 ws2 w rfl hS
  refine ⟨_, _, _, _, _, rfl, ?_⟩
  replace h := bnd h
  obtain ⟨⟨t7, t8, t9⟩, ho7, h⟩ := h
  refine wk_girderlaw10_laid H hS (hq6.mono tl2) ho7 ?_; clear hS ho7; rintro a3 m3 c3 ws3 w rfl hS
  refine ⟨_, _, _, _, _, rfl, ?_⟩
  refine newM_s hS ?_; clear hS; intro r4 w hS
  refine newM_s hS ?_; clear hS; intro r5 w hS
  refine newM_s hS ?_; clear hS; intro r6 w hS
  replace hS := ro2 hS
  refine stc_s hS rfl rfl ?_; clear hS; intro w hS
  refine stc_s hS rfl rfl ?_; clear hS; intro w hS
  refine stc_s hS rfl rfl ?_; clear hS; intro w hS
  replace hS := ro2 hS
  refine stc_s hS rfl rfl ?_; clear hS; intro w hS
  refine stc_s hS rfl rfl ?_; clear hS; intro w hS
  refine stc_s hS rfl rfl ?_; clear hS; intro w hS
  replace hS := ro2 hS
  refine stc_s hS rfl rfl ?_; clear hS; intro w hS
  refine stc_s hS rfl rfl ?_; clear hS; intro w hS
  refine stc_s hS rfl rfl ?_; clear hS; intro w hS
  refine ⟨_, (hS.cel mp2 rfl), ?_⟩
  refine ⟨_, (hS.cel mp2 rfl), ?_⟩
  refine ⟨_, _, _, (hS.cel mp2 rfl), ?_⟩
  refine ⟨_, (hS.cel mp1 rfl), ?_⟩
  refine ⟨_, (hS.cel mp1 rfl), ?_⟩
  refine ⟨_, _, _, (hS.cel mp1 rfl), ?_⟩
  replace h := bnd h
  obtain ⟨⟨t10, t11, t12, t13⟩, ho10, h⟩ := h
  refine wk_matrix_Mul H hS (Ent.sl mp5) (Ent.sl mp4) ho10 ?_; clear hS ho10; rintro a7 m7 c7 ws7 w rfl hS
  refine ⟨_, _, _, _, _, _, rfl, ?_⟩
  refine newM_s hS ?_; clear hS; intro r8 w hS
  refine stc_s hS rfl rfl ?_; clear hS; intro w hS
  refine stc_s hS rfl rfl ?_; clear hS; intro w hS
  refine stc_s hS rfl rfl ?_; clear hS; intro w hS
  refine ⟨_, (hS.cel mp3 rfl), ?_⟩
  refine ⟨_, (hS.cel mp3 rfl), ?_⟩
  refine ⟨_, _, _, (hS.cel mp3 rfl), ?_⟩
  refine ⟨_, (hS.cel mp2 rfl), ?_⟩
  refine ⟨_, (hS.cel mp2 rfl), ?_⟩
  refine ⟨_, _, _, (hS.cel mp2 rfl), ?_⟩
  replace h := bnd h
  obtain ⟨⟨t14, t15, t16, t17⟩, ho14, h⟩ := h
  refine wk_matrix_Mul H hS (Ent.sl mp6) (Ent.sl mp5) ho14 ?_; clear hS ho14; rintro a9 m9 c9 ws9 w rfl hS
  refine ⟨_, _, _, _, _, _, rfl, ?_⟩
  refine newM_s hS ?_; clear hS; intro r10 w hS
  refine stc_s hS rfl rfl ?_; clear hS; intro w hS
  refine stc_s hS rfl rfl ?_; clear hS; intro w hS
  refine stc_s hS rfl rfl ?_; clear hS; intro w hS
  refine ⟨_, (hS.cel mp2 rfl), ?_⟩
  refine ⟨_, (hS.cel mp2 rfl), ?_⟩
  refine ⟨_, _, _, (hS.cel mp2 rfl), ?_⟩
  refine ⟨_, (hS.cel mp4 rfl), ?_⟩
  refine ⟨_, (hS.cel mp4 rfl), ?_⟩
  refine ⟨_, _, _, (hS.cel mp4 rfl), ?_⟩
  replace h := bnd h
  obtain ⟨⟨t18, t19, t20, t21⟩, ho18, h⟩ := h
  refine wk_matrix_Mul H hS (Ent.sl mp3) (Ent.sl mp7) ho18 ?_; clear hS ho18; rintro a11 m11 c11 ws11 w rfl hS
  refine ⟨_, _, _, _, _, _, rfl, ?_⟩
  refine newM_s hS ?_; clear hS; intro r12 w hS
  refine stc_s hS rfl rfl ?_; clear hS; intro w hS
  refine stc_s hS rfl rfl ?_; clear hS; intro w hS
  refine stc_s hS rfl rfl ?_; clear hS; intro w hS
  refine ⟨_, (hS.cel mp8 rfl), ?_⟩
  refine ⟨_, (hS.cel mp8 rfl), ?_⟩
  refine ⟨_, _, _, (hS.cel mp8 rfl), ?_⟩
  refine ⟨_, (hS.cel mp2 rfl), ?_⟩
  refine ⟨_, (hS.cel mp2 rfl), ?_⟩
  refine ⟨_, _, _, (hS.cel mp2 rfl), ?_⟩
  replace h := bnd h
  obtain ⟨⟨t22, t23, t24, t25⟩, ho22, h⟩ := h
  refine wk_matrix_Mul H hS (Ent.sl mp11) (Ent.sl mp3) ho22 ?_; clear hS ho22; rintro a13 m13 c13 ws13 w rfl hS
  refine ⟨_, _, _, _, _, _, rfl, ?_⟩
  refine newM_s hS ?_; clear hS; intro r14 w hS
  refine stc_s hS rfl rfl ?_; clear hS; intro w hS
  refine stc_s hS rfl rfl ?_; clear hS; intro w hS
  refine stc_s hS rfl rfl ?_; clear hS; intro w hS
  replace h := bnd h
  obtain ⟨o15, h15, c15⟩ := h
  refine cutM_i (fun s w => ∃ (t26 : Bool), t26 = o15 ∧ s = (t26, ()) ∧ Ho w0 w ((cl r14 [.int .i64 t22, .int .i64 t23, .slice a13 m13 c13] N.t_Matrix) :: (sl a13 m13 c13 (List.map (Value.float .f64) ws13) N.t_float64) :: (cl r12 [.int .i64 t18, .int .i64 t19, .slice a11 m11 c11] N.t_Matrix) :: (sl a11 m11 c11 (List.map (Value.float .f64) ws11) N.t_float64) :: (cl r6 [.int .i64 t7, .int .i64 t8, .slice a3 m3 c3] N.t_Matrix) :: (cl r5 [.int .i64 t4, .int .i64 t5, .slice a2 m2 c2] N.t_Matrix) :: (cl r4 [.int .i64 t1, .int .i64 t2, .slice a1 m1 c1] N.t_Matrix) :: (sl a3 m3 c3 (List.map (Value.float .f64) ws3) N.t_float64) :: (sl a2 m2 c2 (List.map (Value.float .f64) ws2) N.t_float64) :: (sl a1 m1 c1 (List.map (Value.float .f64) ws1) N.t_float64) :: L)) (fun J15 hJ15 => ?_) ?_
  · have h := h15
    clear h15
    refine cond_s h ?_ ?_ <;> clear h <;> intro hc h
    · refine cond_s h ?_ ?_ <;> clear h <;> intro hc h
      · refine cond_s h ?_ ?_ <;> clear h <;> intro hc h
        · refine cond_s h ?_ ?_ <;> clear h <;> intro hc h
          · refine ⟨_, _, _, (hS.cel mp2 rfl), ?_⟩
            replace h := bnd h
            obtain ⟨t27, ht27, h⟩ := h
            obtain rfl := lenF ht27 ((Ent.sl mp3).now (fun _ h => h) hS)
            clear ht27
            refine ⟨_, _, _, (hS.cel mp0 rfl), ?_⟩
            replace h := bnd h
            obtain ⟨t28, ht28, h⟩ := h
            obtain rfl := lenF ht28 ((Ent.sl mp1).now (fun _ h => h) hS)
            clear ht28
            refine cond_s h ?_ ?_ <;> clear h <;> intro hc h
            · refine ⟨_, _, _, (hS.cel mp2 rfl), ?_⟩
              replace h := bnd h
              obtain ⟨t29, ht29, h⟩ := h
              obtain rfl := lenF ht29 ((Ent.sl mp3).now (fun _ h => h) hS)
              clear ht29
              refine ⟨_, (hS.cel mp10 rfl), ?_⟩
              refine ⟨_, (hS.cel mp8 rfl), ?_⟩
              obtain rfl := some_inj h
              exact hJ15 _ _ ⟨_, rfl, rfl, (hS.pick (A := [_, _, _, _, _, _, _, _, _, _, _, _, _, _]) [0, 0, 0, 0, 4, 4, 4, 4, 4, 4] rfl)⟩
            · obtain rfl := some_inj h
              exact hJ15 _ _ ⟨_, rfl, rfl, (hS.pick (A := [_, _, _, _, _, _, _, _, _, _, _, _, _, _]) [0, 0, 0, 0, 4, 4, 4, 4, 4, 4] rfl)⟩
          · obtain rfl := some_inj h
            exact hJ15 _ _ ⟨_, rfl, rfl, (hS.pick (A := [_, _, _, _, _, _, _, _, _, _, _, _, _, _]) [0, 0, 0, 0, 4, 4, 4, 4, 4, 4] rfl)⟩
        · obtain rfl := some_inj h
          exact hJ15 _ _ ⟨_, rfl, rfl, (hS.pick (A := [_, _, _, _, _, _, _, _, _, _, _, _, _, _]) [0, 0, 0, 0, 4, 4, 4, 4, 4, 4] rfl)⟩
      · obtain rfl := some_inj h
        exact hJ15 _ _ ⟨_, rfl, rfl, (hS.pick (A := [_, _, _, _, _, _, _, _, _, _, _, _, _, _]) [0, 0, 0, 0, 4, 4, 4, 4, 4, 4] rfl)⟩
    · obtain rfl := some_inj h
      exact hJ15 _ _ ⟨_, rfl, rfl, (hS.pick (A := [_, _, _, _, _, _, _, _, _, _, _, _, _, _]) [0, 0, 0, 0, 4, 4, 4, 4, 4, 4] rfl)⟩
  · clear h15 hS
    rintro s w ⟨t26, rfl, rfl, hS⟩
    have h := c15
    clear c15
    try dsimp only
    refine cond_s h ?_ ?_ <;> clear h <;> intro hc h
    · have h := some_inj h
      cases h
      exact hK _ (hS.pick (A := [_, _, _, _, _, _, _, _, _, _]) [] rfl)
    · replace h := bnd h
      obtain ⟨o16, h16, c16⟩ := h
      refine cutM_i (fun s w =>  .inl () = o16 ∧ s = (()) ∧ Ho w0 w (L)) (fun J16 hJ16 => ?_) ?_
      · have h := h16
        clear h16
        refine iter_sim (fun s w t => ∃ (t30 : Int), t30 = t ∧ s = (t30, ()) ∧ Ho w0 w ((cl r14 [.int .i64 t22, .int .i64 t23, .slice a13 m13 c13] N.t_Matrix) :: (sl a13 m13 c13 (List.map (Value.float .f64) ws13) N.t_float64) :: (cl r12 [.int .i64 t18, .int .i64 t19, .slice a11 m11 c11] N.t_Matrix) :: (sl a11 m11 c11 (List.map (Value.float .f64) ws11) N.t_float64) :: (cl r6 [.int .i64 t7, .int .i64 t8, .slice a3 m3 c3] N.t_Matrix) :: (cl r5 [.int .i64 t4, .int .i64 t5, .slice a2 m2 c2] N.t_Matrix) :: (cl r4 [.int .i64 t1, .int .i64 t2, .slice a1 m1 c1] N.t_Matrix) :: (sl a3 m3 c3 (List.map (Value.float .f64) ws3) N.t_float64) :: (sl a2 m2 c2 (List.map (Value.float .f64) ws2) N.t_float64) :: (sl a1 m1 c1 (List.map (Value.float .f64) ws1) N.t_float64) :: L)) ?_ h ⟨_, rfl, rfl, hS⟩
        clear h hS
        rintro s w t X q ⟨t30, rfl, rfl, hS⟩ h hX hO
        unfold T_girderlaw10_MatrixWhole_b23 at h
        try dsimp only
        refine ⟨_, (hS.cel mp6 rfl), ?_⟩
        refine cond_s h ?_ ?_ <;> clear h <;> intro hc h
        · replace h := bnd h
          obtain ⟨o17, h17, c17⟩ := h
          refine cutM_i (fun s w =>  .inl () = o17 ∧ s = (()) ∧ Ho w0 w ((cl r14 [.int .i64 t22, .int .i64 t23, .slice a13 m13 c13] N.t_Matrix) :: (sl a13 m13 c13 (List.map (Value.float .f64) ws13) N.t_float64) :: (cl r12 [.int .i64 t18, .int .i64 t19, .slice a11 m11 c11] N.t_Matrix) :: (sl a11 m11 c11 (List.map (Value.float .f64) ws11) N.t_float64) :: (cl r6 [.int .i64 t7, .int .i64 t8, .slice a3 m3 c3] N.t_Matrix) :: (cl r5 [.int .i64 t4, .int .i64 t5, .slice a2 m2 c2] N.t_Matrix) :: (cl r4 [.int .i64 t1, .int .i64 t2, .slice a1 m1 c1] N.t_Matrix) :: (sl a3 m3 c3 (List.map (Value.float .f64) ws3) N.t_float64) :: (sl a2 m2 c2 (List.map (Value.float .f64) ws2) N.t_float64) :: (sl a1 m1 c1 (List.map (Value.float .f64) ws1) N.t_float64) :: L)) (fun J17 hJ17 => ?_) ?_
          · have h := h17
            clear h17
            refine iter_sim (fun s w t => ∃ (t31 : Int), t31 = t ∧ s = (t31, ()) ∧ Ho w0 w ((cl r14 [.int .i64 t22, .int .i64 t23, .slice a13 m13 c13] N.t_Matrix) :: (sl a13 m13 c13 (List.map (Value.float .f64) ws13) N.t_float64) :: (cl r12 [.int .i64 t18, .int .i64 t19, .slice a11 m11 c11] N.t_Matrix) :: (sl a11 m11 c11 (List.map (Value.float .f64) ws11) N.t_float64) :: (cl r6 [.int .i64 t7, .int .i64 t8, .slice a3 m3 c3] N.t_Matrix) :: (cl r5 [.int .i64 t4, .int .i64 t5, .slice a2 m2 c2] N.t_Matrix) :: (cl r4 [.int .i64 t1, .int .i64 t2, .slice a1 m1 c1] N.t_Matrix) :: (sl a3 m3 c3 (List.map (Value.float .f64) ws3) N.t_float64) :: (sl a2 m2 c2 (List.map (Value.float .f64) ws2) N.t_float64) :: (sl a1 m1 c1 (List.map (Value.float .f64) ws1) N.t_float64) :: L)) ?_ h ⟨_, rfl, rfl, hS⟩
            clear h hS
            rintro s w t X q ⟨t31, rfl, rfl, hS⟩ h hX hO
            unfold T_girderlaw10_MatrixWhole_b34 at h
            try dsimp only
            refine ⟨_, (hS.cel mp4 rfl), ?_⟩
            refine cond_s h ?_ ?_ <;> clear h <;> intro hc h
            · replace h := bnd h
              obtain ⟨o18, h18, c18⟩ := h
              refine cutM_i (fun s w => ∃ (t32 : Int), t32 = o18 ∧ s = (t32, ()) ∧ Ho w0 w ((cl r14 [.int .i64 t22, .int .i64 t23, .slice a13 m13 c13] N.t_Matrix) :: (sl a13 m13 c13 (List.map (Value.float .f64) ws13) N.t_float64) :: (cl r12 [.int .i64 t18, .int .i64 t19, .slice a11 m11 c11] N.t_Matrix) :: (sl a11 m11 c11 (List.map (Value.float .f64) ws11) N.t_float64) :: (cl r6 [.int .i64 t7, .int .i64 t8, .slice a3 m3 c3] N.t_Matrix) :: (cl r5 [.int .i64 t4, .int .i64 t5, .slice a2 m2 c2] N.t_Matrix) :: (cl r4 [.int .i64 t1, .int .i64 t2, .slice a1 m1 c1] N.t_Matrix) :: (sl a3 m3 c3 (List.map (Value.float .f64) ws3) N.t_float64) :: (sl a2 m2 c2 (List.map (Value.float .f64) ws2) N.t_float64) :: (sl a1 m1 c1 (List.map (Value.float .f64) ws1) N.t_float64) :: L)) (fun J18 hJ18 => ?_) ?_
              · have h := h18
                clear h18
                refine iter_sim (fun s w t => ∃ (t33 : Int) (t34 : Int), (t33, t34) = t ∧ s = (t33, t34, ()) ∧ Ho w0 w ((cl r14 [.int .i64 t22, .int .i64 t23, .slice a13 m13 c13] N.t_Matrix) :: (sl a13 m13 c13 (List.map (Value.float .f64) ws13) N.t_float64) :: (cl r12 [.int .i64 t18, .int .i64 t19, .slice a11 m11 c11] N.t_Matrix) :: (sl a11 m11 c11 (List.map (Value.float .f64) ws11) N.t_float64) :: (cl r6 [.int .i64 t7, .int .i64 t8, .slice a3 m3 c3] N.t_Matrix) :: (cl r5 [.int .i64 t4, .int .i64 t5, .slice a2 m2 c2] N.t_Matrix) :: (cl r4 [.int .i64 t1, .int .i64 t2, .slice a1 m1 c1] N.t_Matrix) :: (sl a3 m3 c3 (List.map (Value.float .f64) ws3) N.t_float64) :: (sl a2 m2 c2 (List.map (Value.float .f64) ws2) N.t_float64) :: (sl a1 m1 c1 (List.map (Value.float .f64) ws1) N.t_float64) :: L)) ?_ h ⟨_, _, rfl, rfl, hS⟩
                clear h hS
                rintro s w t X q ⟨t33, t34, rfl, rfl, hS⟩ h hX hO
                unfold T_girderlaw10_MatrixWhole_b39 at h
                try dsimp only
                refine ⟨_, (hS.cel mp5 rfl), ?_⟩
                refine cond_s h ?_ ?_ <;> clear h <;> intro hc h
                · replace h := bnd h
                  obtain ⟨o19, h19, c19⟩ := h
                  refine cutM_i (fun s w => ∃ (t35 : Int), t35 = o19 ∧ s = (t35, ()) ∧ Ho w0 w ((cl r14 [.int .i64 t22, .int .i64 t23, .slice a13 m13 c13] N.t_Matrix) :: (sl a13 m13 c13 (List.map (Value.float .f64) ws13) N.t_float64) :: (cl r12 [.int .i64 t18, .int .i64 t19, .slice a11 m11 c11] N.t_Matrix) :: (sl a11 m11 c11 (List.map (Value.float .f64) ws11) N.t_float64) :: (cl r6 [.int .i64 t7, .int .i64 t8, .slice a3 m3 c3] N.t_Matrix) :: (cl r5 [.int .i64 t4, .int .i64 t5, .slice a2 m2 c2] N.t_Matrix) :: (cl r4 [.int .i64 t1, .int .i64 t2, .slice a1 m1 c1] N.t_Matrix) :: (sl a3 m3 c3 (List.map (Value.float .f64) ws3) N.t_float64) :: (sl a2 m2 c2 (List.map (Value.float .f64) ws2) N.t_float64) :: (sl a1 m1 c1 (List.map (Value.float .f64) ws1) N.t_float64) :: L)) (fun J19 hJ19 => ?_) ?_
                  · have h := h19
                    clear h19
                    refine iter_sim (fun s w t => ∃ (t36 : Int) (t37 : Int), (t36, t37) = t ∧ s = (t36, t37, ()) ∧ Ho w0 w ((cl r14 [.int .i64 t22, .int .i64 t23, .slice a13 m13 c13] N.t_Matrix) :: (sl a13 m13 c13 (List.map (Value.float .f64) ws13) N.t_float64) :: (cl r12 [.int .i64 t18, .int .i64 t19, .slice a11 m11 c11] N.t_Matrix) :: (sl a11 m11 c11 (List.map (Value.float .f64) ws11) N.t_float64) :: (cl r6 [.int .i64 t7, .int .i64 t8, .slice a3 m3 c3] N.t_Matrix) :: (cl r5 [.int .i64 t4, .int .i64 t5, .slice a2 m2 c2] N.t_Matrix) :: (cl r4 [.int .i64 t1, .int .i64 t2, .slice a1 m1 c1] N.t_Matrix) :: (sl a3 m3 c3 (List.map (Value.float .f64) ws3) N.t_float64) :: (sl a2 m2 c2 (List.map (Value.float .f64) ws2) N.t_float64) :: (sl a1 m1 c1 (List.map (Value.float .f64) ws1) N.t_float64) :: L)) ?_ h ⟨_, _, rfl, rfl, hS⟩
                    clear h hS
                    rintro s w t X q ⟨t36, t37, rfl, rfl, hS⟩ h hX hO
                    unfold T_girderlaw10_MatrixWhole_b41 at h
                    try dsimp only
                    refine ⟨_, (hS.cel mp5 rfl), ?_⟩
                    refine cond_s h ?_ ?_ <;> clear h <;> intro hc h
                    · refine ⟨_, _, _, (hS.cel mp6 rfl), ?_⟩
                      refine ⟨_, (hS.cel mp6 rfl), ?_⟩
                      replace h := bnd h
                      obtain ⟨t38, ht38, h⟩ := h
                      obtain ⟨z20, rfl, q21x, q21l, q21r⟩ := atF ht38
                      clear ht38
                      refine idx_s ((Ent.sl mp9).now (fun _ h => h) hS) q21x q21l q21r ?_; intro b22 hb22
                      refine ⟨_, rd_get ((Ent.sl mp9).now (fun _ h => h) hS) hb22 q21x, ?_⟩
                      replace h := bnd h
                      obtain ⟨t39, ht39, h⟩ := h
                      refine f2i_s ht39 hS ?_; clear ht39; intro _ _
                      refine ⟨_, _, _, (hS.cel mp5 rfl), ?_⟩
                      refine ⟨_, (hS.cel mp5 rfl), ?_⟩
                      replace h := bnd h
                      obtain ⟨t40, ht40, h⟩ := h
                      obtain ⟨z23, rfl, q24x, q24l, q24r⟩ := atF ht40
                      clear ht40
                      refine idx_s ((Ent.sl mp8).now (fun _ h => h) hS) q24x q24l q24r ?_; intro b25 hb25
                      refine ⟨_, rd_get ((Ent.sl mp8).now (fun _ h => h) hS) hb25 q24x, ?_⟩
                      replace h := bnd h
                      obtain ⟨t41, ht41, h⟩ := h
                      refine f2i_s ht41 hS ?_; clear ht41; intro _ _
                      refine ⟨_, _, _, (hS.cel mp4 rfl), ?_⟩
                      refine ⟨_, (hS.cel mp4 rfl), ?_⟩
                      replace h := bnd h
                      obtain ⟨t42, ht42, h⟩ := h
                      obtain ⟨z26, rfl, q27x, q27l, q27r⟩ := atF ht42
                      clear ht42
                      refine idx_s ((Ent.sl mp7).now (fun _ h => h) hS) q27x q27l q27r ?_; intro b28 hb28
                      refine ⟨_, rd_get ((Ent.sl mp7).now (fun _ h => h) hS) hb28 q27x, ?_⟩
                      replace h := bnd h
                      obtain ⟨t43, ht43, h⟩ := h
                      refine f2i_s ht43 hS ?_; clear ht43; intro _ _
                      refine drM_s hS ?_; clear hS; intro w hS
                      obtain rfl := some_inj h
                      exact hX _ rfl _ _ ⟨_, _, rfl, rfl, hS⟩
                    · obtain rfl := some_inj h
                      have h := congrArg some (hO _ rfl)
                      obtain rfl := some_inj h
                      exact hJ19 _ _ ⟨_, rfl, rfl, hS⟩
                  · clear h19 hS
                    rintro s w ⟨t35, rfl, rfl, hS⟩
                    have h := c19
                    clear c19
                    try dsimp only
                    obtain rfl := some_inj h
                    exact hX _ rfl _ _ ⟨_, _, rfl, rfl, hS⟩
                · obtain rfl := some_inj h
                  have h := congrArg some (hO _ rfl)
                  obtain rfl := some_inj h
                  exact hJ18 _ _ ⟨_, rfl, rfl, hS⟩
              · clear h18 hS
                rintro s w ⟨t32, rfl, rfl, hS⟩
                have h := c18
                clear c18
                try dsimp only
                refine ⟨_, _, _, (hS.cel mp2 rfl), ?_⟩
                refine ⟨_, (hS.cel mp4 rfl), ?_⟩
                replace h := bnd h
                obtain ⟨t44, ht44, h⟩ := h
                obtain ⟨z29, rfl, q30x, q30l, q30r⟩ := atF ht44
                clear ht44
                refine idx_s ((Ent.sl mp3).now (fun _ h => h) hS) q30x q30l q30r ?_; intro b31 hb31
                refine ⟨_, rd_get ((Ent.sl mp3).now (fun _ h => h) hS) hb31 q30x, ?_⟩
                refine ⟨_, _, _, (hS.cel mp0 rfl), ?_⟩
                refine ⟨_, (hS.cel mp4 rfl), ?_⟩
                replace h := bnd h
                obtain ⟨t45, ht45, h⟩ := h
                obtain ⟨z32, rfl, q33x, q33l, q33r⟩ := atF ht45
                clear ht45
                refine idx_s ((Ent.sl mp1).now (fun _ h => h) hS) q33x q33l q33r ?_; intro b34 hb34
                refine ⟨_, rd_get ((Ent.sl mp1).now (fun _ h => h) hS) hb34 q33x, ?_⟩
                replace h := bnd h
                obtain ⟨t46, ht46, h⟩ := h
                obtain rfl := fne_s ht46
                clear ht46
                refine cond_s h ?_ ?_ <;> clear h <;> intro hc h
                · replace h := bnd h
                  obtain ⟨t47, ht47, h⟩ := h
                  obtain rfl := fne_s ht47
                  clear ht47
                  refine cond_s h ?_ ?_ <;> clear h <;> intro hc h
                  · obtain rfl := some_inj h
                    have h := congrArg some (hO _ rfl)
                    obtain rfl := some_inj h
                    have h := c17
                    obtain rfl := some_inj h
                    have h := congrArg some (hO _ rfl)
                    obtain rfl := some_inj h
                    have h := c16
                    have h := some_inj h
                    cases h
                    exact hK _ (hS.pick (A := [_, _, _, _, _, _, _, _, _, _]) [] rfl)
                  · obtain rfl := some_inj h
                    exact hX _ rfl _ _ ⟨_, rfl, rfl, hS⟩
                · obtain rfl := some_inj h
                  have h := congrArg some (hO _ rfl)
                  obtain rfl := some_inj h
                  have h := c17
                  obtain rfl := some_inj h
                  have h := congrArg some (hO _ rfl)
                  obtain rfl := some_inj h
                  have h := c16
                  have h := some_inj h
                  cases h
                  exact hK _ (hS.pick (A := [_, _, _, _, _, _, _, _, _, _]) [] rfl)
            · obtain rfl := some_inj h
              have h := congrArg some (hO _ rfl)
              obtain rfl := some_inj h
              exact hJ17 _ _ ⟨rfl, rfl, hS⟩
          · clear h17 hS
            rintro s w ⟨rfl, rfl, hS⟩
            have h := c17
            clear c17
            try dsimp only
            obtain rfl := some_inj h
            exact hX _ rfl _ _ ⟨_, rfl, rfl, hS⟩
        · obtain rfl := some_inj h
          have h := congrArg some (hO _ rfl)
          obtain rfl := some_inj h
          exact hJ16 _ _ ⟨rfl, rfl, (hS.pick (A := [_, _, _, _, _, _, _, _, _, _]) [] rfl)⟩
      · clear h16 hS
        rintro s w ⟨rfl, rfl, hS⟩
        have h := c16
        clear c16
        try dsimp only
        replace h := bnd h
        obtain ⟨⟨t48, t49, t50⟩, ho48, h⟩ := h
        refine wk_girderlaw10_laid H hS hq4 ho48 ?_; clear hS ho48; rintro a35 m35 c35 ws35 w rfl hS
        refine ⟨_, _, _, _, _, rfl, ?_⟩
        refine newM_s hS ?_; clear hS; intro r36 w hS
        refine stc_s hS rfl rfl ?_; clear hS; intro w hS
        refine stc_s hS rfl rfl ?_; clear hS; intro w hS
        refine stc_s hS rfl rfl ?_; clear hS; intro w hS
        refine ⟨_, (hS.cel mp0 rfl), ?_⟩
        replace h := bnd h
        obtain ⟨⟨t51, t52, t53, t54⟩, ho51, h⟩ := h
        refine wk_matrix_Identity H hS  ho51 ?_; clear hS ho51; rintro a37 m37 c37 ws37 w rfl hS
        refine ⟨_, _, _, _, _, _, rfl, ?_⟩
        refine newM_s hS ?_; clear hS; intro r38 w hS
        refine stc_s hS rfl rfl ?_; clear hS; intro w hS
        refine stc_s hS rfl rfl ?_; clear hS; intro w hS
        refine stc_s hS rfl rfl ?_; clear hS; intro w hS
        refine ⟨_, (hS.cel mp2 rfl), ?_⟩
        replace h := bnd h
        obtain ⟨⟨t55, t56, t57, t58⟩, ho55, h⟩ := h
        refine wk_matrix_Identity H hS  ho55 ?_; clear hS ho55; rintro a39 m39 c39 ws39 w rfl hS
        refine ⟨_, _, _, _, _, _, rfl, ?_⟩
        refine newM_s hS ?_; clear hS; intro r40 w hS
        refine stc_s hS rfl rfl ?_; clear hS; intro w hS
        refine stc_s hS rfl rfl ?_; clear hS; intro w hS
        refine stc_s hS rfl rfl ?_; clear hS; intro w hS
        refine ⟨_, (hS.cel mp4 rfl), ?_⟩
        refine ⟨_, (hS.cel mp4 rfl), ?_⟩
        refine ⟨_, _, _, (hS.cel mp4 rfl), ?_⟩
        refine ⟨_, (hS.cel mp2 rfl), ?_⟩
        refine ⟨_, (hS.cel mp2 rfl), ?_⟩
        refine ⟨_, _, _, (hS.cel mp2 rfl), ?_⟩
        replace h := bnd h
        obtain ⟨⟨t59, t60, t61, t62⟩, ho59, h⟩ := h
        refine wk_matrix_Mul H hS (Ent.sl mp5) (Ent.sl mp3) ho59 ?_; clear hS ho59; rintro a41 m41 c41 ws41 w rfl hS
        refine ⟨_, _, _, _, _, _, rfl, ?_⟩
        refine newM_s hS ?_; clear hS; intro r42 w hS
        refine stc_s hS rfl rfl ?_; clear hS; intro w hS
        refine stc_s hS rfl rfl ?_; clear hS; intro w hS
        refine stc_s hS rfl rfl ?_; clear hS; intro w hS
        refine ⟨_, (hS.cel mp2 rfl), ?_⟩
        refine ⟨_, (hS.cel mp2 rfl), ?_⟩
        refine ⟨_, _, _, (hS.cel mp2 rfl), ?_⟩
        refine ⟨_, (hS.cel mp6 rfl), ?_⟩
        refine ⟨_, (hS.cel mp6 rfl), ?_⟩
        refine ⟨_, _, _, (hS.cel mp6 rfl), ?_⟩
        replace h := bnd h
        obtain ⟨⟨t63, t64, t65, t66⟩, ho63, h⟩ := h
        refine wk_matrix_Mul H hS (Ent.sl mp3) (Ent.sl mp7) ho63 ?_; clear hS ho63; rintro a43 m43 c43 ws43 w rfl hS
        refine ⟨_, _, _, _, _, _, rfl, ?_⟩
        refine newM_s hS ?_; clear hS; intro r44 w hS
        refine stc_s hS rfl rfl ?_; clear hS; intro w hS
        refine stc_s hS rfl rfl ?_; clear hS; intro w hS
        refine stc_s hS rfl rfl ?_; clear hS; intro w hS
        replace h := bnd h
        obtain ⟨o45, h45, c45⟩ := h
        refine cutM_i (fun s w => ∃ (t67 : Bool), t67 = o45 ∧ s = (t67, ()) ∧ Ho w0 w ((cl r44 [.int .i64 t63, .int .i64 t64, .slice a43 m43 c43] N.t_Matrix) :: (sl a43 m43 c43 (List.map (Value.float .f64) ws43) N.t_float64) :: (cl r42 [.int .i64 t59, .int .i64 t60, .slice a41 m41 c41] N.t_Matrix) :: (sl a41 m41 c41 (List.map (Value.float .f64) ws41) N.t_float64) :: (cl r36 [.int .i64 t48, .int .i64 t49, .slice a35 m35 c35] N.t_Matrix) :: (sl a35 m35 c35 (List.map (Value.float .f64) ws35) N.t_float64) :: L)) (fun J45 hJ45 => ?_) ?_
        · have h := h45
          clear h45
          refine cond_s h ?_ ?_ <;> clear h <;> intro hc h
          · refine cond_s h ?_ ?_ <;> clear h <;> intro hc h
            · refine cond_s h ?_ ?_ <;> clear h <;> intro hc h
              · refine cond_s h ?_ ?_ <;> clear h <;> intro hc h
                · refine ⟨_, _, _, (hS.cel mp2 rfl), ?_⟩
                  replace h := bnd h
                  obtain ⟨t68, ht68, h⟩ := h
                  obtain rfl := lenF ht68 ((Ent.sl mp3).now (fun _ h => h) hS)
                  clear ht68
                  refine ⟨_, _, _, (hS.cel mp8 rfl), ?_⟩
                  replace h := bnd h
                  obtain ⟨t69, ht69, h⟩ := h
                  obtain rfl := lenF ht69 ((Ent.sl mp9).now (fun _ h => h) hS)
                  clear ht69
                  refine cond_s h ?_ ?_ <;> clear h <;> intro hc h
                  · refine ⟨_, _, _, (hS.cel mp0 rfl), ?_⟩
                    replace h := bnd h
                    obtain ⟨t70, ht70, h⟩ := h
                    obtain rfl := lenF ht70 ((Ent.sl mp1).now (fun _ h => h) hS)
                    clear ht70
                    refine ⟨_, _, _, (hS.cel mp8 rfl), ?_⟩
                    replace h := bnd h
                    obtain ⟨t71, ht71, h⟩ := h
                    obtain rfl := lenF ht71 ((Ent.sl mp9).now (fun _ h => h) hS)
                    clear ht71
                    obtain rfl := some_inj h
                    exact hJ45 _ _ ⟨_, rfl, rfl, (hS.pick (A := [_, _, _, _, _, _, _, _, _, _]) [0, 0, 0, 0, 4, 4] rfl)⟩
                  · obtain rfl := some_inj h
                    exact hJ45 _ _ ⟨_, rfl, rfl, (hS.pick (A := [_, _, _, _, _, _, _, _, _, _]) [0, 0, 0, 0, 4, 4] rfl)⟩
                · obtain rfl := some_inj h
                  exact hJ45 _ _ ⟨_, rfl, rfl, (hS.pick (A := [_, _, _, _, _, _, _, _, _, _]) [0, 0, 0, 0, 4, 4] rfl)⟩
              · obtain rfl := some_inj h
                exact hJ45 _ _ ⟨_, rfl, rfl, (hS.pick (A := [_, _, _, _, _, _, _, _, _, _]) [0, 0, 0, 0, 4, 4] rfl)⟩
            · obtain rfl := some_inj h
              exact hJ45 _ _ ⟨_, rfl, rfl, (hS.pick (A := [_, _, _, _, _, _, _, _, _, _]) [0, 0, 0, 0, 4, 4] rfl)⟩
          · obtain rfl := some_inj h
            exact hJ45 _ _ ⟨_, rfl, rfl, (hS.pick (A := [_, _, _, _, _, _, _, _, _, _]) [0, 0, 0, 0, 4, 4] rfl)⟩
        · clear h45 hS
          rintro s w ⟨t67, rfl, rfl, hS⟩
          have h := c45
          clear c45
          try dsimp only
          refine cond_s h ?_ ?_ <;> clear h <;> intro hc h
          · have h := some_inj h
            cases h
            exact hK _ (hS.pick (A := [_, _, _, _, _, _]) [] rfl)
          · refine ⟨_, (hS.cel mp4 rfl), ?_⟩
            refine ⟨_, (hS.cel mp4 rfl), ?_⟩
            refine ⟨_, _, _, (hS.cel mp4 rfl), ?_⟩
            refine ⟨_, (hS.cel mp4 rfl), ?_⟩
            refine ⟨_, (hS.cel mp4 rfl), ?_⟩
            refine ⟨_, _, _, (hS.cel mp4 rfl), ?_⟩
            replace h := bnd h
            obtain ⟨⟨t72, t73, t74, t75⟩, ho72, h⟩ := h
            refine wk_matrix_Sub H hS (Ent.sl mp5) (Ent.sl mp5) ho72 ?_; clear hS ho72; rintro a46 m46 c46 ws46 w rfl hS
            refine ⟨_, _, _, _, _, _, rfl, ?_⟩
            refine newM_s hS ?_; clear hS; intro r47 w hS
            refine stc_s hS rfl rfl ?_; clear hS; intro w hS
            refine stc_s hS rfl rfl ?_; clear hS; intro w hS
            refine stc_s hS rfl rfl ?_; clear hS; intro w hS
            replace h := bnd h
            obtain ⟨o48, h48, c48⟩ := h
            refine cutM_i (fun s w =>  .inl () = o48 ∧ s = (()) ∧ Ho w0 w (L)) (fun J48 hJ48 => ?_) ?_
            · have h := h48
              clear h48
              refine iter_sim (fun s w t => ∃ (t76 : Int), t76 = t ∧ s = (t76, ()) ∧ Ho w0 w ((cl r47 [.int .i64 t72, .int .i64 t73, .slice a46 m46 c46] N.t_Matrix) :: (sl a46 m46 c46 (List.map (Value.float .f64) ws46) N.t_float64) :: (cl r44 [.int .i64 t63, .int .i64 t64, .slice a43 m43 c43] N.t_Matrix) :: (sl a43 m43 c43 (List.map (Value.float .f64) ws43) N.t_float64) :: (cl r42 [.int .i64 t59, .int .i64 t60, .slice a41 m41 c41] N.t_Matrix) :: (sl a41 m41 c41 (List.map (Value.float .f64) ws41) N.t_float64) :: (cl r36 [.int .i64 t48, .int .i64 t49, .slice a35 m35 c35] N.t_Matrix) :: (sl a35 m35 c35 (List.map (Value.float .f64) ws35) N.t_float64) :: L)) ?_ h ⟨_, rfl, rfl, hS⟩
              clear h hS
              rintro s w t X q ⟨t76, rfl, rfl, hS⟩ h hX hO
              unfold T_girderlaw10_MatrixWhole_b43 at h
              try dsimp only
              refine ⟨_, _, _, (hS.cel mp6 rfl), ?_⟩
              replace h := bnd h
              obtain ⟨t77, ht77, h⟩ := h
              obtain rfl := lenF ht77 ((Ent.sl mp7).now (fun _ h => h) hS)
              clear ht77
              refine cond_s h ?_ ?_ <;> clear h <;> intro hc h
              · refine ⟨_, _, _, (hS.cel mp6 rfl), ?_⟩
                refine drM_s hS ?_; clear hS; intro w hS
                replace h := bnd h
                obtain ⟨t78, ht78, h⟩ := h
                refine wk_girderlaw10_finite H hS (Ent.sl mp7) ht78 ?_; clear hS ht78; rintro w hS
                refine ⟨_, rfl, ?_⟩
                refine cond_s h ?_ ?_ <;> clear h <;> intro hc h
                · refine ⟨_, _, _, (hS.cel mp4 rfl), ?_⟩
                  replace h := bnd h
                  obtain ⟨t79, ht79, h⟩ := h
                  obtain ⟨z49, rfl, q50x, q50l, q50r⟩ := atF ht79
                  clear ht79
                  refine idx_s ((Ent.sl mp5).now (fun _ h => h) hS) q50x q50l q50r ?_; intro b51 hb51
                  refine ⟨_, rd_get ((Ent.sl mp5).now (fun _ h => h) hS) hb51 q50x, ?_⟩
                  refine ⟨_, _, _, (hS.cel mp6 rfl), ?_⟩
                  replace h := bnd h
                  obtain ⟨t80, ht80, h⟩ := h
                  obtain ⟨z52, rfl, q53x, q53l, q53r⟩ := atF ht80
                  clear ht80
                  refine idx_s ((Ent.sl mp7).now (fun _ h => h) hS) q53x q53l q53r ?_; intro b54 hb54
                  refine ⟨_, rd_get ((Ent.sl mp7).now (fun _ h => h) hS) hb54 q53x, ?_⟩
                  replace h := bnd h
                  obtain ⟨t81, ht81, h⟩ := h
                  obtain rfl := fne_s ht81
                  clear ht81
                  refine cond_s h ?_ ?_ <;> clear h <;> intro hc h
                  · refine ⟨_, _, _, (hS.cel mp2 rfl), ?_⟩
                    replace h := bnd h
                    obtain ⟨t82, ht82, h⟩ := h
                    obtain ⟨z55, rfl, q56x, q56l, q56r⟩ := atF ht82
                    clear ht82
                    refine idx_s ((Ent.sl mp3).now (fun _ h => h) hS) q56x q56l q56r ?_; intro b57 hb57
                    refine ⟨_, rd_get ((Ent.sl mp3).now (fun _ h => h) hS) hb57 q56x, ?_⟩
                    refine ⟨_, _, _, (hS.cel mp6 rfl), ?_⟩
                    replace h := bnd h
                    obtain ⟨t83, ht83, h⟩ := h
                    obtain ⟨z58, rfl, q59x, q59l, q59r⟩ := atF ht83
                    clear ht83
                    refine idx_s ((Ent.sl mp7).now (fun _ h => h) hS) q59x q59l q59r ?_; intro b60 hb60
                    refine ⟨_, rd_get ((Ent.sl mp7).now (fun _ h => h) hS) hb60 q59x, ?_⟩
                    replace h := bnd h
                    obtain ⟨t84, ht84, h⟩ := h
                    obtain rfl := fne_s ht84
                    clear ht84
                    refine cond_s h ?_ ?_ <;> clear h <;> intro hc h
                    · refine cond_s h ?_ ?_ <;> clear h <;> intro hc h
                      · refine ⟨_, _, _, (hS.cel mp0 rfl), ?_⟩
                        replace h := bnd h
                        obtain ⟨t85, ht85, h⟩ := h
                        obtain ⟨z61, rfl, q62x, q62l, q62r⟩ := atF ht85
                        clear ht85
                        refine idx_s ((Ent.sl mp1).now (fun _ h => h) hS) q62x q62l q62r ?_; intro b63 hb63
                        refine ⟨_, rd_get ((Ent.sl mp1).now (fun _ h => h) hS) hb63 q62x, ?_⟩
                        refine drM_s hS ?_; clear hS; intro w hS
                        replace h := bnd h
                        obtain ⟨t86, ht86, h⟩ := h
                        refine wk_girderkit_SameFloat H hS  ht86 ?_; clear hS ht86; rintro w hS
                        refine ⟨_, rfl, ?_⟩
                        refine ⟨(hS.cel mp0 rfl), ?_⟩
                        refine ⟨rd_get ((Ent.sl mp7).now (fun _ h => h) hS) hb60 q59x, ?_⟩
                        refine ⟨(hS.cel mp6 rfl), ?_⟩
                        refine ⟨rd_get ((Ent.sl mp3).now (fun _ h => h) hS) hb57 q56x, ?_⟩
                        refine ⟨(hS.cel mp2 rfl), ?_⟩
                        refine ⟨rd_get ((Ent.sl mp7).now (fun _ h => h) hS) hb54 q53x, ?_⟩
                        refine ⟨(hS.cel mp6 rfl), ?_⟩
                        refine ⟨rd_get ((Ent.sl mp5).now (fun _ h => h) hS) hb51 q50x, ?_⟩
                        refine ⟨(hS.cel mp4 rfl), ?_⟩
                        refine drM_s hS ?_; clear hS; intro w hS
                        refine cond_s h ?_ ?_ <;> clear h <;> intro hc h
                        · obtain rfl := some_inj h
                          have h := congrArg some (hO _ rfl)
                          obtain rfl := some_inj h
                          have h := c48
                          have h := some_inj h
                          cases h
                          exact hK _ (hS.pick (A := [_, _, _, _, _, _, _, _]) [] rfl)
                        · obtain rfl := some_inj h
                          exact hX _ rfl _ _ ⟨_, rfl, rfl, hS⟩
                      · refine drM_s hS ?_; clear hS; intro w hS
                        refine ⟨rd_get ((Ent.sl mp7).now (fun _ h => h) hS) hb60 q59x, ?_⟩
                        refine ⟨(hS.cel mp6 rfl), ?_⟩
                        refine ⟨rd_get ((Ent.sl mp3).now (fun _ h => h) hS) hb57 q56x, ?_⟩
                        refine ⟨(hS.cel mp2 rfl), ?_⟩
                        refine ⟨rd_get ((Ent.sl mp7).now (fun _ h => h) hS) hb54 q53x, ?_⟩
                        refine ⟨(hS.cel mp6 rfl), ?_⟩
                        refine ⟨rd_get ((Ent.sl mp5).now (fun _ h => h) hS) hb51 q50x, ?_⟩
                        refine ⟨(hS.cel mp4 rfl), ?_⟩
                        refine drM_s hS ?_; clear hS; intro w hS
                        obtain rfl := some_inj h
                        have h := congrArg some (hO _ rfl)
                        obtain rfl := some_inj h
                        have h := c48
                        have h := some_inj h
                        cases h
                        exact hK _ (hS.pick (A := [_, _, _, _, _, _, _, _]) [] rfl)
                    · refine drM_s hS ?_; clear hS; intro w hS
                      refine ⟨rd_get ((Ent.sl mp7).now (fun _ h => h) hS) hb60 q59x, ?_⟩
                      refine ⟨(hS.cel mp6 rfl), ?_⟩
                      refine ⟨rd_get ((Ent.sl mp3).now (fun _ h => h) hS) hb57 q56x, ?_⟩
                      refine ⟨(hS.cel mp2 rfl), ?_⟩
                      refine ⟨rd_get ((Ent.sl mp7).now (fun _ h => h) hS) hb54 q53x, ?_⟩
                      refine ⟨(hS.cel mp6 rfl), ?_⟩
                      refine ⟨rd_get ((Ent.sl mp5).now (fun _ h => h) hS) hb51 q50x, ?_⟩
                      refine ⟨(hS.cel mp4 rfl), ?_⟩
                      refine drM_s hS ?_; clear hS; intro w hS
                      obtain rfl := some_inj h
                      have h := congrArg some (hO _ rfl)
                      obtain rfl := some_inj h
                      have h := c48
                      have h := some_inj h
                      cases h
                      exact hK _ (hS.pick (A := [_, _, _, _, _, _, _, _]) [] rfl)
                  · refine drM_s hS ?_; clear hS; intro w hS
                    refine ⟨rd_get ((Ent.sl mp7).now (fun _ h => h) hS) hb54 q53x, ?_⟩
                    refine ⟨(hS.cel mp6 rfl), ?_⟩
                    refine ⟨rd_get ((Ent.sl mp5).now (fun _ h => h) hS) hb51 q50x, ?_⟩
                    refine ⟨(hS.cel mp4 rfl), ?_⟩
                    refine drM_s hS ?_; clear hS; intro w hS
                    obtain rfl := some_inj h
                    have h := congrArg some (hO _ rfl)
                    obtain rfl := some_inj h
                    have h := c48
                    have h := some_inj h
                    cases h
                    exact hK _ (hS.pick (A := [_, _, _, _, _, _, _, _]) [] rfl)
                · refine drM_s hS ?_; clear hS; intro w hS
                  refine drM_s hS ?_; clear hS; intro w hS
                  obtain rfl := some_inj h
                  exact hX _ rfl _ _ ⟨_, rfl, rfl, hS⟩
              · obtain rfl := some_inj h
                have h := congrArg some (hO _ rfl)
                obtain rfl := some_inj h
                exact hJ48 _ _ ⟨rfl, rfl, (hS.pick (A := [_, _, _, _, _, _, _, _]) [] rfl)⟩
            · clear h48 hS
              rintro s w ⟨rfl, rfl, hS⟩
              have h := c48
              clear c48
              try dsimp only
              replace h := bnd h
              obtain ⟨t87, ht87, h⟩ := h
              refine wk_girderlaw10_awake H hS  ht87 ?_; clear hS ht87; rintro w hS
              refine ⟨_, rfl, ?_⟩
              have h := some_inj h
              cases h
              exact hK _ hS

theorem wk_matrix_Transpose_1 {N : Nums} {P : Program} (H : AllOk N P) {w0 w : World} {L : List It} {q0 : Int} {q1 : Int} {r_2 : Nat} {q2_0 : Int} {q2_1 : Int} {q2_2 : Option Addr} {q2_2l q2_2c : Nat} {ws2_2 : List Nat} {u0 : Nat} (hS : Ho w0 w L) (eq2 : Ent L (cl r_2 [.int .i64 q2_0, .int .i64 q2_1, .slice q2_2 q2_2l q2_2c] N.t_Matrix).A) (hq2_2 : Ent L (rdA (List.map (Value.float .f64) ws2_2) q2_2 q2_2l q2_2c)) (hx : T_matrix_Transpose_1 q0 q1 q2_0 q2_1 (List.map nf ws2_2) = some u0) {K : Value → World → Prop} (hK : ∀ (z0 : Nat) (w1 : World), nf z0 = u0 → Ho w0 w1 (L) → K (.float .f64 z0) w1) : CallsX P N.f_matrix_Transpose_1 #[.int .i64 q0, .int .i64 q1, .pointer (some ⟨r_2, 0, none⟩)] w K := by
  refine H.matrix_Transpose_1 q0 q1 (some ⟨r_2, 0, none⟩) w _ ?_
  unfold S_matrix_Transpose_1
  unfold T_matrix_Transpose_1 at hx
  have h := hx
  clear hx
  try dsimp only
  refine optM_s ?_
  refine ⟨_, _, _, (eq2.cel (fun _ h => h) hS rfl), ?_⟩
  refine optM_s ?_
  refine ⟨_, (eq2.cel (fun _ h => h) hS rfl), ?_⟩
  replace h := bnd h
  obtain ⟨t1, ht1, h⟩ := h
  obtain ⟨z1, rfl, q2x, q2l, q2r⟩ := atF ht1
  clear ht1
  refine idx_s (hq2_2.now (fun _ h => h) hS) q2x q2l q2r ?_; intro b3 hb3
  refine ⟨_, rd_get (hq2_2.now (fun _ h => h) hS) hb3 q2x, ?_⟩
  have h := some_inj h
  cases h
  exact hK _ _ rfl hS

theorem wk_matrix_Transpose {N : Nums} {P : Program} (H : AllOk N P) {w0 w : World} {L : List It} {q0_0 : Int} {q0_1 : Int} {q0_2 : Option Addr} {q0_2l q0_2c : Nat} {ws0_2 : List Nat} {u0 : Int} {u1 : Int} {u2 : List Nat} {u3 : Int} (hS : Ho w0 w L) (hq0_2 : Ent L (rdA (List.map (Value.float .f64) ws0_2) q0_2 q0_2l q0_2c)) (hx : T_matrix_Transpose q0_0 q0_1 (List.map nf ws0_2) = some (u0, u1, u2, u3)) {K : Value → World → Prop} (hK : ∀ (a2 : Option Addr) (n2 c2 : Nat) (rws2 : List Nat) (w1 : World), List.map nf rws2 = u2 → Ho w0 w1 ((sl a2 n2 c2 (List.map (Value.float .f64) rws2) N.t_float64) :: L) → K (.tuple #[.agg #[.int .i64 u0, .int .i64 u1, .slice a2 n2 c2], .int .i64 u3]) w1) : CallsX P N.f_matrix_Transpose #[.agg #[.int .i64 q0_0, .int .i64 q0_1, .slice q0_2 q0_2l q0_2c]] w K := by
  refine H.matrix_Transpose q0_0 q0_1 q0_2 q0_2l q0_2c w _ ?_
  unfold S_matrix_Transpose
  unfold T_matrix_Transpose at hx
  have h := hx
  clear hx
  try dsimp only
  refine newM_s hS ?_; clear hS; intro r1 w hS
  refine newM_s hS ?_; clear hS; intro r2 w hS
  refine ⟨_, (hS.cel mp1 rfl), ?_⟩
  refine ⟨_, (hS.cel mp1 rfl), ?_⟩
  refine ⟨_, _, _, (hS.cel mp1 rfl), ?_⟩
  replace h := bnd h
  obtain ⟨t1, ht1, h⟩ := h
  refine wk_matrix_Right H hS (hq0_2.mono tl2) ht1 ?_; clear hS ht1; rintro w hS
  refine ⟨_, rfl, ?_⟩
  refine cond_s h ?_ ?_ <;> clear h <;> intro hc h
  · refine stc_s hS rfl rfl ?_; clear hS; intro w hS
    refine stc_s hS rfl rfl ?_; clear hS; intro w hS
    refine stc_s hS rfl rfl ?_; clear hS; intro w hS
    refine ⟨_, (hS.cel mp0 rfl), ?_⟩
    refine ⟨_, (hS.cel mp0 rfl), ?_⟩
    refine ⟨_, _, _, (hS.cel mp0 rfl), ?_⟩
    replace hS := hS.none (α := Nat) (enc := (Value.float .f64)) (t := N.t_float64)
    have h := some_inj h
    cases h
    exact hK _ _ _ _ _ rfl (hS.pick (A := [_, _, _]) [0] rfl)
  · refine ⟨_, (hS.cel mp1 rfl), ?_⟩
    refine ⟨_, (hS.cel mp1 rfl), ?_⟩
    replace h := bnd h
    obtain ⟨⟨t2, t3, t4⟩, ho2, h⟩ := h
    refine wk_matrix_laid H hS (by intro v0 v1 w L1 r1 K hL hx hS hK; exact wk_matrix_Transpose_1 H hS ((Ent.of mp1).mono hL) ((hq0_2.mono tl2).mono hL) hx hK) ho2 ?_; clear hS ho2; rintro a3 m3 c3 ws3 w rfl hS
    refine ⟨_, _, _, _, _, rfl, ?_⟩
    replace hS := ro1 hS
    refine stc_s hS rfl rfl ?_; clear hS; intro w hS
    refine stc_s hS rfl rfl ?_; clear hS; intro w hS
    refine stc_s hS rfl rfl ?_; clear hS; intro w hS
    refine ⟨_, (hS.cel mp0 rfl), ?_⟩
    refine ⟨_, (hS.cel mp0 rfl), ?_⟩
    refine ⟨_, _, _, (hS.cel mp0 rfl), ?_⟩
    have h := some_inj h
    cases h
    exact hK _ _ _ _ _ rfl (hS.pick (A := [_, _, _]) [1] rfl)

end Go.Eng
