/-
  Each function comes to what its function of plain Lean says, printed by a program of the session; with contracts written by hand at the head. No condition.
-/
import Derived.Test.YtbegoalncgpbnaaTp
import Derived.Test.YtbegoalncgpbnaaSh
set_option linter.unusedSimpArgs false
set_option linter.unnecessarySimpa false
set_option linter.unusedSectionVars false
set_option linter.unusedVariables false
set_option maxRecDepth 100000
set_option maxHeartbeats 4000000
namespace Go.Eng
open Go

section
variable {N : Nums} {P : Program} (H : AllOk N P)
include H

theorem bits_c (x : Nat) (w : World) : CallsX P N.f_math_Float64bits #[.float .f64 x] w fun v w' => v = .int .u64 x ∧ St w w' [] :=
  H.math_Float64bits x w _ ⟨rfl, St.refl _⟩

theorem abs_c (x : Nat) (w : World) : CallsX P N.f_math_Abs #[.float .f64 x] w fun v w' => v = .float .f64 (magF x) ∧ St w w' [] := by
  refine H.math_Abs x w _ ?_
  unfold S_math_Abs
  refine (bits_c H x w).mono ?_
  rintro _ w1 ⟨rfl, h1⟩
  refine ⟨_, rfl, ?_⟩
  refine H.math_Float64frombits _ w1 _ ?_
  rw [abs_bits]
  exact ⟨_, rfl, rfl, h1⟩

theorem signbit_c (x : Nat) (w : World) : CallsX P N.f_math_Signbit #[.float .f64 x] w fun v w' => v = .bool (negF x) ∧ St w w' [] := by
  refine H.math_Signbit x w _ ?_
  unfold S_math_Signbit
  refine (bits_c H x w).mono ?_
  rintro _ w1 ⟨rfl, h1⟩
  exact ⟨_, rfl, by rw [sign_bits], h1⟩

theorem copysign_c (x y : Nat) (w : World) : CallsX P N.f_math_Copysign #[.float .f64 x, .float .f64 y] w fun v w' => v = .float .f64 ((if negF y then 9223372036854775808 else 0) + magF x) ∧ St w w' [] := by
  refine H.math_Copysign x y w _ ?_
  unfold S_math_Copysign
  refine (bits_c H x w).mono ?_
  rintro _ w1 ⟨rfl, h1⟩
  refine ⟨_, rfl, ?_⟩
  refine (bits_c H y w1).mono ?_
  rintro _ w2 ⟨rfl, h2⟩
  refine ⟨_, rfl, ?_⟩
  refine H.math_Float64frombits _ w2 _ ?_
  rw [copy_bits]
  exact ⟨_, rfl, rfl, h1.next h2⟩

theorem sameFloat_c (x y : Nat) (w : World) : CallsX P N.f_girderkit_SameFloat #[.float .f64 x, .float .f64 y] w fun v w' => v = .bool (nf x == nf y) ∧ St w w' [] := by
  refine H.girderkit_SameFloat x y w _ ?_
  unfold S_girderkit_SameFloat
  refine (bits_c H x w).mono ?_
  rintro _ w1 ⟨rfl, h1⟩
  refine ⟨_, rfl, ?_⟩
  refine (bits_c H y w1).mono ?_
  rintro _ w2 ⟨rfl, h2⟩
  refine ⟨_, rfl, ?_⟩
  have hS := h1.next h2
  have hxy : (((x : Nat) : Int) == ((y : Nat) : Int)) = (x == y) := by rw [Bool.eq_iff_iff]; simp; omega
  rw [same_bits, hxy, feq_self, feq_self]
  cases x == y <;> cases isNaN x <;> exact ⟨by simp, hS⟩

end

theorem wk_girderkit_Pick {N : Nums} {P : Program} (H : AllOk N P) {w0 w : World} {L : List It} {q0 : Int} {q1 : Int} {u0 : Int} (hS : Ho w0 w (L))  (hx : T_girderkit_Pick q0 q1 = some u0) {K : Value → World → Prop} (hK : ∀  (w1 : World), Ho w0 w1 (L) → K (.int .i64 u0) w1) : CallsX P N.f_girderkit_Pick #[.int .i64 q0, .int .i64 q1] w K := by
  refine H.girderkit_Pick q0 q1 w _ ?_
  unfold S_girderkit_Pick
  unfold T_girderkit_Pick at hx
  have h := hx
  clear hx
  try dsimp only
  refine cond_s h ?_ ?_ <;> clear h <;> intro hc h
  · have h := some_inj h
    cases h
    exact hK _ hS
  · replace h := bnd h
    obtain ⟨t2, ht2, h⟩ := h
    refine ⟨nz_s ht2, ?_⟩
    clear ht2
    replace h := bnd h
    obtain ⟨o1, h1, c1⟩ := h
    refine cutM_i (fun s w => ∃ (t1 : Int), t1 = o1 ∧ s = (t1, ()) ∧ Ho w0 w (L)) (fun J1 hJ1 => ?_) ?_
    · have h := h1
      clear h1
      refine cond_s h ?_ ?_ <;> clear h <;> intro hc h
      · obtain rfl := some_inj h
        exact hJ1 _ _ ⟨_, rfl, rfl, hS⟩
      · obtain rfl := some_inj h
        exact hJ1 _ _ ⟨_, rfl, rfl, hS⟩
    · clear h1 hS
      rintro s w ⟨t1, rfl, rfl, hS⟩
      have h := c1
      clear c1
      try dsimp only
      have h := some_inj h
      cases h
      exact hK _ hS

theorem wk_girderlaw10_of {N : Nums} {P : Program} (H : AllOk N P) {w0 w : World} {L : List It} {q0 : Int} {q1 : Int} {q2 : Option Addr} {q2l q2c : Nat} {ws2 : List Nat} {u0 : Int} {u1 : Int} {u2 : List Nat} (hS : Ho w0 w (L)) (hq2 : Ent L (rdA (List.map (Value.float .f64) ws2) q2 q2l q2c)) (hx : T_girderlaw10_of q0 q1 (List.map nf ws2) = some (u0, u1, u2)) {K : Value → World → Prop} (hK : ∀  (w1 : World), (List.map nf ws2) = u2 → Ho w0 w1 (L) → K (.agg #[.int .i64 u0, .int .i64 u1, .slice q2 q2l q2c]) w1) : CallsX P N.f_girderlaw10_of #[.int .i64 q0, .int .i64 q1, .slice q2 q2l q2c] w K := by
  refine H.girderlaw10_of q0 q1 q2 q2l q2c w _ ?_
  unfold S_girderlaw10_of
  unfold T_girderlaw10_of at hx
  have h := hx
  clear hx
  try dsimp only
  refine newM_s hS ?_; clear hS; intro r1 w hS
  refine stc_s hS rfl rfl ?_; clear hS; intro w hS
  refine stc_s hS rfl rfl ?_; clear hS; intro w hS
  refine stc_s hS rfl rfl ?_; clear hS; intro w hS
  refine ⟨_, (hS.cel mp0 rfl), ?_⟩
  refine ⟨_, (hS.cel mp0 rfl), ?_⟩
  refine ⟨_, _, _, (hS.cel mp0 rfl), ?_⟩
  have h := some_inj h
  cases h
  exact hK _ rfl (hS.pick (A := [_]) [] rfl)

theorem wk_girderlaw10_laid {N : Nums} {P : Program} (H : AllOk N P) {w0 w : World} {L : List It} {q0 : Int} {q1 : Int} {q2 : Option Addr} {q2l q2c : Nat} {ws2 : List Nat} {q3 : Bool} {u0 : Int} {u1 : Int} {u2 : List Nat} (hS : Ho w0 w (L)) (hq2 : Ent L (rdA (List.map (Value.float .f64) ws2) q2 q2l q2c)) (hx : T_girderlaw10_laid q0 q1 (List.map nf ws2) q3 = some (u0, u1, u2)) {K : Value → World → Prop} (hK : ∀ (a2 : Option Addr) (n2 c2 : Nat) (rws2 : List Nat) (w1 : World), List.map nf rws2 = u2 → Ho w0 w1 ((sl a2 n2 c2 (List.map (Value.float .f64) rws2) N.t_float64) :: L) → K (.agg #[.int .i64 u0, .int .i64 u1, .slice a2 n2 c2]) w1) : CallsX P N.f_girderlaw10_laid #[.int .i64 q0, .int .i64 q1, .slice q2 q2l q2c, .bool q3] w K := by
  refine H.girderlaw10_laid q0 q1 q2 q2l q2c q3 w _ ?_
  unfold S_girderlaw10_laid
  unfold T_girderlaw10_laid at hx
  have h := hx
  clear hx
  try dsimp only
  refine newM_s hS ?_; clear hS; intro r1 w hS
  replace h := bnd h
  obtain ⟨t1, ht1, h⟩ := h
  refine wk_girderkit_Pick H hS  ht1 ?_; clear hS ht1; rintro w hS
  refine ⟨_, rfl, ?_⟩
  replace h := bnd h
  obtain ⟨t2, ht2, h⟩ := h
  refine wk_girderkit_Pick H hS  ht2 ?_; clear hS ht2; rintro w hS
  refine ⟨_, rfl, ?_⟩
  replace h := bnd h
  obtain ⟨⟨t3, t4, t5⟩, ho3, h⟩ := h
  refine wk_girderlaw10_of H hS (Ent.nil _) ho3 ?_; clear hS ho3; rintro w rfl hS
  refine ⟨_, _, _, _, _, rfl, ?_⟩
  refine newM_s hS ?_; clear hS; intro r3 w hS
  refine stc_s hS rfl rfl ?_; clear hS; intro w hS
  refine stc_s hS rfl rfl ?_; clear hS; intro w hS
  refine stc_s hS rfl rfl ?_; clear hS; intro w hS
  replace h := bnd h
  obtain ⟨o8, h8, c8⟩ := h
  refine cutM_i (fun s w => ∃ (a4 : Option Addr) (m5 : Nat) (c6 : Nat) (ws7 : List Nat), (List.map nf ws7) = o8 ∧ s = (()) ∧ Ho w0 w ((cl r3 [.int .i64 t3, .int .i64 t4, .slice a4 m5 c6] N.t_Matrix) :: (cl r1 [.int .i64 0, .int .i64 0, .slice none 0 0] N.t_Matrix) :: (sl a4 m5 c6 (List.map (Value.float .f64) ws7) N.t_float64) :: L)) (fun J8 hJ8 => ?_) ?_
  · have h := h8
    clear h8
    replace hS := hS.none (α := Nat) (enc := (Value.float .f64)) (t := N.t_float64)
    refine iter_sim (fun s w t => ∃ (t7 : Int) (a9 : Option Addr) (m10 : Nat) (c11 : Nat) (ws12 : List Nat), (t7, (List.map nf ws12)) = t ∧ s = (t7, ()) ∧ Ho w0 w ((cl r3 [.int .i64 t3, .int .i64 t4, .slice a9 m10 c11] N.t_Matrix) :: (cl r1 [.int .i64 0, .int .i64 0, .slice none 0 0] N.t_Matrix) :: (sl a9 m10 c11 (List.map (Value.float .f64) ws12) N.t_float64) :: L)) ?_ h ⟨_, _, _, _, _, rfl, rfl, (hS.pick (A := [_, _, _]) [1, 1, 0] rfl)⟩
    clear h hS
    rintro s w t X q ⟨t7, a9, m10, c11, ws12, rfl, rfl, hS⟩ h hX hO
    unfold T_girderlaw10_laid_b2 at h
    try dsimp only
    refine ⟨_, (hS.cel mp0 rfl), ?_⟩
    refine ⟨_, (hS.cel mp0 rfl), ?_⟩
    refine cond_s h ?_ ?_ <;> clear h <;> intro hc h
    · replace h := bnd h
      obtain ⟨t9, ht9, h⟩ := h
      obtain rfl := lenF ht9 ((hq2.mono tl3).now (fun _ h => h) hS)
      clear ht9
      replace h := bnd h
      obtain ⟨o14, h14, c14⟩ := h
      refine cutM_i (fun s w => ∃ (z13 : Nat), (nf z13) = o14 ∧ s = (z13, ()) ∧ Ho w0 w ((cl r3 [.int .i64 t3, .int .i64 t4, .slice a9 m10 c11] N.t_Matrix) :: (cl r1 [.int .i64 0, .int .i64 0, .slice none 0 0] N.t_Matrix) :: (sl a9 m10 c11 (List.map (Value.float .f64) ws12) N.t_float64) :: L)) (fun J14 hJ14 => ?_) ?_
      · have h := h14
        clear h14
        refine cond_s h ?_ ?_ <;> clear h <;> intro hc h
        · replace h := bnd h
          obtain ⟨t11, ht11, h⟩ := h
          obtain rfl := lenF ht11 ((hq2.mono tl3).now (fun _ h => h) hS)
          clear ht11
          replace h := bnd h
          obtain ⟨t13, ht13, h⟩ := h
          refine ⟨nz_s ht13, ?_⟩
          clear ht13
          replace h := bnd h
          obtain ⟨t12, ht12, h⟩ := h
          obtain ⟨z15, rfl, q16x, q16l, q16r⟩ := atF ht12
          clear ht12
          refine idx_s ((hq2.mono tl3).now (fun _ h => h) hS) q16x q16l q16r ?_; intro b17 hb17
          refine ⟨_, rd_get ((hq2.mono tl3).now (fun _ h => h) hS) hb17 q16x, ?_⟩
          obtain rfl := some_inj h
          exact hJ14 _ _ ⟨_, rfl, rfl, hS⟩
        · obtain rfl := some_inj h
          exact hJ14 _ _ ⟨_, rfl, rfl, hS⟩
      · clear h14 hS
        rintro s w ⟨z13, rfl, rfl, hS⟩
        have h := c14
        clear c14
        try dsimp only
        refine cond_s h ?_ ?_ <;> clear h <;> intro hc h
        · replace h := bnd h
          obtain ⟨t14, ht14, h⟩ := h
          obtain rfl := fge_s ht14
          clear ht14
          refine cond_s h ?_ ?_ <;> clear h <;> intro hc h
          · replace h := bnd h
            obtain ⟨t15, ht15, h⟩ := h
            obtain rfl := fle_s ht15
            clear ht15
            replace h := bnd h
            obtain ⟨o19, h19, c19⟩ := h
            refine cutM_i (fun s w => ∃ (z18 : Nat), (nf z18) = o19 ∧ s = (z18, ()) ∧ Ho w0 w ((cl r3 [.int .i64 t3, .int .i64 t4, .slice a9 m10 c11] N.t_Matrix) :: (cl r1 [.int .i64 0, .int .i64 0, .slice none 0 0] N.t_Matrix) :: (sl a9 m10 c11 (List.map (Value.float .f64) ws12) N.t_float64) :: L)) (fun J19 hJ19 => ?_) ?_
            · have h := h19
              clear h19
              refine cond_s h ?_ ?_ <;> clear h <;> intro hc h
              · obtain rfl := some_inj h
                exact hJ19 _ _ ⟨_, rfl, rfl, hS⟩
              · obtain rfl := some_inj h
                exact hJ19 _ _ ⟨_, rfl, rfl, hS⟩
            · clear h19 hS
              rintro s w ⟨z18, rfl, rfl, hS⟩
              have h := c19
              clear c19
              try dsimp only
              replace h := bnd h
              obtain ⟨o21, h21, c21⟩ := h
              refine cutM_i (fun s w => ∃ (z20 : Nat), (nf z20) = o21 ∧ s = (z20, ()) ∧ Ho w0 w ((cl r3 [.int .i64 t3, .int .i64 t4, .slice a9 m10 c11] N.t_Matrix) :: (cl r1 [.int .i64 0, .int .i64 0, .slice none 0 0] N.t_Matrix) :: (sl a9 m10 c11 (List.map (Value.float .f64) ws12) N.t_float64) :: L)) (fun J21 hJ21 => ?_) ?_
              · have h := h21
                clear h21
                refine cond_s h ?_ ?_ <;> clear h <;> intro hc h
                · replace h := bnd h
                  obtain ⟨t18, ht18, h⟩ := h
                  refine f2i_s ht18 hS ?_; clear hS ht18; intro w hS
                  obtain rfl := some_inj h
                  exact hJ21 _ _ ⟨_, rfl, rfl, hS⟩
                · obtain rfl := some_inj h
                  exact hJ21 _ _ ⟨_, rfl, rfl, hS⟩
              · clear h21 hS
                rintro s w ⟨z20, rfl, rfl, hS⟩
                have h := c21
                clear c21
                try dsimp only
                refine ⟨_, _, _, (hS.cel mp0 rfl), ?_⟩
                replace h := bnd h
                obtain ⟨t19, ht19, h⟩ := h
                obtain rfl : (List.map nf ([z20] : List Nat)) = t19 := some_inj ht19
                clear ht19
                refine lit_s (ks := [z20]) (enc := (Value.float .f64)) (m := 1) hS rfl rfl ?_; clear hS; intro r22 w hS
                replace h := bnd h
                obtain ⟨t20, ht20, h⟩ := h
                obtain ⟨rfl, kt20⟩ := appF ht20
                clear ht20
                replace hS := ro3 hS
                refine app_s hS kt20 ((Ent.sl mp1).now (fun _ h => h) hS) (fun _ => rfl) rfl ?_; clear hS kt20; intro a23 c23 w hS
                replace hS := ro2 hS
                refine stc_s hS rfl rfl ?_; clear hS; intro w hS
                obtain rfl := some_inj h
                exact hX _ rfl _ _ ⟨_, _, _, _, _, rfl, rfl, (hS.pick (A := [_, _, _, _]) [0, 2, 0] rfl)⟩
          · replace h := bnd h
            obtain ⟨o25, h25, c25⟩ := h
            refine cutM_i (fun s w => ∃ (z24 : Nat), (nf z24) = o25 ∧ s = (z24, ()) ∧ Ho w0 w ((cl r3 [.int .i64 t3, .int .i64 t4, .slice a9 m10 c11] N.t_Matrix) :: (cl r1 [.int .i64 0, .int .i64 0, .slice none 0 0] N.t_Matrix) :: (sl a9 m10 c11 (List.map (Value.float .f64) ws12) N.t_float64) :: L)) (fun J25 hJ25 => ?_) ?_
            · have h := h25
              clear h25
              obtain rfl := some_inj h
              exact hJ25 _ _ ⟨_, rfl, rfl, hS⟩
            · clear h25 hS
              rintro s w ⟨z24, rfl, rfl, hS⟩
              have h := c25
              clear c25
              try dsimp only
              replace h := bnd h
              obtain ⟨o27, h27, c27⟩ := h
              refine cutM_i (fun s w => ∃ (z26 : Nat), (nf z26) = o27 ∧ s = (z26, ()) ∧ Ho w0 w ((cl r3 [.int .i64 t3, .int .i64 t4, .slice a9 m10 c11] N.t_Matrix) :: (cl r1 [.int .i64 0, .int .i64 0, .slice none 0 0] N.t_Matrix) :: (sl a9 m10 c11 (List.map (Value.float .f64) ws12) N.t_float64) :: L)) (fun J27 hJ27 => ?_) ?_
              · have h := h27
                clear h27
                refine cond_s h ?_ ?_ <;> clear h <;> intro hc h
                · replace h := bnd h
                  obtain ⟨t23, ht23, h⟩ := h
                  refine f2i_s ht23 hS ?_; clear hS ht23; intro w hS
                  obtain rfl := some_inj h
                  exact hJ27 _ _ ⟨_, rfl, rfl, hS⟩
                · obtain rfl := some_inj h
                  exact hJ27 _ _ ⟨_, rfl, rfl, hS⟩
              · clear h27 hS
                rintro s w ⟨z26, rfl, rfl, hS⟩
                have h := c27
                clear c27
                try dsimp only
                refine ⟨_, _, _, (hS.cel mp0 rfl), ?_⟩
                replace h := bnd h
                obtain ⟨t24, ht24, h⟩ := h
                obtain rfl : (List.map nf ([z26] : List Nat)) = t24 := some_inj ht24
                clear ht24
                refine lit_s (ks := [z26]) (enc := (Value.float .f64)) (m := 1) hS rfl rfl ?_; clear hS; intro r28 w hS
                replace h := bnd h
                obtain ⟨t25, ht25, h⟩ := h
                obtain ⟨rfl, kt25⟩ := appF ht25
                clear ht25
                replace hS := ro3 hS
                refine app_s hS kt25 ((Ent.sl mp1).now (fun _ h => h) hS) (fun _ => rfl) rfl ?_; clear hS kt25; intro a29 c29 w hS
                replace hS := ro2 hS
                refine stc_s hS rfl rfl ?_; clear hS; intro w hS
                obtain rfl := some_inj h
                exact hX _ rfl _ _ ⟨_, _, _, _, _, rfl, rfl, (hS.pick (A := [_, _, _, _]) [0, 2, 0] rfl)⟩
        · replace h := bnd h
          obtain ⟨o31, h31, c31⟩ := h
          refine cutM_i (fun s w => ∃ (z30 : Nat), (nf z30) = o31 ∧ s = (z30, ()) ∧ Ho w0 w ((cl r3 [.int .i64 t3, .int .i64 t4, .slice a9 m10 c11] N.t_Matrix) :: (cl r1 [.int .i64 0, .int .i64 0, .slice none 0 0] N.t_Matrix) :: (sl a9 m10 c11 (List.map (Value.float .f64) ws12) N.t_float64) :: L)) (fun J31 hJ31 => ?_) ?_
          · have h := h31
            clear h31
            obtain rfl := some_inj h
            exact hJ31 _ _ ⟨_, rfl, rfl, hS⟩
          · clear h31 hS
            rintro s w ⟨z30, rfl, rfl, hS⟩
            have h := c31
            clear c31
            try dsimp only
            replace h := bnd h
            obtain ⟨o33, h33, c33⟩ := h
            refine cutM_i (fun s w => ∃ (z32 : Nat), (nf z32) = o33 ∧ s = (z32, ()) ∧ Ho w0 w ((cl r3 [.int .i64 t3, .int .i64 t4, .slice a9 m10 c11] N.t_Matrix) :: (cl r1 [.int .i64 0, .int .i64 0, .slice none 0 0] N.t_Matrix) :: (sl a9 m10 c11 (List.map (Value.float .f64) ws12) N.t_float64) :: L)) (fun J33 hJ33 => ?_) ?_
            · have h := h33
              clear h33
              refine cond_s h ?_ ?_ <;> clear h <;> intro hc h
              · replace h := bnd h
                obtain ⟨t28, ht28, h⟩ := h
                refine f2i_s ht28 hS ?_; clear hS ht28; intro w hS
                obtain rfl := some_inj h
                exact hJ33 _ _ ⟨_, rfl, rfl, hS⟩
              · obtain rfl := some_inj h
                exact hJ33 _ _ ⟨_, rfl, rfl, hS⟩
            · clear h33 hS
              rintro s w ⟨z32, rfl, rfl, hS⟩
              have h := c33
              clear c33
              try dsimp only
              refine ⟨_, _, _, (hS.cel mp0 rfl), ?_⟩
              replace h := bnd h
              obtain ⟨t29, ht29, h⟩ := h
              obtain rfl : (List.map nf ([z32] : List Nat)) = t29 := some_inj ht29
              clear ht29
              refine lit_s (ks := [z32]) (enc := (Value.float .f64)) (m := 1) hS rfl rfl ?_; clear hS; intro r34 w hS
              replace h := bnd h
              obtain ⟨t30, ht30, h⟩ := h
              obtain ⟨rfl, kt30⟩ := appF ht30
              clear ht30
              replace hS := ro3 hS
              refine app_s hS kt30 ((Ent.sl mp1).now (fun _ h => h) hS) (fun _ => rfl) rfl ?_; clear hS kt30; intro a35 c35 w hS
              replace hS := ro2 hS
              refine stc_s hS rfl rfl ?_; clear hS; intro w hS
              obtain rfl := some_inj h
              exact hX _ rfl _ _ ⟨_, _, _, _, _, rfl, rfl, (hS.pick (A := [_, _, _, _]) [0, 2, 0] rfl)⟩
    · obtain rfl := some_inj h
      have h := congrArg some (hO _ rfl)
      obtain rfl := some_inj h
      exact hJ8 _ _ ⟨_, _, _, _, rfl, rfl, hS⟩
  · clear h8 hS
    rintro s w ⟨a4, m5, c6, ws7, rfl, rfl, hS⟩
    have h := c8
    clear c8
    try dsimp only
    refine ⟨_, (hS.cel mp0 rfl), ?_⟩
    refine ⟨_, (hS.cel mp0 rfl), ?_⟩
    refine ⟨_, _, _, (hS.cel mp0 rfl), ?_⟩
    replace hS := ro1 hS
    refine stc_s hS rfl rfl ?_; clear hS; intro w hS
    refine stc_s hS rfl rfl ?_; clear hS; intro w hS
    refine stc_s hS rfl rfl ?_; clear hS; intro w hS
    refine ⟨_, (hS.cel mp0 rfl), ?_⟩
    refine ⟨_, (hS.cel mp0 rfl), ?_⟩
    refine ⟨_, _, _, (hS.cel mp0 rfl), ?_⟩
    have h := some_inj h
    cases h
    exact hK _ _ _ _ _ rfl (hS.pick (A := [_, _, _]) [2] rfl)

theorem wk_matrix_fits {N : Nums} {P : Program} (H : AllOk N P) {w0 w : World} {L : List It} {q0 : Int} {u0 : Bool} (hS : Ho w0 w (L))  (hx : T_matrix_fits q0 = some u0) {K : Value → World → Prop} (hK : ∀  (w1 : World), Ho w0 w1 (L) → K (.bool u0) w1) : CallsX P N.f_matrix_fits #[.int .i64 q0] w K := by
  refine H.matrix_fits q0 w _ ?_
  unfold S_matrix_fits
  unfold T_matrix_fits at hx
  have h := hx
  clear hx
  try dsimp only
  refine cond_s h ?_ ?_ <;> clear h <;> intro hc h
  · have h := some_inj h
    cases h
    exact hK _ hS
  · have h := some_inj h
    cases h
    exact hK _ hS

theorem wk_matrix_Right {N : Nums} {P : Program} (H : AllOk N P) {w0 w : World} {L : List It} {q0_0 : Int} {q0_1 : Int} {q0_2 : Option Addr} {q0_2l q0_2c : Nat} {ws0_2 : List Nat} {u0 : Bool} (hS : Ho w0 w (L)) (hq0_2 : Ent L (rdA (List.map (Value.float .f64) ws0_2) q0_2 q0_2l q0_2c)) (hx : T_matrix_Right q0_0 q0_1 (List.map nf ws0_2) = some u0) {K : Value → World → Prop} (hK : ∀  (w1 : World), Ho w0 w1 (L) → K (.bool u0) w1) : CallsX P N.f_matrix_Right #[.agg #[.int .i64 q0_0, .int .i64 q0_1, .slice q0_2 q0_2l q0_2c]] w K := by
  refine H.matrix_Right q0_0 q0_1 q0_2 q0_2l q0_2c w _ ?_
  unfold S_matrix_Right
  unfold T_matrix_Right at hx
  have h := hx
  clear hx
  try dsimp only
  refine newM_s hS ?_; clear hS; intro r1 w hS
  refine ⟨_, (hS.cel mp0 rfl), ?_⟩
  replace h := bnd h
  obtain ⟨t1, ht1, h⟩ := h
  refine wk_matrix_fits H hS  ht1 ?_; clear hS ht1; rintro w hS
  refine ⟨_, rfl, ?_⟩
  refine cond_s h ?_ ?_ <;> clear h <;> intro hc h
  · refine ⟨_, (hS.cel mp0 rfl), ?_⟩
    replace h := bnd h
    obtain ⟨t2, ht2, h⟩ := h
    refine wk_matrix_fits H hS  ht2 ?_; clear hS ht2; rintro w hS
    refine ⟨_, rfl, ?_⟩
    refine cond_s h ?_ ?_ <;> clear h <;> intro hc h
    · refine ⟨_, _, _, (hS.cel mp0 rfl), ?_⟩
      replace h := bnd h
      obtain ⟨t3, ht3, h⟩ := h
      obtain rfl := lenF ht3 ((hq0_2.mono tl1).now (fun _ h => h) hS)
      clear ht3
      refine ⟨_, (hS.cel mp0 rfl), ?_⟩
      refine ⟨_, (hS.cel mp0 rfl), ?_⟩
      have h := some_inj h
      cases h
      exact hK _ (hS.pick (A := [_]) [] rfl)
    · have h := some_inj h
      cases h
      exact hK _ (hS.pick (A := [_]) [] rfl)
  · have h := some_inj h
    cases h
    exact hK _ (hS.pick (A := [_]) [] rfl)

theorem wk_slices_IndexFunc___float64_float64 {N : Nums} {P : Program} (H : AllOk N P) {w0 w : World} {L : List It} {q0 : Option Addr} {q0l q0c : Nat} {ws0 : List Nat} {q1 : Value} {f1 : Nat → Option Bool} {u0 : Int} (hS : Ho w0 w (L)) (hq0 : Ent L (rdA (List.map (Value.float .f64) ws0) q0 q0l q0c)) (hf1 : ∀ (v0 : Nat) (w : World) (L1 : List It) (r1 : Bool) (K : Value → World → Prop), (∀ e, e ∈ L → e ∈ L1) → f1 (nf v0) = some r1 → Ho w0 w L1 → (∀ w1 : World, Ho w0 w1 L1 → K (.bool r1) w1) → fnM q1 fun g gp gq => CallsX P g (gp.toList ++ (([.float .f64 v0] : List Value) ++ gq.toList)).toArray w K) (hx : T_slices_IndexFunc___float64_float64 (List.map nf ws0) f1 = some u0) {K : Value → World → Prop} (hK : ∀  (w1 : World), Ho w0 w1 (L) → K (.int .i64 u0) w1) : CallsX P N.f_slices_IndexFunc___float64_float64 #[.slice q0 q0l q0c, q1] w K := by
  refine H.slices_IndexFunc___float64_float64 q0 q0l q0c q1 w _ ?_
  unfold S_slices_IndexFunc___float64_float64
  unfold T_slices_IndexFunc___float64_float64 at hx
  have h := hx
  clear hx
  try dsimp only
  replace h := bnd h
  obtain ⟨t1, ht1, h⟩ := h
  obtain rfl := lenF ht1 (hq0.now (fun _ h => h) hS)
  clear ht1
  replace h := bnd h
  obtain ⟨o1, h1, c1⟩ := h
  refine cutM_i (fun s w =>  .inl () = o1 ∧ s = (()) ∧ Ho w0 w (L)) (fun J1 hJ1 => ?_) ?_
  · have h := h1
    clear h1
    refine iter_sim (fun s w t => ∃ (t2 : Int), t2 = t ∧ s = (t2, ()) ∧ Ho w0 w (L)) ?_ h ⟨_, rfl, rfl, hS⟩
    clear h hS
    rintro s w t X q ⟨t2, rfl, rfl, hS⟩ h hX hO
    unfold T_slices_IndexFunc___float64_float64_b2 at h
    try dsimp only
    refine cond_s h ?_ ?_ <;> clear h <;> intro hc h
    · replace h := bnd h
      obtain ⟨t3, ht3, h⟩ := h
      obtain ⟨z2, rfl, q3x, q3l, q3r⟩ := atF ht3
      clear ht3
      refine idx_s (hq0.now (fun _ h => h) hS) q3x q3l q3r ?_; intro b4 hb4
      refine ⟨_, rd_get (hq0.now (fun _ h => h) hS) hb4 q3x, ?_⟩
      replace h := bnd h
      obtain ⟨t4, ht4, h⟩ := h
      refine hf1 _ _ _ _ _ (fun _ h => h) ht4 hS ?_; clear hS ht4; rintro w hS
      refine ⟨_, rfl, ?_⟩
      refine cond_s h ?_ ?_ <;> clear h <;> intro hc h
      · obtain rfl := some_inj h
        have h := congrArg some (hO _ rfl)
        obtain rfl := some_inj h
        have h := c1
        have h := some_inj h
        cases h
        exact hK _ hS
      · obtain rfl := some_inj h
        exact hX _ rfl _ _ ⟨_, rfl, rfl, hS⟩
    · obtain rfl := some_inj h
      have h := congrArg some (hO _ rfl)
      obtain rfl := some_inj h
      exact hJ1 _ _ ⟨rfl, rfl, hS⟩
  · clear h1 hS
    rintro s w ⟨rfl, rfl, hS⟩
    have h := c1
    clear c1
    try dsimp only
    have h := some_inj h
    cases h
    exact hK _ hS

theorem wk_slices_ContainsFunc___float64_float64 {N : Nums} {P : Program} (H : AllOk N P) {w0 w : World} {L : List It} {q0 : Option Addr} {q0l q0c : Nat} {ws0 : List Nat} {q1 : Value} {f1 : Nat → Option Bool} {u0 : Bool} (hS : Ho w0 w (L)) (hq0 : Ent L (rdA (List.map (Value.float .f64) ws0) q0 q0l q0c)) (hf1 : ∀ (v0 : Nat) (w : World) (L1 : List It) (r1 : Bool) (K : Value → World → Prop), (∀ e, e ∈ L → e ∈ L1) → f1 (nf v0) = some r1 → Ho w0 w L1 → (∀ w1 : World, Ho w0 w1 L1 → K (.bool r1) w1) → fnM q1 fun g gp gq => CallsX P g (gp.toList ++ (([.float .f64 v0] : List Value) ++ gq.toList)).toArray w K) (hx : T_slices_ContainsFunc___float64_float64 (List.map nf ws0) f1 = some u0) {K : Value → World → Prop} (hK : ∀  (w1 : World), Ho w0 w1 (L) → K (.bool u0) w1) : CallsX P N.f_slices_ContainsFunc___float64_float64 #[.slice q0 q0l q0c, q1] w K := by
  refine H.slices_ContainsFunc___float64_float64 q0 q0l q0c q1 w _ ?_
  unfold S_slices_ContainsFunc___float64_float64
  unfold T_slices_ContainsFunc___float64_float64 at hx
  have h := hx
  clear hx
  try dsimp only
  replace h := bnd h
  obtain ⟨t1, ht1, h⟩ := h
  refine wk_slices_IndexFunc___float64_float64 H hS hq0 (by intro v0 w L1 r1 K hL hx hS hK; exact hf1 v0 w L1 r1 K hL hx hS hK) ht1 ?_; clear hS ht1; rintro w hS
  refine ⟨_, rfl, ?_⟩
  have h := some_inj h
  cases h
  exact hK _ hS

theorem wk_matrix_Norm_1 {N : Nums} {P : Program} (H : AllOk N P) {w0 w : World} {L : List It} {q0 : Nat} {u0 : Bool} (hS : Ho w0 w (L))  (hx : T_matrix_Norm_1 (nf q0) = some u0) {K : Value → World → Prop} (hK : ∀  (w1 : World), Ho w0 w1 (L) → K (.bool u0) w1) : CallsX P N.f_matrix_Norm_1 #[.float .f64 q0] w K := by
  refine H.matrix_Norm_1 q0 w _ ?_
  unfold S_matrix_Norm_1
  unfold T_matrix_Norm_1 at hx
  have h := hx
  clear hx
  try dsimp only
  replace h := bnd h
  obtain ⟨t1, ht1, h⟩ := h
  refine fsub_s ht1 hS ?_; clear hS ht1; rintro z1 w rfl hS
  replace h := bnd h
  obtain ⟨t2, ht2, h⟩ := h
  obtain rfl := fne_s ht2
  clear ht2
  have h := some_inj h
  cases h
  exact hK _ hS

theorem wk_math_Float64bits {N : Nums} {P : Program} (H : AllOk N P) {w0 w : World} {L : List It} {q0 : Nat} {u0 : Int} (hS : Ho w0 w (L))  (hx : T_math_Float64bits (nf q0) = some u0) {K : Value → World → Prop} (hK : ∀  (w1 : World), Ho w0 w1 (L) → K (.int .u64 u0) w1) : CallsX P N.f_math_Float64bits #[.float .f64 q0] w K := by
  unfold T_math_Float64bits at hx
  have hn : isNaN q0 = false := by
    cases e : isNaN q0 with
    | false => rfl
    | true => rw [isNaN_nf, e] at hx; cases hx
  rw [isNaN_nf, hn, nf_of_not hn] at hx
  have hx := some_inj hx
  subst hx
  exact H.math_Float64bits q0 w _ (hK _ hS)

theorem wk_math_Float64frombits {N : Nums} {P : Program} (H : AllOk N P) {w0 w : World} {L : List It} {q0 : Int} {u0 : Nat} (hS : Ho w0 w (L))  (hx : T_math_Float64frombits q0 = some u0) {K : Value → World → Prop} (hK : ∀ (z0 : Nat) (w1 : World), nf z0 = u0 → Ho w0 w1 (L) → K (.float .f64 z0) w1) : CallsX P N.f_math_Float64frombits #[.int .u64 q0] w K := by
  unfold T_math_Float64frombits at hx
  have hx := some_inj hx
  exact H.math_Float64frombits q0 w _ (hK _ _ hx hS)

theorem wk_math_Abs {N : Nums} {P : Program} (H : AllOk N P) {w0 w : World} {L : List It} {q0 : Nat} {u0 : Nat} (hS : Ho w0 w (L))  (hx : T_math_Abs (nf q0) = some u0) {K : Value → World → Prop} (hK : ∀ (z0 : Nat) (w1 : World), nf z0 = u0 → Ho w0 w1 (L) → K (.float .f64 z0) w1) : CallsX P N.f_math_Abs #[.float .f64 q0] w K := by
  unfold T_math_Abs at hx
  have hx := some_inj hx
  refine (abs_c H q0 w).mono ?_
  rintro _ w1 ⟨rfl, h1⟩
  exact hK _ _ ((nf_magF q0).symm.trans hx) (hS.next h1)

theorem wk_round_way {N : Nums} {P : Program} (H : AllOk N P) {w0 w : World} {L : List It} {q0 : Int} {u0 : Int} (hS : Ho w0 w (L))  (hx : T_round_way q0 = some u0) {K : Value → World → Prop} (hK : ∀  (w1 : World), Ho w0 w1 (L) → K (.int .i8 u0) w1) : CallsX P N.f_round_way #[.int .i8 q0] w K := by
  refine H.round_way q0 w _ ?_
  unfold S_round_way
  unfold T_round_way at hx
  have h := hx
  clear hx
  try dsimp only
  refine cond_s h ?_ ?_ <;> clear h <;> intro hc h
  · refine cond_s h ?_ ?_ <;> clear h <;> intro hc h
    · have h := some_inj h
      cases h
      exact hK _ hS
    · have h := some_inj h
      cases h
      exact hK _ hS
  · have h := some_inj h
    cases h
    exact hK _ hS

theorem wk_math_IsNaN {N : Nums} {P : Program} (H : AllOk N P) {w0 w : World} {L : List It} {q0 : Nat} {u0 : Bool} (hS : Ho w0 w (L))  (hx : T_math_IsNaN (nf q0) = some u0) {K : Value → World → Prop} (hK : ∀  (w1 : World), Ho w0 w1 (L) → K (.bool u0) w1) : CallsX P N.f_math_IsNaN #[.float .f64 q0] w K := by
  refine H.math_IsNaN q0 w _ ?_
  unfold S_math_IsNaN
  unfold T_math_IsNaN at hx
  have h := hx
  clear hx
  try dsimp only
  replace h := bnd h
  obtain ⟨t1, ht1, h⟩ := h
  obtain rfl := fne_s ht1
  clear ht1
  have h := some_inj h
  cases h
  exact hK _ hS

theorem wk_math_IsInf {N : Nums} {P : Program} (H : AllOk N P) {w0 w : World} {L : List It} {q0 : Nat} {q1 : Int} {u0 : Bool} (hS : Ho w0 w (L))  (hx : T_math_IsInf (nf q0) q1 = some u0) {K : Value → World → Prop} (hK : ∀  (w1 : World), Ho w0 w1 (L) → K (.bool u0) w1) : CallsX P N.f_math_IsInf #[.float .f64 q0, .int .i64 q1] w K := by
  refine H.math_IsInf q0 q1 w _ ?_
  unfold S_math_IsInf
  unfold T_math_IsInf at hx
  have h := hx
  clear hx
  try dsimp only
  replace h := bnd h
  obtain ⟨o2, h2, c2⟩ := h
  refine cutM_i (fun s w => ∃ (z1 : Nat), (nf z1) = o2 ∧ s = (z1, ()) ∧ Ho w0 w (L)) (fun J2 hJ2 => ?_) ?_
  · have h := h2
    clear h2
    refine cond_s h ?_ ?_ <;> clear h <;> intro hc h
    · replace h := bnd h
      obtain ⟨t2, ht2, h⟩ := h
      refine wk_math_Abs H hS  ht2 ?_; clear hS ht2; rintro z3 w rfl hS
      refine ⟨_, rfl, ?_⟩
      obtain rfl := some_inj h
      exact hJ2 _ _ ⟨_, rfl, rfl, hS⟩
    · replace h := bnd h
      obtain ⟨o5, h5, c5⟩ := h
      refine cutM_i (fun s w => ∃ (z4 : Nat), (nf z4) = o5 ∧ s = (z4, ()) ∧ Ho w0 w (L)) (fun J5 hJ5 => ?_) ?_
      · have h := h5
        clear h5
        refine cond_s h ?_ ?_ <;> clear h <;> intro hc h
        · replace h := bnd h
          obtain ⟨t4, ht4, h⟩ := h
          obtain rfl := fneg_s ht4
          clear ht4
          obtain rfl := some_inj h
          exact hJ5 _ _ ⟨_, rfl, rfl, hS⟩
        · obtain rfl := some_inj h
          exact hJ5 _ _ ⟨_, rfl, rfl, hS⟩
      · clear h5 hS
        rintro s w ⟨z4, rfl, rfl, hS⟩
        have h := c5
        clear c5
        try dsimp only
        obtain rfl := some_inj h
        exact hJ2 _ _ ⟨_, rfl, rfl, hS⟩
  · clear h2 hS
    rintro s w ⟨z1, rfl, rfl, hS⟩
    have h := c2
    clear c2
    try dsimp only
    replace h := bnd h
    obtain ⟨t5, ht5, h⟩ := h
    obtain rfl := fgt_s ht5
    clear ht5
    have h := some_inj h
    cases h
    exact hK _ hS

theorem wk_round_finite {N : Nums} {P : Program} (H : AllOk N P) {w0 w : World} {L : List It} {q0 : Option Addr} {q0l q0c : Nat} {ws0 : List Nat} {u0 : Bool} (hS : Ho w0 w (L)) (hq0 : Ent L (rdA (List.map (Value.float .f64) ws0) q0 q0l q0c)) (hx : T_round_finite (List.map nf ws0) = some u0) {K : Value → World → Prop} (hK : ∀  (w1 : World), Ho w0 w1 (L) → K (.bool u0) w1) : CallsX P N.f_round_finite #[.slice q0 q0l q0c] w K := by
  refine H.round_finite q0 q0l q0c w _ ?_
  unfold S_round_finite
  unfold T_round_finite at hx
  have h := hx
  clear hx
  try dsimp only
  replace h := bnd h
  obtain ⟨t1, ht1, h⟩ := h
  obtain rfl := lenF ht1 (hq0.now (fun _ h => h) hS)
  clear ht1
  replace h := bnd h
  obtain ⟨o1, h1, c1⟩ := h
  refine cutM_i (fun s w =>  .inl () = o1 ∧ s = (()) ∧ Ho w0 w (L)) (fun J1 hJ1 => ?_) ?_
  · have h := h1
    clear h1
    refine iter_sim (fun s w t => ∃ (t2 : Int), t2 = t ∧ s = (t2, ()) ∧ Ho w0 w (L)) ?_ h ⟨_, rfl, rfl, hS⟩
    clear h hS
    rintro s w t X q ⟨t2, rfl, rfl, hS⟩ h hX hO
    unfold T_round_finite_b2 at h
    try dsimp only
    refine cond_s h ?_ ?_ <;> clear h <;> intro hc h
    · replace h := bnd h
      obtain ⟨t3, ht3, h⟩ := h
      obtain ⟨z2, rfl, q3x, q3l, q3r⟩ := atF ht3
      clear ht3
      refine idx_s (hq0.now (fun _ h => h) hS) q3x q3l q3r ?_; intro b4 hb4
      refine ⟨_, rd_get (hq0.now (fun _ h => h) hS) hb4 q3x, ?_⟩
      replace h := bnd h
      obtain ⟨t4, ht4, h⟩ := h
      refine wk_math_IsNaN H hS  ht4 ?_; clear hS ht4; rintro w hS
      refine ⟨_, rfl, ?_⟩
      refine cond_s h ?_ ?_ <;> clear h <;> intro hc h
      · replace h := bnd h
        obtain ⟨t5, ht5, h⟩ := h
        refine wk_math_IsInf H hS  ht5 ?_; clear hS ht5; rintro w hS
        refine ⟨_, rfl, ?_⟩
        refine cond_s h ?_ ?_ <;> clear h <;> intro hc h
        · obtain rfl := some_inj h
          have h := congrArg some (hO _ rfl)
          obtain rfl := some_inj h
          have h := c1
          have h := some_inj h
          cases h
          exact hK _ hS
        · obtain rfl := some_inj h
          exact hX _ rfl _ _ ⟨_, rfl, rfl, hS⟩
      · obtain rfl := some_inj h
        have h := congrArg some (hO _ rfl)
        obtain rfl := some_inj h
        have h := c1
        have h := some_inj h
        cases h
        exact hK _ hS
    · obtain rfl := some_inj h
      have h := congrArg some (hO _ rfl)
      obtain rfl := some_inj h
      exact hJ1 _ _ ⟨rfl, rfl, hS⟩
  · clear h1 hS
    rintro s w ⟨rfl, rfl, hS⟩
    have h := c1
    clear c1
    try dsimp only
    have h := some_inj h
    cases h
    exact hK _ hS

theorem wk_math_Signbit {N : Nums} {P : Program} (H : AllOk N P) {w0 w : World} {L : List It} {q0 : Nat} {u0 : Bool} (hS : Ho w0 w (L))  (hx : T_math_Signbit (nf q0) = some u0) {K : Value → World → Prop} (hK : ∀  (w1 : World), Ho w0 w1 (L) → K (.bool u0) w1) : CallsX P N.f_math_Signbit #[.float .f64 q0] w K := by
  unfold T_math_Signbit at hx
  have hn : isNaN q0 = false := by
    cases e : isNaN q0 with
    | false => rfl
    | true => rw [isNaN_nf, e] at hx; cases hx
  rw [isNaN_nf, hn, nf_of_not hn] at hx
  have hx := some_inj hx
  subst hx
  refine (signbit_c H q0 w).mono ?_
  rintro _ w1 ⟨rfl, h1⟩
  exact hK _ (hS.next h1)

theorem wk_math_Copysign {N : Nums} {P : Program} (H : AllOk N P) {w0 w : World} {L : List It} {q0 : Nat} {q1 : Nat} {u0 : Nat} (hS : Ho w0 w (L))  (hx : T_math_Copysign (nf q0) (nf q1) = some u0) {K : Value → World → Prop} (hK : ∀ (z0 : Nat) (w1 : World), nf z0 = u0 → Ho w0 w1 (L) → K (.float .f64 z0) w1) : CallsX P N.f_math_Copysign #[.float .f64 q0, .float .f64 q1] w K := by
  unfold T_math_Copysign at hx
  have hn : isNaN q1 = false := by
    cases e : isNaN q1 with
    | false => rfl
    | true => rw [isNaN_nf, e] at hx; cases hx
  rw [isNaN_nf, hn, nf_of_not hn] at hx
  have hx := some_inj hx
  refine (copysign_c H q0 q1 w).mono ?_
  rintro _ w1 ⟨rfl, h1⟩
  exact hK _ _ ((nf_copy _ _).symm.trans hx) (hS.next h1)

theorem wk_round_none {N : Nums} {P : Program} (H : AllOk N P) {w0 w : World} {L : List It} {q0 : Int} {u0 : Nat} (hS : Ho w0 w (L))  (hx : T_round_none q0 = some u0) {K : Value → World → Prop} (hK : ∀ (z0 : Nat) (w1 : World), nf z0 = u0 → Ho w0 w1 (L) → K (.float .f64 z0) w1) : CallsX P N.f_round_none #[.int .i8 q0] w K := by
  refine H.round_none q0 w _ ?_
  unfold S_round_none
  unfold T_round_none at hx
  have h := hx
  clear hx
  try dsimp only
  refine cond_s h ?_ ?_ <;> clear h <;> intro hc h
  · replace h := bnd h
    obtain ⟨t1, ht1, h⟩ := h
    refine wk_math_Copysign H hS  ht1 ?_; clear hS ht1; rintro z1 w rfl hS
    refine ⟨_, rfl, ?_⟩
    have h := some_inj h
    cases h
    exact hK _ _ rfl hS
  · have h := some_inj h
    cases h
    exact hK _ _ rfl hS

theorem wk_round_step {N : Nums} {P : Program} (H : AllOk N P) {w0 w : World} {L : List It} {q0 : Nat} {q1 : Bool} {u0 : Nat} (hS : Ho w0 w (L))  (hx : T_round_step (nf q0) q1 = some u0) {K : Value → World → Prop} (hK : ∀ (z0 : Nat) (w1 : World), nf z0 = u0 → Ho w0 w1 (L) → K (.float .f64 z0) w1) : CallsX P N.f_round_step #[.float .f64 q0, .bool q1] w K := by
  refine H.round_step q0 q1 w _ ?_
  unfold S_round_step
  unfold T_round_step at hx
  have h := hx
  clear hx
  try dsimp only
  replace h := bnd h
  obtain ⟨t1, ht1, h⟩ := h
  refine wk_math_Float64bits H hS  ht1 ?_; clear hS ht1; rintro w hS
  refine ⟨_, rfl, ?_⟩
  replace h := bnd h
  obtain ⟨o1, h1, c1⟩ := h
  refine cutM_i (fun s w => ∃ (t2 : Int), t2 = o1 ∧ s = (t2, ()) ∧ Ho w0 w (L)) (fun J1 hJ1 => ?_) ?_
  · have h := h1
    clear h1
    replace h := bnd h
    obtain ⟨t3, ht3, h⟩ := h
    obtain rfl := feq_s ht3
    clear ht3
    replace h := bnd h
    obtain ⟨o2, h2, c2⟩ := h
    refine cutM_i (fun s w => ∃ (t4 : Int), t4 = o2 ∧ s = (t4, ()) ∧ Ho w0 w (L)) (fun J2 hJ2 => ?_) ?_
    · have h := h2
      clear h2
      refine cond_s h ?_ ?_ <;> clear h <;> intro hc h
      · replace h := bnd h
        obtain ⟨o3, h3, c3⟩ := h
        refine cutM_i (fun s w => ∃ (t5 : Int), t5 = o3 ∧ s = (t5, ()) ∧ Ho w0 w (L)) (fun J3 hJ3 => ?_) ?_
        · have h := h3
          clear h3
          refine cond_s h ?_ ?_ <;> clear h <;> intro hc h
          · obtain rfl := some_inj h
            exact hJ3 _ _ ⟨_, rfl, rfl, hS⟩
          · obtain rfl := some_inj h
            exact hJ3 _ _ ⟨_, rfl, rfl, hS⟩
        · clear h3 hS
          rintro s w ⟨t5, rfl, rfl, hS⟩
          have h := c3
          clear c3
          try dsimp only
          obtain rfl := some_inj h
          exact hJ2 _ _ ⟨_, rfl, rfl, hS⟩
      · replace h := bnd h
        obtain ⟨t6, ht6, h⟩ := h
        obtain rfl := fgt_s ht6
        clear ht6
        replace h := bnd h
        obtain ⟨o4, h4, c4⟩ := h
        refine cutM_i (fun s w => ∃ (t7 : Int), t7 = o4 ∧ s = (t7, ()) ∧ Ho w0 w (L)) (fun J4 hJ4 => ?_) ?_
        · have h := h4
          clear h4
          refine cond_s h ?_ ?_ <;> clear h <;> intro hc h
          · obtain rfl := some_inj h
            exact hJ4 _ _ ⟨_, rfl, rfl, hS⟩
          · obtain rfl := some_inj h
            exact hJ4 _ _ ⟨_, rfl, rfl, hS⟩
        · clear h4 hS
          rintro s w ⟨t7, rfl, rfl, hS⟩
          have h := c4
          clear c4
          try dsimp only
          obtain rfl := some_inj h
          exact hJ2 _ _ ⟨_, rfl, rfl, hS⟩
    · clear h2 hS
      rintro s w ⟨t4, rfl, rfl, hS⟩
      have h := c2
      clear c2
      try dsimp only
      obtain rfl := some_inj h
      exact hJ1 _ _ ⟨_, rfl, rfl, hS⟩
  · clear h1 hS
    rintro s w ⟨t2, rfl, rfl, hS⟩
    have h := c1
    clear c1
    try dsimp only
    replace h := bnd h
    obtain ⟨t8, ht8, h⟩ := h
    refine wk_math_Float64frombits H hS  ht8 ?_; clear hS ht8; rintro z5 w rfl hS
    refine ⟨_, rfl, ?_⟩
    have h := some_inj h
    cases h
    exact hK _ _ rfl hS

theorem wk_round_settle {N : Nums} {P : Program} (H : AllOk N P) {w0 w : World} {L : List It} {q0 : Nat} {q1 : Int} {q2 : Int} {u0 : Nat} (hS : Ho w0 w (L))  (hx : T_round_settle (nf q0) q1 q2 = some u0) {K : Value → World → Prop} (hK : ∀ (z0 : Nat) (w1 : World), nf z0 = u0 → Ho w0 w1 (L) → K (.float .f64 z0) w1) : CallsX P N.f_round_settle #[.float .f64 q0, .int .i64 q1, .int .i8 q2] w K := by
  refine H.round_settle q0 q1 q2 w _ ?_
  unfold S_round_settle
  unfold T_round_settle at hx
  have h := hx
  clear hx
  try dsimp only
  replace h := bnd h
  obtain ⟨o1, h1, c1⟩ := h
  refine cutM_i (fun s w => ∃ (t1 : Int), t1 = o1 ∧ s = (t1, ()) ∧ Ho w0 w (L)) (fun J1 hJ1 => ?_) ?_
  · have h := h1
    clear h1
    refine cond_s h ?_ ?_ <;> clear h <;> intro hc h
    · replace h := bnd h
      obtain ⟨t2, ht2, h⟩ := h
      refine wk_math_Signbit H hS  ht2 ?_; clear hS ht2; rintro w hS
      refine ⟨_, rfl, ?_⟩
      replace h := bnd h
      obtain ⟨o2, h2, c2⟩ := h
      refine cutM_i (fun s w => ∃ (t3 : Int), t3 = o2 ∧ s = (t3, ()) ∧ Ho w0 w (L)) (fun J2 hJ2 => ?_) ?_
      · have h := h2
        clear h2
        refine cond_s h ?_ ?_ <;> clear h <;> intro hc h
        · obtain rfl := some_inj h
          exact hJ2 _ _ ⟨_, rfl, rfl, hS⟩
        · obtain rfl := some_inj h
          exact hJ2 _ _ ⟨_, rfl, rfl, hS⟩
      · clear h2 hS
        rintro s w ⟨t3, rfl, rfl, hS⟩
        have h := c2
        clear c2
        try dsimp only
        obtain rfl := some_inj h
        exact hJ1 _ _ ⟨_, rfl, rfl, hS⟩
    · obtain rfl := some_inj h
      exact hJ1 _ _ ⟨_, rfl, rfl, hS⟩
  · clear h1 hS
    rintro s w ⟨t1, rfl, rfl, hS⟩
    have h := c1
    clear c1
    try dsimp only
    replace h := bnd h
    obtain ⟨t4, ht4, h⟩ := h
    refine wk_math_IsInf H hS  ht4 ?_; clear hS ht4; rintro w hS
    refine ⟨_, rfl, ?_⟩
    refine cond_s h ?_ ?_ <;> clear h <;> intro hc h
    · replace h := bnd h
      obtain ⟨t5, ht5, h⟩ := h
      obtain rfl := fgt_s ht5
      clear ht5
      refine cond_s h ?_ ?_ <;> clear h <;> intro hc h
      · refine cond_s h ?_ ?_ <;> clear h <;> intro hc h
        · replace h := bnd h
          obtain ⟨t6, ht6, h⟩ := h
          obtain rfl := flt_s ht6
          clear ht6
          refine cond_s h ?_ ?_ <;> clear h <;> intro hc h
          · refine cond_s h ?_ ?_ <;> clear h <;> intro hc h
            · replace h := bnd h
              obtain ⟨t7, ht7, h⟩ := h
              refine wk_math_Copysign H hS  ht7 ?_; clear hS ht7; rintro z3 w rfl hS
              refine ⟨_, rfl, ?_⟩
              have h := some_inj h
              cases h
              exact hK _ _ rfl hS
            · have h := some_inj h
              cases h
              exact hK _ _ rfl hS
          · have h := some_inj h
            cases h
            exact hK _ _ rfl hS
        · replace h := bnd h
          obtain ⟨t8, ht8, h⟩ := h
          refine wk_math_Copysign H hS  ht8 ?_; clear hS ht8; rintro z4 w rfl hS
          refine ⟨_, rfl, ?_⟩
          have h := some_inj h
          cases h
          exact hK _ _ rfl hS
      · replace h := bnd h
        obtain ⟨t9, ht9, h⟩ := h
        obtain rfl := flt_s ht9
        clear ht9
        refine cond_s h ?_ ?_ <;> clear h <;> intro hc h
        · refine cond_s h ?_ ?_ <;> clear h <;> intro hc h
          · replace h := bnd h
            obtain ⟨t10, ht10, h⟩ := h
            refine wk_math_Copysign H hS  ht10 ?_; clear hS ht10; rintro z5 w rfl hS
            refine ⟨_, rfl, ?_⟩
            have h := some_inj h
            cases h
            exact hK _ _ rfl hS
          · have h := some_inj h
            cases h
            exact hK _ _ rfl hS
        · have h := some_inj h
          cases h
          exact hK _ _ rfl hS
    · refine cond_s h ?_ ?_ <;> clear h <;> intro hc h
      · refine cond_s h ?_ ?_ <;> clear h <;> intro hc h
        · refine cond_s h ?_ ?_ <;> clear h <;> intro hc h
          · refine cond_s h ?_ ?_ <;> clear h <;> intro hc h
            · replace h := bnd h
              obtain ⟨t11, ht11, h⟩ := h
              refine wk_round_step H hS  ht11 ?_; clear hS ht11; rintro z6 w rfl hS
              refine ⟨_, rfl, ?_⟩
              have h := some_inj h
              cases h
              exact hK _ _ rfl hS
            · have h := some_inj h
              cases h
              exact hK _ _ rfl hS
          · have h := some_inj h
            cases h
            exact hK _ _ rfl hS
        · replace h := bnd h
          obtain ⟨t12, ht12, h⟩ := h
          refine wk_round_step H hS  ht12 ?_; clear hS ht12; rintro z7 w rfl hS
          refine ⟨_, rfl, ?_⟩
          have h := some_inj h
          cases h
          exact hK _ _ rfl hS
      · refine cond_s h ?_ ?_ <;> clear h <;> intro hc h
        · refine cond_s h ?_ ?_ <;> clear h <;> intro hc h
          · replace h := bnd h
            obtain ⟨t13, ht13, h⟩ := h
            refine wk_round_step H hS  ht13 ?_; clear hS ht13; rintro z8 w rfl hS
            refine ⟨_, rfl, ?_⟩
            have h := some_inj h
            cases h
            exact hK _ _ rfl hS
          · have h := some_inj h
            cases h
            exact hK _ _ rfl hS
        · have h := some_inj h
          cases h
          exact hK _ _ rfl hS

theorem wk_round_sign {N : Nums} {P : Program} (H : AllOk N P) {w0 w : World} {L : List It} {q0 : Nat} {u0 : Int} (hS : Ho w0 w (L))  (hx : T_round_sign (nf q0) = some u0) {K : Value → World → Prop} (hK : ∀  (w1 : World), Ho w0 w1 (L) → K (.int .i64 u0) w1) : CallsX P N.f_round_sign #[.float .f64 q0] w K := by
  refine H.round_sign q0 w _ ?_
  unfold S_round_sign
  unfold T_round_sign at hx
  have h := hx
  clear hx
  try dsimp only
  replace h := bnd h
  obtain ⟨t1, ht1, h⟩ := h
  obtain rfl := fgt_s ht1
  clear ht1
  refine cond_s h ?_ ?_ <;> clear h <;> intro hc h
  · have h := some_inj h
    cases h
    exact hK _ hS
  · replace h := bnd h
    obtain ⟨t2, ht2, h⟩ := h
    obtain rfl := flt_s ht2
    clear ht2
    refine cond_s h ?_ ?_ <;> clear h <;> intro hc h
    · have h := some_inj h
      cases h
      exact hK _ hS
    · have h := some_inj h
      cases h
      exact hK _ hS

theorem wk_round_Add {N : Nums} {P : Program} (H : AllOk N P) {w0 w : World} {L : List It} {q0 : Nat} {q1 : Nat} {q2 : Int} {u0 : Nat} (hS : Ho w0 w (L))  (hx : T_round_Add (nf q0) (nf q1) q2 = some u0) {K : Value → World → Prop} (hK : ∀ (z0 : Nat) (w1 : World), nf z0 = u0 → Ho w0 w1 (L) → K (.float .f64 z0) w1) : CallsX P N.f_round_Add #[.float .f64 q0, .float .f64 q1, .int .i8 q2] w K := by
  refine H.round_Add q0 q1 q2 w _ ?_
  unfold S_round_Add
  unfold T_round_Add at hx
  have h := hx
  clear hx
  try dsimp only
  replace h := bnd h
  obtain ⟨t1, ht1, h⟩ := h
  refine wk_round_way H hS  ht1 ?_; clear hS ht1; rintro w hS
  refine ⟨_, rfl, ?_⟩
  replace h := bnd h
  obtain ⟨t2, ht2, h⟩ := h
  refine fadd_s ht2 hS ?_; clear hS ht2; rintro z1 w rfl hS
  replace h := bnd h
  obtain ⟨t3, ht3, h⟩ := h
  obtain rfl : (List.map nf ([q0, q1] : List Nat)) = t3 := some_inj ht3
  clear ht3
  refine lit_s (ks := [q0, q1]) (enc := (Value.float .f64)) (m := 2) hS rfl rfl ?_; clear hS; intro r2 w hS
  replace h := bnd h
  obtain ⟨t4, ht4, h⟩ := h
  refine wk_round_finite H hS (Ent.sl mp0) ht4 ?_; clear hS ht4; rintro w hS
  refine ⟨_, rfl, ?_⟩
  refine cond_s h ?_ ?_ <;> clear h <;> intro hc h
  · have h := some_inj h
    cases h
    exact hK _ _ rfl (hS.pick (A := [_]) [] rfl)
  · replace h := bnd h
    obtain ⟨o3, h3, c3⟩ := h
    refine cutM_i (fun s w => ∃ (t5 : Bool), t5 = o3 ∧ s = (t5, ()) ∧ Ho w0 w (L)) (fun J3 hJ3 => ?_) ?_
    · have h := h3
      clear h3
      replace h := bnd h
      obtain ⟨t6, ht6, h⟩ := h
      obtain rfl := feq_s ht6
      clear ht6
      refine cond_s h ?_ ?_ <;> clear h <;> intro hc h
      · replace h := bnd h
        obtain ⟨t7, ht7, h⟩ := h
        obtain rfl := fne_s ht7
        clear ht7
        refine cond_s h ?_ ?_ <;> clear h <;> intro hc h
        · replace h := bnd h
          obtain ⟨t8, ht8, h⟩ := h
          obtain rfl := feq_s ht8
          clear ht8
          refine cond_s h ?_ ?_ <;> clear h <;> intro hc h
          · replace h := bnd h
            obtain ⟨t9, ht9, h⟩ := h
            refine wk_math_Signbit H hS  ht9 ?_; clear hS ht9; rintro w hS
            refine ⟨_, rfl, ?_⟩
            replace h := bnd h
            obtain ⟨t10, ht10, h⟩ := h
            refine wk_math_Signbit H hS  ht10 ?_; clear hS ht10; rintro w hS
            refine ⟨_, rfl, ?_⟩
            obtain rfl := some_inj h
            exact hJ3 _ _ ⟨_, rfl, rfl, (hS.pick (A := [_]) [] rfl)⟩
          · obtain rfl := some_inj h
            exact hJ3 _ _ ⟨_, rfl, rfl, (hS.pick (A := [_]) [] rfl)⟩
        · obtain rfl := some_inj h
          exact hJ3 _ _ ⟨_, rfl, rfl, (hS.pick (A := [_]) [] rfl)⟩
      · replace h := bnd h
        obtain ⟨t11, ht11, h⟩ := h
        obtain rfl := feq_s ht11
        clear ht11
        refine cond_s h ?_ ?_ <;> clear h <;> intro hc h
        · replace h := bnd h
          obtain ⟨t12, ht12, h⟩ := h
          refine wk_math_Signbit H hS  ht12 ?_; clear hS ht12; rintro w hS
          refine ⟨_, rfl, ?_⟩
          replace h := bnd h
          obtain ⟨t13, ht13, h⟩ := h
          refine wk_math_Signbit H hS  ht13 ?_; clear hS ht13; rintro w hS
          refine ⟨_, rfl, ?_⟩
          obtain rfl := some_inj h
          exact hJ3 _ _ ⟨_, rfl, rfl, (hS.pick (A := [_]) [] rfl)⟩
        · obtain rfl := some_inj h
          exact hJ3 _ _ ⟨_, rfl, rfl, (hS.pick (A := [_]) [] rfl)⟩
    · clear h3 hS
      rintro s w ⟨t5, rfl, rfl, hS⟩
      have h := c3
      clear c3
      try dsimp only
      refine cond_s h ?_ ?_ <;> clear h <;> intro hc h
      · replace h := bnd h
        obtain ⟨t14, ht14, h⟩ := h
        refine wk_round_none H hS  ht14 ?_; clear hS ht14; rintro z4 w rfl hS
        refine ⟨_, rfl, ?_⟩
        have h := some_inj h
        cases h
        exact hK _ _ rfl hS
      · replace h := bnd h
        obtain ⟨t15, ht15, h⟩ := h
        obtain rfl := feq_s ht15
        clear ht15
        refine cond_s h ?_ ?_ <;> clear h <;> intro hc h
        · have h := some_inj h
          cases h
          exact hK _ _ rfl hS
        · replace h := bnd h
          obtain ⟨t16, ht16, h⟩ := h
          refine wk_math_IsInf H hS  ht16 ?_; clear hS ht16; rintro w hS
          refine ⟨_, rfl, ?_⟩
          refine cond_s h ?_ ?_ <;> clear h <;> intro hc h
          · replace h := bnd h
            obtain ⟨t17, ht17, h⟩ := h
            refine wk_round_settle H hS  ht17 ?_; clear hS ht17; rintro z5 w rfl hS
            refine ⟨_, rfl, ?_⟩
            have h := some_inj h
            cases h
            exact hK _ _ rfl hS
          · replace h := bnd h
            obtain ⟨t18, ht18, h⟩ := h
            refine wk_math_Abs H hS  ht18 ?_; clear hS ht18; rintro z6 w rfl hS
            refine ⟨_, rfl, ?_⟩
            replace h := bnd h
            obtain ⟨t19, ht19, h⟩ := h
            refine wk_math_Abs H hS  ht19 ?_; clear hS ht19; rintro z7 w rfl hS
            refine ⟨_, rfl, ?_⟩
            replace h := bnd h
            obtain ⟨t20, ht20, h⟩ := h
            obtain rfl := flt_s ht20
            clear ht20
            replace h := bnd h
            obtain ⟨o10, h10, c10⟩ := h
            refine cutM_i (fun s w => ∃ (z8 : Nat) (z9 : Nat), ((nf z8), (nf z9)) = o10 ∧ s = (z8, z9, ()) ∧ Ho w0 w (L)) (fun J10 hJ10 => ?_) ?_
            · have h := h10
              clear h10
              refine cond_s h ?_ ?_ <;> clear h <;> intro hc h
              · obtain rfl := some_inj h
                exact hJ10 _ _ ⟨_, _, rfl, rfl, hS⟩
              · obtain rfl := some_inj h
                exact hJ10 _ _ ⟨_, _, rfl, rfl, hS⟩
            · clear h10 hS
              rintro s w ⟨z8, z9, rfl, rfl, hS⟩
              have h := c10
              clear c10
              try dsimp only
              replace h := bnd h
              obtain ⟨t23, ht23, h⟩ := h
              refine fsub_s ht23 hS ?_; clear hS ht23; rintro z11 w rfl hS
              replace h := bnd h
              obtain ⟨t24, ht24, h⟩ := h
              refine fsub_s ht24 hS ?_; clear hS ht24; rintro z12 w rfl hS
              replace h := bnd h
              obtain ⟨t25, ht25, h⟩ := h
              refine wk_round_sign H hS  ht25 ?_; clear hS ht25; rintro w hS
              refine ⟨_, rfl, ?_⟩
              replace h := bnd h
              obtain ⟨t26, ht26, h⟩ := h
              refine wk_round_settle H hS  ht26 ?_; clear hS ht26; rintro z13 w rfl hS
              refine ⟨_, rfl, ?_⟩
              have h := some_inj h
              cases h
              exact hK _ _ rfl hS

theorem wk_vector_Norm {N : Nums} {P : Program} (H : AllOk N P) {w0 w : World} {L : List It} {q0 : Option Addr} {q0l q0c : Nat} {ws0 : List Nat} {u0 : Nat} (hS : Ho w0 w (L)) (hq0 : Ent L (rdA (List.map (Value.float .f64) ws0) q0 q0l q0c)) (hx : T_vector_Norm (List.map nf ws0) = some u0) {K : Value → World → Prop} (hK : ∀ (z0 : Nat) (w1 : World), nf z0 = u0 → Ho w0 w1 (L) → K (.float .f64 z0) w1) : CallsX P N.f_vector_Norm #[.slice q0 q0l q0c] w K := by
  refine H.vector_Norm q0 q0l q0c w _ ?_
  unfold S_vector_Norm
  unfold T_vector_Norm at hx
  have h := hx
  clear hx
  try dsimp only
  replace h := bnd h
  obtain ⟨t1, ht1, h⟩ := h
  obtain rfl := lenF ht1 (hq0.now (fun _ h => h) hS)
  clear ht1
  replace h := bnd h
  obtain ⟨o2, h2, c2⟩ := h
  refine cutM_i (fun s w => ∃ (z1 : Nat), (nf z1) = o2 ∧ s = (z1, ()) ∧ Ho w0 w (L)) (fun J2 hJ2 => ?_) ?_
  · have h := h2
    clear h2
    refine iter_sim (fun s w t => ∃ (z3 : Nat) (t4 : Int), ((nf z3), t4) = t ∧ s = (z3, t4, ()) ∧ Ho w0 w (L)) ?_ h ⟨_, _, rfl, rfl, hS⟩
    clear h hS
    rintro s w t X q ⟨z3, t4, rfl, rfl, hS⟩ h hX hO
    unfold T_vector_Norm_b2 at h
    try dsimp only
    refine cond_s h ?_ ?_ <;> clear h <;> intro hc h
    · replace h := bnd h
      obtain ⟨t5, ht5, h⟩ := h
      obtain ⟨z4, rfl, q5x, q5l, q5r⟩ := atF ht5
      clear ht5
      refine idx_s (hq0.now (fun _ h => h) hS) q5x q5l q5r ?_; intro b6 hb6
      refine ⟨_, rd_get (hq0.now (fun _ h => h) hS) hb6 q5x, ?_⟩
      replace h := bnd h
      obtain ⟨t6, ht6, h⟩ := h
      refine wk_math_Abs H hS  ht6 ?_; clear hS ht6; rintro z7 w rfl hS
      refine ⟨_, rfl, ?_⟩
      replace h := bnd h
      obtain ⟨t7, ht7, h⟩ := h
      refine wk_round_Add H hS  ht7 ?_; clear hS ht7; rintro z8 w rfl hS
      refine ⟨_, rfl, ?_⟩
      obtain rfl := some_inj h
      exact hX _ rfl _ _ ⟨_, _, rfl, rfl, hS⟩
    · obtain rfl := some_inj h
      have h := congrArg some (hO _ rfl)
      obtain rfl := some_inj h
      exact hJ2 _ _ ⟨_, rfl, rfl, hS⟩
  · clear h2 hS
    rintro s w ⟨z1, rfl, rfl, hS⟩
    have h := c2
    clear c2
    try dsimp only
    have h := some_inj h
    cases h
    exact hK _ _ rfl hS

theorem wk_matrix_Norm {N : Nums} {P : Program} (H : AllOk N P) {w0 w : World} {L : List It} {q0_0 : Int} {q0_1 : Int} {q0_2 : Option Addr} {q0_2l q0_2c : Nat} {ws0_2 : List Nat} {u0 : Nat} {u1 : Int} (hS : Ho w0 w (L)) (hq0_2 : Ent L (rdA (List.map (Value.float .f64) ws0_2) q0_2 q0_2l q0_2c)) (hx : T_matrix_Norm q0_0 q0_1 (List.map nf ws0_2) = some (u0, u1)) {K : Value → World → Prop} (hK : ∀ (z0 : Nat) (w1 : World), nf z0 = u0 → Ho w0 w1 (L) → K (.tuple #[.float .f64 z0, .int .i64 u1]) w1) : CallsX P N.f_matrix_Norm #[.agg #[.int .i64 q0_0, .int .i64 q0_1, .slice q0_2 q0_2l q0_2c]] w K := by
  refine H.matrix_Norm q0_0 q0_1 q0_2 q0_2l q0_2c w _ ?_
  unfold S_matrix_Norm
  unfold T_matrix_Norm at hx
  have h := hx
  clear hx
  try dsimp only
  refine newM_s hS ?_; clear hS; intro r1 w hS
  refine ⟨_, (hS.cel mp0 rfl), ?_⟩
  refine ⟨_, (hS.cel mp0 rfl), ?_⟩
  refine ⟨_, _, _, (hS.cel mp0 rfl), ?_⟩
  replace h := bnd h
  obtain ⟨t1, ht1, h⟩ := h
  refine wk_matrix_Right H hS (hq0_2.mono tl1) ht1 ?_; clear hS ht1; rintro w hS
  refine ⟨_, rfl, ?_⟩
  refine cond_s h ?_ ?_ <;> clear h <;> intro hc h
  · have h := some_inj h
    cases h
    exact hK _ _ rfl (hS.pick (A := [_]) [] rfl)
  · refine ⟨_, _, _, (hS.cel mp0 rfl), ?_⟩
    replace h := bnd h
    obtain ⟨t2, ht2, h⟩ := h
    refine wk_slices_ContainsFunc___float64_float64 H hS (hq0_2.mono tl1) (by intro v0 w L1 r1 K hL hx hS hK; exact wk_matrix_Norm_1 H hS  hx hK) ht2 ?_; clear hS ht2; rintro w hS
    refine ⟨_, rfl, ?_⟩
    refine cond_s h ?_ ?_ <;> clear h <;> intro hc h
    · have h := some_inj h
      cases h
      exact hK _ _ rfl (hS.pick (A := [_]) [] rfl)
    · refine ⟨_, (hS.cel mp0 rfl), ?_⟩
      replace h := bnd h
      obtain ⟨o3, h3, c3⟩ := h
      refine cutM_i (fun s w => ∃ (z2 : Nat), (nf z2) = o3 ∧ s = (z2, ()) ∧ Ho w0 w (L)) (fun J3 hJ3 => ?_) ?_
      · have h := h3
        clear h3
        refine iter_sim (fun s w t => ∃ (z4 : Nat) (t5 : Int), ((nf z4), t5) = t ∧ s = (z4, t5, ()) ∧ Ho w0 w ((cl r1 [.int .i64 q0_0, .int .i64 q0_1, .slice q0_2 q0_2l q0_2c] N.t_Matrix) :: L)) ?_ h ⟨_, _, rfl, rfl, hS⟩
        clear h hS
        rintro s w t X q ⟨z4, t5, rfl, rfl, hS⟩ h hX hO
        unfold T_matrix_Norm_b2 at h
        try dsimp only
        refine cond_s h ?_ ?_ <;> clear h <;> intro hc h
        · refine ⟨_, _, _, (hS.cel mp0 rfl), ?_⟩
          refine ⟨_, (hS.cel mp0 rfl), ?_⟩
          refine ⟨_, (hS.cel mp0 rfl), ?_⟩
          replace h := bnd h
          obtain ⟨t6, ht6, h⟩ := h
          obtain ⟨rfl, q50, q51, q52⟩ := subF ht6
          clear ht6
          have q53 := ((hq0_2.mono tl1).now (fun _ h => h) hS).hiCap q52
          refine ⟨Int.le_trans q50 q51, q53, q50, q51, ?_⟩
          replace h := bnd h
          obtain ⟨t7, ht7, h⟩ := h
          refine wk_vector_Norm H hS (Ent.part (hq0_2.mono tl1) q50 q51 q52) ht7 ?_; clear hS ht7; rintro z6 w rfl hS
          refine ⟨_, rfl, ?_⟩
          replace h := bnd h
          obtain ⟨t8, ht8, h⟩ := h
          refine fmx_s ht8 hS ?_; clear hS ht8; rintro z7 w rfl hS
          obtain rfl := some_inj h
          exact hX _ rfl _ _ ⟨_, _, rfl, rfl, hS⟩
        · obtain rfl := some_inj h
          have h := congrArg some (hO _ rfl)
          obtain rfl := some_inj h
          exact hJ3 _ _ ⟨_, rfl, rfl, (hS.pick (A := [_]) [] rfl)⟩
      · clear h3 hS
        rintro s w ⟨z2, rfl, rfl, hS⟩
        have h := c3
        clear c3
        try dsimp only
        have h := some_inj h
        cases h
        exact hK _ _ rfl hS

theorem wk_girderlaw10_finite {N : Nums} {P : Program} (H : AllOk N P) {w0 w : World} {L : List It} {q0 : Option Addr} {q0l q0c : Nat} {ws0 : List Nat} {u0 : Bool} (hS : Ho w0 w (L)) (hq0 : Ent L (rdA (List.map (Value.float .f64) ws0) q0 q0l q0c)) (hx : T_girderlaw10_finite (List.map nf ws0) = some u0) {K : Value → World → Prop} (hK : ∀  (w1 : World), Ho w0 w1 (L) → K (.bool u0) w1) : CallsX P N.f_girderlaw10_finite #[.slice q0 q0l q0c] w K := by
  refine H.girderlaw10_finite q0 q0l q0c w _ ?_
  unfold S_girderlaw10_finite
  unfold T_girderlaw10_finite at hx
  have h := hx
  clear hx
  try dsimp only
  replace h := bnd h
  obtain ⟨o1, h1, c1⟩ := h
  refine cutM_i (fun s w =>  .inl () = o1 ∧ s = (()) ∧ Ho w0 w (L)) (fun J1 hJ1 => ?_) ?_
  · have h := h1
    clear h1
    refine iter_sim (fun s w t => ∃ (t1 : Int), t1 = t ∧ s = (t1, ()) ∧ Ho w0 w (L)) ?_ h ⟨_, rfl, rfl, hS⟩
    clear h hS
    rintro s w t X q ⟨t1, rfl, rfl, hS⟩ h hX hO
    unfold T_girderlaw10_finite_b2 at h
    try dsimp only
    replace h := bnd h
    obtain ⟨t2, ht2, h⟩ := h
    obtain rfl := lenF ht2 (hq0.now (fun _ h => h) hS)
    clear ht2
    refine cond_s h ?_ ?_ <;> clear h <;> intro hc h
    · replace h := bnd h
      obtain ⟨t3, ht3, h⟩ := h
      obtain ⟨z2, rfl, q3x, q3l, q3r⟩ := atF ht3
      clear ht3
      refine idx_s (hq0.now (fun _ h => h) hS) q3x q3l q3r ?_; intro b4 hb4
      refine ⟨_, rd_get (hq0.now (fun _ h => h) hS) hb4 q3x, ?_⟩
      replace h := bnd h
      obtain ⟨t4, ht4, h⟩ := h
      obtain ⟨z5, rfl, q6x, q6l, q6r⟩ := atF ht4
      clear ht4
      refine idx_s (hq0.now (fun _ h => h) hS) q6x q6l q6r ?_; intro b7 hb7
      refine ⟨_, rd_get (hq0.now (fun _ h => h) hS) hb7 q6x, ?_⟩
      replace h := bnd h
      obtain ⟨t5, ht5, h⟩ := h
      refine fsub_s ht5 hS ?_; clear ht5; rintro z8 _ rfl _
      replace h := bnd h
      obtain ⟨t6, ht6, h⟩ := h
      obtain rfl := fne_s ht6
      clear ht6
      refine drM_s hS ?_; clear hS; intro w hS
      refine cond_s h ?_ ?_ <;> clear h <;> intro hc h
      · obtain rfl := some_inj h
        have h := congrArg some (hO _ rfl)
        obtain rfl := some_inj h
        have h := c1
        have h := some_inj h
        cases h
        exact hK _ hS
      · obtain rfl := some_inj h
        exact hX _ rfl _ _ ⟨_, rfl, rfl, hS⟩
    · obtain rfl := some_inj h
      have h := congrArg some (hO _ rfl)
      obtain rfl := some_inj h
      exact hJ1 _ _ ⟨rfl, rfl, hS⟩
  · clear h1 hS
    rintro s w ⟨rfl, rfl, hS⟩
    have h := c1
    clear c1
    try dsimp only
    have h := some_inj h
    cases h
    exact hK _ hS

theorem wk_matrix_Mul_1 {N : Nums} {P : Program} (H : AllOk N P) {w0 w : World} {L : List It} {q0 : Int} {q1 : Int} {r_2 : Nat} {q2_0 : Int} {q2_1 : Int} {q2_2 : Option Addr} {q2_2l q2_2c : Nat} {ws2_2 : List Nat} {r_3 : Nat} {q3_0 : Int} {q3_1 : Int} {q3_2 : Option Addr} {q3_2l q3_2c : Nat} {ws3_2 : List Nat} {u0 : Nat} (hS : Ho w0 w (L)) (eq2 : Ent L (cl r_2 [.int .i64 q2_0, .int .i64 q2_1, .slice q2_2 q2_2l q2_2c] N.t_Matrix).A) (hq2_2 : Ent L (rdA (List.map (Value.float .f64) ws2_2) q2_2 q2_2l q2_2c)) (eq3 : Ent L (cl r_3 [.int .i64 q3_0, .int .i64 q3_1, .slice q3_2 q3_2l q3_2c] N.t_Matrix).A) (hq3_2 : Ent L (rdA (List.map (Value.float .f64) ws3_2) q3_2 q3_2l q3_2c)) (hx : T_matrix_Mul_1 q0 q1 q2_0 q2_1 (List.map nf ws2_2) q3_0 q3_1 (List.map nf ws3_2) = some u0) {K : Value → World → Prop} (hK : ∀ (z0 : Nat) (w1 : World), nf z0 = u0 → Ho w0 w1 (L) → K (.float .f64 z0) w1) : CallsX P N.f_matrix_Mul_1 #[.int .i64 q0, .int .i64 q1, .pointer (some ⟨r_2, 0, none⟩), .pointer (some ⟨r_3, 0, none⟩)] w K := by
  refine H.matrix_Mul_1 q0 q1 (some ⟨r_2, 0, none⟩) (some ⟨r_3, 0, none⟩) w _ ?_
  unfold S_matrix_Mul_1
  unfold T_matrix_Mul_1 at hx
  have h := hx
  clear hx
  try dsimp only
  refine optM_s ?_
  refine ⟨_, (eq2.cel (fun _ h => h) hS rfl), ?_⟩
  replace h := bnd h
  obtain ⟨o2, h2, c2⟩ := h
  refine cutM_i (fun s w => ∃ (z1 : Nat), (nf z1) = o2 ∧ s = (z1, ()) ∧ Ho w0 w (L)) (fun J2 hJ2 => ?_) ?_
  · have h := h2
    clear h2
    refine iter_sim (fun s w t => ∃ (z3 : Nat) (t3 : Int), ((nf z3), t3) = t ∧ s = (z3, t3, ()) ∧ Ho w0 w (L)) ?_ h ⟨_, _, rfl, rfl, hS⟩
    clear h hS
    rintro s w t X q ⟨z3, t3, rfl, rfl, hS⟩ h hX hO
    unfold T_matrix_Mul_1_b2 at h
    try dsimp only
    refine cond_s h ?_ ?_ <;> clear h <;> intro hc h
    · refine optM_s ?_
      refine ⟨_, _, _, (eq2.cel (fun _ h => h) hS rfl), ?_⟩
      refine optM_s ?_
      refine ⟨_, (eq2.cel (fun _ h => h) hS rfl), ?_⟩
      replace h := bnd h
      obtain ⟨t4, ht4, h⟩ := h
      obtain ⟨z4, rfl, q5x, q5l, q5r⟩ := atF ht4
      clear ht4
      refine idx_s (hq2_2.now (fun _ h => h) hS) q5x q5l q5r ?_; intro b6 hb6
      refine ⟨_, rd_get (hq2_2.now (fun _ h => h) hS) hb6 q5x, ?_⟩
      refine optM_s ?_
      refine ⟨_, _, _, (eq3.cel (fun _ h => h) hS rfl), ?_⟩
      refine optM_s ?_
      refine ⟨_, (eq3.cel (fun _ h => h) hS rfl), ?_⟩
      replace h := bnd h
      obtain ⟨t5, ht5, h⟩ := h
      obtain ⟨z7, rfl, q8x, q8l, q8r⟩ := atF ht5
      clear ht5
      refine idx_s (hq3_2.now (fun _ h => h) hS) q8x q8l q8r ?_; intro b9 hb9
      refine ⟨_, rd_get (hq3_2.now (fun _ h => h) hS) hb9 q8x, ?_⟩
      replace h := bnd h
      obtain ⟨t6, ht6, h⟩ := h
      refine fmul_s ht6 hS ?_; clear ht6; rintro z10 _ rfl _
      replace h := bnd h
      obtain ⟨t7, ht7, h⟩ := h
      refine fadd_s ht7 hS ?_; clear ht7; rintro z11 _ rfl _
      refine drM_s hS ?_; clear hS; intro w hS
      obtain rfl := some_inj h
      exact hX _ rfl _ _ ⟨_, _, rfl, rfl, hS⟩
    · obtain rfl := some_inj h
      have h := congrArg some (hO _ rfl)
      obtain rfl := some_inj h
      exact hJ2 _ _ ⟨_, rfl, rfl, hS⟩
  · clear h2 hS
    rintro s w ⟨z1, rfl, rfl, hS⟩
    have h := c2
    clear c2
    try dsimp only
    have h := some_inj h
    cases h
    exact hK _ _ rfl hS

theorem wk_matrix_laid {N : Nums} {P : Program} (H : AllOk N P) {w0 w : World} {L : List It} {q0 : Int} {q1 : Int} {q2 : Value} {f2 : Int → Int → Option Nat} {u0 : Int} {u1 : Int} {u2 : List Nat} (hS : Ho w0 w (L)) (hf2 : ∀ (v0 : Int) (v1 : Int) (w : World) (L1 : List It) (r1 : Nat) (K : Value → World → Prop), (∀ e, e ∈ L → e ∈ L1) → f2 v0 v1 = some r1 → Ho w0 w L1 → (∀ (z : Nat) (w1 : World), nf z = r1 → Ho w0 w1 L1 → K (.float .f64 z) w1) → fnM q2 fun g gp gq => CallsX P g (gp.toList ++ (([.int .i64 v0, .int .i64 v1] : List Value) ++ gq.toList)).toArray w K) (hx : T_matrix_laid q0 q1 f2 = some (u0, u1, u2)) {K : Value → World → Prop} (hK : ∀ (a2 : Option Addr) (n2 c2 : Nat) (rws2 : List Nat) (w1 : World), List.map nf rws2 = u2 → Ho w0 w1 ((sl a2 n2 c2 (List.map (Value.float .f64) rws2) N.t_float64) :: L) → K (.agg #[.int .i64 u0, .int .i64 u1, .slice a2 n2 c2]) w1) : CallsX P N.f_matrix_laid #[.int .i64 q0, .int .i64 q1, q2] w K := by
  refine H.matrix_laid q0 q1 q2 w _ ?_
  unfold S_matrix_laid
  unfold T_matrix_laid at hx
  have h := hx
  clear hx
  try dsimp only
  refine newM_s hS ?_; clear hS; intro r1 w hS
  replace h := bnd h
  obtain ⟨t1, ht1, h⟩ := h
  obtain ⟨rfl, kt1⟩ := mkF ht1
  clear ht1
  refine mk_s (enc := (Value.float .f64)) hS kt1 rfl ?_; clear hS kt1; intro r2 w hS
  refine newM_s hS ?_; clear hS; intro r3 w hS
  refine stc_s hS rfl rfl ?_; clear hS; intro w hS
  refine stc_s hS rfl rfl ?_; clear hS; intro w hS
  refine stc_s hS rfl rfl ?_; clear hS; intro w hS
  replace h := bnd h
  obtain ⟨o5, h5, c5⟩ := h
  refine cutM_i (fun s w => ∃ (ws4 : List Nat), (List.map nf ws4) = o5 ∧ s = (()) ∧ Ho w0 w ((cl r3 [.int .i64 q0, .int .i64 q1, .slice (some ⟨r2, 0, none⟩) (((IntKind.i64.wrap (q0 * q1))).toNat) (((IntKind.i64.wrap (q0 * q1))).toNat)] N.t_Matrix) :: (sl (some ⟨r2, 0, none⟩) (((IntKind.i64.wrap (q0 * q1))).toNat) (((IntKind.i64.wrap (q0 * q1))).toNat) (List.map (Value.float .f64) ws4) N.t_float64) :: (cl r1 [.int .i64 0, .int .i64 0, .slice none 0 0] N.t_Matrix) :: L)) (fun J5 hJ5 => ?_) ?_
  · have h := h5
    clear h5
    refine iter_sim (fun s w t => ∃ (t3 : Int) (ws6 : List Nat), (t3, (List.map nf ws6)) = t ∧ s = (t3, ()) ∧ Ho w0 w ((cl r3 [.int .i64 q0, .int .i64 q1, .slice (some ⟨r2, 0, none⟩) (((IntKind.i64.wrap (q0 * q1))).toNat) (((IntKind.i64.wrap (q0 * q1))).toNat)] N.t_Matrix) :: (sl (some ⟨r2, 0, none⟩) (((IntKind.i64.wrap (q0 * q1))).toNat) (((IntKind.i64.wrap (q0 * q1))).toNat) (List.map (Value.float .f64) ws6) N.t_float64) :: (cl r1 [.int .i64 0, .int .i64 0, .slice none 0 0] N.t_Matrix) :: L)) ?_ h ⟨_, _, rfl, rfl, hS⟩
    clear h hS
    rintro s w t X q ⟨t3, ws6, rfl, rfl, hS⟩ h hX hO
    unfold T_matrix_laid_b7 at h
    try dsimp only
    refine cond_s h ?_ ?_ <;> clear h <;> intro hc h
    · replace h := bnd h
      obtain ⟨o8, h8, c8⟩ := h
      refine cutM_i (fun s w => ∃ (ws7 : List Nat), (List.map nf ws7) = o8 ∧ s = (()) ∧ Ho w0 w ((cl r3 [.int .i64 q0, .int .i64 q1, .slice (some ⟨r2, 0, none⟩) (((IntKind.i64.wrap (q0 * q1))).toNat) (((IntKind.i64.wrap (q0 * q1))).toNat)] N.t_Matrix) :: (sl (some ⟨r2, 0, none⟩) (((IntKind.i64.wrap (q0 * q1))).toNat) (((IntKind.i64.wrap (q0 * q1))).toNat) (List.map (Value.float .f64) ws7) N.t_float64) :: (cl r1 [.int .i64 0, .int .i64 0, .slice none 0 0] N.t_Matrix) :: L)) (fun J8 hJ8 => ?_) ?_
      · have h := h8
        clear h8
        refine iter_sim (fun s w t => ∃ (t6 : Int) (ws9 : List Nat), (t6, (List.map nf ws9)) = t ∧ s = (t6, ()) ∧ Ho w0 w ((cl r3 [.int .i64 q0, .int .i64 q1, .slice (some ⟨r2, 0, none⟩) (((IntKind.i64.wrap (q0 * q1))).toNat) (((IntKind.i64.wrap (q0 * q1))).toNat)] N.t_Matrix) :: (sl (some ⟨r2, 0, none⟩) (((IntKind.i64.wrap (q0 * q1))).toNat) (((IntKind.i64.wrap (q0 * q1))).toNat) (List.map (Value.float .f64) ws9) N.t_float64) :: (cl r1 [.int .i64 0, .int .i64 0, .slice none 0 0] N.t_Matrix) :: L)) ?_ h ⟨_, _, rfl, rfl, hS⟩
        clear h hS
        rintro s w t X q ⟨t6, ws9, rfl, rfl, hS⟩ h hX hO
        unfold T_matrix_laid_b9 at h
        try dsimp only
        refine cond_s h ?_ ?_ <;> clear h <;> intro hc h
        · refine ⟨_, _, _, (hS.cel mp0 rfl), ?_⟩
          refine drM_s hS ?_; clear hS; intro w hS
          replace h := bnd h
          obtain ⟨t8, ht8, h⟩ := h
          refine hf2 _ _ _ _ _ _ tl3 ht8 hS ?_; clear hS ht8; rintro z10 w rfl hS
          refine ⟨_, rfl, ?_⟩
          refine ⟨(hS.cel mp0 rfl), ?_⟩
          replace h := bnd h
          obtain ⟨t9, ht9, h⟩ := h
          obtain ⟨z11, rfl, q12x, q12l, q12r⟩ := atF ht9
          clear ht9
          refine idx_s ((Ent.sl mp1).now (fun _ h => h) hS) q12x q12l q12r ?_; intro b13 hb13
          refine drM_s hS ?_; clear hS; intro w hS
          replace hS := ro1 hS
          replace h := bnd h
          obtain ⟨t10, ht10, h⟩ := h
          obtain rfl := setF ht10
          clear ht10
          refine sto_s hS hb13 q12r ?_; clear hS; intro w hS
          refine drM_s hS ?_; clear hS; intro w hS
          obtain rfl := some_inj h
          exact hX _ rfl _ _ ⟨_, _, rfl, rfl, (hS.pick (A := [_, _, _]) [1, 0, 0] rfl)⟩
        · obtain rfl := some_inj h
          have h := congrArg some (hO _ rfl)
          obtain rfl := some_inj h
          exact hJ8 _ _ ⟨_, rfl, rfl, hS⟩
      · clear h8 hS
        rintro s w ⟨ws7, rfl, rfl, hS⟩
        have h := c8
        clear c8
        try dsimp only
        obtain rfl := some_inj h
        exact hX _ rfl _ _ ⟨_, _, rfl, rfl, hS⟩
    · obtain rfl := some_inj h
      have h := congrArg some (hO _ rfl)
      obtain rfl := some_inj h
      exact hJ5 _ _ ⟨_, rfl, rfl, hS⟩
  · clear h5 hS
    rintro s w ⟨ws4, rfl, rfl, hS⟩
    have h := c5
    clear c5
    try dsimp only
    refine ⟨_, (hS.cel mp0 rfl), ?_⟩
    refine ⟨_, (hS.cel mp0 rfl), ?_⟩
    refine ⟨_, _, _, (hS.cel mp0 rfl), ?_⟩
    replace hS := ro2 hS
    refine stc_s hS rfl rfl ?_; clear hS; intro w hS
    refine stc_s hS rfl rfl ?_; clear hS; intro w hS
    refine stc_s hS rfl rfl ?_; clear hS; intro w hS
    refine ⟨_, (hS.cel mp0 rfl), ?_⟩
    refine ⟨_, (hS.cel mp0 rfl), ?_⟩
    refine ⟨_, _, _, (hS.cel mp0 rfl), ?_⟩
    have h := some_inj h
    cases h
    exact hK _ _ _ _ _ rfl (hS.pick (A := [_, _, _]) [2] rfl)

theorem wk_matrix_Mul {N : Nums} {P : Program} (H : AllOk N P) {w0 w : World} {L : List It} {q0_0 : Int} {q0_1 : Int} {q0_2 : Option Addr} {q0_2l q0_2c : Nat} {ws0_2 : List Nat} {q1_0 : Int} {q1_1 : Int} {q1_2 : Option Addr} {q1_2l q1_2c : Nat} {ws1_2 : List Nat} {u0 : Int} {u1 : Int} {u2 : List Nat} {u3 : Int} (hS : Ho w0 w (L)) (hq0_2 : Ent L (rdA (List.map (Value.float .f64) ws0_2) q0_2 q0_2l q0_2c)) (hq1_2 : Ent L (rdA (List.map (Value.float .f64) ws1_2) q1_2 q1_2l q1_2c)) (hx : T_matrix_Mul q0_0 q0_1 (List.map nf ws0_2) q1_0 q1_1 (List.map nf ws1_2) = some (u0, u1, u2, u3)) {K : Value → World → Prop} (hK : ∀ (a2 : Option Addr) (n2 c2 : Nat) (rws2 : List Nat) (w1 : World), List.map nf rws2 = u2 → Ho w0 w1 ((sl a2 n2 c2 (List.map (Value.float .f64) rws2) N.t_float64) :: L) → K (.tuple #[.agg #[.int .i64 u0, .int .i64 u1, .slice a2 n2 c2], .int .i64 u3]) w1) : CallsX P N.f_matrix_Mul #[.agg #[.int .i64 q0_0, .int .i64 q0_1, .slice q0_2 q0_2l q0_2c], .agg #[.int .i64 q1_0, .int .i64 q1_1, .slice q1_2 q1_2l q1_2c]] w K := by
  refine H.matrix_Mul q0_0 q0_1 q0_2 q0_2l q0_2c q1_0 q1_1 q1_2 q1_2l q1_2c w _ ?_
  unfold S_matrix_Mul
  unfold T_matrix_Mul at hx
  have h := hx
  clear hx
  try dsimp only
  refine newM_s hS ?_; clear hS; intro r1 w hS
  refine newM_s hS ?_; clear hS; intro r2 w hS
  refine newM_s hS ?_; clear hS; intro r3 w hS
  replace h := bnd h
  obtain ⟨o4, h4, c4⟩ := h
  refine cutM_i (fun s w => ∃ (t1 : Bool), t1 = o4 ∧ s = (t1, ()) ∧ Ho w0 w ((cl r3 [.int .i64 0, .int .i64 0, .slice none 0 0] N.t_Matrix) :: (cl r2 [.int .i64 q1_0, .int .i64 q1_1, .slice q1_2 q1_2l q1_2c] N.t_Matrix) :: (cl r1 [.int .i64 q0_0, .int .i64 q0_1, .slice q0_2 q0_2l q0_2c] N.t_Matrix) :: L)) (fun J4 hJ4 => ?_) ?_
  · have h := h4
    clear h4
    refine ⟨_, (hS.cel mp2 rfl), ?_⟩
    refine ⟨_, (hS.cel mp2 rfl), ?_⟩
    refine ⟨_, _, _, (hS.cel mp2 rfl), ?_⟩
    replace h := bnd h
    obtain ⟨t2, ht2, h⟩ := h
    refine wk_matrix_Right H hS (hq0_2.mono tl3) ht2 ?_; clear hS ht2; rintro w hS
    refine ⟨_, rfl, ?_⟩
    refine cond_s h ?_ ?_ <;> clear h <;> intro hc h
    · refine ⟨_, (hS.cel mp1 rfl), ?_⟩
      refine ⟨_, (hS.cel mp1 rfl), ?_⟩
      refine ⟨_, _, _, (hS.cel mp1 rfl), ?_⟩
      replace h := bnd h
      obtain ⟨t3, ht3, h⟩ := h
      refine wk_matrix_Right H hS (hq1_2.mono tl3) ht3 ?_; clear hS ht3; rintro w hS
      refine ⟨_, rfl, ?_⟩
      refine cond_s h ?_ ?_ <;> clear h <;> intro hc h
      · refine ⟨_, (hS.cel mp2 rfl), ?_⟩
        refine ⟨_, (hS.cel mp1 rfl), ?_⟩
        obtain rfl := some_inj h
        exact hJ4 _ _ ⟨_, rfl, rfl, hS⟩
      · obtain rfl := some_inj h
        exact hJ4 _ _ ⟨_, rfl, rfl, hS⟩
    · obtain rfl := some_inj h
      exact hJ4 _ _ ⟨_, rfl, rfl, hS⟩
  · clear h4 hS
    rintro s w ⟨t1, rfl, rfl, hS⟩
    have h := c4
    clear c4
    try dsimp only
    refine cond_s h ?_ ?_ <;> clear h <;> intro hc h
    · refine stc_s hS rfl rfl ?_; clear hS; intro w hS
      refine stc_s hS rfl rfl ?_; clear hS; intro w hS
      refine stc_s hS rfl rfl ?_; clear hS; intro w hS
      refine ⟨_, (hS.cel mp0 rfl), ?_⟩
      refine ⟨_, (hS.cel mp0 rfl), ?_⟩
      refine ⟨_, _, _, (hS.cel mp0 rfl), ?_⟩
      replace hS := hS.none (α := Nat) (enc := (Value.float .f64)) (t := N.t_float64)
      have h := some_inj h
      cases h
      exact hK _ _ _ _ _ rfl (hS.pick (A := [_, _, _, _]) [0] rfl)
    · refine ⟨_, (hS.cel mp2 rfl), ?_⟩
      refine ⟨_, (hS.cel mp1 rfl), ?_⟩
      replace h := bnd h
      obtain ⟨⟨t4, t5, t6⟩, ho4, h⟩ := h
      refine wk_matrix_laid H hS (by intro v0 v1 w L1 r1 K hL hx hS hK; exact wk_matrix_Mul_1 H hS ((Ent.of mp2).mono hL) ((hq0_2.mono tl3).mono hL) ((Ent.of mp1).mono hL) ((hq1_2.mono tl3).mono hL) hx hK) ho4 ?_; clear hS ho4; rintro a5 m5 c5 ws5 w rfl hS
      refine ⟨_, _, _, _, _, rfl, ?_⟩
      replace hS := ro1 hS
      refine stc_s hS rfl rfl ?_; clear hS; intro w hS
      refine stc_s hS rfl rfl ?_; clear hS; intro w hS
      refine stc_s hS rfl rfl ?_; clear hS; intro w hS
      refine ⟨_, (hS.cel mp0 rfl), ?_⟩
      refine ⟨_, (hS.cel mp0 rfl), ?_⟩
      refine ⟨_, _, _, (hS.cel mp0 rfl), ?_⟩
      have h := some_inj h
      cases h
      exact hK _ _ _ _ _ rfl (hS.pick (A := [_, _, _, _]) [1] rfl)

theorem wk_matrix_Apply {N : Nums} {P : Program} (H : AllOk N P) {w0 w : World} {L : List It} {q0_0 : Int} {q0_1 : Int} {q0_2 : Option Addr} {q0_2l q0_2c : Nat} {ws0_2 : List Nat} {q1 : Option Addr} {q1l q1c : Nat} {ws1 : List Nat} {u0 : List Nat} {u1 : Int} (hS : Ho w0 w (L)) (hq0_2 : Ent L (rdA (List.map (Value.float .f64) ws0_2) q0_2 q0_2l q0_2c)) (hq1 : Ent L (rdA (List.map (Value.float .f64) ws1) q1 q1l q1c)) (hx : T_matrix_Apply q0_0 q0_1 (List.map nf ws0_2) (List.map nf ws1) = some (u0, u1)) {K : Value → World → Prop} (hK : ∀ (a0 : Option Addr) (n0 c0 : Nat) (rws0 : List Nat) (w1 : World), List.map nf rws0 = u0 → Ho w0 w1 ((sl a0 n0 c0 (List.map (Value.float .f64) rws0) N.t_float64) :: L) → K (.tuple #[.slice a0 n0 c0, .int .i64 u1]) w1) : CallsX P N.f_matrix_Apply #[.agg #[.int .i64 q0_0, .int .i64 q0_1, .slice q0_2 q0_2l q0_2c], .slice q1 q1l q1c] w K := by
  refine H.matrix_Apply q0_0 q0_1 q0_2 q0_2l q0_2c q1 q1l q1c w _ ?_
  unfold S_matrix_Apply
  unfold T_matrix_Apply at hx
  have h := hx
  clear hx
  try dsimp only
  refine newM_s hS ?_; clear hS; intro r1 w hS
  refine ⟨_, (hS.cel mp0 rfl), ?_⟩
  refine ⟨_, (hS.cel mp0 rfl), ?_⟩
  refine ⟨_, _, _, (hS.cel mp0 rfl), ?_⟩
  replace h := bnd h
  obtain ⟨t1, ht1, h⟩ := h
  obtain rfl := lenF ht1 ((hq1.mono tl1).now (fun _ h => h) hS)
  clear ht1
  replace h := bnd h
  obtain ⟨⟨t2, t3, t4, t5⟩, ho2, h⟩ := h
  refine wk_matrix_Mul H hS (hq0_2.mono tl1) (hq1.mono tl1) ho2 ?_; clear hS ho2; rintro a2 m2 c2 ws2 w rfl hS
  refine ⟨_, _, _, _, _, _, rfl, ?_⟩
  refine newM_s hS ?_; clear hS; intro r3 w hS
  refine stc_s hS rfl rfl ?_; clear hS; intro w hS
  refine stc_s hS rfl rfl ?_; clear hS; intro w hS
  refine stc_s hS rfl rfl ?_; clear hS; intro w hS
  refine ⟨_, _, _, (hS.cel mp0 rfl), ?_⟩
  have h := some_inj h
  cases h
  exact hK _ _ _ _ _ rfl (hS.pick (A := [_, _, _]) [1] rfl)

theorem wk_girderkit_SameFloat {N : Nums} {P : Program} (H : AllOk N P) {w0 w : World} {L : List It} {q0 : Nat} {q1 : Nat} {u0 : Bool} (hS : Ho w0 w (L))  (hx : T_girderkit_SameFloat (nf q0) (nf q1) = some u0) {K : Value → World → Prop} (hK : ∀  (w1 : World), Ho w0 w1 (L) → K (.bool u0) w1) : CallsX P N.f_girderkit_SameFloat #[.float .f64 q0, .float .f64 q1] w K := by
  unfold T_girderkit_SameFloat at hx
  have hx := some_inj hx
  subst hx
  refine (sameFloat_c H q0 q1 w).mono ?_
  rintro _ w1 ⟨rfl, h1⟩
  exact hK _ (hS.next h1)

theorem wk_girderkit_SameReals {N : Nums} {P : Program} (H : AllOk N P) {w0 w : World} {L : List It} {q0 : Option Addr} {q0l q0c : Nat} {ws0 : List Nat} {q1 : Option Addr} {q1l q1c : Nat} {ws1 : List Nat} {u0 : Bool} (hS : Ho w0 w (L)) (hq0 : Ent L (rdA (List.map (Value.float .f64) ws0) q0 q0l q0c)) (hq1 : Ent L (rdA (List.map (Value.float .f64) ws1) q1 q1l q1c)) (hx : T_girderkit_SameReals (List.map nf ws0) (List.map nf ws1) = some u0) {K : Value → World → Prop} (hK : ∀  (w1 : World), Ho w0 w1 (L) → K (.bool u0) w1) : CallsX P N.f_girderkit_SameReals #[.slice q0 q0l q0c, .slice q1 q1l q1c] w K := by
  refine H.girderkit_SameReals q0 q0l q0c q1 q1l q1c w _ ?_
  unfold S_girderkit_SameReals
  unfold T_girderkit_SameReals at hx
  have h := hx
  clear hx
  try dsimp only
  replace h := bnd h
  obtain ⟨t1, ht1, h⟩ := h
  obtain rfl := lenF ht1 (hq0.now (fun _ h => h) hS)
  clear ht1
  replace h := bnd h
  obtain ⟨t2, ht2, h⟩ := h
  obtain rfl := lenF ht2 (hq1.now (fun _ h => h) hS)
  clear ht2
  refine cond_s h ?_ ?_ <;> clear h <;> intro hc h
  · have h := some_inj h
    cases h
    exact hK _ hS
  · replace h := bnd h
    obtain ⟨o1, h1, c1⟩ := h
    refine cutM_i (fun s w =>  .inl () = o1 ∧ s = (()) ∧ Ho w0 w (L)) (fun J1 hJ1 => ?_) ?_
    · have h := h1
      clear h1
      refine iter_sim (fun s w t => ∃ (t3 : Int), t3 = t ∧ s = (t3, ()) ∧ Ho w0 w (L)) ?_ h ⟨_, rfl, rfl, hS⟩
      clear h hS
      rintro s w t X q ⟨t3, rfl, rfl, hS⟩ h hX hO
      unfold T_girderkit_SameReals_b2 at h
      try dsimp only
      replace h := bnd h
      obtain ⟨t4, ht4, h⟩ := h
      obtain rfl := lenF ht4 (hq0.now (fun _ h => h) hS)
      clear ht4
      refine cond_s h ?_ ?_ <;> clear h <;> intro hc h
      · replace h := bnd h
        obtain ⟨t5, ht5, h⟩ := h
        obtain ⟨z2, rfl, q3x, q3l, q3r⟩ := atF ht5
        clear ht5
        refine idx_s (hq0.now (fun _ h => h) hS) q3x q3l q3r ?_; intro b4 hb4
        refine ⟨_, rd_get (hq0.now (fun _ h => h) hS) hb4 q3x, ?_⟩
        replace h := bnd h
        obtain ⟨t6, ht6, h⟩ := h
        obtain ⟨z5, rfl, q6x, q6l, q6r⟩ := atF ht6
        clear ht6
        refine idx_s (hq1.now (fun _ h => h) hS) q6x q6l q6r ?_; intro b7 hb7
        refine ⟨_, rd_get (hq1.now (fun _ h => h) hS) hb7 q6x, ?_⟩
        refine drM_s hS ?_; clear hS; intro w hS
        replace h := bnd h
        obtain ⟨t7, ht7, h⟩ := h
        refine wk_girderkit_SameFloat H hS  ht7 ?_; clear hS ht7; rintro w hS
        refine ⟨_, rfl, ?_⟩
        refine drM_s hS ?_; clear hS; intro w hS
        refine cond_s h ?_ ?_ <;> clear h <;> intro hc h
        · obtain rfl := some_inj h
          have h := congrArg some (hO _ rfl)
          obtain rfl := some_inj h
          have h := c1
          have h := some_inj h
          cases h
          exact hK _ hS
        · obtain rfl := some_inj h
          exact hX _ rfl _ _ ⟨_, rfl, rfl, hS⟩
      · obtain rfl := some_inj h
        have h := congrArg some (hO _ rfl)
        obtain rfl := some_inj h
        exact hJ1 _ _ ⟨rfl, rfl, hS⟩
    · clear h1 hS
      rintro s w ⟨rfl, rfl, hS⟩
      have h := c1
      clear c1
      try dsimp only
      have h := some_inj h
      cases h
      exact hK _ hS

theorem wk_girderkit_SameMatrix {N : Nums} {P : Program} (H : AllOk N P) {w0 w : World} {L : List It} {q0_0 : Int} {q0_1 : Int} {q0_2 : Option Addr} {q0_2l q0_2c : Nat} {ws0_2 : List Nat} {q1_0 : Int} {q1_1 : Int} {q1_2 : Option Addr} {q1_2l q1_2c : Nat} {ws1_2 : List Nat} {u0 : Bool} (hS : Ho w0 w (L)) (hq0_2 : Ent L (rdA (List.map (Value.float .f64) ws0_2) q0_2 q0_2l q0_2c)) (hq1_2 : Ent L (rdA (List.map (Value.float .f64) ws1_2) q1_2 q1_2l q1_2c)) (hx : T_girderkit_SameMatrix q0_0 q0_1 (List.map nf ws0_2) q1_0 q1_1 (List.map nf ws1_2) = some u0) {K : Value → World → Prop} (hK : ∀  (w1 : World), Ho w0 w1 (L) → K (.bool u0) w1) : CallsX P N.f_girderkit_SameMatrix #[.agg #[.int .i64 q0_0, .int .i64 q0_1, .slice q0_2 q0_2l q0_2c], .agg #[.int .i64 q1_0, .int .i64 q1_1, .slice q1_2 q1_2l q1_2c]] w K := by
  refine H.girderkit_SameMatrix q0_0 q0_1 q0_2 q0_2l q0_2c q1_0 q1_1 q1_2 q1_2l q1_2c w _ ?_
  unfold S_girderkit_SameMatrix
  unfold T_girderkit_SameMatrix at hx
  have h := hx
  clear hx
  try dsimp only
  refine newM_s hS ?_; clear hS; intro r1 w hS
  refine newM_s hS ?_; clear hS; intro r2 w hS
  refine ⟨_, (hS.cel mp1 rfl), ?_⟩
  refine ⟨_, (hS.cel mp0 rfl), ?_⟩
  refine cond_s h ?_ ?_ <;> clear h <;> intro hc h
  · refine ⟨_, (hS.cel mp1 rfl), ?_⟩
    refine ⟨_, (hS.cel mp0 rfl), ?_⟩
    refine cond_s h ?_ ?_ <;> clear h <;> intro hc h
    · refine ⟨_, _, _, (hS.cel mp1 rfl), ?_⟩
      refine ⟨_, _, _, (hS.cel mp0 rfl), ?_⟩
      replace h := bnd h
      obtain ⟨t1, ht1, h⟩ := h
      refine wk_girderkit_SameReals H hS (hq0_2.mono tl2) (hq1_2.mono tl2) ht1 ?_; clear hS ht1; rintro w hS
      refine ⟨_, rfl, ?_⟩
      have h := some_inj h
      cases h
      exact hK _ (hS.pick (A := [_, _]) [] rfl)
    · have h := some_inj h
      cases h
      exact hK _ (hS.pick (A := [_, _]) [] rfl)
  · have h := some_inj h
    cases h
    exact hK _ (hS.pick (A := [_, _]) [] rfl)

theorem wk_girderlaw10_is {N : Nums} {P : Program} (H : AllOk N P) {w0 w : World} {L : List It} {q0_0 : Int} {q0_1 : Int} {q0_2 : Option Addr} {q0_2l q0_2c : Nat} {ws0_2 : List Nat} {q1 : Int} {q2_0 : Int} {q2_1 : Int} {q2_2 : Option Addr} {q2_2l q2_2c : Nat} {ws2_2 : List Nat} {q3 : Int} {u0 : Bool} (hS : Ho w0 w (L)) (hq0_2 : Ent L (rdA (List.map (Value.float .f64) ws0_2) q0_2 q0_2l q0_2c)) (hq2_2 : Ent L (rdA (List.map (Value.float .f64) ws2_2) q2_2 q2_2l q2_2c)) (hx : T_girderlaw10_is q0_0 q0_1 (List.map nf ws0_2) q1 q2_0 q2_1 (List.map nf ws2_2) q3 = some u0) {K : Value → World → Prop} (hK : ∀  (w1 : World), Ho w0 w1 (L) → K (.bool u0) w1) : CallsX P N.f_girderlaw10_is #[.agg #[.int .i64 q0_0, .int .i64 q0_1, .slice q0_2 q0_2l q0_2c], .int .i64 q1, .agg #[.int .i64 q2_0, .int .i64 q2_1, .slice q2_2 q2_2l q2_2c], .int .i64 q3] w K := by
  refine H.girderlaw10_is q0_0 q0_1 q0_2 q0_2l q0_2c q1 q2_0 q2_1 q2_2 q2_2l q2_2c q3 w _ ?_
  unfold S_girderlaw10_is
  unfold T_girderlaw10_is at hx
  have h := hx
  clear hx
  try dsimp only
  refine newM_s hS ?_; clear hS; intro r1 w hS
  refine newM_s hS ?_; clear hS; intro r2 w hS
  refine cond_s h ?_ ?_ <;> clear h <;> intro hc h
  · refine ⟨_, (hS.cel mp1 rfl), ?_⟩
    refine ⟨_, (hS.cel mp1 rfl), ?_⟩
    refine ⟨_, _, _, (hS.cel mp1 rfl), ?_⟩
    refine ⟨_, (hS.cel mp0 rfl), ?_⟩
    refine ⟨_, (hS.cel mp0 rfl), ?_⟩
    refine ⟨_, _, _, (hS.cel mp0 rfl), ?_⟩
    replace h := bnd h
    obtain ⟨t1, ht1, h⟩ := h
    refine wk_girderkit_SameMatrix H hS (hq0_2.mono tl2) (hq2_2.mono tl2) ht1 ?_; clear hS ht1; rintro w hS
    refine ⟨_, rfl, ?_⟩
    have h := some_inj h
    cases h
    exact hK _ (hS.pick (A := [_, _]) [] rfl)
  · have h := some_inj h
    cases h
    exact hK _ (hS.pick (A := [_, _]) [] rfl)

theorem wk_girderlaw10_awake {N : Nums} {P : Program} (H : AllOk N P) {w0 w : World} {L : List It}  {u0 : Bool} (hS : Ho w0 w (L))  (hx : T_girderlaw10_awake  = some u0) {K : Value → World → Prop} (hK : ∀  (w1 : World), Ho w0 w1 (L) → K (.bool u0) w1) : CallsX P N.f_girderlaw10_awake #[] w K := by
  refine H.girderlaw10_awake  w _ ?_
  unfold S_girderlaw10_awake
  unfold T_girderlaw10_awake at hx
  have h := hx
  clear hx
  try dsimp only
  replace h := bnd h
  obtain ⟨t1, ht1, h⟩ := h
  obtain rfl : (List.map nf ([4607182418800017408, 4611686018427387904, 4613937818241073152, 4616189618054758400] : List Nat)) = t1 := some_inj ht1
  clear ht1
  refine lit_s (ks := [4607182418800017408, 4611686018427387904, 4613937818241073152, 4616189618054758400]) (enc := (Value.float .f64)) (m := 4) hS rfl rfl ?_; clear hS; intro r1 w hS
  replace h := bnd h
  obtain ⟨⟨t2, t3, t4⟩, ho2, h⟩ := h
  refine wk_girderlaw10_of H hS (Ent.sl mp0) ho2 ?_; clear hS ho2; rintro w rfl hS
  refine ⟨_, _, _, _, _, rfl, ?_⟩
  replace h := bnd h
  obtain ⟨t5, ht5, h⟩ := h
  obtain rfl : (List.map nf ([4617315517961601024, 4618441417868443648, 4619567317775286272, 4620693217682128896] : List Nat)) = t5 := some_inj ht5
  clear ht5
  refine lit_s (ks := [4617315517961601024, 4618441417868443648, 4619567317775286272, 4620693217682128896]) (enc := (Value.float .f64)) (m := 4) hS rfl rfl ?_; clear hS; intro r3 w hS
  replace h := bnd h
  obtain ⟨⟨t6, t7, t8⟩, ho6, h⟩ := h
  refine wk_girderlaw10_of H hS (Ent.sl mp0) ho6 ?_; clear hS ho6; rintro w rfl hS
  refine ⟨_, _, _, _, _, rfl, ?_⟩
  replace h := bnd h
  obtain ⟨⟨t9, t10, t11, t12⟩, ho9, h⟩ := h
  refine wk_matrix_Mul H hS (Ent.sl mp1) (Ent.sl mp0) ho9 ?_; clear hS ho9; rintro a5 m5 c5 ws5 w rfl hS
  refine ⟨_, _, _, _, _, _, rfl, ?_⟩
  refine newM_s hS ?_; clear hS; intro r6 w hS
  refine stc_s hS rfl rfl ?_; clear hS; intro w hS
  refine stc_s hS rfl rfl ?_; clear hS; intro w hS
  refine stc_s hS rfl rfl ?_; clear hS; intro w hS
  replace h := bnd h
  obtain ⟨t13, ht13, h⟩ := h
  obtain rfl : (List.map nf ([4607182418800017408, 4611686018427387904, 4613937818241073152, 4616189618054758400] : List Nat)) = t13 := some_inj ht13
  clear ht13
  refine lit_s (ks := [4607182418800017408, 4611686018427387904, 4613937818241073152, 4616189618054758400]) (enc := (Value.float .f64)) (m := 4) hS rfl rfl ?_; clear hS; intro r7 w hS
  replace h := bnd h
  obtain ⟨⟨t14, t15, t16⟩, ho14, h⟩ := h
  refine wk_girderlaw10_of H hS (Ent.sl mp0) ho14 ?_; clear hS ho14; rintro w rfl hS
  refine ⟨_, _, _, _, _, rfl, ?_⟩
  replace h := bnd h
  obtain ⟨t17, ht17, h⟩ := h
  obtain rfl : (List.map nf ([4617315517961601024, 4618441417868443648] : List Nat)) = t17 := some_inj ht17
  clear ht17
  refine lit_s (ks := [4617315517961601024, 4618441417868443648]) (enc := (Value.float .f64)) (m := 2) hS rfl rfl ?_; clear hS; intro r9 w hS
  replace h := bnd h
  obtain ⟨⟨t18, t19⟩, ho18, h⟩ := h
  refine wk_matrix_Apply H hS (Ent.sl mp1) (Ent.sl mp0) ho18 ?_; clear hS ho18; rintro a10 m10 c10 ws10 w rfl hS
  refine ⟨_, _, _, _, rfl, ?_⟩
  refine ⟨_, (hS.cel mp3 rfl), ?_⟩
  refine ⟨_, (hS.cel mp3 rfl), ?_⟩
  refine ⟨_, _, _, (hS.cel mp3 rfl), ?_⟩
  refine drM_s hS ?_; clear hS; intro w hS
  replace h := bnd h
  obtain ⟨t20, ht20, h⟩ := h
  obtain rfl : (List.map nf ([4626041242239631360, 4626885667169763328, 4631248529308778496, 4632233691727265792] : List Nat)) = t20 := some_inj ht20
  clear ht20
  refine lit_s (ks := [4626041242239631360, 4626885667169763328, 4631248529308778496, 4632233691727265792]) (enc := (Value.float .f64)) (m := 4) hS rfl rfl ?_; clear hS; intro r11 w hS
  refine ⟨(hS.cel mp4 rfl), ?_⟩
  refine ⟨(hS.cel mp4 rfl), ?_⟩
  refine ⟨(hS.cel mp4 rfl), ?_⟩
  refine drM_s hS ?_; clear hS; intro w hS
  replace h := bnd h
  obtain ⟨⟨t21, t22, t23⟩, ho21, h⟩ := h
  refine wk_girderlaw10_of H hS (Ent.sl mp0) ho21 ?_; clear hS ho21; rintro w rfl hS
  refine ⟨_, _, _, _, _, rfl, ?_⟩
  refine ⟨(hS.cel mp4 rfl), ?_⟩
  refine ⟨(hS.cel mp4 rfl), ?_⟩
  refine ⟨(hS.cel mp4 rfl), ?_⟩
  refine drM_s hS ?_; clear hS; intro w hS
  replace h := bnd h
  obtain ⟨t24, ht24, h⟩ := h
  refine wk_girderlaw10_is H hS (Ent.sl mp5) (Ent.sl mp0) ht24 ?_; clear hS ht24; rintro w hS
  refine ⟨_, rfl, ?_⟩
  refine cond_s h ?_ ?_ <;> clear h <;> intro hc h
  · refine cond_s h ?_ ?_ <;> clear h <;> intro hc h
    · refine drM_s hS ?_; clear hS; intro w hS
      replace h := bnd h
      obtain ⟨t25, ht25, h⟩ := h
      obtain rfl : (List.map nf ([4625478292286210048, 4630685579355357184] : List Nat)) = t25 := some_inj ht25
      clear ht25
      refine lit_s (ks := [4625478292286210048, 4630685579355357184]) (enc := (Value.float .f64)) (m := 2) hS rfl rfl ?_; clear hS; intro r13 w hS
      refine drM_s hS ?_; clear hS; intro w hS
      replace h := bnd h
      obtain ⟨t26, ht26, h⟩ := h
      refine wk_girderkit_SameReals H hS (Ent.sl mp2) (Ent.sl mp0) ht26 ?_; clear hS ht26; rintro w hS
      refine ⟨_, rfl, ?_⟩
      refine drM_s hS ?_; clear hS; intro w hS
      have h := some_inj h
      cases h
      exact hK _ (hS.pick (A := [_, _, _, _, _, _, _, _, _]) [] rfl)
    · refine drM_s hS ?_; clear hS; intro w hS
      refine drM_s hS ?_; clear hS; intro w hS
      refine drM_s hS ?_; clear hS; intro w hS
      have h := some_inj h
      cases h
      exact hK _ (hS.pick (A := [_, _, _, _, _, _, _, _]) [] rfl)
  · refine drM_s hS ?_; clear hS; intro w hS
    refine drM_s hS ?_; clear hS; intro w hS
    refine drM_s hS ?_; clear hS; intro w hS
    have h := some_inj h
    cases h
    exact hK _ (hS.pick (A := [_, _, _, _, _, _, _, _]) [] rfl)

theorem wk_girderkit_CopyReals {N : Nums} {P : Program} (H : AllOk N P) {w0 w : World} {L : List It} {q0 : Option Addr} {q0l q0c : Nat} {ws0 : List Nat} {u0 : List Nat} (hS : Ho w0 w (L)) (hq0 : Ent L (rdA (List.map (Value.float .f64) ws0) q0 q0l q0c)) (hx : T_girderkit_CopyReals (List.map nf ws0) = some u0) {K : Value → World → Prop} (hK : ∀ (a0 : Option Addr) (n0 c0 : Nat) (rws0 : List Nat) (w1 : World), List.map nf rws0 = u0 → Ho w0 w1 ((sl a0 n0 c0 (List.map (Value.float .f64) rws0) N.t_float64) :: L) → K (.slice a0 n0 c0) w1) : CallsX P N.f_girderkit_CopyReals #[.slice q0 q0l q0c] w K := by
  refine H.girderkit_CopyReals q0 q0l q0c w _ ?_
  unfold S_girderkit_CopyReals
  unfold T_girderkit_CopyReals at hx
  have h := hx
  clear hx
  try dsimp only
  replace h := bnd h
  obtain ⟨t1, ht1, h⟩ := h
  obtain ⟨rfl, kt1⟩ := appF ht1
  clear ht1
  replace hS := hS.none (α := Nat) (enc := (Value.float .f64)) (t := N.t_float64)
  refine app_s hS kt1 ((hq0.mono tl1).now (fun _ h => h) hS) (fun _ => rfl) rfl ?_; clear hS kt1; intro a1 c1 w hS
  have h := some_inj h
  cases h
  exact hK _ _ _ _ _ rfl hS

theorem wk_girderlaw10_MatrixSizes {N : Nums} {P : Program} (H : AllOk N P) {w0 w : World} {L : List It} {q0 : Int} {q1 : Int} {q2 : Option Addr} {q2l q2c : Nat} {ws2 : List Nat} {q3 : Option Addr} {q3l q3c : Nat} {l3 : List Bool} {u0 : Bool} (hS : Ho w0 w (L)) (hq2 : Ent L (rdA (List.map (Value.float .f64) ws2) q2 q2l q2c)) (hq3 : Ent L (rdA (List.map Value.bool l3) q3 q3l q3c)) (hx : T_girderlaw10_MatrixSizes q0 q1 (List.map nf ws2) l3 = some u0) {K : Value → World → Prop} (hK : ∀  (w1 : World), Ho w0 w1 (L) → K (.bool u0) w1) : CallsX P N.f_girderlaw10_MatrixSizes #[.int .i64 q0, .int .i64 q1, .slice q2 q2l q2c, .slice q3 q3l q3c] w K := by
  refine H.girderlaw10_MatrixSizes q0 q1 q2 q2l q2c q3 q3l q3c w _ ?_
  unfold S_girderlaw10_MatrixSizes
  unfold T_girderlaw10_MatrixSizes at hx
  have h := hx
  clear hx
  try dsimp only
  replace h := bnd h
  obtain ⟨⟨t1, t2, t3⟩, ho1, h⟩ := h
  refine wk_girderlaw10_laid H hS hq2 ho1 ?_; clear hS ho1; rintro a1 m1 c1 ws1 w rfl hS
  refine ⟨_, _, _, _, _, rfl, ?_⟩
  refine newM_s hS ?_; clear hS; intro r2 w hS
  refine stc_s hS rfl rfl ?_; clear hS; intro w hS
  refine stc_s hS rfl rfl ?_; clear hS; intro w hS
  refine stc_s hS rfl rfl ?_; clear hS; intro w hS
  refine ⟨_, (hS.cel mp0 rfl), ?_⟩
  refine ⟨_, (hS.cel mp0 rfl), ?_⟩
  refine ⟨_, _, _, (hS.cel mp0 rfl), ?_⟩
  replace h := bnd h
  obtain ⟨⟨t4, t5⟩, ho4, h⟩ := h
  refine wk_matrix_Norm H hS (Ent.sl mp1) ho4 ?_; clear hS ho4; rintro z3 w rfl hS
  refine ⟨_, _, rfl, ?_⟩
  refine ⟨_, _, _, (hS.cel mp0 rfl), ?_⟩
  replace h := bnd h
  obtain ⟨t6, ht6, h⟩ := h
  refine wk_girderlaw10_finite H hS (Ent.sl mp1) ht6 ?_; clear hS ht6; rintro w hS
  refine ⟨_, rfl, ?_⟩
  refine cond_s h ?_ ?_ <;> clear h <;> intro hc h
  · refine cond_s h ?_ ?_ <;> clear h <;> intro hc h
    · replace h := bnd h
      obtain ⟨t7, ht7, h⟩ := h
      obtain rfl := feq_s ht7
      clear ht7
      refine cond_s h ?_ ?_ <;> clear h <;> intro hc h
      · replace h := bnd h
        obtain ⟨t8, ht8, h⟩ := h
        refine wk_girderlaw10_awake H hS  ht8 ?_; clear hS ht8; rintro w hS
        refine ⟨_, rfl, ?_⟩
        have h := some_inj h
        cases h
        exact hK _ (hS.pick (A := [_, _]) [] rfl)
      · have h := some_inj h
        cases h
        exact hK _ (hS.pick (A := [_, _]) [] rfl)
    · have h := some_inj h
      cases h
      exact hK _ (hS.pick (A := [_, _]) [] rfl)
  · replace h := bnd h
    obtain ⟨o4, h4, c4⟩ := h
    refine cutM_i (fun s w => ∃ (t9 : Bool), t9 = o4 ∧ s = (t9, ()) ∧ Ho w0 w ((cl r2 [.int .i64 t1, .int .i64 t2, .slice a1 m1 c1] N.t_Matrix) :: (sl a1 m1 c1 (List.map (Value.float .f64) ws1) N.t_float64) :: L)) (fun J4 hJ4 => ?_) ?_
    · have h := h4
      clear h4
      refine cond_s h ?_ ?_ <;> clear h <;> intro hc h
      · replace h := bnd h
        obtain ⟨t10, ht10, h⟩ := h
        obtain rfl := fge_s ht10
        clear ht10
        obtain rfl := some_inj h
        exact hJ4 _ _ ⟨_, rfl, rfl, hS⟩
      · obtain rfl := some_inj h
        exact hJ4 _ _ ⟨_, rfl, rfl, hS⟩
    · clear h4 hS
      rintro s w ⟨t9, rfl, rfl, hS⟩
      have h := c4
      clear c4
      try dsimp only
      refine cond_s h ?_ ?_ <;> clear h <;> intro hc h
      · have h := some_inj h
        cases h
        exact hK _ (hS.pick (A := [_, _]) [] rfl)
      · replace h := bnd h
        obtain ⟨o6, h6, c6⟩ := h
        refine cutM_i (fun s w => ∃ (z5 : Nat), .inl (nf z5) = o6 ∧ s = (z5, ()) ∧ Ho w0 w (L)) (fun J6 hJ6 => ?_) ?_
        · have h := h6
          clear h6
          refine iter_sim (fun s w t => ∃ (z7 : Nat) (t13 : Int), ((nf z7), t13) = t ∧ s = (z7, t13, ()) ∧ Ho w0 w ((cl r2 [.int .i64 t1, .int .i64 t2, .slice a1 m1 c1] N.t_Matrix) :: (sl a1 m1 c1 (List.map (Value.float .f64) ws1) N.t_float64) :: L)) ?_ h ⟨_, _, rfl, rfl, hS⟩
          clear h hS
          rintro s w t X q ⟨z7, t13, rfl, rfl, hS⟩ h hX hO
          unfold T_girderlaw10_MatrixSizes_b5 at h
          try dsimp only
          refine ⟨_, (hS.cel mp0 rfl), ?_⟩
          refine cond_s h ?_ ?_ <;> clear h <;> intro hc h
          · refine ⟨_, (hS.cel mp0 rfl), ?_⟩
            refine ⟨_, _, _, (hS.cel mp0 rfl), ?_⟩
            refine ⟨_, (hS.cel mp0 rfl), ?_⟩
            refine ⟨_, (hS.cel mp0 rfl), ?_⟩
            replace h := bnd h
            obtain ⟨t14, ht14, h⟩ := h
            obtain ⟨rfl, q80, q81, q82⟩ := subF ht14
            clear ht14
            have q83 := ((Ent.sl mp1).now (fun _ h => h) hS).hiCap q82
            refine ⟨Int.le_trans q80 q81, q83, q80, q81, ?_⟩
            refine drM_s hS ?_; clear hS; intro w hS
            replace h := bnd h
            obtain ⟨t15, ht15, h⟩ := h
            refine wk_girderkit_CopyReals H hS (Ent.part (Ent.sl mp1) q80 q81 q82) ht15 ?_; clear hS ht15; rintro a9 m9 c9 ws9 w rfl hS
            refine ⟨_, _, _, rfl, ?_⟩
            refine ⟨(hS.cel mp1 rfl), ?_⟩
            refine drM_s hS ?_; clear hS; intro w hS
            replace h := bnd h
            obtain ⟨⟨t16, t17, t18⟩, ho16, h⟩ := h
            refine wk_girderlaw10_of H hS (Ent.sl mp0) ho16 ?_; clear hS ho16; rintro w rfl hS
            refine ⟨_, _, _, _, _, rfl, ?_⟩
            refine drM_s hS ?_; clear hS; intro w hS
            replace h := bnd h
            obtain ⟨⟨t19, t20⟩, ho19, h⟩ := h
            refine wk_matrix_Norm H hS (Ent.sl mp0) ho19 ?_; clear hS ho19; rintro z11 w rfl hS
            refine ⟨_, _, rfl, ?_⟩
            refine drM_s hS ?_; clear hS; intro w hS
            refine cond_s h ?_ ?_ <;> clear h <;> intro hc h
            · replace h := bnd h
              obtain ⟨t21, ht21, h⟩ := h
              obtain rfl := fgt_s ht21
              clear ht21
              refine cond_s h ?_ ?_ <;> clear h <;> intro hc h
              · obtain rfl := some_inj h
                have h := congrArg some (hO _ rfl)
                obtain rfl := some_inj h
                have h := c6
                have h := some_inj h
                cases h
                exact hK _ (hS.pick (A := [_, _, _]) [] rfl)
              · replace h := bnd h
                obtain ⟨t22, ht22, h⟩ := h
                refine fmx_s ht22 hS ?_; clear hS ht22; rintro z12 w rfl hS
                replace h := bnd h
                obtain ⟨o13, h13, c13⟩ := h
                refine cutM_i (fun s w =>  .inl () = o13 ∧ s = (()) ∧ Ho w0 w ((cl r2 [.int .i64 t1, .int .i64 t2, .slice a1 m1 c1] N.t_Matrix) :: (sl a1 m1 c1 (List.map (Value.float .f64) ws1) N.t_float64) :: L)) (fun J13 hJ13 => ?_) ?_
                · have h := h13
                  clear h13
                  refine iter_sim (fun s w t => ∃ (t23 : Int), t23 = t ∧ s = (t23, ()) ∧ Ho w0 w ((cl r2 [.int .i64 t1, .int .i64 t2, .slice a1 m1 c1] N.t_Matrix) :: (sl a1 m1 c1 (List.map (Value.float .f64) ws1) N.t_float64) :: L)) ?_ h ⟨_, rfl, rfl, (hS.pick (A := [_, _, _]) [1, 1] rfl)⟩
                  clear h hS
                  rintro s w t X q ⟨t23, rfl, rfl, hS⟩ h hX hO
                  unfold T_girderlaw10_MatrixSizes_b7 at h
                  try dsimp only
                  refine ⟨_, (hS.cel mp0 rfl), ?_⟩
                  refine cond_s h ?_ ?_ <;> clear h <;> intro hc h
                  · refine ⟨_, _, _, (hS.cel mp0 rfl), ?_⟩
                    refine ⟨_, (hS.cel mp0 rfl), ?_⟩
                    replace h := bnd h
                    obtain ⟨t24, ht24, h⟩ := h
                    obtain ⟨z14, rfl, q15x, q15l, q15r⟩ := atF ht24
                    clear ht24
                    refine idx_s ((Ent.sl mp1).now (fun _ h => h) hS) q15x q15l q15r ?_; intro b16 hb16
                    refine ⟨_, rd_get ((Ent.sl mp1).now (fun _ h => h) hS) hb16 q15x, ?_⟩
                    replace h := bnd h
                    obtain ⟨t25, ht25, h⟩ := h
                    obtain rfl := fgt_s ht25
                    clear ht25
                    refine cond_s h ?_ ?_ <;> clear h <;> intro hc h
                    · replace h := bnd h
                      obtain ⟨t26, ht26, h⟩ := h
                      obtain rfl := fneg_s ht26
                      clear ht26
                      replace h := bnd h
                      obtain ⟨t27, ht27, h⟩ := h
                      obtain rfl := fgt_s ht27
                      clear ht27
                      refine cond_s h ?_ ?_ <;> clear h <;> intro hc h
                      · obtain rfl := some_inj h
                        have h := congrArg some (hO _ rfl)
                        obtain rfl := some_inj h
                        have h := c13
                        obtain rfl := some_inj h
                        have h := congrArg some (hO _ rfl)
                        obtain rfl := some_inj h
                        have h := c6
                        have h := some_inj h
                        cases h
                        exact hK _ (hS.pick (A := [_, _]) [] rfl)
                      · obtain rfl := some_inj h
                        exact hX _ rfl _ _ ⟨_, rfl, rfl, hS⟩
                    · obtain rfl := some_inj h
                      have h := congrArg some (hO _ rfl)
                      obtain rfl := some_inj h
                      have h := c13
                      obtain rfl := some_inj h
                      have h := congrArg some (hO _ rfl)
                      obtain rfl := some_inj h
                      have h := c6
                      have h := some_inj h
                      cases h
                      exact hK _ (hS.pick (A := [_, _]) [] rfl)
                  · obtain rfl := some_inj h
                    have h := congrArg some (hO _ rfl)
                    obtain rfl := some_inj h
                    exact hJ13 _ _ ⟨rfl, rfl, hS⟩
                · clear h13 hS
                  rintro s w ⟨rfl, rfl, hS⟩
                  have h := c13
                  clear c13
                  try dsimp only
                  obtain rfl := some_inj h
                  exact hX _ rfl _ _ ⟨_, _, rfl, rfl, hS⟩
            · obtain rfl := some_inj h
              have h := congrArg some (hO _ rfl)
              obtain rfl := some_inj h
              have h := c6
              have h := some_inj h
              cases h
              exact hK _ (hS.pick (A := [_, _, _]) [] rfl)
          · obtain rfl := some_inj h
            have h := congrArg some (hO _ rfl)
            obtain rfl := some_inj h
            exact hJ6 _ _ ⟨_, rfl, rfl, (hS.pick (A := [_, _]) [] rfl)⟩
        · clear h6 hS
          rintro s w ⟨z5, rfl, rfl, hS⟩
          have h := c6
          clear c6
          try dsimp only
          replace h := bnd h
          obtain ⟨⟨t28, t29, t30⟩, ho28, h⟩ := h
          refine wk_girderlaw10_laid H hS hq2 ho28 ?_; clear hS ho28; rintro a17 m17 c17 ws17 w rfl hS
          refine ⟨_, _, _, _, _, rfl, ?_⟩
          refine newM_s hS ?_; clear hS; intro r18 w hS
          refine stc_s hS rfl rfl ?_; clear hS; intro w hS
          refine stc_s hS rfl rfl ?_; clear hS; intro w hS
          refine stc_s hS rfl rfl ?_; clear hS; intro w hS
          refine ⟨_, (hS.cel mp0 rfl), ?_⟩
          refine ⟨_, (hS.cel mp0 rfl), ?_⟩
          refine ⟨_, _, _, (hS.cel mp0 rfl), ?_⟩
          replace h := bnd h
          obtain ⟨⟨t31, t32⟩, ho31, h⟩ := h
          refine wk_matrix_Norm H hS (Ent.sl mp1) ho31 ?_; clear hS ho31; rintro z19 w rfl hS
          refine ⟨_, _, rfl, ?_⟩
          replace h := bnd h
          obtain ⟨o24, h24, c24⟩ := h
          refine cutM_i (fun s w => ∃ (a20 : Option Addr) (m21 : Nat) (c22 : Nat) (ws23 : List Nat), (List.map nf ws23) = o24 ∧ s = ((a20, m21, c22), ()) ∧ Ho w0 w ((cl r18 [.int .i64 t28, .int .i64 t29, .slice a17 m17 c17] N.t_Matrix) :: (sl a17 m17 c17 (List.map (Value.float .f64) ws17) N.t_float64) :: (sl a20 m21 c22 (List.map (Value.float .f64) ws23) N.t_float64) :: L)) (fun J24 hJ24 => ?_) ?_
          · have h := h24
            clear h24
            replace hS := hS.none (α := Nat) (enc := (Value.float .f64)) (t := N.t_float64)
            refine iter_sim (fun s w t => ∃ (t34 : Int) (a25 : Option Addr) (m26 : Nat) (c27 : Nat) (ws28 : List Nat), (t34, (List.map nf ws28)) = t ∧ s = ((a25, m26, c27), t34, ()) ∧ Ho w0 w ((cl r18 [.int .i64 t28, .int .i64 t29, .slice a17 m17 c17] N.t_Matrix) :: (sl a17 m17 c17 (List.map (Value.float .f64) ws17) N.t_float64) :: (sl a25 m26 c27 (List.map (Value.float .f64) ws28) N.t_float64) :: L)) ?_ h ⟨_, _, _, _, _, rfl, rfl, (hS.pick (A := [_, _, _]) [1, 1, 0] rfl)⟩
            clear h hS
            rintro s w t X q ⟨t34, a25, m26, c27, ws28, rfl, rfl, hS⟩ h hX hO
            unfold T_girderlaw10_MatrixSizes_b9 at h
            try dsimp only
            refine ⟨_, (hS.cel mp0 rfl), ?_⟩
            refine cond_s h ?_ ?_ <;> clear h <;> intro hc h
            · replace h := bnd h
              obtain ⟨o32, h32, c32⟩ := h
              refine cutM_i (fun s w => ∃ (a29 : Option Addr) (c30 : Nat) (ws31 : List Nat), (List.map nf ws31) = o32 ∧ s = ((a29, (m26 + 1), c30), ()) ∧ Ho w0 w ((sl a29 (m26 + 1) c30 (List.map (Value.float .f64) ws31) N.t_float64) :: (cl r18 [.int .i64 t28, .int .i64 t29, .slice a17 m17 c17] N.t_Matrix) :: (sl a17 m17 c17 (List.map (Value.float .f64) ws17) N.t_float64) :: L)) (fun J32 hJ32 => ?_) ?_
              · have h := h32
                clear h32
                replace h := bnd h
                obtain ⟨t37, ht37, h⟩ := h
                obtain rfl : (List.map nf ([4607182418800017408] : List Nat)) = t37 := some_inj ht37
                clear ht37
                refine lit_s (ks := [4607182418800017408]) (enc := (Value.float .f64)) (m := 1) hS rfl rfl ?_; clear hS; intro r33 w hS
                replace h := bnd h
                obtain ⟨t38, ht38, h⟩ := h
                obtain ⟨rfl, kt38⟩ := appF ht38
                clear ht38
                replace hS := ro3 hS
                refine app_s hS kt38 ((Ent.sl mp1).now (fun _ h => h) hS) (fun _ => rfl) rfl ?_; clear hS kt38; intro a34 c34 w hS
                replace h := bnd h
                obtain ⟨t39, ht39, h⟩ := h
                obtain rfl := lenE ht39 ((hq3.mono tl4).now (fun _ h => h) hS)
                clear ht39
                refine cond_s h ?_ ?_ <;> clear h <;> intro hc h
                · replace h := bnd h
                  obtain ⟨t40, ht40, h⟩ := h
                  obtain ⟨q35x, q35l, q35r⟩ := atE ht40
                  clear ht40
                  refine idx_s ((hq3.mono tl4).now (fun _ h => h) hS) q35x q35l q35r ?_; intro b36 hb36
                  refine ⟨_, rd_get ((hq3.mono tl4).now (fun _ h => h) hS) hb36 q35x, ?_⟩
                  replace h := bnd h
                  obtain ⟨o38, h38, c38⟩ := h
                  refine cutM_i (fun s w => ∃ (ws37 : List Nat), (List.map nf ws37) = o38 ∧ s = (()) ∧ Ho w0 w ((sl a34 (m26 + 1) c34 (List.map (Value.float .f64) ws37) N.t_float64) :: (cl r18 [.int .i64 t28, .int .i64 t29, .slice a17 m17 c17] N.t_Matrix) :: (sl a17 m17 c17 (List.map (Value.float .f64) ws17) N.t_float64) :: L)) (fun J38 hJ38 => ?_) ?_
                  · have h := h38
                    clear h38
                    refine cond_s h ?_ ?_ <;> clear h <;> intro hc h
                    · replace h := bnd h
                      obtain ⟨t42, ht42, h⟩ := h
                      obtain ⟨z39, rfl, q40x, q40l, q40r⟩ := atF ht42
                      clear ht42
                      refine idx_s ((Ent.sl mp0).now (fun _ h => h) hS) q40x q40l q40r ?_; intro b41 hb41
                      replace h := bnd h
                      obtain ⟨t43, ht43, h⟩ := h
                      obtain rfl := setF ht43
                      clear ht43
                      refine sto_s hS hb41 q40r ?_; clear hS; intro w hS
                      obtain rfl := some_inj h
                      exact hJ38 _ _ ⟨_, rfl, rfl, (hS.pick (A := [_, _, _, _]) [0, 1, 1] rfl)⟩
                    · obtain rfl := some_inj h
                      exact hJ38 _ _ ⟨_, rfl, rfl, (hS.pick (A := [_, _, _, _]) [0, 1, 1] rfl)⟩
                  · clear h38 hS
                    rintro s w ⟨ws37, rfl, rfl, hS⟩
                    have h := c38
                    clear c38
                    try dsimp only
                    obtain rfl := some_inj h
                    exact hJ32 _ _ ⟨_, _, _, rfl, rfl, hS⟩
                · replace h := bnd h
                  obtain ⟨o42, h42, c42⟩ := h
                  refine cutM_i (fun s w =>  () = o42 ∧ s = (()) ∧ Ho w0 w ((sl a34 (m26 + 1) c34 (List.map (Value.float .f64) (ws28 ++ [4607182418800017408])) N.t_float64) :: (cl r18 [.int .i64 t28, .int .i64 t29, .slice a17 m17 c17] N.t_Matrix) :: (sl a17 m17 c17 (List.map (Value.float .f64) ws17) N.t_float64) :: L)) (fun J42 hJ42 => ?_) ?_
                  · have h := h42
                    clear h42
                    obtain rfl := some_inj h
                    exact hJ42 _ _ ⟨rfl, rfl, (hS.pick (A := [_, _, _, _]) [0, 1, 1] rfl)⟩
                  · clear h42 hS
                    rintro s w ⟨rfl, rfl, hS⟩
                    have h := c42
                    clear c42
                    try dsimp only
                    obtain rfl := some_inj h
                    exact hJ32 _ _ ⟨_, _, _, rfl, rfl, hS⟩
              · clear h32 hS
                rintro s w ⟨a29, c30, ws31, rfl, rfl, hS⟩
                have h := c32
                clear c32
                try dsimp only
                obtain rfl := some_inj h
                exact hX _ rfl _ _ ⟨_, _, _, _, _, rfl, rfl, (hS.pick (A := [_, _, _]) [1, 1, 0] rfl)⟩
            · obtain rfl := some_inj h
              have h := congrArg some (hO _ rfl)
              obtain rfl := some_inj h
              exact hJ24 _ _ ⟨_, _, _, _, rfl, rfl, hS⟩
          · clear h24 hS
            rintro s w ⟨a20, m21, c22, ws23, rfl, rfl, hS⟩
            have h := c24
            clear c24
            try dsimp only
            refine ⟨_, (hS.cel mp0 rfl), ?_⟩
            refine ⟨_, (hS.cel mp0 rfl), ?_⟩
            refine ⟨_, _, _, (hS.cel mp0 rfl), ?_⟩
            replace h := bnd h
            obtain ⟨⟨t44, t45⟩, ho44, h⟩ := h
            refine wk_matrix_Apply H hS (Ent.sl mp1) (Ent.sl mp2) ho44 ?_; clear hS ho44; rintro a43 m43 c43 ws43 w rfl hS
            refine ⟨_, _, _, _, rfl, ?_⟩
            replace h := bnd h
            obtain ⟨o44, h44, c44⟩ := h
            refine cutM_i (fun s w => ∃ (t46 : Bool), t46 = o44 ∧ s = (t46, ()) ∧ Ho w0 w ((sl a43 m43 c43 (List.map (Value.float .f64) ws43) N.t_float64) :: L)) (fun J44 hJ44 => ?_) ?_
            · have h := h44
              clear h44
              refine cond_s h ?_ ?_ <;> clear h <;> intro hc h
              · refine cond_s h ?_ ?_ <;> clear h <;> intro hc h
                · replace h := bnd h
                  obtain ⟨t47, ht47, h⟩ := h
                  obtain rfl := lenF ht47 ((Ent.sl mp0).now (fun _ h => h) hS)
                  clear ht47
                  refine ⟨_, (hS.cel mp1 rfl), ?_⟩
                  obtain rfl := some_inj h
                  exact hJ44 _ _ ⟨_, rfl, rfl, (hS.pick (A := [_, _, _, _]) [0] rfl)⟩
                · obtain rfl := some_inj h
                  exact hJ44 _ _ ⟨_, rfl, rfl, (hS.pick (A := [_, _, _, _]) [0] rfl)⟩
              · obtain rfl := some_inj h
                exact hJ44 _ _ ⟨_, rfl, rfl, (hS.pick (A := [_, _, _, _]) [0] rfl)⟩
            · clear h44 hS
              rintro s w ⟨t46, rfl, rfl, hS⟩
              have h := c44
              clear c44
              try dsimp only
              refine cond_s h ?_ ?_ <;> clear h <;> intro hc h
              · have h := some_inj h
                cases h
                exact hK _ (hS.pick (A := [_]) [] rfl)
              · replace h := bnd h
                obtain ⟨o45, h45, c45⟩ := h
                refine cutM_i (fun s w =>  .inl () = o45 ∧ s = (()) ∧ Ho w0 w (L)) (fun J45 hJ45 => ?_) ?_
                · have h := h45
                  clear h45
                  refine iter_sim (fun s w t => ∃ (t48 : Int), t48 = t ∧ s = (t48, ()) ∧ Ho w0 w ((sl a43 m43 c43 (List.map (Value.float .f64) ws43) N.t_float64) :: L)) ?_ h ⟨_, rfl, rfl, hS⟩
                  clear h hS
                  rintro s w t X q ⟨t48, rfl, rfl, hS⟩ h hX hO
                  unfold T_girderlaw10_MatrixSizes_b11 at h
                  try dsimp only
                  replace h := bnd h
                  obtain ⟨t49, ht49, h⟩ := h
                  obtain rfl := lenF ht49 ((Ent.sl mp0).now (fun _ h => h) hS)
                  clear ht49
                  refine cond_s h ?_ ?_ <;> clear h <;> intro hc h
                  · replace h := bnd h
                    obtain ⟨t50, ht50, h⟩ := h
                    obtain ⟨z46, rfl, q47x, q47l, q47r⟩ := atF ht50
                    clear ht50
                    refine idx_s ((Ent.sl mp0).now (fun _ h => h) hS) q47x q47l q47r ?_; intro b48 hb48
                    refine ⟨_, rd_get ((Ent.sl mp0).now (fun _ h => h) hS) hb48 q47x, ?_⟩
                    replace h := bnd h
                    obtain ⟨t51, ht51, h⟩ := h
                    obtain rfl := fgt_s ht51
                    clear ht51
                    refine cond_s h ?_ ?_ <;> clear h <;> intro hc h
                    · replace h := bnd h
                      obtain ⟨t52, ht52, h⟩ := h
                      obtain ⟨z49, rfl, q50x, q50l, q50r⟩ := atF ht52
                      clear ht52
                      refine idx_s ((Ent.sl mp0).now (fun _ h => h) hS) q50x q50l q50r ?_; intro b51 hb51
                      refine ⟨_, rd_get ((Ent.sl mp0).now (fun _ h => h) hS) hb51 q50x, ?_⟩
                      replace h := bnd h
                      obtain ⟨t53, ht53, h⟩ := h
                      obtain rfl := fneg_s ht53
                      clear ht53
                      replace h := bnd h
                      obtain ⟨t54, ht54, h⟩ := h
                      obtain rfl := fgt_s ht54
                      clear ht54
                      refine cond_s h ?_ ?_ <;> clear h <;> intro hc h
                      · obtain rfl := some_inj h
                        have h := congrArg some (hO _ rfl)
                        obtain rfl := some_inj h
                        have h := c45
                        have h := some_inj h
                        cases h
                        exact hK _ (hS.pick (A := [_]) [] rfl)
                      · obtain rfl := some_inj h
                        exact hX _ rfl _ _ ⟨_, rfl, rfl, hS⟩
                    · obtain rfl := some_inj h
                      have h := congrArg some (hO _ rfl)
                      obtain rfl := some_inj h
                      have h := c45
                      have h := some_inj h
                      cases h
                      exact hK _ (hS.pick (A := [_]) [] rfl)
                  · obtain rfl := some_inj h
                    have h := congrArg some (hO _ rfl)
                    obtain rfl := some_inj h
                    exact hJ45 _ _ ⟨rfl, rfl, (hS.pick (A := [_]) [] rfl)⟩
                · clear h45 hS
                  rintro s w ⟨rfl, rfl, hS⟩
                  have h := c45
                  clear c45
                  try dsimp only
                  replace h := bnd h
                  obtain ⟨t55, ht55, h⟩ := h
                  obtain rfl := feq_s ht55
                  clear ht55
                  refine cond_s h ?_ ?_ <;> clear h <;> intro hc h
                  · replace h := bnd h
                    obtain ⟨t56, ht56, h⟩ := h
                    refine wk_girderlaw10_awake H hS  ht56 ?_; clear hS ht56; rintro w hS
                    refine ⟨_, rfl, ?_⟩
                    have h := some_inj h
                    cases h
                    exact hK _ hS
                  · have h := some_inj h
                    cases h
                    exact hK _ hS

end Go.Eng
