/-
 Each function comes to what its function of plain Lean says, printed by a program of the session. No condition.
-/
import Derived.Test.YtmecjaojkegamaaGreatDoorWk1
set_option linter.unusedSimpArgs false
set_option linter.unnecessarySimpa false
set_option linter.unusedSectionVars false
set_option linter.unusedVariables false
set_option maxRecDepth 100000
set_option maxHeartbeats 4000000
namespace Go.Eng
open Go

theorem wk_girderref02_float {N : Nums} {P : Program} (H : AllOk N P) {w0 w : World} {L : List It} {q0 : Bool} {q1 : Int} {q2 : Int} {u0 : Nat} (hS : Ho w0 w (L))  (hx : T_girderref02_float q0 q1 q2 = some u0) {K : Value → World → Prop} (hK : ∀ (z0 : Nat) (w1 : World), nf z0 = u0 → Ho w0 w1 (L) → K (.float .f64 z0) w1) : CallsX P N.f_girderref02_float #[.bool q0, .int .u64 q1, .int .i64 q2] w K := by
 refine H.girderref02_float q0 q1 q2 w _ ?_
 unfold S_girderref02_float
 unfold T_girderref02_float at hx
 have h := hx
 clear hx
 try dsimp only
 obtain ⟨o1, h1, c1⟩ := bnd h
 refine cutM_i (fun s w => ∃ (t1 : Int), t1 = o1 ∧ s = (t1, ()) ∧ Ho w0 w (L)) (fun J1 hJ1 => ?_) ?_
 ·
  have h := h1
  clear h1
  refine cond_s h ?_ ?_ <;> clear h <;> intro hc h
  ·
   obtain rfl := some_inj h
   exact hJ1 _ _ ⟨_, rfl, rfl, hS⟩
  ·
   obtain rfl := some_inj h
   exact hJ1 _ _ ⟨_, rfl, rfl, hS⟩
 ·
  clear h1 hS
  rintro s w ⟨t1, rfl, rfl, hS⟩
  have h := c1
  clear c1
  try dsimp only
  obtain ⟨o2, h2, c2⟩ := bnd h
  refine cutM_i (fun s w => ∃ (t2 : Int) (t3 : Int), (t2, t3) = o2 ∧ s = (t2, t3, ()) ∧ Ho w0 w (L)) (fun J2 hJ2 => ?_) ?_
  ·
   have h := h2
   clear h2
   refine iter_sim (fun s w t => ∃ (t4 : Int) (t5 : Int), (t4, t5) = t ∧ s = (t4, t5, ()) ∧ Ho w0 w (L)) ?_ h ⟨_, _, rfl, rfl, hS⟩
   clear h hS
   rintro s w t X q ⟨t4, t5, rfl, rfl, hS⟩ h hX hO
   unfold T_girderref02_float_b2 at h
   try dsimp only
   refine cond_s h ?_ ?_ <;> clear h <;> intro hc h
   ·
    refine ⟨by decide, ?_⟩
    refine cond_s h ?_ ?_ <;> clear h <;> intro hc h
    ·
     refine ⟨by decide, ?_⟩
     obtain rfl := some_inj h
     exact hX _ rfl _ _ ⟨_, _, rfl, rfl, hS⟩
    ·
     obtain rfl := some_inj h
     have h := congrArg some (hO _ rfl)
     obtain rfl := some_inj h
     exact hJ2 _ _ ⟨_, _, rfl, rfl, hS⟩
   ·
    obtain rfl := some_inj h
    have h := congrArg some (hO _ rfl)
    obtain rfl := some_inj h
    exact hJ2 _ _ ⟨_, _, rfl, rfl, hS⟩
  ·
   clear h2 hS
   rintro s w ⟨t2, t3, rfl, rfl, hS⟩
   have h := c2
   clear c2
   try dsimp only
   obtain ⟨⟨t6, t7⟩, ho6, h⟩ := bnd h
   refine wk_girderref01_Join H hS  ho6 ?_; clear hS ho6; rintro z3 w rfl hS
   refine ⟨_, _, rfl, ?_⟩
   have h := some_inj h
   cases h
   exact hK _ _ rfl hS

theorem wk_girderref02_Rounded {N : Nums} {P : Program} (H : AllOk N P) {w0 w : World} {L : List It} {q0_0 : Bool} {q0_1 : Option Addr} {q0_1l q0_1c : Nat} {l0_1 : List Int} {q0_2 : Int} {q1 : Int} {u0 : Nat} (hS : Ho w0 w (L)) (hq0_1 : Ent L (rdA (List.map (Value.int .u64) l0_1) q0_1 q0_1l q0_1c)) (hx : T_girderref02_Rounded q0_0 l0_1 q0_2 q1 = some u0) {K : Value → World → Prop} (hK : ∀ (z0 : Nat) (w1 : World), nf z0 = u0 → Ho w0 w1 (L) → K (.float .f64 z0) w1) : CallsX P N.f_girderref02_Rounded #[.agg #[.bool q0_0, .slice q0_1 q0_1l q0_1c, .int .i64 q0_2], .int .i8 q1] w K := by
 refine H.girderref02_Rounded q0_0 q0_1 q0_1l q0_1c q0_2 q1 w _ ?_
 unfold S_girderref02_Rounded
 unfold T_girderref02_Rounded at hx
 have h := hx
 clear hx
 try dsimp only
 refine newM_s hS ?_; clear hS; intro r1 w hS
 refine ⟨_, (hS.cel mp0 rfl), ?_⟩
 refine ⟨_, _, _, (hS.cel mp0 rfl), ?_⟩
 refine ⟨_, (hS.cel mp0 rfl), ?_⟩
 obtain ⟨t1, ht1, h⟩ := bnd h
 refine wk_girderref02_Num_Zero H hS (hq0_1.mono tl1) ht1 ?_; clear hS ht1; rintro w hS
 refine ⟨_, rfl, ?_⟩
 refine cond_s h ?_ ?_ <;> clear h <;> intro hc h
 ·
  have h := some_inj h
  cases h
  exact hK _ _ rfl (hS.pick (A := [_]) [] rfl)
 ·
  refine ⟨_, (hS.cel mp0 rfl), ?_⟩
  refine ⟨_, _, _, (hS.cel mp0 rfl), ?_⟩
  refine ⟨_, (hS.cel mp0 rfl), ?_⟩
  obtain ⟨t2, ht2, h⟩ := bnd h
  refine wk_girderref02_Num_top H hS (hq0_1.mono tl1) ht2 ?_; clear hS ht2; rintro w hS
  refine ⟨_, rfl, ?_⟩
  refine ⟨_, (hS.cel mp0 rfl), ?_⟩
  obtain ⟨o5, h5, c5⟩ := bnd h
  refine cutM_i (fun s w => ∃ (a2 : Option Addr) (m3 : Nat) (c4 : Nat) (t3 : List Int), t3 = o5 ∧ s = ((a2, m3, c4), ()) ∧ Ho w0 w ((cl r1 [.bool q0_0, .slice q0_1 q0_1l q0_1c, .int .i64 q0_2] N.t_girderref02_Num) :: (sl a2 m3 c4 (List.map (Value.int .u64) t3) N.t_uint64) :: L)) (fun J5 hJ5 => ?_) ?_
  ·
   have h := h5
   clear h5
   refine cond_s h ?_ ?_ <;> clear h <;> intro hc h
   ·
    refine ⟨_, _, _, (hS.cel mp0 rfl), ?_⟩
    refine ⟨_, (hS.cel mp0 rfl), ?_⟩
    obtain ⟨t4, ht4, h⟩ := bnd h
    refine wk_girderref02_NatUp H hS (hq0_1.mono tl1) ht4 ?_; clear hS ht4; rintro a6 m6 c6 w hS
    refine ⟨_, _, _, rfl, ?_⟩
    obtain rfl := some_inj h
    exact hJ5 _ _ ⟨_, _, _, _, rfl, rfl, (hS.pick (A := [_, _]) [1, 0] rfl)⟩
   ·
    refine ⟨_, (hS.cel mp0 rfl), ?_⟩
    refine ⟨_, _, _, (hS.cel mp0 rfl), ?_⟩
    obtain ⟨⟨t5, t6⟩, ho5, h⟩ := bnd h
    refine wk_girderref02_NatDown H hS (hq0_1.mono tl1) ho5 ?_; clear hS ho5; rintro a7 m7 c7 w hS
    refine ⟨_, _, _, _, rfl, ?_⟩
    obtain ⟨o11, h11, c11⟩ := bnd h
    refine cutM_i (fun s w => ∃ (a8 : Option Addr) (m9 : Nat) (c10 : Nat) (t7 : List Int), t7 = o11 ∧ s = ((a8, m9, c10), ()) ∧ Ho w0 w ((cl r1 [.bool q0_0, .slice q0_1 q0_1l q0_1c, .int .i64 q0_2] N.t_girderref02_Num) :: (sl a8 m9 c10 (List.map (Value.int .u64) t7) N.t_uint64) :: L)) (fun J11 hJ11 => ?_) ?_
    ·
     have h := h11
     clear h11
     refine cond_s h ?_ ?_ <;> clear h <;> intro hc h
     ·
      refine ⟨_, _, _, (hS.cel mp1 rfl), ?_⟩
      obtain ⟨⟨t8, t9⟩, ho8, h⟩ := bnd h
      refine wk_girderref02_NatDown H hS (hq0_1.mono tl2) ho8 ?_; clear hS ho8; rintro a12 m12 c12 w hS
      refine ⟨_, _, _, _, rfl, ?_⟩
      obtain ⟨o13, h13, c13⟩ := bnd h
      refine cutM_i (fun s w => ∃ (t10 : Bool), t10 = o13 ∧ s = (t10, ()) ∧ Ho w0 w ((sl a7 m7 c7 (List.map (Value.int .u64) t5) N.t_uint64) :: (cl r1 [.bool q0_0, .slice q0_1 q0_1l q0_1c, .int .i64 q0_2] N.t_girderref02_Num) :: L)) (fun J13 hJ13 => ?_) ?_
      ·
       have h := h13
       clear h13
       obtain ⟨t11, ht11, h⟩ := bnd h
       obtain rfl := lenE ht11 ((Ent.sl mp0).now (fun _ h => h) hS)
       clear ht11
       refine cond_s h ?_ ?_ <;> clear h <;> intro hc h
       ·
        obtain ⟨t12, ht12, h⟩ := bnd h
        obtain ⟨q14x, q14l, q14r⟩ := atE ht12
        clear ht12
        refine idx_s ((Ent.sl mp0).now (fun _ h => h) hS) q14x q14l q14r ?_; intro b15 hb15
        refine ⟨_, rd_get ((Ent.sl mp0).now (fun _ h => h) hS) hb15 q14x, ?_⟩
        refine ⟨by decide, ?_⟩
        obtain rfl := some_inj h
        exact hJ13 _ _ ⟨_, rfl, rfl, (hS.pick (A := [_, _, _]) [1, 1] rfl)⟩
       ·
        obtain rfl := some_inj h
        exact hJ13 _ _ ⟨_, rfl, rfl, (hS.pick (A := [_, _, _]) [1, 1] rfl)⟩
      ·
       clear h13 hS
       rintro s w ⟨t10, rfl, rfl, hS⟩
       have h := c13
       clear c13
       try dsimp only
       obtain ⟨o16, h16, c16⟩ := bnd h
       refine cutM_i (fun s w => ∃ (t13 : Int), t13 = o16 ∧ s = (t13, ()) ∧ Ho w0 w ((sl a7 m7 c7 (List.map (Value.int .u64) t5) N.t_uint64) :: (cl r1 [.bool q0_0, .slice q0_1 q0_1l q0_1c, .int .i64 q0_2] N.t_girderref02_Num) :: L)) (fun J16 hJ16 => ?_) ?_
       ·
        have h := h16
        clear h16
        refine cond_s h ?_ ?_ <;> clear h <;> intro hc h
        ·
         obtain ⟨o17, h17, c17⟩ := bnd h
         refine cutM_i (fun s w => ∃ (t14 : Int), t14 = o17 ∧ s = (t14, ()) ∧ Ho w0 w ((sl a7 m7 c7 (List.map (Value.int .u64) t5) N.t_uint64) :: (cl r1 [.bool q0_0, .slice q0_1 q0_1l q0_1c, .int .i64 q0_2] N.t_girderref02_Num) :: L)) (fun J17 hJ17 => ?_) ?_
         ·
          have h := h17
          clear h17
          refine cond_s h ?_ ?_ <;> clear h <;> intro hc h
          ·
           obtain rfl := some_inj h
           exact hJ17 _ _ ⟨_, rfl, rfl, hS⟩
          ·
           obtain rfl := some_inj h
           exact hJ17 _ _ ⟨_, rfl, rfl, hS⟩
         ·
          clear h17 hS
          rintro s w ⟨t14, rfl, rfl, hS⟩
          have h := c17
          clear c17
          try dsimp only
          obtain rfl := some_inj h
          exact hJ16 _ _ ⟨_, rfl, rfl, hS⟩
        ·
         obtain rfl := some_inj h
         exact hJ16 _ _ ⟨_, rfl, rfl, hS⟩
       ·
        clear h16 hS
        rintro s w ⟨t13, rfl, rfl, hS⟩
        have h := c16
        clear c16
        try dsimp only
        refine ⟨_, (hS.cel mp1 rfl), ?_⟩
        obtain ⟨t15, ht15, h⟩ := bnd h
        obtain rfl := lenE ht15 ((Ent.sl mp0).now (fun _ h => h) hS)
        clear ht15
        refine cond_s h ?_ ?_ <;> clear h <;> intro hc h
        ·
         obtain ⟨t16, ht16, h⟩ := bnd h
         obtain ⟨q18x, q18l, q18r⟩ := atE ht16
         clear ht16
         refine idx_s ((Ent.sl mp0).now (fun _ h => h) hS) q18x q18l q18r ?_; intro b19 hb19
         refine ⟨_, rd_get ((Ent.sl mp0).now (fun _ h => h) hS) hb19 q18x, ?_⟩
         refine ⟨by decide, ?_⟩
         refine drM_s hS ?_; clear hS; intro w hS
         obtain ⟨t17, ht17, h⟩ := bnd h
         refine wk_girderref02_up H hS  ht17 ?_; clear hS ht17; rintro w hS
         refine ⟨_, rfl, ?_⟩
         refine drM_s hS ?_; clear hS; intro w hS
         obtain ⟨o23, h23, c23⟩ := bnd h
         refine cutM_i (fun s w => ∃ (a20 : Option Addr) (m21 : Nat) (c22 : Nat) (t18 : List Int), t18 = o23 ∧ s = ((a20, m21, c22), ()) ∧ Ho w0 w ((cl r1 [.bool q0_0, .slice q0_1 q0_1l q0_1c, .int .i64 q0_2] N.t_girderref02_Num) :: (sl a20 m21 c22 (List.map (Value.int .u64) t18) N.t_uint64) :: L)) (fun J23 hJ23 => ?_) ?_
         ·
          have h := h23
          clear h23
          refine cond_s h ?_ ?_ <;> clear h <;> intro hc h
          ·
           obtain ⟨t19, ht19, h⟩ := bnd h
           refine wk_girderref02_NatOf H hS  ht19 ?_; clear hS ht19; rintro a24 m24 c24 w hS
           refine ⟨_, _, _, rfl, ?_⟩
           obtain ⟨t20, ht20, h⟩ := bnd h
           refine wk_girderref02_NatAdd H hS (Ent.sl mp1) (Ent.sl mp0) ht20 ?_; clear hS ht20; rintro a25 m25 c25 w hS
           refine ⟨_, _, _, rfl, ?_⟩
           obtain rfl := some_inj h
           exact hJ23 _ _ ⟨_, _, _, _, rfl, rfl, (hS.pick (A := [_, _, _, _]) [3, 0] rfl)⟩
          ·
           obtain rfl := some_inj h
           exact hJ23 _ _ ⟨_, _, _, _, rfl, rfl, (hS.pick (A := [_, _]) [1, 0] rfl)⟩
         ·
          clear h23 hS
          rintro s w ⟨a20, m21, c22, t18, rfl, rfl, hS⟩
          have h := c23
          clear c23
          try dsimp only
          obtain rfl := some_inj h
          exact hJ11 _ _ ⟨_, _, _, _, rfl, rfl, hS⟩
        ·
         refine drM_s hS ?_; clear hS; intro w hS
         obtain ⟨t21, ht21, h⟩ := bnd h
         refine wk_girderref02_up H hS  ht21 ?_; clear hS ht21; rintro w hS
         refine ⟨_, rfl, ?_⟩
         refine drM_s hS ?_; clear hS; intro w hS
         obtain ⟨o29, h29, c29⟩ := bnd h
         refine cutM_i (fun s w => ∃ (a26 : Option Addr) (m27 : Nat) (c28 : Nat) (t22 : List Int), t22 = o29 ∧ s = ((a26, m27, c28), ()) ∧ Ho w0 w ((cl r1 [.bool q0_0, .slice q0_1 q0_1l q0_1c, .int .i64 q0_2] N.t_girderref02_Num) :: (sl a26 m27 c28 (List.map (Value.int .u64) t22) N.t_uint64) :: L)) (fun J29 hJ29 => ?_) ?_
         ·
          have h := h29
          clear h29
          refine cond_s h ?_ ?_ <;> clear h <;> intro hc h
          ·
           obtain ⟨t23, ht23, h⟩ := bnd h
           refine wk_girderref02_NatOf H hS  ht23 ?_; clear hS ht23; rintro a30 m30 c30 w hS
           refine ⟨_, _, _, rfl, ?_⟩
           obtain ⟨t24, ht24, h⟩ := bnd h
           refine wk_girderref02_NatAdd H hS (Ent.sl mp1) (Ent.sl mp0) ht24 ?_; clear hS ht24; rintro a31 m31 c31 w hS
           refine ⟨_, _, _, rfl, ?_⟩
           obtain rfl := some_inj h
           exact hJ29 _ _ ⟨_, _, _, _, rfl, rfl, (hS.pick (A := [_, _, _, _]) [3, 0] rfl)⟩
          ·
           obtain rfl := some_inj h
           exact hJ29 _ _ ⟨_, _, _, _, rfl, rfl, (hS.pick (A := [_, _]) [1, 0] rfl)⟩
         ·
          clear h29 hS
          rintro s w ⟨a26, m27, c28, t22, rfl, rfl, hS⟩
          have h := c29
          clear c29
          try dsimp only
          obtain rfl := some_inj h
          exact hJ11 _ _ ⟨_, _, _, _, rfl, rfl, hS⟩
     ·
      obtain rfl := some_inj h
      exact hJ11 _ _ ⟨_, _, _, _, rfl, rfl, (hS.pick (A := [_, _]) [1, 0] rfl)⟩
    ·
     clear h11 hS
     rintro s w ⟨a8, m9, c10, t7, rfl, rfl, hS⟩
     have h := c11
     clear c11
     try dsimp only
     obtain rfl := some_inj h
     exact hJ5 _ _ ⟨_, _, _, _, rfl, rfl, hS⟩
  ·
   clear h5 hS
   rintro s w ⟨a2, m3, c4, t3, rfl, rfl, hS⟩
   have h := c5
   clear c5
   try dsimp only
   obtain ⟨t25, ht25, h⟩ := bnd h
   refine wk_girderref02_NatBits H hS (Ent.sl mp1) ht25 ?_; clear hS ht25; rintro w hS
   refine ⟨_, rfl, ?_⟩
   refine cond_s h ?_ ?_ <;> clear h <;> intro hc h
   ·
    refine ⟨_, (hS.cel mp0 rfl), ?_⟩
    obtain ⟨t26, ht26, h⟩ := bnd h
    refine wk_girderref02_huge H hS  ht26 ?_; clear hS ht26; rintro z32 w rfl hS
    refine ⟨_, rfl, ?_⟩
    have h := some_inj h
    cases h
    exact hK _ _ rfl (hS.pick (A := [_, _]) [] rfl)
   ·
    obtain ⟨t27, ht27, h⟩ := bnd h
    obtain rfl := lenE ht27 ((Ent.sl mp1).now (fun _ h => h) hS)
    clear ht27
    obtain ⟨o33, h33, c33⟩ := bnd h
    refine cutM_i (fun s w => ∃ (t28 : Int), t28 = o33 ∧ s = (t28, ()) ∧ Ho w0 w ((cl r1 [.bool q0_0, .slice q0_1 q0_1l q0_1c, .int .i64 q0_2] N.t_girderref02_Num) :: L)) (fun J33 hJ33 => ?_) ?_
    ·
     have h := h33
     clear h33
     refine cond_s h ?_ ?_ <;> clear h <;> intro hc h
     ·
      obtain ⟨t29, ht29, h⟩ := bnd h
      obtain ⟨q34x, q34l, q34r⟩ := atE ht29
      clear ht29
      refine idx_s ((Ent.sl mp1).now (fun _ h => h) hS) q34x q34l q34r ?_; intro b35 hb35
      refine ⟨_, rd_get ((Ent.sl mp1).now (fun _ h => h) hS) hb35 q34x, ?_⟩
      obtain rfl := some_inj h
      exact hJ33 _ _ ⟨_, rfl, rfl, (hS.pick (A := [_, _]) [0] rfl)⟩
     ·
      obtain rfl := some_inj h
      exact hJ33 _ _ ⟨_, rfl, rfl, (hS.pick (A := [_, _]) [0] rfl)⟩
    ·
     clear h33 hS
     rintro s w ⟨t28, rfl, rfl, hS⟩
     have h := c33
     clear c33
     try dsimp only
     refine ⟨_, (hS.cel mp0 rfl), ?_⟩
     obtain ⟨t30, ht30, h⟩ := bnd h
     refine wk_girderref02_float H hS  ht30 ?_; clear hS ht30; rintro z36 w rfl hS
     refine ⟨_, rfl, ?_⟩
     have h := some_inj h
     cases h
     exact hK _ _ rfl (hS.pick (A := [_]) [] rfl)

theorem wk_girderref01_fields {N : Nums} {P : Program} (H : AllOk N P) {w0 w : World} {L : List It} {q0 : Nat} {u0 : Bool} {u1 : Int} {u2 : Int} (hS : Ho w0 w (L))  (hx : T_girderref01_fields (nf q0) = some (u0, u1, u2)) {K : Value → World → Prop} (hK : ∀  (w1 : World), Ho w0 w1 (L) → K (.tuple #[.bool u0, .int .i64 u1, .int .u64 u2]) w1) : CallsX P N.f_girderref01_fields #[.float .f64 q0] w K := by
 refine H.girderref01_fields q0 w _ ?_
 unfold S_girderref01_fields
 unfold T_girderref01_fields at hx
 have h := hx
 clear hx
 try dsimp only
 obtain ⟨t1, ht1, h⟩ := bnd h
 refine wk_math_Float64bits H hS  ht1 ?_; clear hS ht1; rintro w hS
 refine ⟨_, rfl, ?_⟩
 refine ⟨by decide, ?_⟩
 refine ⟨by decide, ?_⟩
 refine ⟨by decide, ?_⟩
 refine ⟨by decide, ?_⟩
 have h := some_inj h
 cases h
 exact hK _ hS

theorem wk_girderref01_Kind {N : Nums} {P : Program} (H : AllOk N P) {w0 w : World} {L : List It} {q0 : Nat} {u0 : Int} (hS : Ho w0 w (L))  (hx : T_girderref01_Kind (nf q0) = some u0) {K : Value → World → Prop} (hK : ∀  (w1 : World), Ho w0 w1 (L) → K (.int .i64 u0) w1) : CallsX P N.f_girderref01_Kind #[.float .f64 q0] w K := by
 unfold T_girderref01_Kind at hx
 have hx := some_inj hx
 refine (kind_c H q0 w).mono ?_
 rintro _ w1 ⟨rfl, h1⟩
 have e : (if expF q0 = 2047 then (if fracF q0 = 0 then (3 : Int) else 4) else if expF q0 = 0 then (if fracF q0 = 0 then 0 else 1) else 2) = u0 := by
  rw [← hx]
  cases hn : isNaN q0 with
  | false => rw [nf_of_not hn]
  | true =>
   rw [nf_of_nan hn]
   have e1 : expF qnan = 2047 := by decide +kernel
   have e2 : fracF qnan ≠ 0 := by decide +kernel
   rw [isNaN_fields] at hn
   simp at hn
   simp [hn, e1, e2]
 rw [e]
 exact hK _ (hS.next h1)

theorem wk_girderref01_Finite {N : Nums} {P : Program} (H : AllOk N P) {w0 w : World} {L : List It} {q0 : Nat} {u0 : Bool} (hS : Ho w0 w (L))  (hx : T_girderref01_Finite (nf q0) = some u0) {K : Value → World → Prop} (hK : ∀  (w1 : World), Ho w0 w1 (L) → K (.bool u0) w1) : CallsX P N.f_girderref01_Finite #[.float .f64 q0] w K := by
 refine H.girderref01_Finite q0 w _ ?_
 unfold S_girderref01_Finite
 unfold T_girderref01_Finite at hx
 have h := hx
 clear hx
 try dsimp only
 obtain ⟨t1, ht1, h⟩ := bnd h
 refine wk_girderref01_Kind H hS  ht1 ?_; clear hS ht1; rintro w hS
 refine ⟨_, rfl, ?_⟩
 have h := some_inj h
 cases h
 exact hK _ hS

theorem wk_girderref01_Split {N : Nums} {P : Program} (H : AllOk N P) {w0 w : World} {L : List It} {q0 : Nat} {u0 : Bool} {u1 : Int} {u2 : Int} {u3 : Bool} (hS : Ho w0 w (L))  (hx : T_girderref01_Split (nf q0) = some (u0, u1, u2, u3)) {K : Value → World → Prop} (hK : ∀  (w1 : World), Ho w0 w1 (L) → K (.tuple #[.agg #[.bool u0, .int .u64 u1, .int .i64 u2], .bool u3]) w1) : CallsX P N.f_girderref01_Split #[.float .f64 q0] w K := by
 refine H.girderref01_Split q0 w _ ?_
 unfold S_girderref01_Split
 unfold T_girderref01_Split at hx
 have h := hx
 clear hx
 try dsimp only
 refine newM_s hS ?_; clear hS; intro r1 w hS
 obtain ⟨t1, ht1, h⟩ := bnd h
 refine wk_girderref01_Finite H hS  ht1 ?_; clear hS ht1; rintro w hS
 refine ⟨_, rfl, ?_⟩
 refine cond_s h ?_ ?_ <;> clear h <;> intro hc h
 ·
  refine stc_s hS rfl rfl ?_; clear hS; intro w hS
  refine stc_s hS rfl rfl ?_; clear hS; intro w hS
  refine stc_s hS rfl rfl ?_; clear hS; intro w hS
  refine ⟨_, (hS.cel mp0 rfl), ?_⟩
  refine ⟨_, (hS.cel mp0 rfl), ?_⟩
  refine ⟨_, (hS.cel mp0 rfl), ?_⟩
  have h := some_inj h
  cases h
  exact hK _ (hS.pick (A := [_]) [] rfl)
 ·
  obtain ⟨⟨t2, t3, t4⟩, ho2, h⟩ := bnd h
  refine wk_girderref01_fields H hS  ho2 ?_; clear hS ho2; rintro w hS
  refine ⟨_, _, _, rfl, ?_⟩
  refine newM_s hS ?_; clear hS; intro r2 w hS
  refine stc_s hS rfl rfl ?_; clear hS; intro w hS
  refine stc_s hS rfl rfl ?_; clear hS; intro w hS
  refine stc_s hS rfl rfl ?_; clear hS; intro w hS
  obtain ⟨o3, h3, c3⟩ := bnd h
  refine cutM_i (fun s w => ∃ (t5 : Int) (t6 : Int), (t5, t6) = o3 ∧ s = (()) ∧ Ho w0 w ((cl r2 [.bool t2, .int .u64 t5, .int .i64 t6] N.t_Parts) :: (cl r1 [.bool false, .int .u64 0, .int .i64 0] N.t_Parts) :: L)) (fun J3 hJ3 => ?_) ?_
  ·
   have h := h3
   clear h3
   refine cond_s h ?_ ?_ <;> clear h <;> intro hc h
   ·
    refine stc_s hS rfl rfl ?_; clear hS; intro w hS
    refine stc_s hS rfl rfl ?_; clear hS; intro w hS
    obtain rfl := some_inj h
    exact hJ3 _ _ ⟨_, _, rfl, rfl, hS⟩
   ·
    obtain rfl := some_inj h
    exact hJ3 _ _ ⟨_, _, rfl, rfl, hS⟩
  ·
   clear h3 hS
   rintro s w ⟨t5, t6, rfl, rfl, hS⟩
   have h := c3
   clear c3
   try dsimp only
   refine ⟨_, (hS.cel mp0 rfl), ?_⟩
   obtain ⟨o4, h4, c4⟩ := bnd h
   refine cutM_i (fun s w => ∃ (t7 : Int), t7 = o4 ∧ s = (()) ∧ Ho w0 w ((cl r2 [.bool t2, .int .u64 t5, .int .i64 t7] N.t_Parts) :: (cl r1 [.bool false, .int .u64 0, .int .i64 0] N.t_Parts) :: L)) (fun J4 hJ4 => ?_) ?_
   ·
    have h := h4
    clear h4
    refine cond_s h ?_ ?_ <;> clear h <;> intro hc h
    ·
     refine stc_s hS rfl rfl ?_; clear hS; intro w hS
     obtain rfl := some_inj h
     exact hJ4 _ _ ⟨_, rfl, rfl, hS⟩
    ·
     obtain rfl := some_inj h
     exact hJ4 _ _ ⟨_, rfl, rfl, hS⟩
   ·
    clear h4 hS
    rintro s w ⟨t7, rfl, rfl, hS⟩
    have h := c4
    clear c4
    try dsimp only
    obtain ⟨o5, h5, c5⟩ := bnd h
    refine cutM_i (fun s w => ∃ (t8 : Int) (t9 : Int), (t8, t9) = o5 ∧ s = (()) ∧ Ho w0 w ((cl r2 [.bool t2, .int .u64 t8, .int .i64 t9] N.t_Parts) :: (cl r1 [.bool false, .int .u64 0, .int .i64 0] N.t_Parts) :: L)) (fun J5 hJ5 => ?_) ?_
    ·
     have h := h5
     clear h5
     refine iter_sim (fun s w t => ∃ (t10 : Int) (t11 : Int), (t10, t11) = t ∧ s = (()) ∧ Ho w0 w ((cl r2 [.bool t2, .int .u64 t10, .int .i64 t11] N.t_Parts) :: (cl r1 [.bool false, .int .u64 0, .int .i64 0] N.t_Parts) :: L)) ?_ h ⟨_, _, rfl, rfl, hS⟩
     clear h hS
     rintro s w t X q ⟨t10, t11, rfl, rfl, hS⟩ h hX hO
     unfold T_girderref01_Split_b2 at h
     try dsimp only
     refine ⟨_, (hS.cel mp0 rfl), ?_⟩
     refine cond_s h ?_ ?_ <;> clear h <;> intro hc h
     ·
      refine ⟨_, (hS.cel mp0 rfl), ?_⟩
      refine ⟨by decide, ?_⟩
      refine cond_s h ?_ ?_ <;> clear h <;> intro hc h
      ·
       refine ⟨_, (hS.cel mp0 rfl), ?_⟩
       refine ⟨by decide, ?_⟩
       refine stc_s hS rfl rfl ?_; clear hS; intro w hS
       refine ⟨_, (hS.cel mp0 rfl), ?_⟩
       refine stc_s hS rfl rfl ?_; clear hS; intro w hS
       obtain rfl := some_inj h
       exact hX _ rfl _ _ ⟨_, _, rfl, rfl, hS⟩
      ·
       obtain rfl := some_inj h
       have h := congrArg some (hO _ rfl)
       obtain rfl := some_inj h
       exact hJ5 _ _ ⟨_, _, rfl, rfl, hS⟩
     ·
      obtain rfl := some_inj h
      have h := congrArg some (hO _ rfl)
      obtain rfl := some_inj h
      exact hJ5 _ _ ⟨_, _, rfl, rfl, hS⟩
    ·
     clear h5 hS
     rintro s w ⟨t8, t9, rfl, rfl, hS⟩
     have h := c5
     clear c5
     try dsimp only
     refine ⟨_, (hS.cel mp0 rfl), ?_⟩
     refine ⟨_, (hS.cel mp0 rfl), ?_⟩
     refine ⟨_, (hS.cel mp0 rfl), ?_⟩
     replace hS := ro1 hS
     refine stc_s hS rfl rfl ?_; clear hS; intro w hS
     refine stc_s hS rfl rfl ?_; clear hS; intro w hS
     refine stc_s hS rfl rfl ?_; clear hS; intro w hS
     refine ⟨_, (hS.cel mp0 rfl), ?_⟩
     refine ⟨_, (hS.cel mp0 rfl), ?_⟩
     refine ⟨_, (hS.cel mp0 rfl), ?_⟩
     have h := some_inj h
     cases h
     exact hK _ (hS.pick (A := [_, _]) [] rfl)

theorem wk_girderref02_Of {N : Nums} {P : Program} (H : AllOk N P) {w0 w : World} {L : List It} {q0 : Nat} {u0 : Bool} {u1 : List Int} {u2 : Int} {u3 : Int} (hS : Ho w0 w (L))  (hx : T_girderref02_Of (nf q0) = some (u0, u1, u2, u3)) {K : Value → World → Prop} (hK : ∀ (a1 : Option Addr) (n1 c1 : Nat) (w1 : World), Ho w0 w1 ((sl a1 n1 c1 (List.map (Value.int .u64) u1) N.t_uint64) :: L) → K (.tuple #[.agg #[.bool u0, .slice a1 n1 c1, .int .i64 u2], .int .i64 u3]) w1) : CallsX P N.f_girderref02_Of #[.float .f64 q0] w K := by
 refine H.girderref02_Of q0 w _ ?_
 unfold S_girderref02_Of
 unfold T_girderref02_Of at hx
 have h := hx
 clear hx
 try dsimp only
 refine newM_s hS ?_; clear hS; intro r1 w hS
 obtain ⟨⟨t1, t2, t3, t4⟩, ho1, h⟩ := bnd h
 refine wk_girderref01_Split H hS  ho1 ?_; clear hS ho1; rintro w hS
 refine ⟨_, _, _, _, rfl, ?_⟩
 refine newM_s hS ?_; clear hS; intro r2 w hS
 refine stc_s hS rfl rfl ?_; clear hS; intro w hS
 refine stc_s hS rfl rfl ?_; clear hS; intro w hS
 refine stc_s hS rfl rfl ?_; clear hS; intro w hS
 refine cond_s h ?_ ?_ <;> clear h <;> intro hc h
 ·
  replace hS := ro1 hS
  refine stc_s hS rfl rfl ?_; clear hS; intro w hS
  refine stc_s hS rfl rfl ?_; clear hS; intro w hS
  refine stc_s hS rfl rfl ?_; clear hS; intro w hS
  refine ⟨_, (hS.cel mp0 rfl), ?_⟩
  refine ⟨_, _, _, (hS.cel mp0 rfl), ?_⟩
  refine ⟨_, (hS.cel mp0 rfl), ?_⟩
  replace hS := hS.none (α := Int) (enc := (Value.int .u64)) (t := N.t_uint64)
  have h := some_inj h
  cases h
  exact hK _ _ _ _ (hS.pick (A := [_, _, _]) [0] rfl)
 ·
  refine ⟨_, (hS.cel mp0 rfl), ?_⟩
  refine ⟨_, (hS.cel mp0 rfl), ?_⟩
  obtain ⟨t5, ht5, h⟩ := bnd h
  obtain rfl : ([t2] : List Int) = t5 := some_inj ht5
  clear ht5
  refine lit_s (ks := [t2]) (enc := (Value.int .u64)) (m := 1) hS rfl rfl ?_; clear hS; intro r3 w hS
  refine ⟨_, (hS.cel mp1 rfl), ?_⟩
  obtain ⟨⟨t6, t7, t8, t9⟩, ho6, h⟩ := bnd h
  refine wk_girderref02_Norm H hS (Ent.sl mp0) ho6 ?_; clear hS ho6; rintro a4 m4 c4 w hS
  refine ⟨_, _, _, _, _, _, rfl, ?_⟩
  replace hS := ro3 hS
  refine stc_s hS rfl rfl ?_; clear hS; intro w hS
  refine stc_s hS rfl rfl ?_; clear hS; intro w hS
  refine stc_s hS rfl rfl ?_; clear hS; intro w hS
  refine ⟨_, (hS.cel mp0 rfl), ?_⟩
  refine ⟨_, _, _, (hS.cel mp0 rfl), ?_⟩
  refine ⟨_, (hS.cel mp0 rfl), ?_⟩
  have h := some_inj h
  cases h
  exact hK _ _ _ _ (hS.pick (A := [_, _, _, _]) [1] rfl)

theorem wk_girderref02_Num_Sign {N : Nums} {P : Program} (H : AllOk N P) {w0 w : World} {L : List It} {q0_0 : Bool} {q0_1 : Option Addr} {q0_1l q0_1c : Nat} {l0_1 : List Int} {q0_2 : Int} {u0 : Int} (hS : Ho w0 w (L)) (hq0_1 : Ent L (rdA (List.map (Value.int .u64) l0_1) q0_1 q0_1l q0_1c)) (hx : T_girderref02_Num_Sign q0_0 l0_1 q0_2 = some u0) {K : Value → World → Prop} (hK : ∀  (w1 : World), Ho w0 w1 (L) → K (.int .i64 u0) w1) : CallsX P N.f_girderref02_Num_Sign #[.agg #[.bool q0_0, .slice q0_1 q0_1l q0_1c, .int .i64 q0_2]] w K := by
 refine H.girderref02_Num_Sign q0_0 q0_1 q0_1l q0_1c q0_2 w _ ?_
 unfold S_girderref02_Num_Sign
 unfold T_girderref02_Num_Sign at hx
 have h := hx
 clear hx
 try dsimp only
 refine newM_s hS ?_; clear hS; intro r1 w hS
 refine ⟨_, (hS.cel mp0 rfl), ?_⟩
 refine ⟨_, _, _, (hS.cel mp0 rfl), ?_⟩
 refine ⟨_, (hS.cel mp0 rfl), ?_⟩
 obtain ⟨t1, ht1, h⟩ := bnd h
 refine wk_girderref02_Num_Zero H hS (hq0_1.mono tl1) ht1 ?_; clear hS ht1; rintro w hS
 refine ⟨_, rfl, ?_⟩
 refine cond_s h ?_ ?_ <;> clear h <;> intro hc h
 ·
  have h := some_inj h
  cases h
  exact hK _ (hS.pick (A := [_]) [] rfl)
 ·
  refine ⟨_, (hS.cel mp0 rfl), ?_⟩
  refine cond_s h ?_ ?_ <;> clear h <;> intro hc h
  ·
   have h := some_inj h
   cases h
   exact hK _ (hS.pick (A := [_]) [] rfl)
  ·
   have h := some_inj h
   cases h
   exact hK _ (hS.pick (A := [_]) [] rfl)

theorem wk_girderref02_Minus {N : Nums} {P : Program} (H : AllOk N P) {w0 w : World} {L : List It} {q0_0 : Bool} {q0_1 : Option Addr} {q0_1l q0_1c : Nat} {l0_1 : List Int} {q0_2 : Int} {u0 : Bool} {u1 : List Int} {u2 : Int} (hS : Ho w0 w (L)) (hq0_1 : Ent L (rdA (List.map (Value.int .u64) l0_1) q0_1 q0_1l q0_1c)) (hx : T_girderref02_Minus q0_0 l0_1 q0_2 = some (u0, u1, u2)) {K : Value → World → Prop} (hK : ∀  (w1 : World), l0_1 = u1 → Ho w0 w1 (L) → K (.agg #[.bool u0, .slice q0_1 q0_1l q0_1c, .int .i64 u2]) w1) : CallsX P N.f_girderref02_Minus #[.agg #[.bool q0_0, .slice q0_1 q0_1l q0_1c, .int .i64 q0_2]] w K := by
 refine H.girderref02_Minus q0_0 q0_1 q0_1l q0_1c q0_2 w _ ?_
 unfold S_girderref02_Minus
 unfold T_girderref02_Minus at hx
 have h := hx
 clear hx
 try dsimp only
 refine newM_s hS ?_; clear hS; intro r1 w hS
 refine newM_s hS ?_; clear hS; intro r2 w hS
 refine ⟨_, (hS.cel mp1 rfl), ?_⟩
 refine ⟨_, _, _, (hS.cel mp1 rfl), ?_⟩
 refine ⟨_, (hS.cel mp1 rfl), ?_⟩
 refine stc_s hS rfl rfl ?_; clear hS; intro w hS
 refine stc_s hS rfl rfl ?_; clear hS; intro w hS
 refine stc_s hS rfl rfl ?_; clear hS; intro w hS
 refine ⟨_, (hS.cel mp0 rfl), ?_⟩
 refine ⟨_, _, _, (hS.cel mp0 rfl), ?_⟩
 refine ⟨_, (hS.cel mp0 rfl), ?_⟩
 have h := some_inj h
 cases h
 exact hK _ rfl (hS.pick (A := [_, _]) [] rfl)

theorem wk_girderref02_NatCmp {N : Nums} {P : Program} (H : AllOk N P) {w0 w : World} {L : List It} {q0 : Option Addr} {q0l q0c : Nat} {l0 : List Int} {q1 : Option Addr} {q1l q1c : Nat} {l1 : List Int} {u0 : Int} (hS : Ho w0 w (L)) (hq0 : Ent L (rdA (List.map (Value.int .u64) l0) q0 q0l q0c)) (hq1 : Ent L (rdA (List.map (Value.int .u64) l1) q1 q1l q1c)) (hx : T_girderref02_NatCmp l0 l1 = some u0) {K : Value → World → Prop} (hK : ∀  (w1 : World), Ho w0 w1 (L) → K (.int .i64 u0) w1) : CallsX P N.f_girderref02_NatCmp #[.slice q0 q0l q0c, .slice q1 q1l q1c] w K := by
 refine H.girderref02_NatCmp q0 q0l q0c q1 q1l q1c w _ ?_
 unfold S_girderref02_NatCmp
 unfold T_girderref02_NatCmp at hx
 have h := hx
 clear hx
 try dsimp only
 obtain ⟨t1, ht1, h⟩ := bnd h
 refine wk_girderref02_NatTrim H hS hq0 ht1 ?_; clear hS ht1; rintro a1 m1 c1 w hS
 refine ⟨_, _, _, rfl, ?_⟩
 obtain ⟨t2, ht2, h⟩ := bnd h
 refine wk_girderref02_NatTrim H hS (hq1.mono tl1) ht2 ?_; clear hS ht2; rintro a2 m2 c2 w hS
 refine ⟨_, _, _, rfl, ?_⟩
 obtain ⟨t3, ht3, h⟩ := bnd h
 obtain rfl := lenE ht3 ((Ent.sl mp1).now (fun _ h => h) hS)
 clear ht3
 obtain ⟨t4, ht4, h⟩ := bnd h
 obtain rfl := lenE ht4 ((Ent.sl mp0).now (fun _ h => h) hS)
 clear ht4
 refine cond_s h ?_ ?_ <;> clear h <;> intro hc h
 ·
  obtain ⟨t5, ht5, h⟩ := bnd h
  obtain rfl := lenE ht5 ((Ent.sl mp1).now (fun _ h => h) hS)
  clear ht5
  obtain ⟨t6, ht6, h⟩ := bnd h
  obtain rfl := lenE ht6 ((Ent.sl mp0).now (fun _ h => h) hS)
  clear ht6
  refine cond_s h ?_ ?_ <;> clear h <;> intro hc h
  ·
   have h := some_inj h
   cases h
   exact hK _ (hS.pick (A := [_, _]) [] rfl)
  ·
   have h := some_inj h
   cases h
   exact hK _ (hS.pick (A := [_, _]) [] rfl)
 ·
  obtain ⟨t7, ht7, h⟩ := bnd h
  obtain rfl := lenE ht7 ((Ent.sl mp1).now (fun _ h => h) hS)
  clear ht7
  obtain ⟨o3, h3, c3⟩ := bnd h
  refine cutM_i (fun s w =>  .inl () = o3 ∧ s = (()) ∧ Ho w0 w (L)) (fun J3 hJ3 => ?_) ?_
  ·
   have h := h3
   clear h3
   refine iter_sim (fun s w t => ∃ (t8 : Int), t8 = t ∧ s = (t8, ()) ∧ Ho w0 w ((sl a2 m2 c2 (List.map (Value.int .u64) t2) N.t_uint64) :: (sl a1 m1 c1 (List.map (Value.int .u64) t1) N.t_uint64) :: L)) ?_ h ⟨_, rfl, rfl, hS⟩
   clear h hS
   rintro s w t X q ⟨t8, rfl, rfl, hS⟩ h hX hO
   unfold T_girderref02_NatCmp_b2 at h
   try dsimp only
   refine cond_s h ?_ ?_ <;> clear h <;> intro hc h
   ·
    obtain ⟨t9, ht9, h⟩ := bnd h
    obtain ⟨q4x, q4l, q4r⟩ := atE ht9
    clear ht9
    refine idx_s ((Ent.sl mp1).now (fun _ h => h) hS) q4x q4l q4r ?_; intro b5 hb5
    refine ⟨_, rd_get ((Ent.sl mp1).now (fun _ h => h) hS) hb5 q4x, ?_⟩
    obtain ⟨t10, ht10, h⟩ := bnd h
    obtain ⟨q6x, q6l, q6r⟩ := atE ht10
    clear ht10
    refine idx_s ((Ent.sl mp0).now (fun _ h => h) hS) q6x q6l q6r ?_; intro b7 hb7
    refine ⟨_, rd_get ((Ent.sl mp0).now (fun _ h => h) hS) hb7 q6x, ?_⟩
    refine drM_s hS ?_; clear hS; intro w hS
    refine cond_s h ?_ ?_ <;> clear h <;> intro hc h
    ·
     obtain rfl := some_inj h
     have h := congrArg some (hO _ rfl)
     obtain rfl := some_inj h
     have h := c3
     have h := some_inj h
     cases h
     exact hK _ (hS.pick (A := [_, _]) [] rfl)
    ·
     obtain ⟨t11, ht11, h⟩ := bnd h
     obtain ⟨q8x, q8l, q8r⟩ := atE ht11
     clear ht11
     refine idx_s ((Ent.sl mp1).now (fun _ h => h) hS) q8x q8l q8r ?_; intro b9 hb9
     refine ⟨_, rd_get ((Ent.sl mp1).now (fun _ h => h) hS) hb9 q8x, ?_⟩
     obtain ⟨t12, ht12, h⟩ := bnd h
     obtain ⟨q10x, q10l, q10r⟩ := atE ht12
     clear ht12
     refine idx_s ((Ent.sl mp0).now (fun _ h => h) hS) q10x q10l q10r ?_; intro b11 hb11
     refine ⟨_, rd_get ((Ent.sl mp0).now (fun _ h => h) hS) hb11 q10x, ?_⟩
     refine drM_s hS ?_; clear hS; intro w hS
     refine cond_s h ?_ ?_ <;> clear h <;> intro hc h
     ·
      obtain rfl := some_inj h
      have h := congrArg some (hO _ rfl)
      obtain rfl := some_inj h
      have h := c3
      have h := some_inj h
      cases h
      exact hK _ (hS.pick (A := [_, _]) [] rfl)
     ·
      obtain rfl := some_inj h
      exact hX _ rfl _ _ ⟨_, rfl, rfl, hS⟩
   ·
    obtain rfl := some_inj h
    have h := congrArg some (hO _ rfl)
    obtain rfl := some_inj h
    exact hJ3 _ _ ⟨rfl, rfl, (hS.pick (A := [_, _]) [] rfl)⟩
  ·
   clear h3 hS
   rintro s w ⟨rfl, rfl, hS⟩
   have h := c3
   clear c3
   try dsimp only
   have h := some_inj h
   cases h
   exact hK _ hS

theorem wk_girderref02_NatSub {N : Nums} {P : Program} (H : AllOk N P) {w0 w : World} {L : List It} {q0 : Option Addr} {q0l q0c : Nat} {l0 : List Int} {q1 : Option Addr} {q1l q1c : Nat} {l1 : List Int} {u0 : List Int} (hS : Ho w0 w (L)) (hq0 : Ent L (rdA (List.map (Value.int .u64) l0) q0 q0l q0c)) (hq1 : Ent L (rdA (List.map (Value.int .u64) l1) q1 q1l q1c)) (hx : T_girderref02_NatSub l0 l1 = some u0) {K : Value → World → Prop} (hK : ∀ (a0 : Option Addr) (n0 c0 : Nat) (w1 : World), Ho w0 w1 ((sl a0 n0 c0 (List.map (Value.int .u64) u0) N.t_uint64) :: L) → K (.slice a0 n0 c0) w1) : CallsX P N.f_girderref02_NatSub #[.slice q0 q0l q0c, .slice q1 q1l q1c] w K := by
 refine H.girderref02_NatSub q0 q0l q0c q1 q1l q1c w _ ?_
 unfold S_girderref02_NatSub
 unfold T_girderref02_NatSub at hx
 have h := hx
 clear hx
 try dsimp only
 obtain ⟨t1, ht1, h⟩ := bnd h
 refine wk_girderref02_halves H hS hq0 ht1 ?_; clear hS ht1; rintro a1 m1 c1 w hS
 refine ⟨_, _, _, rfl, ?_⟩
 obtain ⟨t2, ht2, h⟩ := bnd h
 refine wk_girderref02_halves H hS (hq1.mono tl1) ht2 ?_; clear hS ht2; rintro a2 m2 c2 w hS
 refine ⟨_, _, _, rfl, ?_⟩
 obtain ⟨o6, h6, c6⟩ := bnd h
 refine cutM_i (fun s w => ∃ (a3 : Option Addr) (m4 : Nat) (c5 : Nat) (t3 : List Int), t3 = o6 ∧ s = ((a3, m4, c5), ()) ∧ Ho w0 w ((sl a3 m4 c5 (List.map (Value.int .u64) t3) N.t_uint64) :: L)) (fun J6 hJ6 => ?_) ?_
 ·
  have h := h6
  clear h6
  replace hS := hS.none (α := Int) (enc := (Value.int .u64)) (t := N.t_uint64)
  refine iter_sim (fun s w t => ∃ (t4 : Int) (t5 : Int) (a7 : Option Addr) (m8 : Nat) (c9 : Nat) (t6 : List Int), (t4, t5, t6) = t ∧ s = ((a7, m8, c9), t4, t5, ()) ∧ Ho w0 w ((sl a2 m2 c2 (List.map (Value.int .u64) t2) N.t_uint64) :: (sl a1 m1 c1 (List.map (Value.int .u64) t1) N.t_uint64) :: (sl a7 m8 c9 (List.map (Value.int .u64) t6) N.t_uint64) :: L)) ?_ h ⟨_, _, _, _, _, _, rfl, rfl, (hS.pick (A := [_, _, _]) [1, 1, 0] rfl)⟩
  clear h hS
  rintro s w t X q ⟨t4, t5, a7, m8, c9, t6, rfl, rfl, hS⟩ h hX hO
  unfold T_girderref02_NatSub_b2 at h
  try dsimp only
  obtain ⟨t7, ht7, h⟩ := bnd h
  obtain rfl := lenE ht7 ((Ent.sl mp1).now (fun _ h => h) hS)
  clear ht7
  refine cond_s h ?_ ?_ <;> clear h <;> intro hc h
  ·
   obtain ⟨t8, ht8, h⟩ := bnd h
   obtain ⟨q10x, q10l, q10r⟩ := atE ht8
   clear ht8
   refine idx_s ((Ent.sl mp1).now (fun _ h => h) hS) q10x q10l q10r ?_; intro b11 hb11
   refine ⟨_, rd_get ((Ent.sl mp1).now (fun _ h => h) hS) hb11 q10x, ?_⟩
   refine drM_s hS ?_; clear hS; intro w hS
   obtain ⟨t9, ht9, h⟩ := bnd h
   refine wk_girderref02_digit H hS (Ent.sl mp0) ht9 ?_; clear hS ht9; rintro w hS
   refine ⟨_, rfl, ?_⟩
   refine ⟨rd_get ((Ent.sl mp1).now (fun _ h => h) hS) hb11 q10x, ?_⟩
   refine drM_s hS ?_; clear hS; intro w hS
   refine ⟨by decide, ?_⟩
   obtain ⟨t10, ht10, h⟩ := bnd h
   obtain rfl : ([((IntKind.u64.wrap ((IntKind.u64.wrap ((IntKind.u64.wrap (4294967296 + t8)) - t9)) - t4)).tmod 4294967296)] : List Int) = t10 := some_inj ht10
   clear ht10
   refine lit_s (ks := [((IntKind.u64.wrap ((IntKind.u64.wrap ((IntKind.u64.wrap (4294967296 + t8)) - t9)) - t4)).tmod 4294967296)]) (enc := (Value.int .u64)) (m := 1) hS rfl rfl ?_; clear hS; intro r12 w hS
   obtain ⟨t11, ht11, h⟩ := bnd h
   obtain ⟨rfl, kt11⟩ := appE ht11
   clear ht11
   replace hS := ro3 hS
   refine app_s hS kt11 ((Ent.sl mp1).now (fun _ h => h) hS) (fun _ => rfl) rfl ?_; clear hS kt11; intro a13 c13 w hS
   refine ⟨by decide, ?_⟩
   obtain rfl := some_inj h
   exact hX _ rfl _ _ ⟨_, _, _, _, _, _, rfl, rfl, (hS.pick (A := [_, _, _, _]) [2, 2, 0] rfl)⟩
  ·
   obtain rfl := some_inj h
   have h := congrArg some (hO _ rfl)
   obtain rfl := some_inj h
   exact hJ6 _ _ ⟨_, _, _, _, rfl, rfl, (hS.pick (A := [_, _, _]) [2] rfl)⟩
 ·
  clear h6 hS
  rintro s w ⟨a3, m4, c5, t3, rfl, rfl, hS⟩
  have h := c6
  clear c6
  try dsimp only
  obtain ⟨t12, ht12, h⟩ := bnd h
  refine wk_girderref02_limbs H hS (Ent.sl mp0) ht12 ?_; clear hS ht12; rintro a14 m14 c14 w hS
  refine ⟨_, _, _, rfl, ?_⟩
  have h := some_inj h
  cases h
  exact hK _ _ _ _ (hS.pick (A := [_, _]) [0] rfl)

theorem wk_girderref02_Plus0 {N : Nums} {P : Program} (H : AllOk N P) {w0 w : World} {L : List It} {q0_0 : Bool} {q0_1 : Option Addr} {q0_1l q0_1c : Nat} {l0_1 : List Int} {q0_2 : Int} {q1_0 : Bool} {q1_1 : Option Addr} {q1_1l q1_1c : Nat} {l1_1 : List Int} {q1_2 : Int} {u0 : Bool} {u1 : List Int} {u2 : Int} (hS : Ho w0 w (L)) (hq0_1 : Ent L (rdA (List.map (Value.int .u64) l0_1) q0_1 q0_1l q0_1c)) (hq1_1 : Ent L (rdA (List.map (Value.int .u64) l1_1) q1_1 q1_1l q1_1c)) (hx : T_girderref02_Plus0 q0_0 l0_1 q0_2 q1_0 l1_1 q1_2 = some (u0, u1, u2)) {K : Value → World → Prop} (hK : ∀ (it1 : It) (a1 : Option Addr) (n1 c1 : Nat) (w1 : World), (∀ L1, it1 ∈ L1 → Ent L1 (rdA (List.map (Value.int .u64) l0_1) q0_1 q0_1l q0_1c) → Ent L1 (rdA (List.map (Value.int .u64) l1_1) q1_1 q1_1l q1_1c) → Ent L1 (rdA (List.map (Value.int .u64) u1) a1 n1 c1)) → Ho w0 w1 (it1 :: L) → K (.agg #[.bool u0, .slice a1 n1 c1, .int .i64 u2]) w1) : CallsX P N.f_girderref02_Plus #[.agg #[.bool q0_0, .slice q0_1 q0_1l q0_1c, .int .i64 q0_2], .agg #[.bool q1_0, .slice q1_1 q1_1l q1_1c, .int .i64 q1_2]] w K := by
 unfold T_girderref02_Plus0 at hx
 cases hx

theorem wk_girderref02_Plus1 {N : Nums} {P : Program} (H : AllOk N P) {w0 w : World} {L : List It} {q0_0 : Bool} {q0_1 : Option Addr} {q0_1l q0_1c : Nat} {l0_1 : List Int} {q0_2 : Int} {q1_0 : Bool} {q1_1 : Option Addr} {q1_1l q1_1c : Nat} {l1_1 : List Int} {q1_2 : Int} {u0 : Bool} {u1 : List Int} {u2 : Int} (hS : Ho w0 w (L)) (hq0_1 : Ent L (rdA (List.map (Value.int .u64) l0_1) q0_1 q0_1l q0_1c)) (hq1_1 : Ent L (rdA (List.map (Value.int .u64) l1_1) q1_1 q1_1l q1_1c)) (hx : T_girderref02_Plus1 q0_0 l0_1 q0_2 q1_0 l1_1 q1_2 = some (u0, u1, u2)) {K : Value → World → Prop} (hK : ∀ (it1 : It) (a1 : Option Addr) (n1 c1 : Nat) (w1 : World), (∀ L1, it1 ∈ L1 → Ent L1 (rdA (List.map (Value.int .u64) l0_1) q0_1 q0_1l q0_1c) → Ent L1 (rdA (List.map (Value.int .u64) l1_1) q1_1 q1_1l q1_1c) → Ent L1 (rdA (List.map (Value.int .u64) u1) a1 n1 c1)) → Ho w0 w1 (it1 :: L) → K (.agg #[.bool u0, .slice a1 n1 c1, .int .i64 u2]) w1) : CallsX P N.f_girderref02_Plus #[.agg #[.bool q0_0, .slice q0_1 q0_1l q0_1c, .int .i64 q0_2], .agg #[.bool q1_0, .slice q1_1 q1_1l q1_1c, .int .i64 q1_2]] w K := by
 refine H.girderref02_Plus q0_0 q0_1 q0_1l q0_1c q0_2 q1_0 q1_1 q1_1l q1_1c q1_2 w _ ?_
 unfold S_girderref02_Plus
 unfold T_girderref02_Plus1 at hx
 have h := hx
 clear hx
 try dsimp only
 refine newM_s hS ?_; clear hS; intro r1 w hS
 refine newM_s hS ?_; clear hS; intro r2 w hS
 refine newM_s hS ?_; clear hS; intro r3 w hS
 refine ⟨_, (hS.cel mp2 rfl), ?_⟩
 refine ⟨_, _, _, (hS.cel mp2 rfl), ?_⟩
 refine ⟨_, (hS.cel mp2 rfl), ?_⟩
 obtain ⟨t1, ht1, h⟩ := bnd h
 refine wk_girderref02_Num_Zero H hS (hq0_1.mono tl3) ht1 ?_; clear hS ht1; rintro w hS
 refine ⟨_, rfl, ?_⟩
 refine cond_s h ?_ ?_ <;> clear h <;> intro hc h
 ·
  refine ⟨_, (hS.cel mp1 rfl), ?_⟩
  refine ⟨_, _, _, (hS.cel mp1 rfl), ?_⟩
  refine ⟨_, (hS.cel mp1 rfl), ?_⟩
  refine stc_s hS rfl rfl ?_; clear hS; intro w hS
  refine stc_s hS rfl rfl ?_; clear hS; intro w hS
  refine stc_s hS rfl rfl ?_; clear hS; intro w hS
  refine ⟨_, (hS.cel mp0 rfl), ?_⟩
  refine ⟨_, _, _, (hS.cel mp0 rfl), ?_⟩
  refine ⟨_, (hS.cel mp0 rfl), ?_⟩
  replace hS := hS.voidItem
  have h := some_inj h
  cases h
  exact hK _ _ _ _ _ (fun _ hm hdq0_1 hdq1_1 => hdq1_1) (hS.pick (A := [_, _, _, _]) [0] rfl)
 ·
  refine ⟨_, (hS.cel mp1 rfl), ?_⟩
  refine ⟨_, _, _, (hS.cel mp1 rfl), ?_⟩
  refine ⟨_, (hS.cel mp1 rfl), ?_⟩
  obtain ⟨t2, ht2, h⟩ := bnd h
  refine wk_girderref02_Num_Zero H hS (hq1_1.mono tl3) ht2 ?_; clear hS ht2; rintro w hS
  refine ⟨_, rfl, ?_⟩
  refine cond_s h ?_ ?_ <;> clear h <;> intro hc h
  ·
   refine ⟨_, (hS.cel mp2 rfl), ?_⟩
   refine ⟨_, _, _, (hS.cel mp2 rfl), ?_⟩
   refine ⟨_, (hS.cel mp2 rfl), ?_⟩
   refine stc_s hS rfl rfl ?_; clear hS; intro w hS
   refine stc_s hS rfl rfl ?_; clear hS; intro w hS
   refine stc_s hS rfl rfl ?_; clear hS; intro w hS
   refine ⟨_, (hS.cel mp0 rfl), ?_⟩
   refine ⟨_, _, _, (hS.cel mp0 rfl), ?_⟩
   refine ⟨_, (hS.cel mp0 rfl), ?_⟩
   replace hS := hS.voidItem
   have h := some_inj h
   cases h
   exact hK _ _ _ _ _ (fun _ hm hdq0_1 hdq1_1 => hdq0_1) (hS.pick (A := [_, _, _, _]) [0] rfl)
  ·
   refine ⟨_, (hS.cel mp2 rfl), ?_⟩
   refine ⟨_, (hS.cel mp1 rfl), ?_⟩
   refine cond_s h ?_ ?_ <;> clear h <;> intro hc h
   ·
    refine ⟨_, (hS.cel mp1 rfl), ?_⟩
    refine ⟨_, _, _, (hS.cel mp1 rfl), ?_⟩
    refine ⟨_, (hS.cel mp1 rfl), ?_⟩
    refine ⟨_, (hS.cel mp2 rfl), ?_⟩
    refine ⟨_, _, _, (hS.cel mp2 rfl), ?_⟩
    refine ⟨_, (hS.cel mp2 rfl), ?_⟩
    obtain ⟨⟨t3, t4, t5⟩, ho3, h⟩ := bnd h
    refine wk_girderref02_Plus0 H hS (hq1_1.mono tl3) (hq0_1.mono tl3) ho3 ?_; clear hS ho3; rintro it4 a4 m4 c4 w e4 hS
    refine ⟨_, _, _, _, _, rfl, ?_⟩
    replace hS := ro1 hS
    refine stc_s hS rfl rfl ?_; clear hS; intro w hS
    refine stc_s hS rfl rfl ?_; clear hS; intro w hS
    refine stc_s hS rfl rfl ?_; clear hS; intro w hS
    refine ⟨_, (hS.cel mp0 rfl), ?_⟩
    refine ⟨_, _, _, (hS.cel mp0 rfl), ?_⟩
    refine ⟨_, (hS.cel mp0 rfl), ?_⟩
    have h := some_inj h
    cases h
    exact hK _ _ _ _ _ (fun _ hm hdq0_1 hdq1_1 => (e4 _ hm hdq1_1 hdq0_1)) (hS.pick (A := [_, _, _, _]) [1] rfl)
   ·
    refine ⟨_, _, _, (hS.cel mp2 rfl), ?_⟩
    refine ⟨_, _, _, (hS.cel mp1 rfl), ?_⟩
    refine ⟨_, (hS.cel mp1 rfl), ?_⟩
    refine ⟨_, (hS.cel mp2 rfl), ?_⟩
    obtain ⟨t6, ht6, h⟩ := bnd h
    refine wk_girderref02_NatUp H hS (hq1_1.mono tl3) ht6 ?_; clear hS ht6; rintro a5 m5 c5 w hS
    refine ⟨_, _, _, rfl, ?_⟩
    refine ⟨_, (hS.cel mp3 rfl), ?_⟩
    refine ⟨_, (hS.cel mp2 rfl), ?_⟩
    refine cond_s h ?_ ?_ <;> clear h <;> intro hc h
    ·
     refine ⟨_, (hS.cel mp3 rfl), ?_⟩
     refine ⟨_, (hS.cel mp3 rfl), ?_⟩
     refine drM_s hS ?_; clear hS; intro w hS
     obtain ⟨t7, ht7, h⟩ := bnd h
     refine wk_girderref02_NatAdd H hS (hq0_1.mono tl4) (Ent.sl mp0) ht7 ?_; clear hS ht7; rintro a6 m6 c6 w hS
     refine ⟨_, _, _, rfl, ?_⟩
     refine ⟨(hS.cel mp4 rfl), ?_⟩
     refine ⟨(hS.cel mp4 rfl), ?_⟩
     refine drM_s hS ?_; clear hS; intro w hS
     replace hS := ro2 hS
     refine stc_s hS rfl rfl ?_; clear hS; intro w hS
     refine stc_s hS rfl rfl ?_; clear hS; intro w hS
     refine stc_s hS rfl rfl ?_; clear hS; intro w hS
     refine drM_s hS ?_; clear hS; intro w hS
     refine ⟨_, (hS.cel mp0 rfl), ?_⟩
     refine ⟨_, _, _, (hS.cel mp0 rfl), ?_⟩
     refine ⟨_, (hS.cel mp0 rfl), ?_⟩
     have h := some_inj h
     cases h
     exact hK _ _ _ _ _ (fun _ hm hdq0_1 hdq1_1 => (Ent.sl hm)) (hS.pick (A := [_, _, _, _, _]) [1] rfl)
    ·
     obtain ⟨t8, ht8, h⟩ := bnd h
     refine wk_girderref02_NatCmp H hS (hq0_1.mono tl4) (Ent.sl mp0) ht8 ?_; clear hS ht8; rintro w hS
     refine ⟨_, rfl, ?_⟩
     refine cond_s h ?_ ?_ <;> clear h <;> intro hc h
     ·
      refine ⟨_, (hS.cel mp3 rfl), ?_⟩
      refine ⟨_, (hS.cel mp3 rfl), ?_⟩
      refine drM_s hS ?_; clear hS; intro w hS
      obtain ⟨t9, ht9, h⟩ := bnd h
      refine wk_girderref02_NatSub H hS (hq0_1.mono tl4) (Ent.sl mp0) ht9 ?_; clear hS ht9; rintro a7 m7 c7 w hS
      refine ⟨_, _, _, rfl, ?_⟩
      refine ⟨(hS.cel mp4 rfl), ?_⟩
      refine ⟨(hS.cel mp4 rfl), ?_⟩
      refine drM_s hS ?_; clear hS; intro w hS
      replace hS := ro2 hS
      refine stc_s hS rfl rfl ?_; clear hS; intro w hS
      refine stc_s hS rfl rfl ?_; clear hS; intro w hS
      refine stc_s hS rfl rfl ?_; clear hS; intro w hS
      refine drM_s hS ?_; clear hS; intro w hS
      refine ⟨_, (hS.cel mp0 rfl), ?_⟩
      refine ⟨_, _, _, (hS.cel mp0 rfl), ?_⟩
      refine ⟨_, (hS.cel mp0 rfl), ?_⟩
      have h := some_inj h
      cases h
      exact hK _ _ _ _ _ (fun _ hm hdq0_1 hdq1_1 => (Ent.sl hm)) (hS.pick (A := [_, _, _, _, _]) [1] rfl)
     ·
      refine ⟨_, (hS.cel mp2 rfl), ?_⟩
      refine ⟨_, (hS.cel mp3 rfl), ?_⟩
      refine drM_s hS ?_; clear hS; intro w hS
      obtain ⟨t10, ht10, h⟩ := bnd h
      refine wk_girderref02_NatSub H hS (Ent.sl mp0) (hq0_1.mono tl4) ht10 ?_; clear hS ht10; rintro a8 m8 c8 w hS
      refine ⟨_, _, _, rfl, ?_⟩
      refine ⟨(hS.cel mp4 rfl), ?_⟩
      refine ⟨(hS.cel mp3 rfl), ?_⟩
      refine drM_s hS ?_; clear hS; intro w hS
      replace hS := ro2 hS
      refine stc_s hS rfl rfl ?_; clear hS; intro w hS
      refine stc_s hS rfl rfl ?_; clear hS; intro w hS
      refine stc_s hS rfl rfl ?_; clear hS; intro w hS
      refine drM_s hS ?_; clear hS; intro w hS
      refine ⟨_, (hS.cel mp0 rfl), ?_⟩
      refine ⟨_, _, _, (hS.cel mp0 rfl), ?_⟩
      refine ⟨_, (hS.cel mp0 rfl), ?_⟩
      have h := some_inj h
      cases h
      exact hK _ _ _ _ _ (fun _ hm hdq0_1 hdq1_1 => (Ent.sl hm)) (hS.pick (A := [_, _, _, _, _]) [1] rfl)

theorem wk_girderref02_Plus {N : Nums} {P : Program} (H : AllOk N P) {w0 w : World} {L : List It} {q0_0 : Bool} {q0_1 : Option Addr} {q0_1l q0_1c : Nat} {l0_1 : List Int} {q0_2 : Int} {q1_0 : Bool} {q1_1 : Option Addr} {q1_1l q1_1c : Nat} {l1_1 : List Int} {q1_2 : Int} {u0 : Bool} {u1 : List Int} {u2 : Int} (hS : Ho w0 w (L)) (hq0_1 : Ent L (rdA (List.map (Value.int .u64) l0_1) q0_1 q0_1l q0_1c)) (hq1_1 : Ent L (rdA (List.map (Value.int .u64) l1_1) q1_1 q1_1l q1_1c)) (hx : T_girderref02_Plus q0_0 l0_1 q0_2 q1_0 l1_1 q1_2 = some (u0, u1, u2)) {K : Value → World → Prop} (hK : ∀ (it1 : It) (a1 : Option Addr) (n1 c1 : Nat) (w1 : World), (∀ L1, it1 ∈ L1 → Ent L1 (rdA (List.map (Value.int .u64) l0_1) q0_1 q0_1l q0_1c) → Ent L1 (rdA (List.map (Value.int .u64) l1_1) q1_1 q1_1l q1_1c) → Ent L1 (rdA (List.map (Value.int .u64) u1) a1 n1 c1)) → Ho w0 w1 (it1 :: L) → K (.agg #[.bool u0, .slice a1 n1 c1, .int .i64 u2]) w1) : CallsX P N.f_girderref02_Plus #[.agg #[.bool q0_0, .slice q0_1 q0_1l q0_1c, .int .i64 q0_2], .agg #[.bool q1_0, .slice q1_1 q1_1l q1_1c, .int .i64 q1_2]] w K := by
 refine H.girderref02_Plus q0_0 q0_1 q0_1l q0_1c q0_2 q1_0 q1_1 q1_1l q1_1c q1_2 w _ ?_
 unfold S_girderref02_Plus
 unfold T_girderref02_Plus at hx
 have h := hx
 clear hx
 try dsimp only
 refine newM_s hS ?_; clear hS; intro r1 w hS
 refine newM_s hS ?_; clear hS; intro r2 w hS
 refine newM_s hS ?_; clear hS; intro r3 w hS
 refine ⟨_, (hS.cel mp2 rfl), ?_⟩
 refine ⟨_, _, _, (hS.cel mp2 rfl), ?_⟩
 refine ⟨_, (hS.cel mp2 rfl), ?_⟩
 obtain ⟨t1, ht1, h⟩ := bnd h
 refine wk_girderref02_Num_Zero H hS (hq0_1.mono tl3) ht1 ?_; clear hS ht1; rintro w hS
 refine ⟨_, rfl, ?_⟩
 refine cond_s h ?_ ?_ <;> clear h <;> intro hc h
 ·
  refine ⟨_, (hS.cel mp1 rfl), ?_⟩
  refine ⟨_, _, _, (hS.cel mp1 rfl), ?_⟩
  refine ⟨_, (hS.cel mp1 rfl), ?_⟩
  refine stc_s hS rfl rfl ?_; clear hS; intro w hS
  refine stc_s hS rfl rfl ?_; clear hS; intro w hS
  refine stc_s hS rfl rfl ?_; clear hS; intro w hS
  refine ⟨_, (hS.cel mp0 rfl), ?_⟩
  refine ⟨_, _, _, (hS.cel mp0 rfl), ?_⟩
  refine ⟨_, (hS.cel mp0 rfl), ?_⟩
  replace hS := hS.voidItem
  have h := some_inj h
  cases h
  exact hK _ _ _ _ _ (fun _ hm hdq0_1 hdq1_1 => hdq1_1) (hS.pick (A := [_, _, _, _]) [0] rfl)
 ·
  refine ⟨_, (hS.cel mp1 rfl), ?_⟩
  refine ⟨_, _, _, (hS.cel mp1 rfl), ?_⟩
  refine ⟨_, (hS.cel mp1 rfl), ?_⟩
  obtain ⟨t2, ht2, h⟩ := bnd h
  refine wk_girderref02_Num_Zero H hS (hq1_1.mono tl3) ht2 ?_; clear hS ht2; rintro w hS
  refine ⟨_, rfl, ?_⟩
  refine cond_s h ?_ ?_ <;> clear h <;> intro hc h
  ·
   refine ⟨_, (hS.cel mp2 rfl), ?_⟩
   refine ⟨_, _, _, (hS.cel mp2 rfl), ?_⟩
   refine ⟨_, (hS.cel mp2 rfl), ?_⟩
   refine stc_s hS rfl rfl ?_; clear hS; intro w hS
   refine stc_s hS rfl rfl ?_; clear hS; intro w hS
   refine stc_s hS rfl rfl ?_; clear hS; intro w hS
   refine ⟨_, (hS.cel mp0 rfl), ?_⟩
   refine ⟨_, _, _, (hS.cel mp0 rfl), ?_⟩
   refine ⟨_, (hS.cel mp0 rfl), ?_⟩
   replace hS := hS.voidItem
   have h := some_inj h
   cases h
   exact hK _ _ _ _ _ (fun _ hm hdq0_1 hdq1_1 => hdq0_1) (hS.pick (A := [_, _, _, _]) [0] rfl)
  ·
   refine ⟨_, (hS.cel mp2 rfl), ?_⟩
   refine ⟨_, (hS.cel mp1 rfl), ?_⟩
   refine cond_s h ?_ ?_ <;> clear h <;> intro hc h
   ·
    refine ⟨_, (hS.cel mp1 rfl), ?_⟩
    refine ⟨_, _, _, (hS.cel mp1 rfl), ?_⟩
    refine ⟨_, (hS.cel mp1 rfl), ?_⟩
    refine ⟨_, (hS.cel mp2 rfl), ?_⟩
    refine ⟨_, _, _, (hS.cel mp2 rfl), ?_⟩
    refine ⟨_, (hS.cel mp2 rfl), ?_⟩
    obtain ⟨⟨t3, t4, t5⟩, ho3, h⟩ := bnd h
    refine wk_girderref02_Plus1 H hS (hq1_1.mono tl3) (hq0_1.mono tl3) ho3 ?_; clear hS ho3; rintro it4 a4 m4 c4 w e4 hS
    refine ⟨_, _, _, _, _, rfl, ?_⟩
    replace hS := ro1 hS
    refine stc_s hS rfl rfl ?_; clear hS; intro w hS
    refine stc_s hS rfl rfl ?_; clear hS; intro w hS
    refine stc_s hS rfl rfl ?_; clear hS; intro w hS
    refine ⟨_, (hS.cel mp0 rfl), ?_⟩
    refine ⟨_, _, _, (hS.cel mp0 rfl), ?_⟩
    refine ⟨_, (hS.cel mp0 rfl), ?_⟩
    have h := some_inj h
    cases h
    exact hK _ _ _ _ _ (fun _ hm hdq0_1 hdq1_1 => (e4 _ hm hdq1_1 hdq0_1)) (hS.pick (A := [_, _, _, _]) [1] rfl)
   ·
    refine ⟨_, _, _, (hS.cel mp2 rfl), ?_⟩
    refine ⟨_, _, _, (hS.cel mp1 rfl), ?_⟩
    refine ⟨_, (hS.cel mp1 rfl), ?_⟩
    refine ⟨_, (hS.cel mp2 rfl), ?_⟩
    obtain ⟨t6, ht6, h⟩ := bnd h
    refine wk_girderref02_NatUp H hS (hq1_1.mono tl3) ht6 ?_; clear hS ht6; rintro a5 m5 c5 w hS
    refine ⟨_, _, _, rfl, ?_⟩
    refine ⟨_, (hS.cel mp3 rfl), ?_⟩
    refine ⟨_, (hS.cel mp2 rfl), ?_⟩
    refine cond_s h ?_ ?_ <;> clear h <;> intro hc h
    ·
     refine ⟨_, (hS.cel mp3 rfl), ?_⟩
     refine ⟨_, (hS.cel mp3 rfl), ?_⟩
     refine drM_s hS ?_; clear hS; intro w hS
     obtain ⟨t7, ht7, h⟩ := bnd h
     refine wk_girderref02_NatAdd H hS (hq0_1.mono tl4) (Ent.sl mp0) ht7 ?_; clear hS ht7; rintro a6 m6 c6 w hS
     refine ⟨_, _, _, rfl, ?_⟩
     refine ⟨(hS.cel mp4 rfl), ?_⟩
     refine ⟨(hS.cel mp4 rfl), ?_⟩
     refine drM_s hS ?_; clear hS; intro w hS
     replace hS := ro2 hS
     refine stc_s hS rfl rfl ?_; clear hS; intro w hS
     refine stc_s hS rfl rfl ?_; clear hS; intro w hS
     refine stc_s hS rfl rfl ?_; clear hS; intro w hS
     refine drM_s hS ?_; clear hS; intro w hS
     refine ⟨_, (hS.cel mp0 rfl), ?_⟩
     refine ⟨_, _, _, (hS.cel mp0 rfl), ?_⟩
     refine ⟨_, (hS.cel mp0 rfl), ?_⟩
     have h := some_inj h
     cases h
     exact hK _ _ _ _ _ (fun _ hm hdq0_1 hdq1_1 => (Ent.sl hm)) (hS.pick (A := [_, _, _, _, _]) [1] rfl)
    ·
     obtain ⟨t8, ht8, h⟩ := bnd h
     refine wk_girderref02_NatCmp H hS (hq0_1.mono tl4) (Ent.sl mp0) ht8 ?_; clear hS ht8; rintro w hS
     refine ⟨_, rfl, ?_⟩
     refine cond_s h ?_ ?_ <;> clear h <;> intro hc h
     ·
      refine ⟨_, (hS.cel mp3 rfl), ?_⟩
      refine ⟨_, (hS.cel mp3 rfl), ?_⟩
      refine drM_s hS ?_; clear hS; intro w hS
      obtain ⟨t9, ht9, h⟩ := bnd h
      refine wk_girderref02_NatSub H hS (hq0_1.mono tl4) (Ent.sl mp0) ht9 ?_; clear hS ht9; rintro a7 m7 c7 w hS
      refine ⟨_, _, _, rfl, ?_⟩
      refine ⟨(hS.cel mp4 rfl), ?_⟩
      refine ⟨(hS.cel mp4 rfl), ?_⟩
      refine drM_s hS ?_; clear hS; intro w hS
      replace hS := ro2 hS
      refine stc_s hS rfl rfl ?_; clear hS; intro w hS
      refine stc_s hS rfl rfl ?_; clear hS; intro w hS
      refine stc_s hS rfl rfl ?_; clear hS; intro w hS
      refine drM_s hS ?_; clear hS; intro w hS
      refine ⟨_, (hS.cel mp0 rfl), ?_⟩
      refine ⟨_, _, _, (hS.cel mp0 rfl), ?_⟩
      refine ⟨_, (hS.cel mp0 rfl), ?_⟩
      have h := some_inj h
      cases h
      exact hK _ _ _ _ _ (fun _ hm hdq0_1 hdq1_1 => (Ent.sl hm)) (hS.pick (A := [_, _, _, _, _]) [1] rfl)
     ·
      refine ⟨_, (hS.cel mp2 rfl), ?_⟩
      refine ⟨_, (hS.cel mp3 rfl), ?_⟩
      refine drM_s hS ?_; clear hS; intro w hS
      obtain ⟨t10, ht10, h⟩ := bnd h
      refine wk_girderref02_NatSub H hS (Ent.sl mp0) (hq0_1.mono tl4) ht10 ?_; clear hS ht10; rintro a8 m8 c8 w hS
      refine ⟨_, _, _, rfl, ?_⟩
      refine ⟨(hS.cel mp4 rfl), ?_⟩
      refine ⟨(hS.cel mp3 rfl), ?_⟩
      refine drM_s hS ?_; clear hS; intro w hS
      replace hS := ro2 hS
      refine stc_s hS rfl rfl ?_; clear hS; intro w hS
      refine stc_s hS rfl rfl ?_; clear hS; intro w hS
      refine stc_s hS rfl rfl ?_; clear hS; intro w hS
      refine drM_s hS ?_; clear hS; intro w hS
      refine ⟨_, (hS.cel mp0 rfl), ?_⟩
      refine ⟨_, _, _, (hS.cel mp0 rfl), ?_⟩
      refine ⟨_, (hS.cel mp0 rfl), ?_⟩
      have h := some_inj h
      cases h
      exact hK _ _ _ _ _ (fun _ hm hdq0_1 hdq1_1 => (Ent.sl hm)) (hS.pick (A := [_, _, _, _, _]) [1] rfl)

theorem wk_girderref02_Compare {N : Nums} {P : Program} (H : AllOk N P) {w0 w : World} {L : List It} {q0_0 : Bool} {q0_1 : Option Addr} {q0_1l q0_1c : Nat} {l0_1 : List Int} {q0_2 : Int} {q1_0 : Bool} {q1_1 : Option Addr} {q1_1l q1_1c : Nat} {l1_1 : List Int} {q1_2 : Int} {u0 : Int} (hS : Ho w0 w (L)) (hq0_1 : Ent L (rdA (List.map (Value.int .u64) l0_1) q0_1 q0_1l q0_1c)) (hq1_1 : Ent L (rdA (List.map (Value.int .u64) l1_1) q1_1 q1_1l q1_1c)) (hx : T_girderref02_Compare q0_0 l0_1 q0_2 q1_0 l1_1 q1_2 = some u0) {K : Value → World → Prop} (hK : ∀  (w1 : World), Ho w0 w1 (L) → K (.int .i64 u0) w1) : CallsX P N.f_girderref02_Compare #[.agg #[.bool q0_0, .slice q0_1 q0_1l q0_1c, .int .i64 q0_2], .agg #[.bool q1_0, .slice q1_1 q1_1l q1_1c, .int .i64 q1_2]] w K := by
 refine H.girderref02_Compare q0_0 q0_1 q0_1l q0_1c q0_2 q1_0 q1_1 q1_1l q1_1c q1_2 w _ ?_
 unfold S_girderref02_Compare
 unfold T_girderref02_Compare at hx
 have h := hx
 clear hx
 try dsimp only
 refine newM_s hS ?_; clear hS; intro r1 w hS
 refine newM_s hS ?_; clear hS; intro r2 w hS
 refine ⟨_, (hS.cel mp1 rfl), ?_⟩
 refine ⟨_, _, _, (hS.cel mp1 rfl), ?_⟩
 refine ⟨_, (hS.cel mp1 rfl), ?_⟩
 refine ⟨_, (hS.cel mp0 rfl), ?_⟩
 refine ⟨_, _, _, (hS.cel mp0 rfl), ?_⟩
 refine ⟨_, (hS.cel mp0 rfl), ?_⟩
 refine drM_s hS ?_; clear hS; intro w hS
 obtain ⟨t1, ht1, h⟩ := bnd h
 refine wk_girderref02_Num_Sign H hS (hq0_1.mono tl2) ht1 ?_; clear hS ht1; rintro w hS
 refine ⟨_, rfl, ?_⟩
 refine ⟨(hS.cel mp0 rfl), ?_⟩
 refine ⟨(hS.cel mp0 rfl), ?_⟩
 refine ⟨(hS.cel mp0 rfl), ?_⟩
 refine drM_s hS ?_; clear hS; intro w hS
 obtain ⟨t2, ht2, h⟩ := bnd h
 refine wk_girderref02_Num_Sign H hS (hq1_1.mono tl2) ht2 ?_; clear hS ht2; rintro w hS
 refine ⟨_, rfl, ?_⟩
 refine drM_s hS ?_; clear hS; intro w hS
 obtain ⟨o3, h3, c3⟩ := bnd h
 refine cutM_i (fun s w => ∃ (t3 : Bool), t3 = o3 ∧ s = (t3, ()) ∧ Ho w0 w ((cl r2 [.bool q1_0, .slice q1_1 q1_1l q1_1c, .int .i64 q1_2] N.t_girderref02_Num) :: (cl r1 [.bool q0_0, .slice q0_1 q0_1l q0_1c, .int .i64 q0_2] N.t_girderref02_Num) :: L)) (fun J3 hJ3 => ?_) ?_
 ·
  have h := h3
  clear h3
  refine cond_s h ?_ ?_ <;> clear h <;> intro hc h
  ·
   obtain rfl := some_inj h
   exact hJ3 _ _ ⟨_, rfl, rfl, hS⟩
  ·
   obtain rfl := some_inj h
   exact hJ3 _ _ ⟨_, rfl, rfl, hS⟩
 ·
  clear h3 hS
  rintro s w ⟨t3, rfl, rfl, hS⟩
  have h := c3
  clear c3
  try dsimp only
  refine cond_s h ?_ ?_ <;> clear h <;> intro hc h
  ·
   refine cond_s h ?_ ?_ <;> clear h <;> intro hc h
   ·
    have h := some_inj h
    cases h
    exact hK _ (hS.pick (A := [_, _]) [] rfl)
   ·
    refine cond_s h ?_ ?_ <;> clear h <;> intro hc h
    ·
     have h := some_inj h
     cases h
     exact hK _ (hS.pick (A := [_, _]) [] rfl)
    ·
     have h := some_inj h
     cases h
     exact hK _ (hS.pick (A := [_, _]) [] rfl)
  ·
   refine ⟨_, (hS.cel mp1 rfl), ?_⟩
   refine ⟨_, _, _, (hS.cel mp1 rfl), ?_⟩
   refine ⟨_, (hS.cel mp1 rfl), ?_⟩
   refine ⟨_, (hS.cel mp0 rfl), ?_⟩
   refine ⟨_, _, _, (hS.cel mp0 rfl), ?_⟩
   refine ⟨_, (hS.cel mp0 rfl), ?_⟩
   refine drM_s hS ?_; clear hS; intro w hS
   obtain ⟨t4, ht4, h⟩ := bnd h
   refine wk_girderref02_Num_top H hS (hq0_1.mono tl2) ht4 ?_; clear hS ht4; rintro w hS
   refine ⟨_, rfl, ?_⟩
   refine ⟨(hS.cel mp0 rfl), ?_⟩
   refine ⟨(hS.cel mp0 rfl), ?_⟩
   refine ⟨(hS.cel mp0 rfl), ?_⟩
   refine drM_s hS ?_; clear hS; intro w hS
   obtain ⟨t5, ht5, h⟩ := bnd h
   refine wk_girderref02_Num_top H hS (hq1_1.mono tl2) ht5 ?_; clear hS ht5; rintro w hS
   refine ⟨_, rfl, ?_⟩
   refine drM_s hS ?_; clear hS; intro w hS
   refine cond_s h ?_ ?_ <;> clear h <;> intro hc h
   ·
    refine ⟨_, (hS.cel mp1 rfl), ?_⟩
    refine ⟨_, _, _, (hS.cel mp1 rfl), ?_⟩
    refine ⟨_, (hS.cel mp1 rfl), ?_⟩
    refine ⟨_, (hS.cel mp0 rfl), ?_⟩
    refine ⟨_, _, _, (hS.cel mp0 rfl), ?_⟩
    refine ⟨_, (hS.cel mp0 rfl), ?_⟩
    refine drM_s hS ?_; clear hS; intro w hS
    obtain ⟨t6, ht6, h⟩ := bnd h
    refine wk_girderref02_Num_top H hS (hq0_1.mono tl2) ht6 ?_; clear hS ht6; rintro w hS
    refine ⟨_, rfl, ?_⟩
    refine ⟨(hS.cel mp0 rfl), ?_⟩
    refine ⟨(hS.cel mp0 rfl), ?_⟩
    refine ⟨(hS.cel mp0 rfl), ?_⟩
    refine drM_s hS ?_; clear hS; intro w hS
    obtain ⟨t7, ht7, h⟩ := bnd h
    refine wk_girderref02_Num_top H hS (hq1_1.mono tl2) ht7 ?_; clear hS ht7; rintro w hS
    refine ⟨_, rfl, ?_⟩
    refine drM_s hS ?_; clear hS; intro w hS
    refine cond_s h ?_ ?_ <;> clear h <;> intro hc h
    ·
     have h := some_inj h
     cases h
     exact hK _ (hS.pick (A := [_, _]) [] rfl)
    ·
     have h := some_inj h
     cases h
     exact hK _ (hS.pick (A := [_, _]) [] rfl)
   ·
    refine ⟨_, (hS.cel mp1 rfl), ?_⟩
    refine ⟨_, _, _, (hS.cel mp1 rfl), ?_⟩
    refine ⟨_, (hS.cel mp1 rfl), ?_⟩
    refine ⟨_, (hS.cel mp0 rfl), ?_⟩
    refine ⟨_, _, _, (hS.cel mp0 rfl), ?_⟩
    refine ⟨_, (hS.cel mp0 rfl), ?_⟩
    refine drM_s hS ?_; clear hS; intro w hS
    obtain ⟨⟨t8, t9, t10⟩, ho8, h⟩ := bnd h
    refine wk_girderref02_Minus H hS (hq1_1.mono tl2) ho8 ?_; clear hS ho8; rintro w rfl hS
    refine ⟨_, _, _, _, _, rfl, ?_⟩
    refine ⟨(hS.cel mp1 rfl), ?_⟩
    refine ⟨(hS.cel mp1 rfl), ?_⟩
    refine ⟨(hS.cel mp1 rfl), ?_⟩
    refine drM_s hS ?_; clear hS; intro w hS
    obtain ⟨⟨t11, t12, t13⟩, ho11, h⟩ := bnd h
    refine wk_girderref02_Plus H hS (hq0_1.mono tl2) (hq1_1.mono tl2) ho11 ?_; clear hS ho11; rintro it5 a5 m5 c5 w e5 hS
    refine ⟨_, _, _, _, _, rfl, ?_⟩
    refine drM_s hS ?_; clear hS; intro w hS
    obtain ⟨t14, ht14, h⟩ := bnd h
    refine wk_girderref02_Num_Sign H hS (e5 _ mp0 (hq0_1.mono tl3) (hq1_1.mono tl3)) ht14 ?_; clear hS ht14; rintro w hS
    refine ⟨_, rfl, ?_⟩
    refine drM_s hS ?_; clear hS; intro w hS
    have h := some_inj h
    cases h
    exact hK _ (hS.pick (A := [_, _, _]) [] rfl)

theorem wk_girderref02_Fits {N : Nums} {P : Program} (H : AllOk N P) {w0 w : World} {L : List It} {q0_0 : Bool} {q0_1 : Option Addr} {q0_1l q0_1c : Nat} {l0_1 : List Int} {q0_2 : Int} {u0 : Bool} (hS : Ho w0 w (L)) (hq0_1 : Ent L (rdA (List.map (Value.int .u64) l0_1) q0_1 q0_1l q0_1c)) (hx : T_girderref02_Fits q0_0 l0_1 q0_2 = some u0) {K : Value → World → Prop} (hK : ∀  (w1 : World), Ho w0 w1 (L) → K (.bool u0) w1) : CallsX P N.f_girderref02_Fits #[.agg #[.bool q0_0, .slice q0_1 q0_1l q0_1c, .int .i64 q0_2]] w K := by
 refine H.girderref02_Fits q0_0 q0_1 q0_1l q0_1c q0_2 w _ ?_
 unfold S_girderref02_Fits
 unfold T_girderref02_Fits at hx
 have h := hx
 clear hx
 try dsimp only
 refine newM_s hS ?_; clear hS; intro r1 w hS
 refine ⟨_, (hS.cel mp0 rfl), ?_⟩
 refine ⟨_, _, _, (hS.cel mp0 rfl), ?_⟩
 refine ⟨_, (hS.cel mp0 rfl), ?_⟩
 obtain ⟨t1, ht1, h⟩ := bnd h
 refine wk_girderref02_Right H hS (hq0_1.mono tl1) ht1 ?_; clear hS ht1; rintro w hS
 refine ⟨_, rfl, ?_⟩
 refine cond_s h ?_ ?_ <;> clear h <;> intro hc h
 ·
  have h := some_inj h
  cases h
  exact hK _ (hS.pick (A := [_]) [] rfl)
 ·
  refine ⟨_, (hS.cel mp0 rfl), ?_⟩
  refine ⟨_, _, _, (hS.cel mp0 rfl), ?_⟩
  refine ⟨_, (hS.cel mp0 rfl), ?_⟩
  obtain ⟨⟨t2, t3, t4⟩, ho2, h⟩ := bnd h
  refine wk_girderref02_Dyad H hS (hq0_1.mono tl1) ho2 ?_; clear hS ho2; rintro a2 m2 c2 w hS
  refine ⟨_, _, _, _, _, rfl, ?_⟩
  obtain ⟨t5, ht5, h⟩ := bnd h
  refine wk_girderref02_Rounded H hS (Ent.sl mp0) ht5 ?_; clear hS ht5; rintro z3 w rfl hS
  refine ⟨_, rfl, ?_⟩
  obtain ⟨⟨t6, t7, t8, t9⟩, ho6, h⟩ := bnd h
  refine wk_girderref02_Of H hS  ho6 ?_; clear hS ho6; rintro a4 m4 c4 w hS
  refine ⟨_, _, _, _, _, _, rfl, ?_⟩
  refine newM_s hS ?_; clear hS; intro r5 w hS
  refine stc_s hS rfl rfl ?_; clear hS; intro w hS
  refine stc_s hS rfl rfl ?_; clear hS; intro w hS
  refine stc_s hS rfl rfl ?_; clear hS; intro w hS
  refine cond_s h ?_ ?_ <;> clear h <;> intro hc h
  ·
   refine ⟨_, (hS.cel mp3 rfl), ?_⟩
   refine ⟨_, _, _, (hS.cel mp3 rfl), ?_⟩
   refine ⟨_, (hS.cel mp3 rfl), ?_⟩
   refine ⟨_, (hS.cel mp0 rfl), ?_⟩
   refine ⟨_, _, _, (hS.cel mp0 rfl), ?_⟩
   refine ⟨_, (hS.cel mp0 rfl), ?_⟩
   refine drM_s hS ?_; clear hS; intro w hS
   obtain ⟨⟨t10, t11, t12⟩, ho10, h⟩ := bnd h
   refine wk_girderref02_Dyad H hS (hq0_1.mono tl4) ho10 ?_; clear hS ho10; rintro a6 m6 c6 w hS
   refine ⟨_, _, _, _, _, rfl, ?_⟩
   refine ⟨(hS.cel mp1 rfl), ?_⟩
   refine ⟨(hS.cel mp1 rfl), ?_⟩
   refine ⟨(hS.cel mp1 rfl), ?_⟩
   refine drM_s hS ?_; clear hS; intro w hS
   obtain ⟨⟨t13, t14, t15⟩, ho13, h⟩ := bnd h
   refine wk_girderref02_Dyad H hS (Ent.sl mp2) ho13 ?_; clear hS ho13; rintro a7 m7 c7 w hS
   refine ⟨_, _, _, _, _, rfl, ?_⟩
   refine drM_s hS ?_; clear hS; intro w hS
   obtain ⟨t16, ht16, h⟩ := bnd h
   refine wk_girderref02_Compare H hS (Ent.sl mp1) (Ent.sl mp0) ht16 ?_; clear hS ht16; rintro w hS
   refine ⟨_, rfl, ?_⟩
   refine drM_s hS ?_; clear hS; intro w hS
   have h := some_inj h
   cases h
   exact hK _ (hS.pick (A := [_, _, _, _, _, _]) [] rfl)
  ·
   refine drM_s hS ?_; clear hS; intro w hS
   refine drM_s hS ?_; clear hS; intro w hS
   refine drM_s hS ?_; clear hS; intro w hS
   refine drM_s hS ?_; clear hS; intro w hS
   have h := some_inj h
   cases h
   exact hK _ (hS.pick (A := [_, _, _, _]) [] rfl)

theorem wk_girderlaw02_DyadNorms {N : Nums} {P : Program} (H : AllOk N P) {w0 w : World} {L : List It} {q0_0 : Bool} {q0_1 : Option Addr} {q0_1l q0_1c : Nat} {l0_1 : List Int} {q0_2 : Int} {u0 : Bool} (hS : Ho w0 w (L)) (hq0_1 : Ent L (rdA (List.map (Value.int .u64) l0_1) q0_1 q0_1l q0_1c)) (hG : Ent L (tab64 N.g_1)) (hx : T_girderlaw02_DyadNorms q0_0 l0_1 q0_2 = some u0) {K : Value → World → Prop} (hK : ∀  (w1 : World), Ho w0 w1 (L) → K (.bool u0) w1) : CallsX P N.f_girderlaw02_DyadNorms #[.agg #[.bool q0_0, .slice q0_1 q0_1l q0_1c, .int .i64 q0_2]] w K := by
 refine H.girderlaw02_DyadNorms q0_0 q0_1 q0_1l q0_1c q0_2 w _ ?_
 unfold S_girderlaw02_DyadNorms
 unfold T_girderlaw02_DyadNorms at hx
 have h := hx
 clear hx
 try dsimp only
 refine newM_s hS ?_; clear hS; intro r1 w hS
 obtain ⟨t1, ht1, h⟩ := bnd h
 refine wk_girderlaw02_awake H hS (hG.mono tl1) ht1 ?_; clear hS ht1; rintro w hS
 refine ⟨_, rfl, ?_⟩
 refine cond_s h ?_ ?_ <;> clear h <;> intro hc h
 ·
  have h := some_inj h
  cases h
  exact hK _ (hS.pick (A := [_]) [] rfl)
 ·
  refine ⟨_, (hS.cel mp0 rfl), ?_⟩
  refine ⟨_, _, _, (hS.cel mp0 rfl), ?_⟩
  refine ⟨_, (hS.cel mp0 rfl), ?_⟩
  obtain ⟨⟨t2, t3, t4⟩, ho2, h⟩ := bnd h
  refine wk_girderkit_LentDyad H hS (hq0_1.mono tl1) ho2 ?_; clear hS ho2; rintro r2 w rfl hS
  refine ⟨_, _, _, _, _, rfl, ?_⟩
  refine newM_s hS ?_; clear hS; intro r3 w hS
  refine stc_s hS rfl rfl ?_; clear hS; intro w hS
  refine stc_s hS rfl rfl ?_; clear hS; intro w hS
  refine stc_s hS rfl rfl ?_; clear hS; intro w hS
  refine ⟨_, (hS.cel mp0 rfl), ?_⟩
  refine ⟨_, _, _, (hS.cel mp0 rfl), ?_⟩
  refine ⟨_, (hS.cel mp0 rfl), ?_⟩
  refine ⟨_, (hS.cel mp0 rfl), ?_⟩
  refine ⟨_, _, _, (hS.cel mp0 rfl), ?_⟩
  refine ⟨_, (hS.cel mp0 rfl), ?_⟩
  refine drM_s hS ?_; clear hS; intro w hS
  obtain ⟨t5, ht5, h⟩ := bnd h
  refine wk_dyad_Right H hS (Ent.lent (Ent.sl mp1) rfl rfl) ht5 ?_; clear hS ht5; rintro w hS
  refine ⟨_, rfl, ?_⟩
  refine ⟨(hS.cel mp0 rfl), ?_⟩
  refine ⟨(hS.cel mp0 rfl), ?_⟩
  refine ⟨(hS.cel mp0 rfl), ?_⟩
  refine drM_s hS ?_; clear hS; intro w hS
  obtain ⟨t6, ht6, h⟩ := bnd h
  refine wk_dyad_Fits H hS (Ent.lent (Ent.sl mp1) rfl rfl) ht6 ?_; clear hS ht6; rintro w hS
  refine ⟨_, rfl, ?_⟩
  refine drM_s hS ?_; clear hS; intro w hS
  refine ⟨_, (hS.cel mp0 rfl), ?_⟩
  refine ⟨_, _, _, (hS.cel mp0 rfl), ?_⟩
  refine ⟨_, (hS.cel mp0 rfl), ?_⟩
  obtain ⟨⟨t7, t8, t9, t10⟩, ho7, h⟩ := bnd h
  refine wk_dyad_Norm H hS (Ent.lent (Ent.sl mp1) rfl rfl) ho7 ?_; clear hS ho7; rintro a4 m4 c4 w hS
  refine ⟨_, _, _, _, _, _, rfl, ?_⟩
  refine newM_s hS ?_; clear hS; intro r5 w hS
  refine stc_s hS rfl rfl ?_; clear hS; intro w hS
  refine stc_s hS rfl rfl ?_; clear hS; intro w hS
  refine stc_s hS rfl rfl ?_; clear hS; intro w hS
  refine ⟨_, (hS.cel mp2 rfl), ?_⟩
  refine ⟨_, _, _, (hS.cel mp2 rfl), ?_⟩
  refine ⟨_, (hS.cel mp2 rfl), ?_⟩
  refine ⟨_, (hS.cel mp4 rfl), ?_⟩
  refine ⟨_, _, _, (hS.cel mp4 rfl), ?_⟩
  refine ⟨_, (hS.cel mp4 rfl), ?_⟩
  obtain ⟨t11, ht11, h⟩ := bnd h
  refine wk_girderkit_KeptDyad H hS (Ent.sl mp3) (hq0_1.mono tl5) ht11 ?_; clear hS ht11; rintro w hS
  refine ⟨_, rfl, ?_⟩
  refine ⟨_, (hS.cel mp2 rfl), ?_⟩
  refine ⟨_, _, _, (hS.cel mp2 rfl), ?_⟩
  refine ⟨_, (hS.cel mp2 rfl), ?_⟩
  obtain ⟨t12, ht12, h⟩ := bnd h
  have kt12 := ovr_s ht12
  clear ht12
  replace hS := ro3 hS
  refine wk_girderkit_OverDyad H hS kt12 ?_; clear hS kt12; intro w hS
  refine ⟨rfl, ?_⟩
  refine ⟨_, (hS.cel mp3 rfl), ?_⟩
  refine ⟨_, _, _, (hS.cel mp3 rfl), ?_⟩
  refine ⟨_, (hS.cel mp3 rfl), ?_⟩
  obtain ⟨⟨t13, t14, t15, t16⟩, ho13, h⟩ := bnd h
  refine wk_girderref02_Norm H hS (hq0_1.mono tl4) ho13 ?_; clear hS ho13; rintro a6 m6 c6 w hS
  refine ⟨_, _, _, _, _, _, rfl, ?_⟩
  refine newM_s hS ?_; clear hS; intro r7 w hS
  refine stc_s hS rfl rfl ?_; clear hS; intro w hS
  refine stc_s hS rfl rfl ?_; clear hS; intro w hS
  refine stc_s hS rfl rfl ?_; clear hS; intro w hS
  refine cond_s h ?_ ?_ <;> clear h <;> intro hc h
  ·
   refine ⟨_, (hS.cel mp5 rfl), ?_⟩
   refine ⟨_, _, _, (hS.cel mp5 rfl), ?_⟩
   refine ⟨_, (hS.cel mp5 rfl), ?_⟩
   obtain ⟨t17, ht17, h⟩ := bnd h
   refine wk_girderref02_Right H hS (hq0_1.mono tl6) ht17 ?_; clear hS ht17; rintro w hS
   refine ⟨_, rfl, ?_⟩
   refine cond_s h ?_ ?_ <;> clear h <;> intro hc h
   ·
    refine ⟨_, (hS.cel mp5 rfl), ?_⟩
    refine ⟨_, _, _, (hS.cel mp5 rfl), ?_⟩
    refine ⟨_, (hS.cel mp5 rfl), ?_⟩
    obtain ⟨t18, ht18, h⟩ := bnd h
    refine wk_girderref02_Fits H hS (hq0_1.mono tl6) ht18 ?_; clear hS ht18; rintro w hS
    refine ⟨_, rfl, ?_⟩
    refine cond_s h ?_ ?_ <;> clear h <;> intro hc h
    ·
     refine cond_s h ?_ ?_ <;> clear h <;> intro hc h
     ·
      refine ⟨_, (hS.cel mp2 rfl), ?_⟩
      refine ⟨_, _, _, (hS.cel mp2 rfl), ?_⟩
      refine ⟨_, (hS.cel mp2 rfl), ?_⟩
      refine ⟨_, (hS.cel mp0 rfl), ?_⟩
      refine ⟨_, _, _, (hS.cel mp0 rfl), ?_⟩
      refine ⟨_, (hS.cel mp0 rfl), ?_⟩
      obtain ⟨t19, ht19, h⟩ := bnd h
      refine wk_girderkit_SameDyad H hS (Ent.sl mp3) (Ent.sl mp1) ht19 ?_; clear hS ht19; rintro w hS
      refine ⟨_, rfl, ?_⟩
      have h := some_inj h
      cases h
      exact hK _ (hS.pick (A := [_, _, _, _, _, _]) [] rfl)
     ·
      have h := some_inj h
      cases h
      exact hK _ (hS.pick (A := [_, _, _, _, _, _]) [] rfl)
    ·
     have h := some_inj h
     cases h
     exact hK _ (hS.pick (A := [_, _, _, _, _, _]) [] rfl)
   ·
    have h := some_inj h
    cases h
    exact hK _ (hS.pick (A := [_, _, _, _, _, _]) [] rfl)
  ·
   have h := some_inj h
   cases h
   exact hK _ (hS.pick (A := [_, _, _, _, _, _]) [] rfl)

end Go.Eng
