/-
  Each function comes to what its function of plain Lean says, printed by a program of the session. No condition.
-/
import Derived.Test.YtkbmapgioggadaaWk1
set_option linter.unusedSimpArgs false
set_option linter.unnecessarySimpa false
set_option linter.unusedSectionVars false
set_option linter.unusedVariables false
set_option maxRecDepth 100000
set_option maxHeartbeats 4000000
namespace Go.Eng
open Go

theorem wk_girderlaw12_even {N : Nums} {P : Program} (H : AllOk N P) {w0 w : World} {L : List It} {q0 : Option Addr} {q0l q0c : Nat} {ws0 : List Nat} {u0 : Bool} (hS : Ho w0 w (L)) (hq0 : Ent L (rdA (List.map (Value.float .f64) ws0) q0 q0l q0c)) (hx : T_girderlaw12_even (List.map nf ws0) = some u0) {K : Value → World → Prop} (hK : ∀  (w1 : World), Ho w0 w1 (L) → K (.bool u0) w1) : CallsX P N.f_girderlaw12_even #[.slice q0 q0l q0c] w K := by
  refine H.girderlaw12_even q0 q0l q0c w _ ?_
  unfold S_girderlaw12_even
  unfold T_girderlaw12_even at hx
  have h := hx
  clear hx
  try dsimp only
  replace h := bnd h
  obtain ⟨o1, h1, c1⟩ := h
  refine cutM_i (fun s w =>  .inl () = o1 ∧ s = (()) ∧ Ho w0 w (L)) (fun J1 hJ1 => ?_) ?_
  · have h := h1
    clear h1
    refine iter_sim (fun s w t => ∃ (t1 : Int), t1 = t ∧ s = (t1, ()) ∧ Ho w0 w (L)) ?_ h ⟨_, rfl, rfl, hS⟩
    clear h hS
    rintro s w t X q ⟨t1, rfl, rfl, hS⟩ h hX hO
    unfold T_girderlaw12_even_b2 at h
    try dsimp only
    replace h := bnd h
    obtain ⟨t2, ht2, h⟩ := h
    obtain rfl := lenF ht2 (hq0.now (fun _ h => h) hS)
    clear ht2
    refine cond_s h ?_ ?_ <;> clear h <;> intro hc h
    · replace h := bnd h
      obtain ⟨t3, ht3, h⟩ := h
      obtain ⟨z2, rfl, q3x, q3l, q3r⟩ := atF ht3
      clear ht3
      refine idx_s (hq0.now (fun _ h => h) hS) q3x q3l q3r ?_; intro b4 hb4
      refine ⟨_, rd_get (hq0.now (fun _ h => h) hS) hb4 q3x, ?_⟩
      replace h := bnd h
      obtain ⟨t4, ht4, h⟩ := h
      refine wk_math_Abs H hS  ht4 ?_; clear hS ht4; rintro z5 w rfl hS
      refine ⟨_, rfl, ?_⟩
      replace h := bnd h
      obtain ⟨t5, ht5, h⟩ := h
      obtain rfl := fne_s ht5
      clear ht5
      refine cond_s h ?_ ?_ <;> clear h <;> intro hc h
      · replace h := bnd h
        obtain ⟨t6, ht6, h⟩ := h
        obtain rfl := fge_s ht6
        clear ht6
        refine cond_s h ?_ ?_ <;> clear h <;> intro hc h
        · replace h := bnd h
          obtain ⟨t7, ht7, h⟩ := h
          obtain rfl := fle_s ht7
          clear ht7
          refine cond_s h ?_ ?_ <;> clear h <;> intro hc h
          · obtain rfl := some_inj h
            have h := congrArg some (hO _ rfl)
            obtain rfl := some_inj h
            have h := c1
            have h := some_inj h
            cases h
            exact hK _ hS
          · obtain rfl := some_inj h
            exact hX _ rfl _ _ ⟨_, rfl, rfl, hS⟩
        · obtain rfl := some_inj h
          have h := congrArg some (hO _ rfl)
          obtain rfl := some_inj h
          have h := c1
          have h := some_inj h
          cases h
          exact hK _ hS
      · obtain rfl := some_inj h
        exact hX _ rfl _ _ ⟨_, rfl, rfl, hS⟩
    · obtain rfl := some_inj h
      have h := congrArg some (hO _ rfl)
      obtain rfl := some_inj h
      exact hJ1 _ _ ⟨rfl, rfl, hS⟩
  · clear h1 hS
    rintro s w ⟨rfl, rfl, hS⟩
    have h := c1
    clear c1
    try dsimp only
    have h := some_inj h
    cases h
    exact hK _ hS

theorem wk_girderkit_Pick {N : Nums} {P : Program} (H : AllOk N P) {w0 w : World} {L : List It} {q0 : Int} {q1 : Int} {u0 : Int} (hS : Ho w0 w (L))  (hx : T_girderkit_Pick q0 q1 = some u0) {K : Value → World → Prop} (hK : ∀  (w1 : World), Ho w0 w1 (L) → K (.int .i64 u0) w1) : CallsX P N.f_girderkit_Pick #[.int .i64 q0, .int .i64 q1] w K := by
  refine H.girderkit_Pick q0 q1 w _ ?_
  unfold S_girderkit_Pick
  unfold T_girderkit_Pick at hx
  have h := hx
  clear hx
  try dsimp only
  refine cond_s h ?_ ?_ <;> clear h <;> intro hc h
  · have h := some_inj h
    cases h
    exact hK _ hS
  · replace h := bnd h
    obtain ⟨t2, ht2, h⟩ := h
    refine ⟨nz_s ht2, ?_⟩
    clear ht2
    replace h := bnd h
    obtain ⟨o1, h1, c1⟩ := h
    refine cutM_i (fun s w => ∃ (t1 : Int), t1 = o1 ∧ s = (t1, ()) ∧ Ho w0 w (L)) (fun J1 hJ1 => ?_) ?_
    · have h := h1
      clear h1
      refine cond_s h ?_ ?_ <;> clear h <;> intro hc h
      · obtain rfl := some_inj h
        exact hJ1 _ _ ⟨_, rfl, rfl, hS⟩
      · obtain rfl := some_inj h
        exact hJ1 _ _ ⟨_, rfl, rfl, hS⟩
    · clear h1 hS
      rintro s w ⟨t1, rfl, rfl, hS⟩
      have h := c1
      clear c1
      try dsimp only
      have h := some_inj h
      cases h
      exact hK _ hS

theorem wk_math_normalize {N : Nums} {P : Program} (H : AllOk N P) {w0 w : World} {L : List It} {q0 : Nat} {u0 : Nat} {u1 : Int} (hS : Ho w0 w (L))  (hx : T_math_normalize (nf q0) = some (u0, u1)) {K : Value → World → Prop} (hK : ∀ (z0 : Nat) (w1 : World), nf z0 = u0 → Ho w0 w1 (L) → K (.tuple #[.float .f64 z0, .int .i64 u1]) w1) : CallsX P N.f_math_normalize #[.float .f64 q0] w K := by
  refine H.math_normalize q0 w _ ?_
  unfold S_math_normalize
  unfold T_math_normalize at hx
  have h := hx
  clear hx
  try dsimp only
  replace h := bnd h
  obtain ⟨t1, ht1, h⟩ := h
  refine wk_math_Abs H hS  ht1 ?_; clear hS ht1; rintro z1 w rfl hS
  refine ⟨_, rfl, ?_⟩
  replace h := bnd h
  obtain ⟨t2, ht2, h⟩ := h
  obtain rfl := flt_s ht2
  clear ht2
  refine cond_s h ?_ ?_ <;> clear h <;> intro hc h
  · replace h := bnd h
    obtain ⟨t3, ht3, h⟩ := h
    refine fmul_s ht3 hS ?_; clear hS ht3; rintro z2 w rfl hS
    have h := some_inj h
    cases h
    exact hK _ _ rfl hS
  · have h := some_inj h
    cases h
    exact hK _ _ rfl hS

theorem wk_math_ldexp {N : Nums} {P : Program} (H : AllOk N P) {w0 w : World} {L : List It} {q0 : Nat} {q1 : Int} {u0 : Nat} (hS : Ho w0 w (L))  (hx : T_math_ldexp (nf q0) q1 = some u0) {K : Value → World → Prop} (hK : ∀ (z0 : Nat) (w1 : World), nf z0 = u0 → Ho w0 w1 (L) → K (.float .f64 z0) w1) : CallsX P N.f_math_ldexp #[.float .f64 q0, .int .i64 q1] w K := by
  refine H.math_ldexp q0 q1 w _ ?_
  unfold S_math_ldexp
  unfold T_math_ldexp at hx
  have h := hx
  clear hx
  try dsimp only
  replace h := bnd h
  obtain ⟨t1, ht1, h⟩ := h
  obtain rfl := feq_s ht1
  clear ht1
  refine cond_s h ?_ ?_ <;> clear h <;> intro hc h
  · have h := some_inj h
    cases h
    exact hK _ _ rfl hS
  · replace h := bnd h
    obtain ⟨o1, h1, c1⟩ := h
    refine cutM_i (fun s w => ∃ (t2 : Bool), t2 = o1 ∧ s = (t2, ()) ∧ Ho w0 w (L)) (fun J1 hJ1 => ?_) ?_
    · have h := h1
      clear h1
      replace h := bnd h
      obtain ⟨t3, ht3, h⟩ := h
      refine wk_math_IsInf H hS  ht3 ?_; clear hS ht3; rintro w hS
      refine ⟨_, rfl, ?_⟩
      refine cond_s h ?_ ?_ <;> clear h <;> intro hc h
      · replace h := bnd h
        obtain ⟨t4, ht4, h⟩ := h
        refine wk_math_IsNaN H hS  ht4 ?_; clear hS ht4; rintro w hS
        refine ⟨_, rfl, ?_⟩
        obtain rfl := some_inj h
        exact hJ1 _ _ ⟨_, rfl, rfl, hS⟩
      · obtain rfl := some_inj h
        exact hJ1 _ _ ⟨_, rfl, rfl, hS⟩
    · clear h1 hS
      rintro s w ⟨t2, rfl, rfl, hS⟩
      have h := c1
      clear c1
      try dsimp only
      refine cond_s h ?_ ?_ <;> clear h <;> intro hc h
      · have h := some_inj h
        cases h
        exact hK _ _ rfl hS
      · replace h := bnd h
        obtain ⟨⟨t5, t6⟩, ho5, h⟩ := h
        refine wk_math_normalize H hS  ho5 ?_; clear hS ho5; rintro z2 w rfl hS
        refine ⟨_, _, rfl, ?_⟩
        replace h := bnd h
        obtain ⟨t7, ht7, h⟩ := h
        refine wk_math_Float64bits H hS  ht7 ?_; clear hS ht7; rintro w hS
        refine ⟨_, rfl, ?_⟩
        refine ⟨by decide, ?_⟩
        refine cond_s h ?_ ?_ <;> clear h <;> intro hc h
        · replace h := bnd h
          obtain ⟨t8, ht8, h⟩ := h
          refine wk_math_Copysign H hS  ht8 ?_; clear hS ht8; rintro z3 w rfl hS
          refine ⟨_, rfl, ?_⟩
          have h := some_inj h
          cases h
          exact hK _ _ rfl hS
        · refine cond_s h ?_ ?_ <;> clear h <;> intro hc h
          · replace h := bnd h
            obtain ⟨t9, ht9, h⟩ := h
            obtain rfl := flt_s ht9
            clear ht9
            refine cond_s h ?_ ?_ <;> clear h <;> intro hc h
            · replace h := bnd h
              obtain ⟨t10, ht10, h⟩ := h
              refine wk_math_Inf H hS  ht10 ?_; clear hS ht10; rintro z4 w rfl hS
              refine ⟨_, rfl, ?_⟩
              have h := some_inj h
              cases h
              exact hK _ _ rfl hS
            · replace h := bnd h
              obtain ⟨t11, ht11, h⟩ := h
              refine wk_math_Inf H hS  ht11 ?_; clear hS ht11; rintro z5 w rfl hS
              refine ⟨_, rfl, ?_⟩
              have h := some_inj h
              cases h
              exact hK _ _ rfl hS
          · replace h := bnd h
            obtain ⟨o7, h7, c7⟩ := h
            refine cutM_i (fun s w => ∃ (t12 : Int) (z6 : Nat), (t12, (nf z6)) = o7 ∧ s = (t12, z6, ()) ∧ Ho w0 w (L)) (fun J7 hJ7 => ?_) ?_
            · have h := h7
              clear h7
              refine cond_s h ?_ ?_ <;> clear h <;> intro hc h
              · obtain rfl := some_inj h
                exact hJ7 _ _ ⟨_, _, rfl, rfl, hS⟩
              · obtain rfl := some_inj h
                exact hJ7 _ _ ⟨_, _, rfl, rfl, hS⟩
            · clear h7 hS
              rintro s w ⟨t12, z6, rfl, rfl, hS⟩
              have h := c7
              clear c7
              try dsimp only
              refine ⟨by decide, ?_⟩
              replace h := bnd h
              obtain ⟨t14, ht14, h⟩ := h
              refine wk_math_Float64frombits H hS  ht14 ?_; clear hS ht14; rintro z8 w rfl hS
              refine ⟨_, rfl, ?_⟩
              replace h := bnd h
              obtain ⟨t15, ht15, h⟩ := h
              refine fmul_s ht15 hS ?_; clear hS ht15; rintro z9 w rfl hS
              have h := some_inj h
              cases h
              exact hK _ _ rfl hS

theorem wk_math_Ldexp {N : Nums} {P : Program} (H : AllOk N P) {w0 w : World} {L : List It} {q0 : Nat} {q1 : Int} {u0 : Nat} (hS : Ho w0 w (L))  (hx : T_math_Ldexp (nf q0) q1 = some u0) {K : Value → World → Prop} (hK : ∀ (z0 : Nat) (w1 : World), nf z0 = u0 → Ho w0 w1 (L) → K (.float .f64 z0) w1) : CallsX P N.f_math_Ldexp #[.float .f64 q0, .int .i64 q1] w K := by
  refine H.math_Ldexp q0 q1 w _ ?_
  unfold S_math_Ldexp
  unfold T_math_Ldexp at hx
  have h := hx
  clear hx
  try dsimp only
  replace h := bnd h
  obtain ⟨t1, ht1, h⟩ := h
  refine wk_math_ldexp H hS  ht1 ?_; clear hS ht1; rintro z1 w rfl hS
  refine ⟨_, rfl, ?_⟩
  have h := some_inj h
  cases h
  exact hK _ _ rfl hS

theorem wk_girderkit_CopyReals {N : Nums} {P : Program} (H : AllOk N P) {w0 w : World} {L : List It} {q0 : Option Addr} {q0l q0c : Nat} {ws0 : List Nat} {u0 : List Nat} (hS : Ho w0 w (L)) (hq0 : Ent L (rdA (List.map (Value.float .f64) ws0) q0 q0l q0c)) (hx : T_girderkit_CopyReals (List.map nf ws0) = some u0) {K : Value → World → Prop} (hK : ∀ (a0 : Option Addr) (n0 c0 : Nat) (rws0 : List Nat) (w1 : World), List.map nf rws0 = u0 → Ho w0 w1 ((sl a0 n0 c0 (List.map (Value.float .f64) rws0) N.t_float64) :: L) → K (.slice a0 n0 c0) w1) : CallsX P N.f_girderkit_CopyReals #[.slice q0 q0l q0c] w K := by
  refine H.girderkit_CopyReals q0 q0l q0c w _ ?_
  unfold S_girderkit_CopyReals
  unfold T_girderkit_CopyReals at hx
  have h := hx
  clear hx
  try dsimp only
  replace h := bnd h
  obtain ⟨t1, ht1, h⟩ := h
  obtain ⟨rfl, kt1⟩ := appF ht1
  clear ht1
  replace hS := hS.none (α := Nat) (enc := (Value.float .f64)) (t := N.t_float64)
  refine app_s hS kt1 ((hq0.mono tl1).now (fun _ h => h) hS) (fun _ => rfl) rfl ?_; clear hS kt1; intro a1 c1 w hS
  have h := some_inj h
  cases h
  exact hK _ _ _ _ _ rfl hS

theorem wk_girderkit_CopyMatrix {N : Nums} {P : Program} (H : AllOk N P) {w0 w : World} {L : List It} {q0_0 : Int} {q0_1 : Int} {q0_2 : Option Addr} {q0_2l q0_2c : Nat} {ws0_2 : List Nat} {u0 : Int} {u1 : Int} {u2 : List Nat} (hS : Ho w0 w (L)) (hq0_2 : Ent L (rdA (List.map (Value.float .f64) ws0_2) q0_2 q0_2l q0_2c)) (hx : T_girderkit_CopyMatrix q0_0 q0_1 (List.map nf ws0_2) = some (u0, u1, u2)) {K : Value → World → Prop} (hK : ∀ (a2 : Option Addr) (n2 c2 : Nat) (rws2 : List Nat) (w1 : World), List.map nf rws2 = u2 → Ho w0 w1 ((sl a2 n2 c2 (List.map (Value.float .f64) rws2) N.t_float64) :: L) → K (.agg #[.int .i64 u0, .int .i64 u1, .slice a2 n2 c2]) w1) : CallsX P N.f_girderkit_CopyMatrix #[.agg #[.int .i64 q0_0, .int .i64 q0_1, .slice q0_2 q0_2l q0_2c]] w K := by
  refine H.girderkit_CopyMatrix q0_0 q0_1 q0_2 q0_2l q0_2c w _ ?_
  unfold S_girderkit_CopyMatrix
  unfold T_girderkit_CopyMatrix at hx
  have h := hx
  clear hx
  try dsimp only
  refine newM_s hS ?_; clear hS; intro r1 w hS
  refine newM_s hS ?_; clear hS; intro r2 w hS
  refine ⟨_, _, _, (hS.cel mp1 rfl), ?_⟩
  replace h := bnd h
  obtain ⟨t1, ht1, h⟩ := h
  refine wk_girderkit_CopyReals H hS (hq0_2.mono tl2) ht1 ?_; clear hS ht1; rintro a3 m3 c3 ws3 w rfl hS
  refine ⟨_, _, _, rfl, ?_⟩
  replace hS := ro2 hS
  refine stc_s hS rfl rfl ?_; clear hS; intro w hS
  refine ⟨_, (hS.cel mp0 rfl), ?_⟩
  refine ⟨_, (hS.cel mp0 rfl), ?_⟩
  refine ⟨_, _, _, (hS.cel mp0 rfl), ?_⟩
  replace hS := ro2 hS
  refine stc_s hS rfl rfl ?_; clear hS; intro w hS
  refine stc_s hS rfl rfl ?_; clear hS; intro w hS
  refine stc_s hS rfl rfl ?_; clear hS; intro w hS
  refine ⟨_, (hS.cel mp0 rfl), ?_⟩
  refine ⟨_, (hS.cel mp0 rfl), ?_⟩
  refine ⟨_, _, _, (hS.cel mp0 rfl), ?_⟩
  have h := some_inj h
  cases h
  exact hK _ _ _ _ _ rfl (hS.pick (A := [_, _, _]) [2] rfl)

theorem wk_girderlaw12_LowerScaled {N : Nums} {P : Program} (H : AllOk N P) {w0 w : World} {L : List It} {q0_0 : Int} {q0_1 : Int} {q0_2 : Option Addr} {q0_2l q0_2c : Nat} {ws0_2 : List Nat} {q1 : Int} {u0 : Bool} (hS : Ho w0 w (L)) (hq0_2 : Ent L (rdA (List.map (Value.float .f64) ws0_2) q0_2 q0_2l q0_2c)) (hx : T_girderlaw12_LowerScaled q0_0 q0_1 (List.map nf ws0_2) q1 = some u0) {K : Value → World → Prop} (hK : ∀  (w1 : World), Ho w0 w1 (L) → K (.bool u0) w1) : CallsX P N.f_girderlaw12_LowerScaled #[.agg #[.int .i64 q0_0, .int .i64 q0_1, .slice q0_2 q0_2l q0_2c], .int .i64 q1] w K := by
  refine H.girderlaw12_LowerScaled q0_0 q0_1 q0_2 q0_2l q0_2c q1 w _ ?_
  unfold S_girderlaw12_LowerScaled
  unfold T_girderlaw12_LowerScaled at hx
  have h := hx
  clear hx
  try dsimp only
  refine newM_s hS ?_; clear hS; intro r1 w hS
  replace h := bnd h
  obtain ⟨t1, ht1, h⟩ := h
  refine wk_girderlaw12_awake H hS  ht1 ?_; clear hS ht1; rintro w hS
  refine ⟨_, rfl, ?_⟩
  refine cond_s h ?_ ?_ <;> clear h <;> intro hc h
  · have h := some_inj h
    cases h
    exact hK _ (hS.pick (A := [_]) [] rfl)
  · refine ⟨_, (hS.cel mp0 rfl), ?_⟩
    refine ⟨_, (hS.cel mp0 rfl), ?_⟩
    refine ⟨_, _, _, (hS.cel mp0 rfl), ?_⟩
    replace h := bnd h
    obtain ⟨⟨t2, t3, t4⟩, ho2, h⟩ := h
    refine wk_girderlaw12_mirrored H hS (hq0_2.mono tl1) ho2 ?_; clear hS ho2; rintro a2 m2 c2 ws2 w rfl hS
    refine ⟨_, _, _, _, _, rfl, ?_⟩
    replace hS := ro1 hS
    refine stc_s hS rfl rfl ?_; clear hS; intro w hS
    refine stc_s hS rfl rfl ?_; clear hS; intro w hS
    refine stc_s hS rfl rfl ?_; clear hS; intro w hS
    refine ⟨_, (hS.cel mp0 rfl), ?_⟩
    refine ⟨_, (hS.cel mp0 rfl), ?_⟩
    refine ⟨_, _, _, (hS.cel mp0 rfl), ?_⟩
    replace h := bnd h
    obtain ⟨⟨t5, t6, t7, t8, t9⟩, ho5, h⟩ := h
    refine wk_lower_Factor H hS (Ent.sl mp1) ho5 ?_; clear hS ho5; rintro a3 m3 c3 ws3 a4 m4 c4 ws4 w rfl rfl hS
    refine ⟨_, _, _, _, _, _, _, _, _, rfl, ?_⟩
    refine newM_s hS ?_; clear hS; intro r5 w hS
    refine stc_s hS rfl rfl ?_; clear hS; intro w hS
    refine stc_s hS rfl rfl ?_; clear hS; intro w hS
    refine stc_s hS rfl rfl ?_; clear hS; intro w hS
    replace h := bnd h
    obtain ⟨o6, h6, c6⟩ := h
    refine cutM_i (fun s w => ∃ (t10 : Bool), t10 = o6 ∧ s = (t10, ()) ∧ Ho w0 w ((cl r5 [.int .i64 t5, .slice a3 m3 c3, .slice a4 m4 c4] N.t_Factor) :: (sl a3 m3 c3 (List.map (Value.float .f64) ws3) N.t_float64) :: (sl a4 m4 c4 (List.map (Value.float .f64) ws4) N.t_float64) :: (cl r1 [.int .i64 t2, .int .i64 t3, .slice a2 m2 c2] N.t_Matrix) :: (sl a2 m2 c2 (List.map (Value.float .f64) ws2) N.t_float64) :: L)) (fun J6 hJ6 => ?_) ?_
    · have h := h6
      clear h6
      refine cond_s h ?_ ?_ <;> clear h <;> intro hc h
      · refine ⟨_, _, _, (hS.cel mp3 rfl), ?_⟩
        replace h := bnd h
        obtain ⟨t11, ht11, h⟩ := h
        refine wk_girderlaw12_even H hS (Ent.sl mp4) ht11 ?_; clear hS ht11; rintro w hS
        refine ⟨_, rfl, ?_⟩
        refine cond_s h ?_ ?_ <;> clear h <;> intro hc h
        · refine ⟨_, _, _, (hS.cel mp0 rfl), ?_⟩
          replace h := bnd h
          obtain ⟨t12, ht12, h⟩ := h
          refine wk_girderlaw12_even H hS (Ent.sl mp1) ht12 ?_; clear hS ht12; rintro w hS
          refine ⟨_, rfl, ?_⟩
          refine cond_s h ?_ ?_ <;> clear h <;> intro hc h
          · refine ⟨_, _, _, (hS.cel mp0 rfl), ?_⟩
            replace h := bnd h
            obtain ⟨t13, ht13, h⟩ := h
            refine wk_girderlaw12_even H hS (Ent.sl mp2) ht13 ?_; clear hS ht13; rintro w hS
            refine ⟨_, rfl, ?_⟩
            obtain rfl := some_inj h
            exact hJ6 _ _ ⟨_, rfl, rfl, hS⟩
          · obtain rfl := some_inj h
            exact hJ6 _ _ ⟨_, rfl, rfl, hS⟩
        · obtain rfl := some_inj h
          exact hJ6 _ _ ⟨_, rfl, rfl, hS⟩
      · obtain rfl := some_inj h
        exact hJ6 _ _ ⟨_, rfl, rfl, hS⟩
    · clear h6 hS
      rintro s w ⟨t10, rfl, rfl, hS⟩
      have h := c6
      clear c6
      try dsimp only
      refine cond_s h ?_ ?_ <;> clear h <;> intro hc h
      · have h := some_inj h
        cases h
        exact hK _ (hS.pick (A := [_, _, _, _, _]) [] rfl)
      · replace h := bnd h
        obtain ⟨t14, ht14, h⟩ := h
        refine wk_girderkit_Pick H hS  ht14 ?_; clear hS ht14; rintro w hS
        refine ⟨_, rfl, ?_⟩
        replace h := bnd h
        obtain ⟨t15, ht15, h⟩ := h
        refine wk_math_Ldexp H hS  ht15 ?_; clear hS ht15; rintro z7 w rfl hS
        refine ⟨_, rfl, ?_⟩
        refine ⟨_, (hS.cel mp3 rfl), ?_⟩
        refine ⟨_, (hS.cel mp3 rfl), ?_⟩
        refine ⟨_, _, _, (hS.cel mp3 rfl), ?_⟩
        replace h := bnd h
        obtain ⟨⟨t16, t17, t18⟩, ho16, h⟩ := h
        refine wk_girderkit_CopyMatrix H hS (Ent.sl mp4) ho16 ?_; clear hS ho16; rintro a8 m8 c8 ws8 w rfl hS
        refine ⟨_, _, _, _, _, rfl, ?_⟩
        refine newM_s hS ?_; clear hS; intro r9 w hS
        refine stc_s hS rfl rfl ?_; clear hS; intro w hS
        refine stc_s hS rfl rfl ?_; clear hS; intro w hS
        refine stc_s hS rfl rfl ?_; clear hS; intro w hS
        replace h := bnd h
        obtain ⟨o11, h11, c11⟩ := h
        refine cutM_i (fun s w => ∃ (ws10 : List Nat), (List.map nf ws10) = o11 ∧ s = (()) ∧ Ho w0 w ((cl r9 [.int .i64 t16, .int .i64 t17, .slice a8 m8 c8] N.t_Matrix) :: (sl a8 m8 c8 (List.map (Value.float .f64) ws10) N.t_float64) :: (cl r5 [.int .i64 t5, .slice a3 m3 c3, .slice a4 m4 c4] N.t_Factor) :: (sl a3 m3 c3 (List.map (Value.float .f64) ws3) N.t_float64) :: (sl a4 m4 c4 (List.map (Value.float .f64) ws4) N.t_float64) :: L)) (fun J11 hJ11 => ?_) ?_
        · have h := h11
          clear h11
          refine iter_sim (fun s w t => ∃ (t20 : Int) (ws12 : List Nat), (t20, (List.map nf ws12)) = t ∧ s = (t20, ()) ∧ Ho w0 w ((cl r9 [.int .i64 t16, .int .i64 t17, .slice a8 m8 c8] N.t_Matrix) :: (sl a8 m8 c8 (List.map (Value.float .f64) ws12) N.t_float64) :: (cl r5 [.int .i64 t5, .slice a3 m3 c3, .slice a4 m4 c4] N.t_Factor) :: (sl a3 m3 c3 (List.map (Value.float .f64) ws3) N.t_float64) :: (sl a4 m4 c4 (List.map (Value.float .f64) ws4) N.t_float64) :: L)) ?_ h ⟨_, _, rfl, rfl, (hS.pick (A := [_, _, _, _, _, _, _]) [0, 0, 0, 0, 0] rfl)⟩
          clear h hS
          rintro s w t X q ⟨t20, ws12, rfl, rfl, hS⟩ h hX hO
          unfold T_girderlaw12_LowerScaled_b2 at h
          try dsimp only
          refine ⟨_, _, _, (hS.cel mp0 rfl), ?_⟩
          replace h := bnd h
          obtain ⟨t22, ht22, h⟩ := h
          obtain rfl := lenF ht22 ((Ent.sl mp1).now (fun _ h => h) hS)
          clear ht22
          refine cond_s h ?_ ?_ <;> clear h <;> intro hc h
          · refine ⟨_, _, _, (hS.cel mp0 rfl), ?_⟩
            refine ⟨_, _, _, (hS.cel mp0 rfl), ?_⟩
            replace h := bnd h
            obtain ⟨t23, ht23, h⟩ := h
            obtain ⟨z13, rfl, q14x, q14l, q14r⟩ := atF ht23
            clear ht23
            refine idx_s ((Ent.sl mp1).now (fun _ h => h) hS) q14x q14l q14r ?_; intro b15 hb15
            refine ⟨_, rd_get ((Ent.sl mp1).now (fun _ h => h) hS) hb15 q14x, ?_⟩
            replace h := bnd h
            obtain ⟨t24, ht24, h⟩ := h
            refine fmul_s ht24 hS ?_; clear ht24; rintro z16 _ rfl _
            replace h := bnd h
            obtain ⟨t25, ht25, h⟩ := h
            obtain ⟨z17, rfl, q18x, q18l, q18r⟩ := atF ht25
            clear ht25
            refine idx_s ((Ent.sl mp1).now (fun _ h => h) hS) q18x q18l q18r ?_; intro b19 hb19
            refine drM_s hS ?_; clear hS; intro w hS
            replace hS := ro1 hS
            replace h := bnd h
            obtain ⟨t26, ht26, h⟩ := h
            obtain rfl := setF ht26
            clear ht26
            refine sto_s hS hb19 q18r ?_; clear hS; intro w hS
            refine drM_s hS ?_; clear hS; intro w hS
            obtain rfl := some_inj h
            exact hX _ rfl _ _ ⟨_, _, rfl, rfl, (hS.pick (A := [_, _, _, _, _]) [1, 0, 0, 0, 0] rfl)⟩
          · obtain rfl := some_inj h
            have h := congrArg some (hO _ rfl)
            obtain rfl := some_inj h
            exact hJ11 _ _ ⟨_, rfl, rfl, hS⟩
        · clear h11 hS
          rintro s w ⟨ws10, rfl, rfl, hS⟩
          have h := c11
          clear c11
          try dsimp only
          refine ⟨_, _, _, (hS.cel mp2 rfl), ?_⟩
          replace h := bnd h
          obtain ⟨t27, ht27, h⟩ := h
          refine wk_girderkit_CopyReals H hS (Ent.sl mp4) ht27 ?_; clear hS ht27; rintro a20 m20 c20 ws20 w rfl hS
          refine ⟨_, _, _, rfl, ?_⟩
          replace h := bnd h
          obtain ⟨o22, h22, c22⟩ := h
          refine cutM_i (fun s w => ∃ (ws21 : List Nat), (List.map nf ws21) = o22 ∧ s = (()) ∧ Ho w0 w ((sl a20 m20 c20 (List.map (Value.float .f64) ws21) N.t_float64) :: (cl r9 [.int .i64 t16, .int .i64 t17, .slice a8 m8 c8] N.t_Matrix) :: (sl a8 m8 c8 (List.map (Value.float .f64) ws10) N.t_float64) :: (cl r5 [.int .i64 t5, .slice a3 m3 c3, .slice a4 m4 c4] N.t_Factor) :: (sl a3 m3 c3 (List.map (Value.float .f64) ws3) N.t_float64) :: (sl a4 m4 c4 (List.map (Value.float .f64) ws4) N.t_float64) :: L)) (fun J22 hJ22 => ?_) ?_
          · have h := h22
            clear h22
            refine iter_sim (fun s w t => ∃ (t29 : Int) (ws23 : List Nat), (t29, (List.map nf ws23)) = t ∧ s = (t29, ()) ∧ Ho w0 w ((sl a20 m20 c20 (List.map (Value.float .f64) ws23) N.t_float64) :: (cl r9 [.int .i64 t16, .int .i64 t17, .slice a8 m8 c8] N.t_Matrix) :: (sl a8 m8 c8 (List.map (Value.float .f64) ws10) N.t_float64) :: (cl r5 [.int .i64 t5, .slice a3 m3 c3, .slice a4 m4 c4] N.t_Factor) :: (sl a3 m3 c3 (List.map (Value.float .f64) ws3) N.t_float64) :: (sl a4 m4 c4 (List.map (Value.float .f64) ws4) N.t_float64) :: L)) ?_ h ⟨_, _, rfl, rfl, hS⟩
            clear h hS
            rintro s w t X q ⟨t29, ws23, rfl, rfl, hS⟩ h hX hO
            unfold T_girderlaw12_LowerScaled_b4 at h
            try dsimp only
            replace h := bnd h
            obtain ⟨t31, ht31, h⟩ := h
            obtain rfl := lenF ht31 ((Ent.sl mp0).now (fun _ h => h) hS)
            clear ht31
            refine cond_s h ?_ ?_ <;> clear h <;> intro hc h
            · replace h := bnd h
              obtain ⟨t32, ht32, h⟩ := h
              obtain ⟨z24, rfl, q25x, q25l, q25r⟩ := atF ht32
              clear ht32
              refine idx_s ((Ent.sl mp0).now (fun _ h => h) hS) q25x q25l q25r ?_; intro b26 hb26
              refine ⟨_, rd_get ((Ent.sl mp0).now (fun _ h => h) hS) hb26 q25x, ?_⟩
              replace h := bnd h
              obtain ⟨t33, ht33, h⟩ := h
              refine fmul_s ht33 hS ?_; clear hS ht33; rintro z27 w rfl hS
              replace h := bnd h
              obtain ⟨t34, ht34, h⟩ := h
              obtain ⟨z28, rfl, q29x, q29l, q29r⟩ := atF ht34
              clear ht34
              refine idx_s ((Ent.sl mp0).now (fun _ h => h) hS) q29x q29l q29r ?_; intro b30 hb30
              replace h := bnd h
              obtain ⟨t35, ht35, h⟩ := h
              obtain rfl := setF ht35
              clear ht35
              refine sto_s hS hb30 q29r ?_; clear hS; intro w hS
              obtain rfl := some_inj h
              exact hX _ rfl _ _ ⟨_, _, rfl, rfl, hS⟩
            · obtain rfl := some_inj h
              have h := congrArg some (hO _ rfl)
              obtain rfl := some_inj h
              exact hJ22 _ _ ⟨_, rfl, rfl, hS⟩
          · clear h22 hS
            rintro s w ⟨ws21, rfl, rfl, hS⟩
            have h := c22
            clear c22
            try dsimp only
            refine ⟨_, (hS.cel mp1 rfl), ?_⟩
            refine ⟨_, (hS.cel mp1 rfl), ?_⟩
            refine ⟨_, _, _, (hS.cel mp1 rfl), ?_⟩
            replace h := bnd h
            obtain ⟨⟨t36, t37, t38, t39, t40⟩, ho36, h⟩ := h
            refine wk_lower_Factor H hS (Ent.sl mp2) ho36 ?_; clear hS ho36; rintro a31 m31 c31 ws31 a32 m32 c32 ws32 w rfl rfl hS
            refine ⟨_, _, _, _, _, _, _, _, _, rfl, ?_⟩
            refine newM_s hS ?_; clear hS; intro r33 w hS
            refine stc_s hS rfl rfl ?_; clear hS; intro w hS
            refine stc_s hS rfl rfl ?_; clear hS; intro w hS
            refine stc_s hS rfl rfl ?_; clear hS; intro w hS
            refine cond_s h ?_ ?_ <;> clear h <;> intro hc h
            · refine cond_s h ?_ ?_ <;> clear h <;> intro hc h
              · refine ⟨_, _, _, (hS.cel mp0 rfl), ?_⟩
                refine ⟨_, _, _, (hS.cel mp6 rfl), ?_⟩
                replace h := bnd h
                obtain ⟨t41, ht41, h⟩ := h
                refine wk_girderkit_SameReals H hS (Ent.sl mp1) (Ent.sl mp7) ht41 ?_; clear hS ht41; rintro w hS
                refine ⟨_, rfl, ?_⟩
                refine cond_s h ?_ ?_ <;> clear h <;> intro hc h
                · refine ⟨_, _, _, (hS.cel mp0 rfl), ?_⟩
                  replace h := bnd h
                  obtain ⟨t42, ht42, h⟩ := h
                  refine wk_girderkit_SameReals H hS (Ent.sl mp2) (Ent.sl mp3) ht42 ?_; clear hS ht42; rintro w hS
                  refine ⟨_, rfl, ?_⟩
                  have h := some_inj h
                  cases h
                  exact hK _ (hS.pick (A := [_, _, _, _, _, _, _, _, _]) [] rfl)
                · have h := some_inj h
                  cases h
                  exact hK _ (hS.pick (A := [_, _, _, _, _, _, _, _, _]) [] rfl)
              · have h := some_inj h
                cases h
                exact hK _ (hS.pick (A := [_, _, _, _, _, _, _, _, _]) [] rfl)
            · have h := some_inj h
              cases h
              exact hK _ (hS.pick (A := [_, _, _, _, _, _, _, _, _]) [] rfl)

theorem wk_girderkit_CopyFactor {N : Nums} {P : Program} (H : AllOk N P) {w0 w : World} {L : List It} {q0_0 : Int} {q0_1 : Option Addr} {q0_1l q0_1c : Nat} {ws0_1 : List Nat} {q0_2 : Option Addr} {q0_2l q0_2c : Nat} {ws0_2 : List Nat} {u0 : Int} {u1 : List Nat} {u2 : List Nat} (hS : Ho w0 w (L)) (hq0_1 : Ent L (rdA (List.map (Value.float .f64) ws0_1) q0_1 q0_1l q0_1c)) (hq0_2 : Ent L (rdA (List.map (Value.float .f64) ws0_2) q0_2 q0_2l q0_2c)) (hx : T_girderkit_CopyFactor q0_0 (List.map nf ws0_1) (List.map nf ws0_2) = some (u0, u1, u2)) {K : Value → World → Prop} (hK : ∀ (a1 : Option Addr) (n1 c1 : Nat) (rws1 : List Nat) (a2 : Option Addr) (n2 c2 : Nat) (rws2 : List Nat) (w1 : World), List.map nf rws1 = u1 → List.map nf rws2 = u2 → Ho w0 w1 ((sl a1 n1 c1 (List.map (Value.float .f64) rws1) N.t_float64) :: (sl a2 n2 c2 (List.map (Value.float .f64) rws2) N.t_float64) :: L) → K (.agg #[.int .i64 u0, .slice a1 n1 c1, .slice a2 n2 c2]) w1) : CallsX P N.f_girderkit_CopyFactor #[.agg #[.int .i64 q0_0, .slice q0_1 q0_1l q0_1c, .slice q0_2 q0_2l q0_2c]] w K := by
  refine H.girderkit_CopyFactor q0_0 q0_1 q0_1l q0_1c q0_2 q0_2l q0_2c w _ ?_
  unfold S_girderkit_CopyFactor
  unfold T_girderkit_CopyFactor at hx
  have h := hx
  clear hx
  try dsimp only
  refine newM_s hS ?_; clear hS; intro r1 w hS
  refine newM_s hS ?_; clear hS; intro r2 w hS
  refine ⟨_, _, _, (hS.cel mp1 rfl), ?_⟩
  replace h := bnd h
  obtain ⟨t1, ht1, h⟩ := h
  refine wk_girderkit_CopyReals H hS (hq0_1.mono tl2) ht1 ?_; clear hS ht1; rintro a3 m3 c3 ws3 w rfl hS
  refine ⟨_, _, _, rfl, ?_⟩
  replace hS := ro2 hS
  refine stc_s hS rfl rfl ?_; clear hS; intro w hS
  refine ⟨_, _, _, (hS.cel mp0 rfl), ?_⟩
  replace h := bnd h
  obtain ⟨t2, ht2, h⟩ := h
  refine wk_girderkit_CopyReals H hS (hq0_2.mono tl3) ht2 ?_; clear hS ht2; rintro a4 m4 c4 ws4 w rfl hS
  refine ⟨_, _, _, rfl, ?_⟩
  replace hS := ro1 hS
  refine stc_s hS rfl rfl ?_; clear hS; intro w hS
  refine ⟨_, (hS.cel mp0 rfl), ?_⟩
  refine ⟨_, _, _, (hS.cel mp0 rfl), ?_⟩
  refine ⟨_, _, _, (hS.cel mp0 rfl), ?_⟩
  replace hS := ro3 hS
  refine stc_s hS rfl rfl ?_; clear hS; intro w hS
  refine stc_s hS rfl rfl ?_; clear hS; intro w hS
  refine stc_s hS rfl rfl ?_; clear hS; intro w hS
  refine ⟨_, (hS.cel mp0 rfl), ?_⟩
  refine ⟨_, _, _, (hS.cel mp0 rfl), ?_⟩
  refine ⟨_, _, _, (hS.cel mp0 rfl), ?_⟩
  have h := some_inj h
  cases h
  exact hK _ _ _ _ _ _ _ _ _ rfl rfl (hS.pick (A := [_, _, _, _]) [3, 2] rfl)

theorem wk_girderlaw12_LowerBack {N : Nums} {P : Program} (H : AllOk N P) {w0 w : World} {L : List It} {q0 : Option Addr} {q0l q0c : Nat} {l0 : List Int} {q1 : Option Addr} {q1l q1c : Nat} {l1 : List Int} {u0 : Bool} (hS : Ho w0 w (L)) (hq0 : Ent L (rdA (List.map (Value.int .i64) l0) q0 q0l q0c)) (hq1 : Ent L (rdA (List.map (Value.int .i64) l1) q1 q1l q1c)) (hx : T_girderlaw12_LowerBack l0 l1 = some u0) {K : Value → World → Prop} (hK : ∀  (w1 : World), Ho w0 w1 (L) → K (.bool u0) w1) : CallsX P N.f_girderlaw12_LowerBack #[.slice q0 q0l q0c, .slice q1 q1l q1c] w K := by
  refine H.girderlaw12_LowerBack q0 q0l q0c q1 q1l q1c w _ ?_
  unfold S_girderlaw12_LowerBack
  unfold T_girderlaw12_LowerBack at hx
  have h := hx
  clear hx
  try dsimp only
  replace h := bnd h
  obtain ⟨t1, ht1, h⟩ := h
  refine wk_girderlaw12_awake H hS  ht1 ?_; clear hS ht1; rintro w hS
  refine ⟨_, rfl, ?_⟩
  refine cond_s h ?_ ?_ <;> clear h <;> intro hc h
  · have h := some_inj h
    cases h
    exact hK _ hS
  · replace h := bnd h
    obtain ⟨t2, ht2, h⟩ := h
    obtain rfl := lenE ht2 (hq1.now (fun _ h => h) hS)
    clear ht2
    refine newM_s hS ?_; clear hS; intro r1 w hS
    refine stc_s hS rfl rfl ?_; clear hS; intro w hS
    refine stc_s hS rfl rfl ?_; clear hS; intro w hS
    refine stc_s hS rfl rfl ?_; clear hS; intro w hS
    replace h := bnd h
    obtain ⟨o6, h6, c6⟩ := h
    refine cutM_i (fun s w => ∃ (a2 : Option Addr) (m3 : Nat) (c4 : Nat) (ws5 : List Nat), (List.map nf ws5) = o6 ∧ s = (()) ∧ Ho w0 w ((cl r1 [.int .i64 (if 9 < ((q1l : Nat) : Int) then 9 else ((q1l : Nat) : Int)), .slice a2 m3 c4, .slice none 0 0] N.t_Factor) :: (sl a2 m3 c4 (List.map (Value.float .f64) ws5) N.t_float64) :: L)) (fun J6 hJ6 => ?_) ?_
    · have h := h6
      clear h6
      replace hS := hS.none (α := Nat) (enc := (Value.float .f64)) (t := N.t_float64)
      refine iter_sim (fun s w t => ∃ (t4 : Int) (a7 : Option Addr) (m8 : Nat) (c9 : Nat) (ws10 : List Nat), (t4, (List.map nf ws10)) = t ∧ s = (t4, ()) ∧ Ho w0 w ((cl r1 [.int .i64 (if 9 < ((q1l : Nat) : Int) then 9 else ((q1l : Nat) : Int)), .slice a7 m8 c9, .slice none 0 0] N.t_Factor) :: (sl a7 m8 c9 (List.map (Value.float .f64) ws10) N.t_float64) :: L)) ?_ h ⟨_, _, _, _, _, rfl, rfl, (hS.pick (A := [_, _]) [1, 0] rfl)⟩
      clear h hS
      rintro s w t X q ⟨t4, a7, m8, c9, ws10, rfl, rfl, hS⟩ h hX hO
      unfold T_girderlaw12_LowerBack_b2 at h
      try dsimp only
      refine ⟨by decide, ?_⟩
      refine cond_s h ?_ ?_ <;> clear h <;> intro hc h
      · replace h := bnd h
        obtain ⟨t6, ht6, h⟩ := h
        obtain rfl := lenE ht6 ((hq0.mono tl2).now (fun _ h => h) hS)
        clear ht6
        replace h := bnd h
        obtain ⟨o11, h11, c11⟩ := h
        refine cutM_i (fun s w => ∃ (t7 : Int), t7 = o11 ∧ s = (t7, ()) ∧ Ho w0 w ((cl r1 [.int .i64 (if 9 < ((q1l : Nat) : Int) then 9 else ((q1l : Nat) : Int)), .slice a7 m8 c9, .slice none 0 0] N.t_Factor) :: (sl a7 m8 c9 (List.map (Value.float .f64) ws10) N.t_float64) :: L)) (fun J11 hJ11 => ?_) ?_
        · have h := h11
          clear h11
          refine cond_s h ?_ ?_ <;> clear h <;> intro hc h
          · replace h := bnd h
            obtain ⟨t8, ht8, h⟩ := h
            obtain rfl := lenE ht8 ((hq0.mono tl2).now (fun _ h => h) hS)
            clear ht8
            replace h := bnd h
            obtain ⟨t11, ht11, h⟩ := h
            refine ⟨nz_s ht11, ?_⟩
            clear ht11
            replace h := bnd h
            obtain ⟨t9, ht9, h⟩ := h
            obtain ⟨q12x, q12l, q12r⟩ := atE ht9
            clear ht9
            refine idx_s ((hq0.mono tl2).now (fun _ h => h) hS) q12x q12l q12r ?_; intro b13 hb13
            refine ⟨_, rd_get ((hq0.mono tl2).now (fun _ h => h) hS) hb13 q12x, ?_⟩
            replace h := bnd h
            obtain ⟨t10, ht10, h⟩ := h
            refine wk_girderkit_Pick H hS  ht10 ?_; clear hS ht10; rintro w hS
            refine ⟨_, rfl, ?_⟩
            obtain rfl := some_inj h
            exact hJ11 _ _ ⟨_, rfl, rfl, hS⟩
          · obtain rfl := some_inj h
            exact hJ11 _ _ ⟨_, rfl, rfl, hS⟩
        · clear h11 hS
          rintro s w ⟨t7, rfl, rfl, hS⟩
          have h := c11
          clear c11
          try dsimp only
          refine ⟨_, _, _, (hS.cel mp0 rfl), ?_⟩
          replace h := bnd h
          obtain ⟨t12, ht12, h⟩ := h
          obtain rfl : (List.map nf ([(FloatKind.f64.nearest t7)] : List Nat)) = t12 := some_inj ht12
          clear ht12
          refine lit_s (ks := [(FloatKind.f64.nearest t7)]) (enc := (Value.float .f64)) (m := 1) hS rfl rfl ?_; clear hS; intro r14 w hS
          replace h := bnd h
          obtain ⟨t13, ht13, h⟩ := h
          obtain ⟨rfl, kt13⟩ := appF ht13
          clear ht13
          replace hS := ro2 hS
          refine app_s hS kt13 ((Ent.sl mp1).now (fun _ h => h) hS) (fun _ => rfl) rfl ?_; clear hS kt13; intro a15 c15 w hS
          replace hS := ro2 hS
          refine stc_s hS rfl rfl ?_; clear hS; intro w hS
          obtain rfl := some_inj h
          exact hX _ rfl _ _ ⟨_, _, _, _, _, rfl, rfl, (hS.pick (A := [_, _, _]) [0, 0] rfl)⟩
      · obtain rfl := some_inj h
        have h := congrArg some (hO _ rfl)
        obtain rfl := some_inj h
        exact hJ6 _ _ ⟨_, _, _, _, rfl, rfl, hS⟩
    · clear h6 hS
      rintro s w ⟨a2, m3, c4, ws5, rfl, rfl, hS⟩
      have h := c6
      clear c6
      try dsimp only
      replace h := bnd h
      obtain ⟨o20, h20, c20⟩ := h
      refine cutM_i (fun s w => ∃ (a16 : Option Addr) (m17 : Nat) (c18 : Nat) (ws19 : List Nat), (List.map nf ws19) = o20 ∧ s = (()) ∧ Ho w0 w ((cl r1 [.int .i64 (if 9 < ((q1l : Nat) : Int) then 9 else ((q1l : Nat) : Int)), .slice a2 m3 c4, .slice a16 m17 c18] N.t_Factor) :: (sl a2 m3 c4 (List.map (Value.float .f64) ws5) N.t_float64) :: (sl a16 m17 c18 (List.map (Value.float .f64) ws19) N.t_float64) :: L)) (fun J20 hJ20 => ?_) ?_
      · have h := h20
        clear h20
        replace hS := hS.none (α := Nat) (enc := (Value.float .f64)) (t := N.t_float64)
        refine iter_sim (fun s w t => ∃ (t15 : Int) (a21 : Option Addr) (m22 : Nat) (c23 : Nat) (ws24 : List Nat), (t15, (List.map nf ws24)) = t ∧ s = (t15, ()) ∧ Ho w0 w ((cl r1 [.int .i64 (if 9 < ((q1l : Nat) : Int) then 9 else ((q1l : Nat) : Int)), .slice a2 m3 c4, .slice a21 m22 c23] N.t_Factor) :: (sl a2 m3 c4 (List.map (Value.float .f64) ws5) N.t_float64) :: (sl a21 m22 c23 (List.map (Value.float .f64) ws24) N.t_float64) :: L)) ?_ h ⟨_, _, _, _, _, rfl, rfl, (hS.pick (A := [_, _, _]) [1, 1, 0] rfl)⟩
        clear h hS
        rintro s w t X q ⟨t15, a21, m22, c23, ws24, rfl, rfl, hS⟩ h hX hO
        unfold T_girderlaw12_LowerBack_b4 at h
        try dsimp only
        refine cond_s h ?_ ?_ <;> clear h <;> intro hc h
        · refine ⟨_, _, _, (hS.cel mp0 rfl), ?_⟩
          replace h := bnd h
          obtain ⟨t17, ht17, h⟩ := h
          obtain ⟨q25x, q25l, q25r⟩ := atE ht17
          clear ht17
          refine idx_s ((hq1.mono tl3).now (fun _ h => h) hS) q25x q25l q25r ?_; intro b26 hb26
          refine ⟨_, rd_get ((hq1.mono tl3).now (fun _ h => h) hS) hb26 q25x, ?_⟩
          refine drM_s hS ?_; clear hS; intro w hS
          replace h := bnd h
          obtain ⟨t18, ht18, h⟩ := h
          refine wk_girderkit_Pick H hS  ht18 ?_; clear hS ht18; rintro w hS
          refine ⟨_, rfl, ?_⟩
          refine ⟨(hS.cel mp0 rfl), ?_⟩
          refine drM_s hS ?_; clear hS; intro w hS
          replace h := bnd h
          obtain ⟨t19, ht19, h⟩ := h
          refine wk_math_Ldexp H hS  ht19 ?_; clear hS ht19; rintro z27 w rfl hS
          refine ⟨_, rfl, ?_⟩
          refine ⟨(hS.cel mp0 rfl), ?_⟩
          refine drM_s hS ?_; clear hS; intro w hS
          replace h := bnd h
          obtain ⟨t20, ht20, h⟩ := h
          obtain rfl : (List.map nf ([z27] : List Nat)) = t20 := some_inj ht20
          clear ht20
          refine lit_s (ks := [z27]) (enc := (Value.float .f64)) (m := 1) hS rfl rfl ?_; clear hS; intro r28 w hS
          refine ⟨(hS.cel mp1 rfl), ?_⟩
          refine drM_s hS ?_; clear hS; intro w hS
          replace h := bnd h
          obtain ⟨t21, ht21, h⟩ := h
          obtain ⟨rfl, kt21⟩ := appF ht21
          clear ht21
          replace hS := ro3 hS
          refine app_s hS kt21 ((Ent.sl mp1).now (fun _ h => h) hS) (fun _ => rfl) rfl ?_; clear hS kt21; intro a29 c29 w hS
          refine drM_s hS ?_; clear hS; intro w hS
          replace hS := ro2 hS
          refine stc_s hS rfl rfl ?_; clear hS; intro w hS
          refine drM_s hS ?_; clear hS; intro w hS
          obtain rfl := some_inj h
          exact hX _ rfl _ _ ⟨_, _, _, _, _, rfl, rfl, (hS.pick (A := [_, _, _, _]) [0, 2, 0] rfl)⟩
        · obtain rfl := some_inj h
          have h := congrArg some (hO _ rfl)
          obtain rfl := some_inj h
          exact hJ20 _ _ ⟨_, _, _, _, rfl, rfl, hS⟩
      · clear h20 hS
        rintro s w ⟨a16, m17, c18, ws19, rfl, rfl, hS⟩
        have h := c20
        clear c20
        try dsimp only
        refine ⟨_, (hS.cel mp0 rfl), ?_⟩
        refine ⟨_, _, _, (hS.cel mp0 rfl), ?_⟩
        refine ⟨_, _, _, (hS.cel mp0 rfl), ?_⟩
        replace h := bnd h
        obtain ⟨⟨t22, t23, t24⟩, ho22, h⟩ := h
        refine wk_girderkit_CopyFactor H hS (Ent.sl mp1) (Ent.sl mp2) ho22 ?_; clear hS ho22; rintro a30 m30 c30 ws30 a31 m31 c31 ws31 w rfl rfl hS
        refine ⟨_, _, _, _, _, _, _, rfl, ?_⟩
        replace h := bnd h
        obtain ⟨⟨t25, t26, t27, t28⟩, ho25, h⟩ := h
        refine wk_lower_Times H hS (Ent.sl mp0) (Ent.sl mp1) ho25 ?_; clear hS ho25; rintro a32 m32 c32 ws32 w rfl hS
        refine ⟨_, _, _, _, _, _, rfl, ?_⟩
        refine newM_s hS ?_; clear hS; intro r33 w hS
        refine stc_s hS rfl rfl ?_; clear hS; intro w hS
        refine stc_s hS rfl rfl ?_; clear hS; intro w hS
        refine stc_s hS rfl rfl ?_; clear hS; intro w hS
        refine ⟨_, (hS.cel mp0 rfl), ?_⟩
        refine ⟨_, (hS.cel mp0 rfl), ?_⟩
        refine ⟨_, _, _, (hS.cel mp0 rfl), ?_⟩
        replace h := bnd h
        obtain ⟨⟨t29, t30, t31, t32, t33⟩, ho29, h⟩ := h
        refine wk_lower_Factor H hS (Ent.sl mp1) ho29 ?_; clear hS ho29; rintro a34 m34 c34 ws34 a35 m35 c35 ws35 w rfl rfl hS
        refine ⟨_, _, _, _, _, _, _, _, _, rfl, ?_⟩
        refine newM_s hS ?_; clear hS; intro r36 w hS
        refine stc_s hS rfl rfl ?_; clear hS; intro w hS
        refine stc_s hS rfl rfl ?_; clear hS; intro w hS
        refine stc_s hS rfl rfl ?_; clear hS; intro w hS
        refine cond_s h ?_ ?_ <;> clear h <;> intro hc h
        · refine cond_s h ?_ ?_ <;> clear h <;> intro hc h
          · refine ⟨_, (hS.cel mp7 rfl), ?_⟩
            refine ⟨_, _, _, (hS.cel mp7 rfl), ?_⟩
            refine ⟨_, _, _, (hS.cel mp7 rfl), ?_⟩
            refine ⟨_, (hS.cel mp0 rfl), ?_⟩
            refine ⟨_, _, _, (hS.cel mp0 rfl), ?_⟩
            refine ⟨_, _, _, (hS.cel mp0 rfl), ?_⟩
            replace h := bnd h
            obtain ⟨t34, ht34, h⟩ := h
            refine wk_girderkit_SameFactor H hS (Ent.sl mp8) (Ent.sl mp9) (Ent.sl mp1) (Ent.sl mp2) ht34 ?_; clear hS ht34; rintro w hS
            refine ⟨_, rfl, ?_⟩
            have h := some_inj h
            cases h
            exact hK _ (hS.pick (A := [_, _, _, _, _, _, _, _, _, _]) [] rfl)
          · have h := some_inj h
            cases h
            exact hK _ (hS.pick (A := [_, _, _, _, _, _, _, _, _, _]) [] rfl)
        · have h := some_inj h
          cases h
          exact hK _ (hS.pick (A := [_, _, _, _, _, _, _, _, _, _]) [] rfl)

end Go.Eng
