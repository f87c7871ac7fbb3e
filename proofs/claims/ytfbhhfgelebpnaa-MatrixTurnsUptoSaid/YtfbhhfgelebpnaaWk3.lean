/-
  Each function comes to what its function of plain Lean says, printed by a program of the session. No condition.
-/
import Derived.Test.YtfbhhfgelebpnaaWk2
set_option linter.unusedSimpArgs false
set_option linter.unusedVariables false
set_option maxRecDepth 100000
set_option maxHeartbeats 4000000
namespace Go.Eng
open Go

theorem wk_girderlaw10_MatrixTells {N : Nums} {P : Program} (H : AllOk N P) {w0 w : World} {L : List It} {q0_0 : Int} {q0_1 : Int} {q0_2 : Option Addr} {q0_2l q0_2c : Nat} {ws0_2 : List Nat} {q1_0 : Int} {q1_1 : Int} {q1_2 : Option Addr} {q1_2l q1_2c : Nat} {ws1_2 : List Nat} {q2 : Int} {q3 : Int} {u0 : Bool} (hS : Ho w0 w L) (hq0_2 : Ent L (rdA (List.map (Value.float .f64) ws0_2) q0_2 q0_2l q0_2c)) (hq1_2 : Ent L (rdA (List.map (Value.float .f64) ws1_2) q1_2 q1_2l q1_2c)) (hx : T_girderlaw10_MatrixTells q0_0 q0_1 (List.map nf ws0_2) q1_0 q1_1 (List.map nf ws1_2) q2 q3 = some u0) {K : Value → World → Prop} (hK : ∀  (w1 : World), Ho w0 w1 (L) → K (.bool u0) w1) : CallsX P N.f_girderlaw10_MatrixTells #[.agg #[.int .i64 q0_0, .int .i64 q0_1, .slice q0_2 q0_2l q0_2c], .agg #[.int .i64 q1_0, .int .i64 q1_1, .slice q1_2 q1_2l q1_2c], .int .i64 q2, .int .i64 q3] w K := by
  refine H.girderlaw10_MatrixTells q0_0 q0_1 q0_2 q0_2l q0_2c q1_0 q1_1 q1_2 q1_2l q1_2c q2 q3 w _ ?_
  unfold S_girderlaw10_MatrixTells
  unfold T_girderlaw10_MatrixTells at hx
  have h := hx
  clear hx
  try dsimp only
  refine newM_s hS ?_; clear hS; intro r1 w hS
  refine newM_s hS ?_; clear hS; intro r2 w hS
  replace h := bnd h
  obtain ⟨o7, h7, c7⟩ := h
  refine cutM_i (fun s w => ∃ (r3 : Nat) (t1 : Int) (t2 : Int) (r4 : Nat) (t3 : Int) (t4 : Int) (r5 : Nat) (r6 : Nat), o7 = (t1, t2, t3, t4, (List.map nf ws1_2), (List.map nf ws0_2)) ∧ s = ((some ⟨r4, 0, none⟩), (some ⟨r3, 0, none⟩), ()) ∧ Ho w0 w ((cl r3 [.int .i64 t1, .int .i64 t2, .slice (some ⟨r5, 0, none⟩) q1_2l (q1_2l + 12)] N.t_Matrix) :: (cl r4 [.int .i64 t3, .int .i64 t4, .slice (some ⟨r6, 0, none⟩) q0_2l (q0_2l + 12)] N.t_Matrix) :: (sl (some ⟨r5, 0, none⟩) (q1_2l + 12) (q1_2l + 12) (List.map (Value.float .f64) (ws1_2 ++ marks)) N.t_float64) :: (sl (some ⟨r6, 0, none⟩) (q0_2l + 12) (q0_2l + 12) (List.map (Value.float .f64) (ws0_2 ++ marks)) N.t_float64) :: (cl r2 [.int .i64 q1_0, .int .i64 q1_1, .slice q1_2 q1_2l q1_2c] N.t_Matrix) :: (cl r1 [.int .i64 q0_0, .int .i64 q0_1, .slice q0_2 q0_2l q0_2c] N.t_Matrix) :: L)) (fun J7 hJ7 => ?_) ?_
  · have h := h7
    clear h7
    refine ⟨_, (hS.cel mp1 rfl), ?_⟩
    refine ⟨_, (hS.cel mp1 rfl), ?_⟩
    refine ⟨_, _, _, (hS.cel mp1 rfl), ?_⟩
    refine ⟨_, (hS.cel mp0 rfl), ?_⟩
    refine ⟨_, (hS.cel mp0 rfl), ?_⟩
    refine ⟨_, _, _, (hS.cel mp0 rfl), ?_⟩
    refine ⟨?_, ?_, ?_⟩
    · refine drM_s hS ?_; clear hS; intro w hS
      replace h := bnd h
      obtain ⟨⟨t7, t8, t9⟩, ho7, h⟩ := h
      refine wk_girderkit_LentMatrix H hS (hq0_2.mono tl2) ho7 ?_; clear hS ho7; rintro r8 w rfl hS
      refine ⟨_, _, _, _, _, rfl, ?_⟩
      refine ⟨(hS.cel mp1 rfl), ?_⟩
      refine ⟨(hS.cel mp1 rfl), ?_⟩
      refine ⟨(hS.cel mp1 rfl), ?_⟩
      refine ⟨?_, ?_, ?_⟩
      · refine drM_s hS ?_; clear hS; intro w hS
        replace h := bnd h
        obtain ⟨⟨t10, t11, t12⟩, ho10, h⟩ := h
        refine wk_girderkit_LentMatrix H hS (hq1_2.mono tl3) ho10 ?_; clear hS ho10; rintro r9 w rfl hS
        refine ⟨_, _, _, _, _, rfl, ?_⟩
        refine ⟨?_, ?_⟩
        · refine drM_s hS ?_; clear hS; intro w hS
          refine newM_s hS ?_; clear hS; intro r10 w hS
          refine drM_s hS ?_; clear hS; intro w hS
          refine newM_s hS ?_; clear hS; intro r11 w hS
          refine drM_s hS ?_; clear hS; intro w hS
          replace hS := ro1 hS
          refine stc_s hS rfl rfl ?_; clear hS; intro w hS
          refine stc_s hS rfl rfl ?_; clear hS; intro w hS
          refine stc_s hS rfl rfl ?_; clear hS; intro w hS
          refine drM_s hS ?_; clear hS; intro w hS
          replace hS := ro1 hS
          refine stc_s hS rfl rfl ?_; clear hS; intro w hS
          refine stc_s hS rfl rfl ?_; clear hS; intro w hS
          refine stc_s hS rfl rfl ?_; clear hS; intro w hS
          refine drM_s hS ?_; clear hS; intro w hS
          obtain rfl := some_inj h
          exact hJ7 _ _ ⟨_, _, _, _, _, _, _, _, rfl, rfl, hS⟩
        · refine drM_s hS ?_; clear hS; intro w hS
          refine newM_s hS ?_; clear hS; intro r12 w hS
          refine drM_s hS ?_; clear hS; intro w hS
          refine newM_s hS ?_; clear hS; intro r13 w hS
          refine drM_s hS ?_; clear hS; intro w hS
          refine stc_s hS rfl rfl ?_; clear hS; intro w hS
          refine stc_s hS rfl rfl ?_; clear hS; intro w hS
          refine stc_s hS rfl rfl ?_; clear hS; intro w hS
          refine drM_s hS ?_; clear hS; intro w hS
          replace hS := ro1 hS
          refine stc_s hS rfl rfl ?_; clear hS; intro w hS
          refine stc_s hS rfl rfl ?_; clear hS; intro w hS
          refine stc_s hS rfl rfl ?_; clear hS; intro w hS
          refine drM_s hS ?_; clear hS; intro w hS
          obtain rfl := some_inj h
          exact hJ7 _ _ ⟨_, _, _, _, _, _, _, _, rfl, rfl, hS⟩
      · refine drM_s hS ?_; clear hS; intro w hS
        refine newM_s hS ?_; clear hS; intro r14 w hS
        refine ⟨(hS.cel mp2 rfl), ?_⟩
        refine ⟨(hS.cel mp2 rfl), ?_⟩
        refine ⟨(hS.cel mp2 rfl), ?_⟩
        refine ⟨?_, ?_⟩
        · refine drM_s hS ?_; clear hS; intro w hS
          replace h := bnd h
          obtain ⟨⟨t10, t11, t12⟩, ho10, h⟩ := h
          refine wk_girderkit_LentMatrix H hS (hq1_2.mono tl4) ho10 ?_; clear hS ho10; rintro r15 w rfl hS
          refine ⟨_, _, _, _, _, rfl, ?_⟩
          refine drM_s hS ?_; clear hS; intro w hS
          refine newM_s hS ?_; clear hS; intro r16 w hS
          refine drM_s hS ?_; clear hS; intro w hS
          replace hS := ro2 hS
          refine stc_s hS rfl rfl ?_; clear hS; intro w hS
          refine stc_s hS rfl rfl ?_; clear hS; intro w hS
          refine stc_s hS rfl rfl ?_; clear hS; intro w hS
          refine drM_s hS ?_; clear hS; intro w hS
          replace hS := ro1 hS
          refine stc_s hS rfl rfl ?_; clear hS; intro w hS
          refine stc_s hS rfl rfl ?_; clear hS; intro w hS
          refine stc_s hS rfl rfl ?_; clear hS; intro w hS
          refine drM_s hS ?_; clear hS; intro w hS
          obtain rfl := some_inj h
          exact hJ7 _ _ ⟨_, _, _, _, _, _, _, _, rfl, rfl, hS⟩
        · refine drM_s hS ?_; clear hS; intro w hS
          refine newM_s hS ?_; clear hS; intro r17 w hS
          refine ⟨(hS.cel mp3 rfl), ?_⟩
          refine ⟨(hS.cel mp3 rfl), ?_⟩
          refine ⟨(hS.cel mp3 rfl), ?_⟩
          refine drM_s hS ?_; clear hS; intro w hS
          replace h := bnd h
          obtain ⟨⟨t10, t11, t12⟩, ho10, h⟩ := h
          refine wk_girderkit_LentMatrix H hS (hq1_2.mono tl5) ho10 ?_; clear hS ho10; rintro r18 w rfl hS
          refine ⟨_, _, _, _, _, rfl, ?_⟩
          refine drM_s hS ?_; clear hS; intro w hS
          replace hS := ro2 hS
          refine stc_s hS rfl rfl ?_; clear hS; intro w hS
          refine stc_s hS rfl rfl ?_; clear hS; intro w hS
          refine stc_s hS rfl rfl ?_; clear hS; intro w hS
          refine drM_s hS ?_; clear hS; intro w hS
          replace hS := ro2 hS
          refine stc_s hS rfl rfl ?_; clear hS; intro w hS
          refine stc_s hS rfl rfl ?_; clear hS; intro w hS
          refine stc_s hS rfl rfl ?_; clear hS; intro w hS
          refine drM_s hS ?_; clear hS; intro w hS
          obtain rfl := some_inj h
          exact hJ7 _ _ ⟨_, _, _, _, _, _, _, _, rfl, rfl, hS⟩
      · refine drM_s hS ?_; clear hS; intro w hS
        refine newM_s hS ?_; clear hS; intro r19 w hS
        refine ⟨(hS.cel mp2 rfl), ?_⟩
        refine ⟨(hS.cel mp2 rfl), ?_⟩
        refine ⟨(hS.cel mp2 rfl), ?_⟩
        refine ⟨?_, ?_⟩
        · refine drM_s hS ?_; clear hS; intro w hS
          replace h := bnd h
          obtain ⟨⟨t10, t11, t12⟩, ho10, h⟩ := h
          refine wk_girderkit_LentMatrix H hS (hq1_2.mono tl4) ho10 ?_; clear hS ho10; rintro r20 w rfl hS
          refine ⟨_, _, _, _, _, rfl, ?_⟩
          refine drM_s hS ?_; clear hS; intro w hS
          refine newM_s hS ?_; clear hS; intro r21 w hS
          refine drM_s hS ?_; clear hS; intro w hS
          refine stc_s hS rfl rfl ?_; clear hS; intro w hS
          refine stc_s hS rfl rfl ?_; clear hS; intro w hS
          refine stc_s hS rfl rfl ?_; clear hS; intro w hS
          refine drM_s hS ?_; clear hS; intro w hS
          replace hS := ro2 hS
          refine stc_s hS rfl rfl ?_; clear hS; intro w hS
          refine stc_s hS rfl rfl ?_; clear hS; intro w hS
          refine stc_s hS rfl rfl ?_; clear hS; intro w hS
          refine drM_s hS ?_; clear hS; intro w hS
          obtain rfl := some_inj h
          exact hJ7 _ _ ⟨_, _, _, _, _, _, _, _, rfl, rfl, hS⟩
        · refine drM_s hS ?_; clear hS; intro w hS
          refine newM_s hS ?_; clear hS; intro r22 w hS
          refine ⟨(hS.cel mp3 rfl), ?_⟩
          refine ⟨(hS.cel mp3 rfl), ?_⟩
          refine ⟨(hS.cel mp3 rfl), ?_⟩
          refine drM_s hS ?_; clear hS; intro w hS
          replace h := bnd h
          obtain ⟨⟨t10, t11, t12⟩, ho10, h⟩ := h
          refine wk_girderkit_LentMatrix H hS (hq1_2.mono tl5) ho10 ?_; clear hS ho10; rintro r23 w rfl hS
          refine ⟨_, _, _, _, _, rfl, ?_⟩
          refine drM_s hS ?_; clear hS; intro w hS
          replace hS := ro1 hS
          refine stc_s hS rfl rfl ?_; clear hS; intro w hS
          refine stc_s hS rfl rfl ?_; clear hS; intro w hS
          refine stc_s hS rfl rfl ?_; clear hS; intro w hS
          refine drM_s hS ?_; clear hS; intro w hS
          replace hS := ro2 hS
          refine stc_s hS rfl rfl ?_; clear hS; intro w hS
          refine stc_s hS rfl rfl ?_; clear hS; intro w hS
          refine stc_s hS rfl rfl ?_; clear hS; intro w hS
          refine drM_s hS ?_; clear hS; intro w hS
          obtain rfl := some_inj h
          exact hJ7 _ _ ⟨_, _, _, _, _, _, _, _, rfl, rfl, hS⟩
    · refine drM_s hS ?_; clear hS; intro w hS
      refine newM_s hS ?_; clear hS; intro r24 w hS
      refine ⟨(hS.cel mp1 rfl), ?_⟩
      refine ⟨(hS.cel mp1 rfl), ?_⟩
      refine ⟨(hS.cel mp1 rfl), ?_⟩
      refine ⟨(hS.cel mp2 rfl), ?_⟩
      refine ⟨(hS.cel mp2 rfl), ?_⟩
      refine ⟨(hS.cel mp2 rfl), ?_⟩
      refine ⟨?_, ?_⟩
      · refine drM_s hS ?_; clear hS; intro w hS
        replace h := bnd h
        obtain ⟨⟨t7, t8, t9⟩, ho7, h⟩ := h
        refine wk_girderkit_LentMatrix H hS (hq0_2.mono tl3) ho7 ?_; clear hS ho7; rintro r25 w rfl hS
        refine ⟨_, _, _, _, _, rfl, ?_⟩
        refine ⟨(hS.cel mp2 rfl), ?_⟩
        refine ⟨(hS.cel mp2 rfl), ?_⟩
        refine ⟨(hS.cel mp2 rfl), ?_⟩
        refine ⟨?_, ?_⟩
        · refine drM_s hS ?_; clear hS; intro w hS
          replace h := bnd h
          obtain ⟨⟨t10, t11, t12⟩, ho10, h⟩ := h
          refine wk_girderkit_LentMatrix H hS (hq1_2.mono tl4) ho10 ?_; clear hS ho10; rintro r26 w rfl hS
          refine ⟨_, _, _, _, _, rfl, ?_⟩
          refine drM_s hS ?_; clear hS; intro w hS
          refine newM_s hS ?_; clear hS; intro r27 w hS
          refine drM_s hS ?_; clear hS; intro w hS
          replace hS := ro3 hS
          refine stc_s hS rfl rfl ?_; clear hS; intro w hS
          refine stc_s hS rfl rfl ?_; clear hS; intro w hS
          refine stc_s hS rfl rfl ?_; clear hS; intro w hS
          refine drM_s hS ?_; clear hS; intro w hS
          replace hS := ro1 hS
          refine stc_s hS rfl rfl ?_; clear hS; intro w hS
          refine stc_s hS rfl rfl ?_; clear hS; intro w hS
          refine stc_s hS rfl rfl ?_; clear hS; intro w hS
          refine drM_s hS ?_; clear hS; intro w hS
          obtain rfl := some_inj h
          exact hJ7 _ _ ⟨_, _, _, _, _, _, _, _, rfl, rfl, hS⟩
        · refine drM_s hS ?_; clear hS; intro w hS
          refine newM_s hS ?_; clear hS; intro r28 w hS
          refine ⟨(hS.cel mp3 rfl), ?_⟩
          refine ⟨(hS.cel mp3 rfl), ?_⟩
          refine ⟨(hS.cel mp3 rfl), ?_⟩
          refine drM_s hS ?_; clear hS; intro w hS
          replace h := bnd h
          obtain ⟨⟨t10, t11, t12⟩, ho10, h⟩ := h
          refine wk_girderkit_LentMatrix H hS (hq1_2.mono tl5) ho10 ?_; clear hS ho10; rintro r29 w rfl hS
          refine ⟨_, _, _, _, _, rfl, ?_⟩
          refine drM_s hS ?_; clear hS; intro w hS
          replace hS := ro3 hS
          refine stc_s hS rfl rfl ?_; clear hS; intro w hS
          refine stc_s hS rfl rfl ?_; clear hS; intro w hS
          refine stc_s hS rfl rfl ?_; clear hS; intro w hS
          refine drM_s hS ?_; clear hS; intro w hS
          replace hS := ro2 hS
          refine stc_s hS rfl rfl ?_; clear hS; intro w hS
          refine stc_s hS rfl rfl ?_; clear hS; intro w hS
          refine stc_s hS rfl rfl ?_; clear hS; intro w hS
          refine drM_s hS ?_; clear hS; intro w hS
          obtain rfl := some_inj h
          exact hJ7 _ _ ⟨_, _, _, _, _, _, _, _, rfl, rfl, hS⟩
      · refine drM_s hS ?_; clear hS; intro w hS
        refine newM_s hS ?_; clear hS; intro r30 w hS
        refine ⟨(hS.cel mp2 rfl), ?_⟩
        refine ⟨(hS.cel mp2 rfl), ?_⟩
        refine ⟨(hS.cel mp2 rfl), ?_⟩
        refine ⟨(hS.cel mp3 rfl), ?_⟩
        refine ⟨(hS.cel mp3 rfl), ?_⟩
        refine ⟨(hS.cel mp3 rfl), ?_⟩
        refine drM_s hS ?_; clear hS; intro w hS
        replace h := bnd h
        obtain ⟨⟨t7, t8, t9⟩, ho7, h⟩ := h
        refine wk_girderkit_LentMatrix H hS (hq0_2.mono tl4) ho7 ?_; clear hS ho7; rintro r31 w rfl hS
        refine ⟨_, _, _, _, _, rfl, ?_⟩
        refine ⟨(hS.cel mp3 rfl), ?_⟩
        refine ⟨(hS.cel mp3 rfl), ?_⟩
        refine ⟨(hS.cel mp3 rfl), ?_⟩
        refine drM_s hS ?_; clear hS; intro w hS
        replace h := bnd h
        obtain ⟨⟨t10, t11, t12⟩, ho10, h⟩ := h
        refine wk_girderkit_LentMatrix H hS (hq1_2.mono tl5) ho10 ?_; clear hS ho10; rintro r32 w rfl hS
        refine ⟨_, _, _, _, _, rfl, ?_⟩
        refine drM_s hS ?_; clear hS; intro w hS
        replace hS := ro3 hS
        refine stc_s hS rfl rfl ?_; clear hS; intro w hS
        refine stc_s hS rfl rfl ?_; clear hS; intro w hS
        refine stc_s hS rfl rfl ?_; clear hS; intro w hS
        refine drM_s hS ?_; clear hS; intro w hS
        replace hS := ro3 hS
        refine stc_s hS rfl rfl ?_; clear hS; intro w hS
        refine stc_s hS rfl rfl ?_; clear hS; intro w hS
        refine stc_s hS rfl rfl ?_; clear hS; intro w hS
        refine drM_s hS ?_; clear hS; intro w hS
        obtain rfl := some_inj h
        exact hJ7 _ _ ⟨_, _, _, _, _, _, _, _, rfl, rfl, hS⟩
    · refine drM_s hS ?_; clear hS; intro w hS
      refine newM_s hS ?_; clear hS; intro r33 w hS
      refine ⟨(hS.cel mp1 rfl), ?_⟩
      refine ⟨(hS.cel mp1 rfl), ?_⟩
      refine ⟨(hS.cel mp1 rfl), ?_⟩
      refine ⟨(hS.cel mp2 rfl), ?_⟩
      refine ⟨(hS.cel mp2 rfl), ?_⟩
      refine ⟨(hS.cel mp2 rfl), ?_⟩
      refine ⟨?_, ?_⟩
      · refine drM_s hS ?_; clear hS; intro w hS
        replace h := bnd h
        obtain ⟨⟨t7, t8, t9⟩, ho7, h⟩ := h
        refine wk_girderkit_LentMatrix H hS (hq0_2.mono tl3) ho7 ?_; clear hS ho7; rintro r34 w rfl hS
        refine ⟨_, _, _, _, _, rfl, ?_⟩
        refine ⟨(hS.cel mp2 rfl), ?_⟩
        refine ⟨(hS.cel mp2 rfl), ?_⟩
        refine ⟨(hS.cel mp2 rfl), ?_⟩
        refine ⟨?_, ?_⟩
        · refine drM_s hS ?_; clear hS; intro w hS
          replace h := bnd h
          obtain ⟨⟨t10, t11, t12⟩, ho10, h⟩ := h
          refine wk_girderkit_LentMatrix H hS (hq1_2.mono tl4) ho10 ?_; clear hS ho10; rintro r35 w rfl hS
          refine ⟨_, _, _, _, _, rfl, ?_⟩
          refine drM_s hS ?_; clear hS; intro w hS
          refine newM_s hS ?_; clear hS; intro r36 w hS
          refine drM_s hS ?_; clear hS; intro w hS
          refine stc_s hS rfl rfl ?_; clear hS; intro w hS
          refine stc_s hS rfl rfl ?_; clear hS; intro w hS
          refine stc_s hS rfl rfl ?_; clear hS; intro w hS
          refine drM_s hS ?_; clear hS; intro w hS
          replace hS := ro3 hS
          refine stc_s hS rfl rfl ?_; clear hS; intro w hS
          refine stc_s hS rfl rfl ?_; clear hS; intro w hS
          refine stc_s hS rfl rfl ?_; clear hS; intro w hS
          refine drM_s hS ?_; clear hS; intro w hS
          obtain rfl := some_inj h
          exact hJ7 _ _ ⟨_, _, _, _, _, _, _, _, rfl, rfl, hS⟩
        · refine drM_s hS ?_; clear hS; intro w hS
          refine newM_s hS ?_; clear hS; intro r37 w hS
          refine ⟨(hS.cel mp3 rfl), ?_⟩
          refine ⟨(hS.cel mp3 rfl), ?_⟩
          refine ⟨(hS.cel mp3 rfl), ?_⟩
          refine drM_s hS ?_; clear hS; intro w hS
          replace h := bnd h
          obtain ⟨⟨t10, t11, t12⟩, ho10, h⟩ := h
          refine wk_girderkit_LentMatrix H hS (hq1_2.mono tl5) ho10 ?_; clear hS ho10; rintro r38 w rfl hS
          refine ⟨_, _, _, _, _, rfl, ?_⟩
          refine drM_s hS ?_; clear hS; intro w hS
          replace hS := ro1 hS
          refine stc_s hS rfl rfl ?_; clear hS; intro w hS
          refine stc_s hS rfl rfl ?_; clear hS; intro w hS
          refine stc_s hS rfl rfl ?_; clear hS; intro w hS
          refine drM_s hS ?_; clear hS; intro w hS
          replace hS := ro3 hS
          refine stc_s hS rfl rfl ?_; clear hS; intro w hS
          refine stc_s hS rfl rfl ?_; clear hS; intro w hS
          refine stc_s hS rfl rfl ?_; clear hS; intro w hS
          refine drM_s hS ?_; clear hS; intro w hS
          obtain rfl := some_inj h
          exact hJ7 _ _ ⟨_, _, _, _, _, _, _, _, rfl, rfl, hS⟩
      · refine drM_s hS ?_; clear hS; intro w hS
        refine newM_s hS ?_; clear hS; intro r39 w hS
        refine ⟨(hS.cel mp2 rfl), ?_⟩
        refine ⟨(hS.cel mp2 rfl), ?_⟩
        refine ⟨(hS.cel mp2 rfl), ?_⟩
        refine ⟨(hS.cel mp3 rfl), ?_⟩
        refine ⟨(hS.cel mp3 rfl), ?_⟩
        refine ⟨(hS.cel mp3 rfl), ?_⟩
        refine drM_s hS ?_; clear hS; intro w hS
        replace h := bnd h
        obtain ⟨⟨t7, t8, t9⟩, ho7, h⟩ := h
        refine wk_girderkit_LentMatrix H hS (hq0_2.mono tl4) ho7 ?_; clear hS ho7; rintro r40 w rfl hS
        refine ⟨_, _, _, _, _, rfl, ?_⟩
        refine ⟨(hS.cel mp3 rfl), ?_⟩
        refine ⟨(hS.cel mp3 rfl), ?_⟩
        refine ⟨(hS.cel mp3 rfl), ?_⟩
        refine drM_s hS ?_; clear hS; intro w hS
        replace h := bnd h
        obtain ⟨⟨t10, t11, t12⟩, ho10, h⟩ := h
        refine wk_girderkit_LentMatrix H hS (hq1_2.mono tl5) ho10 ?_; clear hS ho10; rintro r41 w rfl hS
        refine ⟨_, _, _, _, _, rfl, ?_⟩
        refine drM_s hS ?_; clear hS; intro w hS
        replace hS := ro2 hS
        refine stc_s hS rfl rfl ?_; clear hS; intro w hS
        refine stc_s hS rfl rfl ?_; clear hS; intro w hS
        refine stc_s hS rfl rfl ?_; clear hS; intro w hS
        refine drM_s hS ?_; clear hS; intro w hS
        replace hS := ro3 hS
        refine stc_s hS rfl rfl ?_; clear hS; intro w hS
        refine stc_s hS rfl rfl ?_; clear hS; intro w hS
        refine stc_s hS rfl rfl ?_; clear hS; intro w hS
        refine drM_s hS ?_; clear hS; intro w hS
        obtain rfl := some_inj h
        exact hJ7 _ _ ⟨_, _, _, _, _, _, _, _, rfl, rfl, hS⟩
  · clear h7 hS
    rintro s w ⟨r3, t1, t2, r4, t3, t4, r5, r6, rfl, rfl, hS⟩
    have h := c7
    clear c7
    try dsimp only
    replace h := bnd h
    obtain ⟨⟨t13, t14, t15, t16⟩, ho13, h⟩ := h
    refine wk_matrix_Make H hS  ho13 ?_; clear hS ho13; rintro a42 m42 c42 ws42 w rfl hS
    refine ⟨_, _, _, _, _, _, rfl, ?_⟩
    refine newM_s hS ?_; clear hS; intro r43 w hS
    refine stc_s hS rfl rfl ?_; clear hS; intro w hS
    refine stc_s hS rfl rfl ?_; clear hS; intro w hS
    refine stc_s hS rfl rfl ?_; clear hS; intro w hS
    replace h := bnd h
    obtain ⟨⟨t17, t18, t19, t20⟩, ho17, h⟩ := h
    refine wk_girderref10_Make H hS  ho17 ?_; clear hS ho17; rintro a44 m44 c44 ws44 w rfl hS
    refine ⟨_, _, _, _, _, _, rfl, ?_⟩
    refine newM_s hS ?_; clear hS; intro r45 w hS
    refine stc_s hS rfl rfl ?_; clear hS; intro w hS
    refine stc_s hS rfl rfl ?_; clear hS; intro w hS
    refine stc_s hS rfl rfl ?_; clear hS; intro w hS
    refine ⟨_, (hS.cel mp2 rfl), ?_⟩
    refine ⟨_, (hS.cel mp2 rfl), ?_⟩
    refine ⟨_, _, _, (hS.cel mp2 rfl), ?_⟩
    refine ⟨_, (hS.cel mp0 rfl), ?_⟩
    refine ⟨_, (hS.cel mp0 rfl), ?_⟩
    refine ⟨_, _, _, (hS.cel mp0 rfl), ?_⟩
    replace h := bnd h
    obtain ⟨t21, ht21, h⟩ := h
    refine wk_girderlaw10_is H hS (Ent.sl mp3) (Ent.sl mp1) ht21 ?_; clear hS ht21; rintro w hS
    refine ⟨_, rfl, ?_⟩
    refine cond_s h ?_ ?_ <;> clear h <;> intro hc h
    · have h := some_inj h
      cases h
      exact hK _ (hS.pick (A := [_, _, _, _, _, _, _, _, _, _]) [] rfl)
    · replace h := bnd h
      obtain ⟨⟨t22, t23, t24, t25⟩, ho22, h⟩ := h
      refine wk_matrix_Identity H hS  ho22 ?_; clear hS ho22; rintro a46 m46 c46 ws46 w rfl hS
      refine ⟨_, _, _, _, _, _, rfl, ?_⟩
      replace hS := ro3 hS
      refine stc_s hS rfl rfl ?_; clear hS; intro w hS
      refine stc_s hS rfl rfl ?_; clear hS; intro w hS
      refine stc_s hS rfl rfl ?_; clear hS; intro w hS
      replace h := bnd h
      obtain ⟨⟨t26, t27, t28, t29⟩, ho26, h⟩ := h
      refine wk_girderref10_Identity H hS  ho26 ?_; clear hS ho26; rintro a47 m47 c47 ws47 w rfl hS
      refine ⟨_, _, _, _, _, _, rfl, ?_⟩
      replace hS := ro3 hS
      refine stc_s hS rfl rfl ?_; clear hS; intro w hS
      refine stc_s hS rfl rfl ?_; clear hS; intro w hS
      refine stc_s hS rfl rfl ?_; clear hS; intro w hS
      replace h := bnd h
      obtain ⟨o48, h48, c48⟩ := h
      refine cutM_i (fun s w => ∃ (t30 : Bool), o48 = t30 ∧ s = (t30, ()) ∧ Ho w0 w ((cl r45 [.int .i64 t26, .int .i64 t27, .slice a47 m47 c47] N.t_Matrix) :: (sl a47 m47 c47 (List.map (Value.float .f64) ws47) N.t_float64) :: (cl r43 [.int .i64 t22, .int .i64 t23, .slice a46 m46 c46] N.t_Matrix) :: (sl a46 m46 c46 (List.map (Value.float .f64) ws46) N.t_float64) :: (cl r3 [.int .i64 t1, .int .i64 t2, .slice (some ⟨r5, 0, none⟩) q1_2l (q1_2l + 12)] N.t_Matrix) :: (cl r4 [.int .i64 t3, .int .i64 t4, .slice (some ⟨r6, 0, none⟩) q0_2l (q0_2l + 12)] N.t_Matrix) :: (sl (some ⟨r5, 0, none⟩) (q1_2l + 12) (q1_2l + 12) (List.map (Value.float .f64) (ws1_2 ++ marks)) N.t_float64) :: (sl (some ⟨r6, 0, none⟩) (q0_2l + 12) (q0_2l + 12) (List.map (Value.float .f64) (ws0_2 ++ marks)) N.t_float64) :: (cl r2 [.int .i64 q1_0, .int .i64 q1_1, .slice q1_2 q1_2l q1_2c] N.t_Matrix) :: (cl r1 [.int .i64 q0_0, .int .i64 q0_1, .slice q0_2 q0_2l q0_2c] N.t_Matrix) :: L)) (fun J48 hJ48 => ?_) ?_
      · have h := h48
        clear h48
        refine ⟨_, (hS.cel mp2 rfl), ?_⟩
        refine ⟨_, (hS.cel mp2 rfl), ?_⟩
        refine ⟨_, _, _, (hS.cel mp2 rfl), ?_⟩
        refine ⟨_, (hS.cel mp0 rfl), ?_⟩
        refine ⟨_, (hS.cel mp0 rfl), ?_⟩
        refine ⟨_, _, _, (hS.cel mp0 rfl), ?_⟩
        refine drM_s hS ?_; clear hS; intro w hS
        replace h := bnd h
        obtain ⟨t31, ht31, h⟩ := h
        refine wk_girderlaw10_is H hS (Ent.sl mp3) (Ent.sl mp1) ht31 ?_; clear hS ht31; rintro w hS
        refine ⟨_, rfl, ?_⟩
        refine cond_s h ?_ ?_ <;> clear h <;> intro hc h
        · refine optM_s ?_
          refine ⟨_, (hS.cel mp7 rfl), ?_⟩
          refine ⟨_, (hS.cel mp7 rfl), ?_⟩
          refine ⟨_, _, _, (hS.cel mp7 rfl), ?_⟩
          refine ⟨_, (hS.cel mp11 rfl), ?_⟩
          refine ⟨_, (hS.cel mp11 rfl), ?_⟩
          refine ⟨_, _, _, (hS.cel mp11 rfl), ?_⟩
          refine drM_s hS ?_; clear hS; intro w hS
          replace h := bnd h
          obtain ⟨t32, ht32, h⟩ := h
          refine wk_matrix_Right H hS (Ent.lent (Ent.sl mp9) rfl rfl) ht32 ?_; clear hS ht32; rintro w hS
          refine ⟨_, rfl, ?_⟩
          refine ⟨(hS.cel mp11 rfl), ?_⟩
          refine ⟨(hS.cel mp11 rfl), ?_⟩
          refine ⟨(hS.cel mp11 rfl), ?_⟩
          refine drM_s hS ?_; clear hS; intro w hS
          replace h := bnd h
          obtain ⟨t33, ht33, h⟩ := h
          refine wk_girderref10_Right H hS (hq0_2.mono tl12) ht33 ?_; clear hS ht33; rintro w hS
          refine ⟨_, rfl, ?_⟩
          refine cond_s h ?_ ?_ <;> clear h <;> intro hc h
          · refine optM_s ?_
            refine ⟨_, (hS.cel mp7 rfl), ?_⟩
            refine ⟨_, (hS.cel mp7 rfl), ?_⟩
            refine ⟨_, _, _, (hS.cel mp7 rfl), ?_⟩
            refine optM_s ?_
            refine ⟨_, (hS.cel mp6 rfl), ?_⟩
            refine ⟨_, (hS.cel mp6 rfl), ?_⟩
            refine ⟨_, _, _, (hS.cel mp6 rfl), ?_⟩
            refine ⟨_, (hS.cel mp11 rfl), ?_⟩
            refine ⟨_, (hS.cel mp11 rfl), ?_⟩
            refine ⟨_, _, _, (hS.cel mp11 rfl), ?_⟩
            refine ⟨_, (hS.cel mp10 rfl), ?_⟩
            refine ⟨_, (hS.cel mp10 rfl), ?_⟩
            refine ⟨_, _, _, (hS.cel mp10 rfl), ?_⟩
            refine drM_s hS ?_; clear hS; intro w hS
            replace h := bnd h
            obtain ⟨t34, ht34, h⟩ := h
            refine wk_matrix_Same H hS (Ent.lent (Ent.sl mp9) rfl rfl) (Ent.lent (Ent.sl mp8) rfl rfl) ht34 ?_; clear hS ht34; rintro w hS
            refine ⟨_, rfl, ?_⟩
            refine ⟨(hS.cel mp10 rfl), ?_⟩
            refine ⟨(hS.cel mp10 rfl), ?_⟩
            refine ⟨(hS.cel mp10 rfl), ?_⟩
            refine ⟨(hS.cel mp11 rfl), ?_⟩
            refine ⟨(hS.cel mp11 rfl), ?_⟩
            refine ⟨(hS.cel mp11 rfl), ?_⟩
            refine drM_s hS ?_; clear hS; intro w hS
            replace h := bnd h
            obtain ⟨t35, ht35, h⟩ := h
            refine wk_girderref10_Same H hS (hq0_2.mono tl12) (hq1_2.mono tl12) ht35 ?_; clear hS ht35; rintro w hS
            refine ⟨_, rfl, ?_⟩
            refine cond_s h ?_ ?_ <;> clear h <;> intro hc h
            · refine optM_s ?_
              refine ⟨_, (hS.cel mp7 rfl), ?_⟩
              refine ⟨_, (hS.cel mp7 rfl), ?_⟩
              refine ⟨_, _, _, (hS.cel mp7 rfl), ?_⟩
              refine ⟨_, (hS.cel mp11 rfl), ?_⟩
              refine ⟨_, (hS.cel mp11 rfl), ?_⟩
              refine ⟨_, _, _, (hS.cel mp11 rfl), ?_⟩
              refine drM_s hS ?_; clear hS; intro w hS
              replace h := bnd h
              obtain ⟨t36, ht36, h⟩ := h
              refine wk_matrix_Symmetric H hS (Ent.lent (Ent.sl mp9) rfl rfl) ht36 ?_; clear hS ht36; rintro w hS
              refine ⟨_, rfl, ?_⟩
              refine ⟨(hS.cel mp11 rfl), ?_⟩
              refine ⟨(hS.cel mp11 rfl), ?_⟩
              refine ⟨(hS.cel mp11 rfl), ?_⟩
              refine drM_s hS ?_; clear hS; intro w hS
              replace h := bnd h
              obtain ⟨t37, ht37, h⟩ := h
              refine wk_girderref10_Symmetric H hS (hq0_2.mono tl12) ht37 ?_; clear hS ht37; rintro w hS
              refine ⟨_, rfl, ?_⟩
              refine cond_s h ?_ ?_ <;> clear h <;> intro hc h
              · refine optM_s ?_
                refine ⟨_, (hS.cel mp6 rfl), ?_⟩
                refine ⟨_, (hS.cel mp6 rfl), ?_⟩
                refine ⟨_, _, _, (hS.cel mp6 rfl), ?_⟩
                refine ⟨_, (hS.cel mp10 rfl), ?_⟩
                refine ⟨_, (hS.cel mp10 rfl), ?_⟩
                refine ⟨_, _, _, (hS.cel mp10 rfl), ?_⟩
                refine drM_s hS ?_; clear hS; intro w hS
                replace h := bnd h
                obtain ⟨t38, ht38, h⟩ := h
                refine wk_matrix_Symmetric H hS (Ent.lent (Ent.sl mp8) rfl rfl) ht38 ?_; clear hS ht38; rintro w hS
                refine ⟨_, rfl, ?_⟩
                refine ⟨(hS.cel mp10 rfl), ?_⟩
                refine ⟨(hS.cel mp10 rfl), ?_⟩
                refine ⟨(hS.cel mp10 rfl), ?_⟩
                refine drM_s hS ?_; clear hS; intro w hS
                replace h := bnd h
                obtain ⟨t39, ht39, h⟩ := h
                refine wk_girderref10_Symmetric H hS (hq1_2.mono tl12) ht39 ?_; clear hS ht39; rintro w hS
                refine ⟨_, rfl, ?_⟩
                refine drM_s hS ?_; clear hS; intro w hS
                obtain rfl := some_inj h
                exact hJ48 _ _ ⟨_, rfl, rfl, (hS.pick (A := [_, _, _, _, _, _, _, _, _, _, _, _]) [0, 0, 0, 0, 2, 2, 2, 2, 2, 2] rfl)⟩
              · refine drM_s hS ?_; clear hS; intro w hS
                refine drM_s hS ?_; clear hS; intro w hS
                refine drM_s hS ?_; clear hS; intro w hS
                obtain rfl := some_inj h
                exact hJ48 _ _ ⟨_, rfl, rfl, (hS.pick (A := [_, _, _, _, _, _, _, _, _, _, _, _]) [0, 0, 0, 0, 2, 2, 2, 2, 2, 2] rfl)⟩
            · refine drM_s hS ?_; clear hS; intro w hS
              refine drM_s hS ?_; clear hS; intro w hS
              refine drM_s hS ?_; clear hS; intro w hS
              refine drM_s hS ?_; clear hS; intro w hS
              refine drM_s hS ?_; clear hS; intro w hS
              obtain rfl := some_inj h
              exact hJ48 _ _ ⟨_, rfl, rfl, (hS.pick (A := [_, _, _, _, _, _, _, _, _, _, _, _]) [0, 0, 0, 0, 2, 2, 2, 2, 2, 2] rfl)⟩
          · refine drM_s hS ?_; clear hS; intro w hS
            refine drM_s hS ?_; clear hS; intro w hS
            refine drM_s hS ?_; clear hS; intro w hS
            refine drM_s hS ?_; clear hS; intro w hS
            refine drM_s hS ?_; clear hS; intro w hS
            refine drM_s hS ?_; clear hS; intro w hS
            refine drM_s hS ?_; clear hS; intro w hS
            obtain rfl := some_inj h
            exact hJ48 _ _ ⟨_, rfl, rfl, (hS.pick (A := [_, _, _, _, _, _, _, _, _, _, _, _]) [0, 0, 0, 0, 2, 2, 2, 2, 2, 2] rfl)⟩
        · refine drM_s hS ?_; clear hS; intro w hS
          refine drM_s hS ?_; clear hS; intro w hS
          refine drM_s hS ?_; clear hS; intro w hS
          refine drM_s hS ?_; clear hS; intro w hS
          refine drM_s hS ?_; clear hS; intro w hS
          refine drM_s hS ?_; clear hS; intro w hS
          refine drM_s hS ?_; clear hS; intro w hS
          refine drM_s hS ?_; clear hS; intro w hS
          refine drM_s hS ?_; clear hS; intro w hS
          obtain rfl := some_inj h
          exact hJ48 _ _ ⟨_, rfl, rfl, (hS.pick (A := [_, _, _, _, _, _, _, _, _, _, _, _]) [0, 0, 0, 0, 2, 2, 2, 2, 2, 2] rfl)⟩
      · clear h48 hS
        rintro s w ⟨t30, rfl, rfl, hS⟩
        have h := c48
        clear c48
        try dsimp only
        refine cond_s h ?_ ?_ <;> clear h <;> intro hc h
        · have h := some_inj h
          cases h
          exact hK _ (hS.pick (A := [_, _, _, _, _, _, _, _, _, _]) [] rfl)
        · refine optM_s ?_
          refine ⟨_, (hS.cel mp5 rfl), ?_⟩
          refine ⟨_, (hS.cel mp5 rfl), ?_⟩
          refine ⟨_, _, _, (hS.cel mp5 rfl), ?_⟩
          replace h := bnd h
          obtain ⟨⟨t40, t41, t42, t43⟩, ho40, h⟩ := h
          refine wk_matrix_Transpose H hS (Ent.lent (Ent.sl mp7) rfl rfl) ho40 ?_; clear hS ho40; rintro a49 m49 c49 ws49 w rfl hS
          refine ⟨_, _, _, _, _, _, rfl, ?_⟩
          replace hS := ro3 hS
          refine stc_s hS rfl rfl ?_; clear hS; intro w hS
          refine stc_s hS rfl rfl ?_; clear hS; intro w hS
          refine stc_s hS rfl rfl ?_; clear hS; intro w hS
          refine ⟨_, (hS.cel mp10 rfl), ?_⟩
          refine ⟨_, (hS.cel mp10 rfl), ?_⟩
          refine ⟨_, _, _, (hS.cel mp10 rfl), ?_⟩
          replace h := bnd h
          obtain ⟨⟨t44, t45, t46, t47⟩, ho44, h⟩ := h
          refine wk_girderref10_Transpose H hS (hq0_2.mono tl11) ho44 ?_; clear hS ho44; rintro a50 m50 c50 ws50 w rfl hS
          refine ⟨_, _, _, _, _, _, rfl, ?_⟩
          replace hS := ro3 hS
          refine stc_s hS rfl rfl ?_; clear hS; intro w hS
          refine stc_s hS rfl rfl ?_; clear hS; intro w hS
          refine stc_s hS rfl rfl ?_; clear hS; intro w hS
          refine ⟨_, (hS.cel mp2 rfl), ?_⟩
          refine ⟨_, (hS.cel mp2 rfl), ?_⟩
          refine ⟨_, _, _, (hS.cel mp2 rfl), ?_⟩
          refine ⟨_, (hS.cel mp0 rfl), ?_⟩
          refine ⟨_, (hS.cel mp0 rfl), ?_⟩
          refine ⟨_, _, _, (hS.cel mp0 rfl), ?_⟩
          replace h := bnd h
          obtain ⟨t48, ht48, h⟩ := h
          refine wk_girderlaw10_is H hS (Ent.sl mp3) (Ent.sl mp1) ht48 ?_; clear hS ht48; rintro w hS
          refine ⟨_, rfl, ?_⟩
          refine cond_s h ?_ ?_ <;> clear h <;> intro hc h
          · have h := some_inj h
            cases h
            exact hK _ (hS.pick (A := [_, _, _, _, _, _, _, _, _, _, _, _]) [] rfl)
          · refine optM_s ?_
            refine ⟨_, (hS.cel mp7 rfl), ?_⟩
            refine ⟨_, (hS.cel mp7 rfl), ?_⟩
            refine ⟨_, _, _, (hS.cel mp7 rfl), ?_⟩
            refine optM_s ?_
            refine ⟨_, (hS.cel mp6 rfl), ?_⟩
            refine ⟨_, (hS.cel mp6 rfl), ?_⟩
            refine ⟨_, _, _, (hS.cel mp6 rfl), ?_⟩
            replace h := bnd h
            obtain ⟨⟨t49, t50, t51, t52⟩, ho49, h⟩ := h
            refine wk_matrix_Sub H hS (Ent.lent (Ent.sl mp9) rfl rfl) (Ent.lent (Ent.sl mp8) rfl rfl) ho49 ?_; clear hS ho49; rintro a51 m51 c51 ws51 w rfl hS
            refine ⟨_, _, _, _, _, _, rfl, ?_⟩
            replace hS := ro3 hS
            refine stc_s hS rfl rfl ?_; clear hS; intro w hS
            refine stc_s hS rfl rfl ?_; clear hS; intro w hS
            refine stc_s hS rfl rfl ?_; clear hS; intro w hS
            refine ⟨_, (hS.cel mp12 rfl), ?_⟩
            refine ⟨_, (hS.cel mp12 rfl), ?_⟩
            refine ⟨_, _, _, (hS.cel mp12 rfl), ?_⟩
            refine ⟨_, (hS.cel mp11 rfl), ?_⟩
            refine ⟨_, (hS.cel mp11 rfl), ?_⟩
            refine ⟨_, _, _, (hS.cel mp11 rfl), ?_⟩
            replace h := bnd h
            obtain ⟨⟨t53, t54, t55, t56⟩, ho53, h⟩ := h
            refine wk_girderref10_Sub H hS (hq0_2.mono tl13) (hq1_2.mono tl13) ho53 ?_; clear hS ho53; rintro a52 m52 c52 ws52 w rfl hS
            refine ⟨_, _, _, _, _, _, rfl, ?_⟩
            replace hS := ro3 hS
            refine stc_s hS rfl rfl ?_; clear hS; intro w hS
            refine stc_s hS rfl rfl ?_; clear hS; intro w hS
            refine stc_s hS rfl rfl ?_; clear hS; intro w hS
            refine optM_s ?_
            refine ⟨_, (hS.cel mp9 rfl), ?_⟩
            refine ⟨_, (hS.cel mp9 rfl), ?_⟩
            refine ⟨_, _, _, (hS.cel mp9 rfl), ?_⟩
            replace h := bnd h
            obtain ⟨⟨t57, t58⟩, ho57, h⟩ := h
            refine wk_matrix_Norm H hS (Ent.lent (Ent.sl mp11) rfl rfl) ho57 ?_; clear hS ho57; rintro z53 w rfl hS
            refine ⟨_, _, rfl, ?_⟩
            refine ⟨_, (hS.cel mp13 rfl), ?_⟩
            refine ⟨_, (hS.cel mp13 rfl), ?_⟩
            refine ⟨_, _, _, (hS.cel mp13 rfl), ?_⟩
            replace h := bnd h
            obtain ⟨⟨t59, t60⟩, ho59, h⟩ := h
            refine wk_girderref10_Norm H hS (hq0_2.mono tl14) ho59 ?_; clear hS ho59; rintro z54 w rfl hS
            refine ⟨_, _, rfl, ?_⟩
            refine ⟨_, (hS.cel mp2 rfl), ?_⟩
            refine ⟨_, (hS.cel mp2 rfl), ?_⟩
            refine ⟨_, _, _, (hS.cel mp2 rfl), ?_⟩
            refine ⟨_, (hS.cel mp0 rfl), ?_⟩
            refine ⟨_, (hS.cel mp0 rfl), ?_⟩
            refine ⟨_, _, _, (hS.cel mp0 rfl), ?_⟩
            replace h := bnd h
            obtain ⟨t61, ht61, h⟩ := h
            refine wk_girderlaw10_is H hS (Ent.sl mp3) (Ent.sl mp1) ht61 ?_; clear hS ht61; rintro w hS
            refine ⟨_, rfl, ?_⟩
            refine cond_s h ?_ ?_ <;> clear h <;> intro hc h
            · replace h := bnd h
              obtain ⟨t62, ht62, h⟩ := h
              refine wk_girderkit_SameFloat H hS  ht62 ?_; clear hS ht62; rintro w hS
              refine ⟨_, rfl, ?_⟩
              refine cond_s h ?_ ?_ <;> clear h <;> intro hc h
              · refine cond_s h ?_ ?_ <;> clear h <;> intro hc h
                · refine optM_s ?_
                  refine ⟨_, (hS.cel mp9 rfl), ?_⟩
                  refine ⟨_, (hS.cel mp9 rfl), ?_⟩
                  refine ⟨_, _, _, (hS.cel mp9 rfl), ?_⟩
                  refine ⟨_, (hS.cel mp13 rfl), ?_⟩
                  refine ⟨_, (hS.cel mp13 rfl), ?_⟩
                  refine ⟨_, _, _, (hS.cel mp13 rfl), ?_⟩
                  replace h := bnd h
                  obtain ⟨t63, ht63, h⟩ := h
                  refine wk_girderkit_KeptMatrix H hS (Ent.sl mp11) (hq0_2.mono tl14) ht63 ?_; clear hS ht63; rintro w hS
                  refine ⟨_, rfl, ?_⟩
                  refine cond_s h ?_ ?_ <;> clear h <;> intro hc h
                  · refine optM_s ?_
                    refine ⟨_, (hS.cel mp8 rfl), ?_⟩
                    refine ⟨_, (hS.cel mp8 rfl), ?_⟩
                    refine ⟨_, _, _, (hS.cel mp8 rfl), ?_⟩
                    refine ⟨_, (hS.cel mp12 rfl), ?_⟩
                    refine ⟨_, (hS.cel mp12 rfl), ?_⟩
                    refine ⟨_, _, _, (hS.cel mp12 rfl), ?_⟩
                    replace h := bnd h
                    obtain ⟨t64, ht64, h⟩ := h
                    refine wk_girderkit_KeptMatrix H hS (Ent.sl mp10) (hq1_2.mono tl14) ht64 ?_; clear hS ht64; rintro w hS
                    refine ⟨_, rfl, ?_⟩
                    refine cond_s h ?_ ?_ <;> clear h <;> intro hc h
                    · replace h := bnd h
                      obtain ⟨t65, ht65, h⟩ := h
                      refine wk_girderlaw10_awake H hS  ht65 ?_; clear hS ht65; rintro w hS
                      refine ⟨_, rfl, ?_⟩
                      have h := some_inj h
                      cases h
                      exact hK _ (hS.pick (A := [_, _, _, _, _, _, _, _, _, _, _, _, _, _]) [] rfl)
                    · have h := some_inj h
                      cases h
                      exact hK _ (hS.pick (A := [_, _, _, _, _, _, _, _, _, _, _, _, _, _]) [] rfl)
                  · have h := some_inj h
                    cases h
                    exact hK _ (hS.pick (A := [_, _, _, _, _, _, _, _, _, _, _, _, _, _]) [] rfl)
                · have h := some_inj h
                  cases h
                  exact hK _ (hS.pick (A := [_, _, _, _, _, _, _, _, _, _, _, _, _, _]) [] rfl)
              · have h := some_inj h
                cases h
                exact hK _ (hS.pick (A := [_, _, _, _, _, _, _, _, _, _, _, _, _, _]) [] rfl)
            · have h := some_inj h
              cases h
              exact hK _ (hS.pick (A := [_, _, _, _, _, _, _, _, _, _, _, _, _, _]) [] rfl)

theorem wk_math_Inf {N : Nums} {P : Program} (H : AllOk N P) {w0 w : World} {L : List It} {q0 : Int} {u0 : Nat} (hS : Ho w0 w L)  (hx : T_math_Inf q0 = some u0) {K : Value → World → Prop} (hK : ∀ (z0 : Nat) (w1 : World), nf z0 = u0 → Ho w0 w1 (L) → K (.float .f64 z0) w1) : CallsX P N.f_math_Inf #[.int .i64 q0] w K := by
  refine H.math_Inf q0 w _ ?_
  unfold S_math_Inf
  unfold T_math_Inf at hx
  have h := hx
  clear hx
  try dsimp only
  replace h := bnd h
  obtain ⟨o1, h1, c1⟩ := h
  refine cutM_i (fun s w => ∃ (t1 : Int), o1 = t1 ∧ s = (t1, ()) ∧ Ho w0 w (L)) (fun J1 hJ1 => ?_) ?_
  · have h := h1
    clear h1
    refine cond_s h ?_ ?_ <;> clear h <;> intro hc h
    · obtain rfl := some_inj h
      exact hJ1 _ _ ⟨_, rfl, rfl, hS⟩
    · obtain rfl := some_inj h
      exact hJ1 _ _ ⟨_, rfl, rfl, hS⟩
  · clear h1 hS
    rintro s w ⟨t1, rfl, rfl, hS⟩
    have h := c1
    clear c1
    try dsimp only
    replace h := bnd h
    obtain ⟨t2, ht2, h⟩ := h
    refine wk_math_Float64frombits H hS  ht2 ?_; clear hS ht2; rintro z2 w rfl hS
    refine ⟨_, rfl, ?_⟩
    have h := some_inj h
    cases h
    exact hK _ _ rfl hS

theorem wk_math_NaN {N : Nums} {P : Program} (H : AllOk N P) {w0 w : World} {L : List It}  {u0 : Nat} (hS : Ho w0 w L)  (hx : T_math_NaN  = some u0) {K : Value → World → Prop} (hK : ∀ (z0 : Nat) (w1 : World), nf z0 = u0 → Ho w0 w1 (L) → K (.float .f64 z0) w1) : CallsX P N.f_math_NaN #[] w K := by
  refine H.math_NaN  w _ ?_
  unfold S_math_NaN
  unfold T_math_NaN at hx
  have h := hx
  clear hx
  try dsimp only
  replace h := bnd h
  obtain ⟨t1, ht1, h⟩ := h
  refine wk_math_Float64frombits H hS  ht1 ?_; clear hS ht1; rintro z1 w rfl hS
  refine ⟨_, rfl, ?_⟩
  have h := some_inj h
  cases h
  exact hK _ _ rfl hS

theorem wk_girderlaw10_MatrixNumbers {N : Nums} {P : Program} (H : AllOk N P) {w0 w : World} {L : List It}  {u0 : Bool} (hS : Ho w0 w L)  (hx : T_girderlaw10_MatrixNumbers  = some u0) {K : Value → World → Prop} (hK : ∀  (w1 : World), Ho w0 w1 (L) → K (.bool u0) w1) : CallsX P N.f_girderlaw10_MatrixNumbers #[] w K := by
  refine H.girderlaw10_MatrixNumbers  w _ ?_
  unfold S_girderlaw10_MatrixNumbers
  unfold T_girderlaw10_MatrixNumbers at hx
  have h := hx
  clear hx
  try dsimp only
  replace h := bnd h
  obtain ⟨⟨t1, t2, t3, t4⟩, ho1, h⟩ := h
  refine wk_matrix_Make H hS  ho1 ?_; clear hS ho1; rintro a1 m1 c1 ws1 w rfl hS
  refine ⟨_, _, _, _, _, _, rfl, ?_⟩
  refine newM_s hS ?_; clear hS; intro r2 w hS
  refine stc_s hS rfl rfl ?_; clear hS; intro w hS
  refine stc_s hS rfl rfl ?_; clear hS; intro w hS
  refine stc_s hS rfl rfl ?_; clear hS; intro w hS
  replace h := bnd h
  obtain ⟨⟨t5, t6, t7, t8⟩, ho5, h⟩ := h
  refine wk_matrix_Make H hS  ho5 ?_; clear hS ho5; rintro a3 m3 c3 ws3 w rfl hS
  refine ⟨_, _, _, _, _, _, rfl, ?_⟩
  refine newM_s hS ?_; clear hS; intro r4 w hS
  refine stc_s hS rfl rfl ?_; clear hS; intro w hS
  refine stc_s hS rfl rfl ?_; clear hS; intro w hS
  refine stc_s hS rfl rfl ?_; clear hS; intro w hS
  replace h := bnd h
  obtain ⟨⟨t9, t10, t11, t12⟩, ho9, h⟩ := h
  refine wk_matrix_Make H hS  ho9 ?_; clear hS ho9; rintro a5 m5 c5 ws5 w rfl hS
  refine ⟨_, _, _, _, _, _, rfl, ?_⟩
  refine newM_s hS ?_; clear hS; intro r6 w hS
  refine stc_s hS rfl rfl ?_; clear hS; intro w hS
  refine stc_s hS rfl rfl ?_; clear hS; intro w hS
  refine stc_s hS rfl rfl ?_; clear hS; intro w hS
  replace h := bnd h
  obtain ⟨⟨t13, t14, t15, t16⟩, ho13, h⟩ := h
  refine wk_matrix_Identity H hS  ho13 ?_; clear hS ho13; rintro a7 m7 c7 ws7 w rfl hS
  refine ⟨_, _, _, _, _, _, rfl, ?_⟩
  refine newM_s hS ?_; clear hS; intro r8 w hS
  refine stc_s hS rfl rfl ?_; clear hS; intro w hS
  refine stc_s hS rfl rfl ?_; clear hS; intro w hS
  refine stc_s hS rfl rfl ?_; clear hS; intro w hS
  replace h := bnd h
  obtain ⟨⟨t17, t18, t19, t20⟩, ho17, h⟩ := h
  refine wk_matrix_Make H hS  ho17 ?_; clear hS ho17; rintro a9 m9 c9 ws9 w rfl hS
  refine ⟨_, _, _, _, _, _, rfl, ?_⟩
  refine newM_s hS ?_; clear hS; intro r10 w hS
  refine stc_s hS rfl rfl ?_; clear hS; intro w hS
  refine stc_s hS rfl rfl ?_; clear hS; intro w hS
  refine stc_s hS rfl rfl ?_; clear hS; intro w hS
  replace h := bnd h
  obtain ⟨o11, h11, c11⟩ := h
  refine cutM_i (fun s w => ∃ (t21 : Bool), o11 = t21 ∧ s = (t21, ()) ∧ Ho w0 w (L)) (fun J11 hJ11 => ?_) ?_
  · have h := h11
    clear h11
    refine cond_s h ?_ ?_ <;> clear h <;> intro hc h
    · refine ⟨_, _, _, (hS.cel mp8 rfl), ?_⟩
      replace h := bnd h
      obtain ⟨t22, ht22, h⟩ := h
      obtain rfl := lenF ht22 ((Ent.sl mp9).now (fun _ h => h) hS)
      clear ht22
      refine cond_s h ?_ ?_ <;> clear h <;> intro hc h
      · refine ⟨_, (hS.cel mp6 rfl), ?_⟩
        refine ⟨_, (hS.cel mp6 rfl), ?_⟩
        refine ⟨_, _, _, (hS.cel mp6 rfl), ?_⟩
        refine drM_s hS ?_; clear hS; intro w hS
        replace h := bnd h
        obtain ⟨t23, ht23, h⟩ := h
        refine wk_girderlaw10_is H hS (Ent.sl mp7) (Ent.nil _) ht23 ?_; clear hS ht23; rintro w hS
        refine ⟨_, rfl, ?_⟩
        refine ⟨(hS.cel mp8 rfl), ?_⟩
        refine cond_s h ?_ ?_ <;> clear h <;> intro hc h
        · refine ⟨_, (hS.cel mp4 rfl), ?_⟩
          refine ⟨_, (hS.cel mp4 rfl), ?_⟩
          refine ⟨_, _, _, (hS.cel mp4 rfl), ?_⟩
          refine drM_s hS ?_; clear hS; intro w hS
          replace h := bnd h
          obtain ⟨t24, ht24, h⟩ := h
          refine wk_girderlaw10_is H hS (Ent.sl mp5) (Ent.nil _) ht24 ?_; clear hS ht24; rintro w hS
          refine ⟨_, rfl, ?_⟩
          refine ⟨(hS.cel mp8 rfl), ?_⟩
          refine cond_s h ?_ ?_ <;> clear h <;> intro hc h
          · refine ⟨_, (hS.cel mp2 rfl), ?_⟩
            refine ⟨_, (hS.cel mp2 rfl), ?_⟩
            refine ⟨_, _, _, (hS.cel mp2 rfl), ?_⟩
            refine drM_s hS ?_; clear hS; intro w hS
            replace h := bnd h
            obtain ⟨t25, ht25, h⟩ := h
            refine wk_girderlaw10_is H hS (Ent.sl mp3) (Ent.nil _) ht25 ?_; clear hS ht25; rintro w hS
            refine ⟨_, rfl, ?_⟩
            refine ⟨(hS.cel mp8 rfl), ?_⟩
            refine cond_s h ?_ ?_ <;> clear h <;> intro hc h
            · refine ⟨_, (hS.cel mp0 rfl), ?_⟩
              refine ⟨_, (hS.cel mp0 rfl), ?_⟩
              refine ⟨_, _, _, (hS.cel mp0 rfl), ?_⟩
              refine drM_s hS ?_; clear hS; intro w hS
              replace h := bnd h
              obtain ⟨⟨t26, t27, t28⟩, ho26, h⟩ := h
              refine wk_girderlaw10_of H hS (Ent.nil _) ho26 ?_; clear hS ho26; rintro w rfl hS
              refine ⟨_, _, _, _, _, rfl, ?_⟩
              refine ⟨(hS.cel mp0 rfl), ?_⟩
              refine ⟨(hS.cel mp0 rfl), ?_⟩
              refine ⟨(hS.cel mp0 rfl), ?_⟩
              refine ⟨(hS.cel mp8 rfl), ?_⟩
              refine drM_s hS ?_; clear hS; intro w hS
              replace h := bnd h
              obtain ⟨t29, ht29, h⟩ := h
              refine wk_girderlaw10_is H hS (Ent.sl mp1) (Ent.nil _) ht29 ?_; clear hS ht29; rintro w hS
              refine ⟨_, rfl, ?_⟩
              refine ⟨(hS.cel mp8 rfl), ?_⟩
              refine drM_s hS ?_; clear hS; intro w hS
              obtain rfl := some_inj h
              exact hJ11 _ _ ⟨_, rfl, rfl, (hS.pick (A := [_, _, _, _, _, _, _, _, _, _]) [] rfl)⟩
            · refine drM_s hS ?_; clear hS; intro w hS
              refine ⟨(hS.cel mp8 rfl), ?_⟩
              refine drM_s hS ?_; clear hS; intro w hS
              refine ⟨(hS.cel mp8 rfl), ?_⟩
              refine drM_s hS ?_; clear hS; intro w hS
              obtain rfl := some_inj h
              exact hJ11 _ _ ⟨_, rfl, rfl, (hS.pick (A := [_, _, _, _, _, _, _, _, _, _]) [] rfl)⟩
          · refine drM_s hS ?_; clear hS; intro w hS
            refine ⟨(hS.cel mp8 rfl), ?_⟩
            refine drM_s hS ?_; clear hS; intro w hS
            refine ⟨(hS.cel mp8 rfl), ?_⟩
            refine drM_s hS ?_; clear hS; intro w hS
            refine ⟨(hS.cel mp8 rfl), ?_⟩
            refine drM_s hS ?_; clear hS; intro w hS
            obtain rfl := some_inj h
            exact hJ11 _ _ ⟨_, rfl, rfl, (hS.pick (A := [_, _, _, _, _, _, _, _, _, _]) [] rfl)⟩
        · refine drM_s hS ?_; clear hS; intro w hS
          refine ⟨(hS.cel mp8 rfl), ?_⟩
          refine drM_s hS ?_; clear hS; intro w hS
          refine ⟨(hS.cel mp8 rfl), ?_⟩
          refine drM_s hS ?_; clear hS; intro w hS
          refine ⟨(hS.cel mp8 rfl), ?_⟩
          refine drM_s hS ?_; clear hS; intro w hS
          refine ⟨(hS.cel mp8 rfl), ?_⟩
          refine drM_s hS ?_; clear hS; intro w hS
          obtain rfl := some_inj h
          exact hJ11 _ _ ⟨_, rfl, rfl, (hS.pick (A := [_, _, _, _, _, _, _, _, _, _]) [] rfl)⟩
      · refine drM_s hS ?_; clear hS; intro w hS
        refine ⟨(hS.cel mp8 rfl), ?_⟩
        refine drM_s hS ?_; clear hS; intro w hS
        refine ⟨(hS.cel mp8 rfl), ?_⟩
        refine drM_s hS ?_; clear hS; intro w hS
        refine ⟨(hS.cel mp8 rfl), ?_⟩
        refine drM_s hS ?_; clear hS; intro w hS
        refine ⟨(hS.cel mp8 rfl), ?_⟩
        refine drM_s hS ?_; clear hS; intro w hS
        refine ⟨(hS.cel mp8 rfl), ?_⟩
        refine drM_s hS ?_; clear hS; intro w hS
        obtain rfl := some_inj h
        exact hJ11 _ _ ⟨_, rfl, rfl, (hS.pick (A := [_, _, _, _, _, _, _, _, _, _]) [] rfl)⟩
    · refine drM_s hS ?_; clear hS; intro w hS
      refine drM_s hS ?_; clear hS; intro w hS
      refine drM_s hS ?_; clear hS; intro w hS
      refine drM_s hS ?_; clear hS; intro w hS
      refine drM_s hS ?_; clear hS; intro w hS
      refine drM_s hS ?_; clear hS; intro w hS
      obtain rfl := some_inj h
      exact hJ11 _ _ ⟨_, rfl, rfl, (hS.pick (A := [_, _, _, _, _, _, _, _, _, _]) [] rfl)⟩
  · clear h11 hS
    rintro s w ⟨t21, rfl, rfl, hS⟩
    have h := c11
    clear c11
    try dsimp only
    refine cond_s h ?_ ?_ <;> clear h <;> intro hc h
    · have h := some_inj h
      cases h
      exact hK _ hS
    · replace h := bnd h
      obtain ⟨t30, ht30, h⟩ := h
      obtain rfl : (List.map nf ([4607182418800017408, 4607182418800017408, 4607182418800017408] : List Nat)) = t30 := some_inj ht30
      clear ht30
      refine lit_s (ks := [4607182418800017408, 4607182418800017408, 4607182418800017408]) (enc := (Value.float .f64)) (m := 3) hS rfl rfl ?_; clear hS; intro r13 w hS
      replace h := bnd h
      obtain ⟨⟨t31, t32, t33⟩, ho31, h⟩ := h
      refine wk_girderlaw10_of H hS (Ent.sl mp0) ho31 ?_; clear hS ho31; rintro w rfl hS
      refine ⟨_, _, _, _, _, rfl, ?_⟩
      refine newM_s hS ?_; clear hS; intro r15 w hS
      refine stc_s hS rfl rfl ?_; clear hS; intro w hS
      refine stc_s hS rfl rfl ?_; clear hS; intro w hS
      refine stc_s hS rfl rfl ?_; clear hS; intro w hS
      replace h := bnd h
      obtain ⟨o21, h21, c21⟩ := h
      refine cutM_i (fun s w => ∃ (t34 : Int) (r16 : Nat) (t35 : Int) (t36 : Int) (a17 : Option Addr) (m18 : Nat) (c19 : Nat) (ws20 : List Nat), o21 = (t34, t35, t36, (List.map nf ws20)) ∧ s = ((some ⟨r16, 0, none⟩), t34, ()) ∧ Ho w0 w ((cl r16 [.int .i64 t35, .int .i64 t36, .slice a17 m18 c19] N.t_Matrix) :: (sl a17 m18 c19 (List.map (Value.float .f64) ws20) N.t_float64) :: (cl r15 [.int .i64 t31, .int .i64 t32, .slice (some ⟨r13, 0, none⟩) 3 3] N.t_Matrix) :: (sl (some ⟨r13, 0, none⟩) 3 3 (List.map (Value.float .f64) ([4607182418800017408, 4607182418800017408, 4607182418800017408])) N.t_float64) :: L)) (fun J21 hJ21 => ?_) ?_
      · have h := h21
        clear h21
        refine ⟨_, (hS.cel mp0 rfl), ?_⟩
        refine ⟨_, (hS.cel mp0 rfl), ?_⟩
        refine ⟨_, _, _, (hS.cel mp0 rfl), ?_⟩
        refine ⟨?_, ?_⟩
        · refine drM_s hS ?_; clear hS; intro w hS
          replace h := bnd h
          obtain ⟨t38, ht38, h⟩ := h
          obtain rfl : (List.map nf ([4845873199050653696, 4607182418800017408, 14069245235905429504] : List Nat)) = t38 := some_inj ht38
          clear ht38
          refine lit_s (ks := [4845873199050653696, 4607182418800017408, 14069245235905429504]) (enc := (Value.float .f64)) (m := 3) hS rfl rfl ?_; clear hS; intro r22 w hS
          refine ⟨(hS.cel mp1 rfl), ?_⟩
          refine ⟨(hS.cel mp1 rfl), ?_⟩
          refine ⟨(hS.cel mp1 rfl), ?_⟩
          refine ⟨?_, ?_⟩
          · refine drM_s hS ?_; clear hS; intro w hS
            replace h := bnd h
            obtain ⟨⟨t39, t40, t41⟩, ho39, h⟩ := h
            refine wk_girderlaw10_of H hS (Ent.sl mp0) ho39 ?_; clear hS ho39; rintro w rfl hS
            refine ⟨_, _, _, _, _, rfl, ?_⟩
            refine ⟨(hS.cel mp1 rfl), ?_⟩
            refine ⟨(hS.cel mp1 rfl), ?_⟩
            refine ⟨(hS.cel mp1 rfl), ?_⟩
            refine ⟨?_, ?_⟩
            · refine drM_s hS ?_; clear hS; intro w hS
              replace h := bnd h
              obtain ⟨⟨t42, t43, t44, t45⟩, ho42, h⟩ := h
              refine wk_matrix_Mul H hS (Ent.sl mp0) (Ent.sl mp2) ho42 ?_; clear hS ho42; rintro a24 m24 c24 ws24 w rfl hS
              refine ⟨_, _, _, _, _, _, rfl, ?_⟩
              refine drM_s hS ?_; clear hS; intro w hS
              refine newM_s hS ?_; clear hS; intro r25 w hS
              refine drM_s hS ?_; clear hS; intro w hS
              refine stc_s hS rfl rfl ?_; clear hS; intro w hS
              refine stc_s hS rfl rfl ?_; clear hS; intro w hS
              refine stc_s hS rfl rfl ?_; clear hS; intro w hS
              refine drM_s hS ?_; clear hS; intro w hS
              obtain rfl := some_inj h
              exact hJ21 _ _ ⟨_, _, _, _, _, _, _, _, rfl, rfl, (hS.pick (A := [_, _, _, _, _]) [0, 0, 1, 1] rfl)⟩
            · refine drM_s hS ?_; clear hS; intro w hS
              refine newM_s hS ?_; clear hS; intro r26 w hS
              refine ⟨(hS.cel mp2 rfl), ?_⟩
              refine ⟨(hS.cel mp2 rfl), ?_⟩
              refine ⟨(hS.cel mp2 rfl), ?_⟩
              refine drM_s hS ?_; clear hS; intro w hS
              replace h := bnd h
              obtain ⟨⟨t42, t43, t44, t45⟩, ho42, h⟩ := h
              refine wk_matrix_Mul H hS (Ent.sl mp1) (Ent.sl mp3) ho42 ?_; clear hS ho42; rintro a27 m27 c27 ws27 w rfl hS
              refine ⟨_, _, _, _, _, _, rfl, ?_⟩
              refine drM_s hS ?_; clear hS; intro w hS
              replace hS := ro1 hS
              refine stc_s hS rfl rfl ?_; clear hS; intro w hS
              refine stc_s hS rfl rfl ?_; clear hS; intro w hS
              refine stc_s hS rfl rfl ?_; clear hS; intro w hS
              refine drM_s hS ?_; clear hS; intro w hS
              obtain rfl := some_inj h
              exact hJ21 _ _ ⟨_, _, _, _, _, _, _, _, rfl, rfl, (hS.pick (A := [_, _, _, _, _]) [0, 0, 1, 1] rfl)⟩
          · refine drM_s hS ?_; clear hS; intro w hS
            refine newM_s hS ?_; clear hS; intro r28 w hS
            refine ⟨(hS.cel mp2 rfl), ?_⟩
            refine ⟨(hS.cel mp2 rfl), ?_⟩
            refine ⟨(hS.cel mp2 rfl), ?_⟩
            refine drM_s hS ?_; clear hS; intro w hS
            replace h := bnd h
            obtain ⟨⟨t39, t40, t41⟩, ho39, h⟩ := h
            refine wk_girderlaw10_of H hS (Ent.sl mp1) ho39 ?_; clear hS ho39; rintro w rfl hS
            refine ⟨_, _, _, _, _, rfl, ?_⟩
            refine ⟨(hS.cel mp2 rfl), ?_⟩
            refine ⟨(hS.cel mp2 rfl), ?_⟩
            refine ⟨(hS.cel mp2 rfl), ?_⟩
            refine drM_s hS ?_; clear hS; intro w hS
            replace h := bnd h
            obtain ⟨⟨t42, t43, t44, t45⟩, ho42, h⟩ := h
            refine wk_matrix_Mul H hS (Ent.sl mp1) (Ent.sl mp3) ho42 ?_; clear hS ho42; rintro a30 m30 c30 ws30 w rfl hS
            refine ⟨_, _, _, _, _, _, rfl, ?_⟩
            refine drM_s hS ?_; clear hS; intro w hS
            replace hS := ro1 hS
            refine stc_s hS rfl rfl ?_; clear hS; intro w hS
            refine stc_s hS rfl rfl ?_; clear hS; intro w hS
            refine stc_s hS rfl rfl ?_; clear hS; intro w hS
            refine drM_s hS ?_; clear hS; intro w hS
            obtain rfl := some_inj h
            exact hJ21 _ _ ⟨_, _, _, _, _, _, _, _, rfl, rfl, (hS.pick (A := [_, _, _, _, _]) [0, 0, 1, 1] rfl)⟩
        · refine drM_s hS ?_; clear hS; intro w hS
          refine newM_s hS ?_; clear hS; intro r31 w hS
          refine ⟨(hS.cel mp1 rfl), ?_⟩
          refine ⟨(hS.cel mp1 rfl), ?_⟩
          refine ⟨(hS.cel mp1 rfl), ?_⟩
          refine drM_s hS ?_; clear hS; intro w hS
          replace h := bnd h
          obtain ⟨t38, ht38, h⟩ := h
          obtain rfl : (List.map nf ([4845873199050653696, 4607182418800017408, 14069245235905429504] : List Nat)) = t38 := some_inj ht38
          clear ht38
          refine lit_s (ks := [4845873199050653696, 4607182418800017408, 14069245235905429504]) (enc := (Value.float .f64)) (m := 3) hS rfl rfl ?_; clear hS; intro r32 w hS
          refine ⟨(hS.cel mp2 rfl), ?_⟩
          refine ⟨(hS.cel mp2 rfl), ?_⟩
          refine ⟨(hS.cel mp2 rfl), ?_⟩
          refine drM_s hS ?_; clear hS; intro w hS
          replace h := bnd h
          obtain ⟨⟨t39, t40, t41⟩, ho39, h⟩ := h
          refine wk_girderlaw10_of H hS (Ent.sl mp0) ho39 ?_; clear hS ho39; rintro w rfl hS
          refine ⟨_, _, _, _, _, rfl, ?_⟩
          refine ⟨(hS.cel mp2 rfl), ?_⟩
          refine ⟨(hS.cel mp2 rfl), ?_⟩
          refine ⟨(hS.cel mp2 rfl), ?_⟩
          refine drM_s hS ?_; clear hS; intro w hS
          replace h := bnd h
          obtain ⟨⟨t42, t43, t44, t45⟩, ho42, h⟩ := h
          refine wk_matrix_Mul H hS (Ent.sl mp0) (Ent.sl mp3) ho42 ?_; clear hS ho42; rintro a34 m34 c34 ws34 w rfl hS
          refine ⟨_, _, _, _, _, _, rfl, ?_⟩
          refine drM_s hS ?_; clear hS; intro w hS
          replace hS := ro2 hS
          refine stc_s hS rfl rfl ?_; clear hS; intro w hS
          refine stc_s hS rfl rfl ?_; clear hS; intro w hS
          refine stc_s hS rfl rfl ?_; clear hS; intro w hS
          refine drM_s hS ?_; clear hS; intro w hS
          obtain rfl := some_inj h
          exact hJ21 _ _ ⟨_, _, _, _, _, _, _, _, rfl, rfl, (hS.pick (A := [_, _, _, _, _]) [0, 0, 1, 1] rfl)⟩
      · clear h21 hS
        rintro s w ⟨t34, r16, t35, t36, a17, m18, c19, ws20, rfl, rfl, hS⟩
        have h := c21
        clear c21
        try dsimp only
        replace h := bnd h
        obtain ⟨o40, h40, c40⟩ := h
        refine cutM_i (fun s w => ∃ (t46 : Int) (r35 : Nat) (t47 : Int) (t48 : Int) (a36 : Option Addr) (m37 : Nat) (c38 : Nat) (ws39 : List Nat), o40 = (t46, t47, t48, (List.map nf ws39)) ∧ s = ((some ⟨r35, 0, none⟩), t46, ()) ∧ Ho w0 w ((cl r35 [.int .i64 t47, .int .i64 t48, .slice a36 m37 c38] N.t_Matrix) :: (sl a36 m37 c38 (List.map (Value.float .f64) ws39) N.t_float64) :: (cl r16 [.int .i64 t35, .int .i64 t36, .slice a17 m18 c19] N.t_Matrix) :: (sl a17 m18 c19 (List.map (Value.float .f64) ws20) N.t_float64) :: L)) (fun J40 hJ40 => ?_) ?_
        · have h := h40
          clear h40
          refine ⟨_, (hS.cel mp2 rfl), ?_⟩
          refine ⟨_, (hS.cel mp2 rfl), ?_⟩
          refine ⟨_, _, _, (hS.cel mp2 rfl), ?_⟩
          refine ⟨?_, ?_⟩
          · refine drM_s hS ?_; clear hS; intro w hS
            replace h := bnd h
            obtain ⟨t50, ht50, h⟩ := h
            obtain rfl : (List.map nf ([4845873199050653696, 14069245235905429504, 4607182418800017408] : List Nat)) = t50 := some_inj ht50
            clear ht50
            refine lit_s (ks := [4845873199050653696, 14069245235905429504, 4607182418800017408]) (enc := (Value.float .f64)) (m := 3) hS rfl rfl ?_; clear hS; intro r41 w hS
            refine ⟨(hS.cel mp3 rfl), ?_⟩
            refine ⟨(hS.cel mp3 rfl), ?_⟩
            refine ⟨(hS.cel mp3 rfl), ?_⟩
            refine ⟨?_, ?_⟩
            · refine drM_s hS ?_; clear hS; intro w hS
              replace h := bnd h
              obtain ⟨⟨t51, t52, t53⟩, ho51, h⟩ := h
              refine wk_girderlaw10_of H hS (Ent.sl mp0) ho51 ?_; clear hS ho51; rintro w rfl hS
              refine ⟨_, _, _, _, _, rfl, ?_⟩
              refine ⟨(hS.cel mp3 rfl), ?_⟩
              refine ⟨(hS.cel mp3 rfl), ?_⟩
              refine ⟨(hS.cel mp3 rfl), ?_⟩
              refine ⟨?_, ?_⟩
              · refine drM_s hS ?_; clear hS; intro w hS
                replace h := bnd h
                obtain ⟨⟨t54, t55, t56, t57⟩, ho54, h⟩ := h
                refine wk_matrix_Mul H hS (Ent.sl mp0) (Ent.sl mp4) ho54 ?_; clear hS ho54; rintro a43 m43 c43 ws43 w rfl hS
                refine ⟨_, _, _, _, _, _, rfl, ?_⟩
                refine drM_s hS ?_; clear hS; intro w hS
                refine newM_s hS ?_; clear hS; intro r44 w hS
                refine drM_s hS ?_; clear hS; intro w hS
                refine stc_s hS rfl rfl ?_; clear hS; intro w hS
                refine stc_s hS rfl rfl ?_; clear hS; intro w hS
                refine stc_s hS rfl rfl ?_; clear hS; intro w hS
                refine drM_s hS ?_; clear hS; intro w hS
                obtain rfl := some_inj h
                exact hJ40 _ _ ⟨_, _, _, _, _, _, _, _, rfl, rfl, (hS.pick (A := [_, _, _, _, _, _, _]) [0, 0, 1, 1] rfl)⟩
              · refine drM_s hS ?_; clear hS; intro w hS
                refine newM_s hS ?_; clear hS; intro r45 w hS
                refine ⟨(hS.cel mp4 rfl), ?_⟩
                refine ⟨(hS.cel mp4 rfl), ?_⟩
                refine ⟨(hS.cel mp4 rfl), ?_⟩
                refine drM_s hS ?_; clear hS; intro w hS
                replace h := bnd h
                obtain ⟨⟨t54, t55, t56, t57⟩, ho54, h⟩ := h
                refine wk_matrix_Mul H hS (Ent.sl mp1) (Ent.sl mp5) ho54 ?_; clear hS ho54; rintro a46 m46 c46 ws46 w rfl hS
                refine ⟨_, _, _, _, _, _, rfl, ?_⟩
                refine drM_s hS ?_; clear hS; intro w hS
                replace hS := ro1 hS
                refine stc_s hS rfl rfl ?_; clear hS; intro w hS
                refine stc_s hS rfl rfl ?_; clear hS; intro w hS
                refine stc_s hS rfl rfl ?_; clear hS; intro w hS
                refine drM_s hS ?_; clear hS; intro w hS
                obtain rfl := some_inj h
                exact hJ40 _ _ ⟨_, _, _, _, _, _, _, _, rfl, rfl, (hS.pick (A := [_, _, _, _, _, _, _]) [0, 0, 1, 1] rfl)⟩
            · refine drM_s hS ?_; clear hS; intro w hS
              refine newM_s hS ?_; clear hS; intro r47 w hS
              refine ⟨(hS.cel mp4 rfl), ?_⟩
              refine ⟨(hS.cel mp4 rfl), ?_⟩
              refine ⟨(hS.cel mp4 rfl), ?_⟩
              refine drM_s hS ?_; clear hS; intro w hS
              replace h := bnd h
              obtain ⟨⟨t51, t52, t53⟩, ho51, h⟩ := h
              refine wk_girderlaw10_of H hS (Ent.sl mp1) ho51 ?_; clear hS ho51; rintro w rfl hS
              refine ⟨_, _, _, _, _, rfl, ?_⟩
              refine ⟨(hS.cel mp4 rfl), ?_⟩
              refine ⟨(hS.cel mp4 rfl), ?_⟩
              refine ⟨(hS.cel mp4 rfl), ?_⟩
              refine drM_s hS ?_; clear hS; intro w hS
              replace h := bnd h
              obtain ⟨⟨t54, t55, t56, t57⟩, ho54, h⟩ := h
              refine wk_matrix_Mul H hS (Ent.sl mp1) (Ent.sl mp5) ho54 ?_; clear hS ho54; rintro a49 m49 c49 ws49 w rfl hS
              refine ⟨_, _, _, _, _, _, rfl, ?_⟩
              refine drM_s hS ?_; clear hS; intro w hS
              replace hS := ro1 hS
              refine stc_s hS rfl rfl ?_; clear hS; intro w hS
              refine stc_s hS rfl rfl ?_; clear hS; intro w hS
              refine stc_s hS rfl rfl ?_; clear hS; intro w hS
              refine drM_s hS ?_; clear hS; intro w hS
              obtain rfl := some_inj h
              exact hJ40 _ _ ⟨_, _, _, _, _, _, _, _, rfl, rfl, (hS.pick (A := [_, _, _, _, _, _, _]) [0, 0, 1, 1] rfl)⟩
          · refine drM_s hS ?_; clear hS; intro w hS
            refine newM_s hS ?_; clear hS; intro r50 w hS
            refine ⟨(hS.cel mp3 rfl), ?_⟩
            refine ⟨(hS.cel mp3 rfl), ?_⟩
            refine ⟨(hS.cel mp3 rfl), ?_⟩
            refine drM_s hS ?_; clear hS; intro w hS
            replace h := bnd h
            obtain ⟨t50, ht50, h⟩ := h
            obtain rfl : (List.map nf ([4845873199050653696, 14069245235905429504, 4607182418800017408] : List Nat)) = t50 := some_inj ht50
            clear ht50
            refine lit_s (ks := [4845873199050653696, 14069245235905429504, 4607182418800017408]) (enc := (Value.float .f64)) (m := 3) hS rfl rfl ?_; clear hS; intro r51 w hS
            refine ⟨(hS.cel mp4 rfl), ?_⟩
            refine ⟨(hS.cel mp4 rfl), ?_⟩
            refine ⟨(hS.cel mp4 rfl), ?_⟩
            refine drM_s hS ?_; clear hS; intro w hS
            replace h := bnd h
            obtain ⟨⟨t51, t52, t53⟩, ho51, h⟩ := h
            refine wk_girderlaw10_of H hS (Ent.sl mp0) ho51 ?_; clear hS ho51; rintro w rfl hS
            refine ⟨_, _, _, _, _, rfl, ?_⟩
            refine ⟨(hS.cel mp4 rfl), ?_⟩
            refine ⟨(hS.cel mp4 rfl), ?_⟩
            refine ⟨(hS.cel mp4 rfl), ?_⟩
            refine drM_s hS ?_; clear hS; intro w hS
            replace h := bnd h
            obtain ⟨⟨t54, t55, t56, t57⟩, ho54, h⟩ := h
            refine wk_matrix_Mul H hS (Ent.sl mp0) (Ent.sl mp5) ho54 ?_; clear hS ho54; rintro a53 m53 c53 ws53 w rfl hS
            refine ⟨_, _, _, _, _, _, rfl, ?_⟩
            refine drM_s hS ?_; clear hS; intro w hS
            replace hS := ro2 hS
            refine stc_s hS rfl rfl ?_; clear hS; intro w hS
            refine stc_s hS rfl rfl ?_; clear hS; intro w hS
            refine stc_s hS rfl rfl ?_; clear hS; intro w hS
            refine drM_s hS ?_; clear hS; intro w hS
            obtain rfl := some_inj h
            exact hJ40 _ _ ⟨_, _, _, _, _, _, _, _, rfl, rfl, (hS.pick (A := [_, _, _, _, _, _, _]) [0, 0, 1, 1] rfl)⟩
        · clear h40 hS
          rintro s w ⟨t46, r35, t47, t48, a36, m37, c38, ws39, rfl, rfl, hS⟩
          have h := c40
          clear c40
          try dsimp only
          replace h := bnd h
          obtain ⟨t58, ht58, h⟩ := h
          refine wk_math_Copysign H hS  ht58 ?_; clear hS ht58; rintro z54 w rfl hS
          refine ⟨_, rfl, ?_⟩
          replace h := bnd h
          obtain ⟨t59, ht59, h⟩ := h
          obtain rfl : (List.map nf ([z54] : List Nat)) = t59 := some_inj ht59
          clear ht59
          refine lit_s (ks := [z54]) (enc := (Value.float .f64)) (m := 1) hS rfl rfl ?_; clear hS; intro r55 w hS
          replace h := bnd h
          obtain ⟨⟨t60, t61, t62⟩, ho60, h⟩ := h
          refine wk_girderlaw10_of H hS (Ent.sl mp0) ho60 ?_; clear hS ho60; rintro w rfl hS
          refine ⟨_, _, _, _, _, rfl, ?_⟩
          replace h := bnd h
          obtain ⟨t63, ht63, h⟩ := h
          obtain rfl : (List.map nf ([4607182418800017408] : List Nat)) = t63 := some_inj ht63
          clear ht63
          refine lit_s (ks := [4607182418800017408]) (enc := (Value.float .f64)) (m := 1) hS rfl rfl ?_; clear hS; intro r57 w hS
          replace h := bnd h
          obtain ⟨⟨t64, t65, t66⟩, ho64, h⟩ := h
          refine wk_girderlaw10_of H hS (Ent.sl mp0) ho64 ?_; clear hS ho64; rintro w rfl hS
          refine ⟨_, _, _, _, _, rfl, ?_⟩
          replace h := bnd h
          obtain ⟨⟨t67, t68, t69, t70⟩, ho67, h⟩ := h
          refine wk_matrix_Mul H hS (Ent.sl mp1) (Ent.sl mp0) ho67 ?_; clear hS ho67; rintro a59 m59 c59 ws59 w rfl hS
          refine ⟨_, _, _, _, _, _, rfl, ?_⟩
          refine newM_s hS ?_; clear hS; intro r60 w hS
          refine stc_s hS rfl rfl ?_; clear hS; intro w hS
          refine stc_s hS rfl rfl ?_; clear hS; intro w hS
          refine stc_s hS rfl rfl ?_; clear hS; intro w hS
          replace h := bnd h
          obtain ⟨t71, ht71, h⟩ := h
          obtain rfl : (List.map nf ([0] : List Nat)) = t71 := some_inj ht71
          clear ht71
          refine lit_s (ks := [0]) (enc := (Value.float .f64)) (m := 1) hS rfl rfl ?_; clear hS; intro r61 w hS
          replace h := bnd h
          obtain ⟨⟨t72, t73, t74⟩, ho72, h⟩ := h
          refine wk_girderlaw10_of H hS (Ent.sl mp0) ho72 ?_; clear hS ho72; rintro w rfl hS
          refine ⟨_, _, _, _, _, rfl, ?_⟩
          replace h := bnd h
          obtain ⟨t75, ht75, h⟩ := h
          refine wk_math_Inf H hS  ht75 ?_; clear hS ht75; rintro z63 w rfl hS
          refine ⟨_, rfl, ?_⟩
          replace h := bnd h
          obtain ⟨t76, ht76, h⟩ := h
          obtain rfl : (List.map nf ([z63] : List Nat)) = t76 := some_inj ht76
          clear ht76
          refine lit_s (ks := [z63]) (enc := (Value.float .f64)) (m := 1) hS rfl rfl ?_; clear hS; intro r64 w hS
          replace h := bnd h
          obtain ⟨⟨t77, t78, t79⟩, ho77, h⟩ := h
          refine wk_girderlaw10_of H hS (Ent.sl mp0) ho77 ?_; clear hS ho77; rintro w rfl hS
          refine ⟨_, _, _, _, _, rfl, ?_⟩
          replace h := bnd h
          obtain ⟨⟨t80, t81, t82, t83⟩, ho80, h⟩ := h
          refine wk_matrix_Mul H hS (Ent.sl mp1) (Ent.sl mp0) ho80 ?_; clear hS ho80; rintro a66 m66 c66 ws66 w rfl hS
          refine ⟨_, _, _, _, _, _, rfl, ?_⟩
          refine newM_s hS ?_; clear hS; intro r67 w hS
          refine stc_s hS rfl rfl ?_; clear hS; intro w hS
          refine stc_s hS rfl rfl ?_; clear hS; intro w hS
          refine stc_s hS rfl rfl ?_; clear hS; intro w hS
          replace h := bnd h
          obtain ⟨t84, ht84, h⟩ := h
          obtain rfl : (List.map nf ([4845873199050653696, 4607182418800017408] : List Nat)) = t84 := some_inj ht84
          clear ht84
          refine lit_s (ks := [4845873199050653696, 4607182418800017408]) (enc := (Value.float .f64)) (m := 2) hS rfl rfl ?_; clear hS; intro r68 w hS
          replace h := bnd h
          obtain ⟨⟨t85, t86, t87⟩, ho85, h⟩ := h
          refine wk_girderlaw10_of H hS (Ent.sl mp0) ho85 ?_; clear hS ho85; rintro w rfl hS
          refine ⟨_, _, _, _, _, rfl, ?_⟩
          replace h := bnd h
          obtain ⟨⟨t88, t89⟩, ho88, h⟩ := h
          refine wk_matrix_Norm H hS (Ent.sl mp0) ho88 ?_; clear hS ho88; rintro z70 w rfl hS
          refine ⟨_, _, rfl, ?_⟩
          replace h := bnd h
          obtain ⟨t90, ht90, h⟩ := h
          refine wk_math_NaN H hS  ht90 ?_; clear hS ht90; rintro z71 w rfl hS
          refine ⟨_, rfl, ?_⟩
          replace h := bnd h
          obtain ⟨t91, ht91, h⟩ := h
          obtain rfl : (List.map nf ([4607182418800017408, z71] : List Nat)) = t91 := some_inj ht91
          clear ht91
          refine lit_s (ks := [4607182418800017408, z71]) (enc := (Value.float .f64)) (m := 2) hS rfl rfl ?_; clear hS; intro r72 w hS
          replace h := bnd h
          obtain ⟨⟨t92, t93, t94⟩, ho92, h⟩ := h
          refine wk_girderlaw10_of H hS (Ent.sl mp0) ho92 ?_; clear hS ho92; rintro w rfl hS
          refine ⟨_, _, _, _, _, rfl, ?_⟩
          replace h := bnd h
          obtain ⟨⟨t95, t96⟩, ho95, h⟩ := h
          refine wk_matrix_Norm H hS (Ent.sl mp0) ho95 ?_; clear hS ho95; rintro z74 w rfl hS
          refine ⟨_, _, rfl, ?_⟩
          replace h := bnd h
          obtain ⟨⟨t97, t98, t99⟩, ho97, h⟩ := h
          refine wk_girderlaw10_of H hS (Ent.nil _) ho97 ?_; clear hS ho97; rintro w rfl hS
          refine ⟨_, _, _, _, _, rfl, ?_⟩
          replace h := bnd h
          obtain ⟨⟨t100, t101, t102⟩, ho100, h⟩ := h
          refine wk_girderlaw10_of H hS (Ent.nil _) ho100 ?_; clear hS ho100; rintro w rfl hS
          refine ⟨_, _, _, _, _, rfl, ?_⟩
          replace h := bnd h
          obtain ⟨⟨t103, t104, t105, t106⟩, ho103, h⟩ := h
          refine wk_matrix_Mul H hS (Ent.nil _) (Ent.nil _) ho103 ?_; clear hS ho103; rintro a77 m77 c77 ws77 w rfl hS
          refine ⟨_, _, _, _, _, _, rfl, ?_⟩
          refine newM_s hS ?_; clear hS; intro r78 w hS
          refine stc_s hS rfl rfl ?_; clear hS; intro w hS
          refine stc_s hS rfl rfl ?_; clear hS; intro w hS
          refine stc_s hS rfl rfl ?_; clear hS; intro w hS
          replace h := bnd h
          obtain ⟨o79, h79, c79⟩ := h
          refine cutM_i (fun s w => ∃ (t107 : Bool), o79 = t107 ∧ s = (t107, ()) ∧ Ho w0 w (L)) (fun J79 hJ79 => ?_) ?_
          · have h := h79
            clear h79
            refine optM_s ?_
            refine ⟨_, (hS.cel mp14 rfl), ?_⟩
            refine ⟨_, (hS.cel mp14 rfl), ?_⟩
            refine ⟨_, _, _, (hS.cel mp14 rfl), ?_⟩
            refine drM_s hS ?_; clear hS; intro w hS
            replace h := bnd h
            obtain ⟨t108, ht108, h⟩ := h
            obtain rfl : (List.map nf ([0] : List Nat)) = t108 := some_inj ht108
            clear ht108
            refine lit_s (ks := [0]) (enc := (Value.float .f64)) (m := 1) hS rfl rfl ?_; clear hS; intro r80 w hS
            refine ⟨(hS.cel mp15 rfl), ?_⟩
            refine ⟨(hS.cel mp15 rfl), ?_⟩
            refine ⟨(hS.cel mp15 rfl), ?_⟩
            refine drM_s hS ?_; clear hS; intro w hS
            replace h := bnd h
            obtain ⟨⟨t109, t110, t111⟩, ho109, h⟩ := h
            refine wk_girderlaw10_of H hS (Ent.sl mp0) ho109 ?_; clear hS ho109; rintro w rfl hS
            refine ⟨_, _, _, _, _, rfl, ?_⟩
            refine ⟨(hS.cel mp15 rfl), ?_⟩
            refine ⟨(hS.cel mp15 rfl), ?_⟩
            refine ⟨(hS.cel mp15 rfl), ?_⟩
            refine drM_s hS ?_; clear hS; intro w hS
            replace h := bnd h
            obtain ⟨t112, ht112, h⟩ := h
            refine wk_girderlaw10_is H hS (Ent.sl mp16) (Ent.sl mp0) ht112 ?_; clear hS ht112; rintro w hS
            refine ⟨_, rfl, ?_⟩
            refine cond_s h ?_ ?_ <;> clear h <;> intro hc h
            · refine optM_s ?_
              refine ⟨_, (hS.cel mp13 rfl), ?_⟩
              refine ⟨_, (hS.cel mp13 rfl), ?_⟩
              refine ⟨_, _, _, (hS.cel mp13 rfl), ?_⟩
              refine drM_s hS ?_; clear hS; intro w hS
              replace h := bnd h
              obtain ⟨t113, ht113, h⟩ := h
              obtain rfl : (List.map nf ([4607182418800017408] : List Nat)) = t113 := some_inj ht113
              clear ht113
              refine lit_s (ks := [4607182418800017408]) (enc := (Value.float .f64)) (m := 1) hS rfl rfl ?_; clear hS; intro r82 w hS
              refine ⟨(hS.cel mp14 rfl), ?_⟩
              refine ⟨(hS.cel mp14 rfl), ?_⟩
              refine ⟨(hS.cel mp14 rfl), ?_⟩
              refine drM_s hS ?_; clear hS; intro w hS
              replace h := bnd h
              obtain ⟨⟨t114, t115, t116⟩, ho114, h⟩ := h
              refine wk_girderlaw10_of H hS (Ent.sl mp0) ho114 ?_; clear hS ho114; rintro w rfl hS
              refine ⟨_, _, _, _, _, rfl, ?_⟩
              refine ⟨(hS.cel mp14 rfl), ?_⟩
              refine ⟨(hS.cel mp14 rfl), ?_⟩
              refine ⟨(hS.cel mp14 rfl), ?_⟩
              refine drM_s hS ?_; clear hS; intro w hS
              replace h := bnd h
              obtain ⟨t117, ht117, h⟩ := h
              refine wk_girderlaw10_is H hS (Ent.sl mp15) (Ent.sl mp0) ht117 ?_; clear hS ht117; rintro w hS
              refine ⟨_, rfl, ?_⟩
              refine cond_s h ?_ ?_ <;> clear h <;> intro hc h
              · refine ⟨_, (hS.cel mp10 rfl), ?_⟩
                refine ⟨_, (hS.cel mp10 rfl), ?_⟩
                refine ⟨_, _, _, (hS.cel mp10 rfl), ?_⟩
                refine drM_s hS ?_; clear hS; intro w hS
                replace h := bnd h
                obtain ⟨t118, ht118, h⟩ := h
                obtain rfl : (List.map nf ([0] : List Nat)) = t118 := some_inj ht118
                clear ht118
                refine lit_s (ks := [0]) (enc := (Value.float .f64)) (m := 1) hS rfl rfl ?_; clear hS; intro r84 w hS
                refine ⟨(hS.cel mp11 rfl), ?_⟩
                refine ⟨(hS.cel mp11 rfl), ?_⟩
                refine ⟨(hS.cel mp11 rfl), ?_⟩
                refine drM_s hS ?_; clear hS; intro w hS
                replace h := bnd h
                obtain ⟨⟨t119, t120, t121⟩, ho119, h⟩ := h
                refine wk_girderlaw10_of H hS (Ent.sl mp0) ho119 ?_; clear hS ho119; rintro w rfl hS
                refine ⟨_, _, _, _, _, rfl, ?_⟩
                refine ⟨(hS.cel mp11 rfl), ?_⟩
                refine ⟨(hS.cel mp11 rfl), ?_⟩
                refine ⟨(hS.cel mp11 rfl), ?_⟩
                refine drM_s hS ?_; clear hS; intro w hS
                replace h := bnd h
                obtain ⟨t122, ht122, h⟩ := h
                refine wk_girderlaw10_is H hS (Ent.sl mp12) (Ent.sl mp0) ht122 ?_; clear hS ht122; rintro w hS
                refine ⟨_, rfl, ?_⟩
                refine cond_s h ?_ ?_ <;> clear h <;> intro hc h
                · refine ⟨_, (hS.cel mp7 rfl), ?_⟩
                  refine ⟨_, (hS.cel mp7 rfl), ?_⟩
                  refine ⟨_, _, _, (hS.cel mp7 rfl), ?_⟩
                  refine drM_s hS ?_; clear hS; intro w hS
                  replace h := bnd h
                  obtain ⟨t123, ht123, h⟩ := h
                  refine wk_math_NaN H hS  ht123 ?_; clear hS ht123; rintro z86 w rfl hS
                  refine ⟨_, rfl, ?_⟩
                  refine ⟨(hS.cel mp7 rfl), ?_⟩
                  refine ⟨(hS.cel mp7 rfl), ?_⟩
                  refine ⟨(hS.cel mp7 rfl), ?_⟩
                  refine drM_s hS ?_; clear hS; intro w hS
                  replace h := bnd h
                  obtain ⟨t124, ht124, h⟩ := h
                  obtain rfl : (List.map nf ([z86] : List Nat)) = t124 := some_inj ht124
                  clear ht124
                  refine lit_s (ks := [z86]) (enc := (Value.float .f64)) (m := 1) hS rfl rfl ?_; clear hS; intro r87 w hS
                  refine ⟨(hS.cel mp8 rfl), ?_⟩
                  refine ⟨(hS.cel mp8 rfl), ?_⟩
                  refine ⟨(hS.cel mp8 rfl), ?_⟩
                  refine drM_s hS ?_; clear hS; intro w hS
                  replace h := bnd h
                  obtain ⟨⟨t125, t126, t127⟩, ho125, h⟩ := h
                  refine wk_girderlaw10_of H hS (Ent.sl mp0) ho125 ?_; clear hS ho125; rintro w rfl hS
                  refine ⟨_, _, _, _, _, rfl, ?_⟩
                  refine ⟨(hS.cel mp8 rfl), ?_⟩
                  refine ⟨(hS.cel mp8 rfl), ?_⟩
                  refine ⟨(hS.cel mp8 rfl), ?_⟩
                  refine drM_s hS ?_; clear hS; intro w hS
                  replace h := bnd h
                  obtain ⟨t128, ht128, h⟩ := h
                  refine wk_girderlaw10_is H hS (Ent.sl mp9) (Ent.sl mp0) ht128 ?_; clear hS ht128; rintro w hS
                  refine ⟨_, rfl, ?_⟩
                  refine cond_s h ?_ ?_ <;> clear h <;> intro hc h
                  · refine ⟨_, (hS.cel mp4 rfl), ?_⟩
                    refine ⟨_, (hS.cel mp4 rfl), ?_⟩
                    refine ⟨_, _, _, (hS.cel mp4 rfl), ?_⟩
                    refine drM_s hS ?_; clear hS; intro w hS
                    replace h := bnd h
                    obtain ⟨t129, ht129, h⟩ := h
                    obtain rfl : (List.map nf ([0, 0, 0, 0, 0, 0] : List Nat)) = t129 := some_inj ht129
                    clear ht129
                    refine lit_s (ks := [0, 0, 0, 0, 0, 0]) (enc := (Value.float .f64)) (m := 6) hS rfl rfl ?_; clear hS; intro r89 w hS
                    refine ⟨(hS.cel mp5 rfl), ?_⟩
                    refine ⟨(hS.cel mp5 rfl), ?_⟩
                    refine ⟨(hS.cel mp5 rfl), ?_⟩
                    refine drM_s hS ?_; clear hS; intro w hS
                    replace h := bnd h
                    obtain ⟨⟨t130, t131, t132⟩, ho130, h⟩ := h
                    refine wk_girderlaw10_of H hS (Ent.sl mp0) ho130 ?_; clear hS ho130; rintro w rfl hS
                    refine ⟨_, _, _, _, _, rfl, ?_⟩
                    refine ⟨(hS.cel mp5 rfl), ?_⟩
                    refine ⟨(hS.cel mp5 rfl), ?_⟩
                    refine ⟨(hS.cel mp5 rfl), ?_⟩
                    refine drM_s hS ?_; clear hS; intro w hS
                    replace h := bnd h
                    obtain ⟨t133, ht133, h⟩ := h
                    refine wk_girderlaw10_is H hS (Ent.sl mp6) (Ent.sl mp0) ht133 ?_; clear hS ht133; rintro w hS
                    refine ⟨_, rfl, ?_⟩
                    refine drM_s hS ?_; clear hS; intro w hS
                    obtain rfl := some_inj h
                    exact hJ79 _ _ ⟨_, rfl, rfl, (hS.pick (A := [_, _, _, _, _, _, _, _, _, _, _, _, _, _, _, _, _, _, _, _, _]) [] rfl)⟩
                  · refine drM_s hS ?_; clear hS; intro w hS
                    refine drM_s hS ?_; clear hS; intro w hS
                    refine drM_s hS ?_; clear hS; intro w hS
                    refine drM_s hS ?_; clear hS; intro w hS
                    obtain rfl := some_inj h
                    exact hJ79 _ _ ⟨_, rfl, rfl, (hS.pick (A := [_, _, _, _, _, _, _, _, _, _, _, _, _, _, _, _, _, _, _, _]) [] rfl)⟩
                · refine drM_s hS ?_; clear hS; intro w hS
                  refine drM_s hS ?_; clear hS; intro w hS
                  refine drM_s hS ?_; clear hS; intro w hS
                  refine drM_s hS ?_; clear hS; intro w hS
                  refine drM_s hS ?_; clear hS; intro w hS
                  refine drM_s hS ?_; clear hS; intro w hS
                  refine drM_s hS ?_; clear hS; intro w hS
                  refine drM_s hS ?_; clear hS; intro w hS
                  obtain rfl := some_inj h
                  exact hJ79 _ _ ⟨_, rfl, rfl, (hS.pick (A := [_, _, _, _, _, _, _, _, _, _, _, _, _, _, _, _, _, _, _]) [] rfl)⟩
              · refine drM_s hS ?_; clear hS; intro w hS
                refine drM_s hS ?_; clear hS; intro w hS
                refine drM_s hS ?_; clear hS; intro w hS
                refine drM_s hS ?_; clear hS; intro w hS
                refine drM_s hS ?_; clear hS; intro w hS
                refine drM_s hS ?_; clear hS; intro w hS
                refine drM_s hS ?_; clear hS; intro w hS
                refine drM_s hS ?_; clear hS; intro w hS
                refine drM_s hS ?_; clear hS; intro w hS
                refine drM_s hS ?_; clear hS; intro w hS
                refine drM_s hS ?_; clear hS; intro w hS
                obtain rfl := some_inj h
                exact hJ79 _ _ ⟨_, rfl, rfl, (hS.pick (A := [_, _, _, _, _, _, _, _, _, _, _, _, _, _, _, _, _, _]) [] rfl)⟩
            · refine drM_s hS ?_; clear hS; intro w hS
              refine drM_s hS ?_; clear hS; intro w hS
              refine drM_s hS ?_; clear hS; intro w hS
              refine drM_s hS ?_; clear hS; intro w hS
              refine drM_s hS ?_; clear hS; intro w hS
              refine drM_s hS ?_; clear hS; intro w hS
              refine drM_s hS ?_; clear hS; intro w hS
              refine drM_s hS ?_; clear hS; intro w hS
              refine drM_s hS ?_; clear hS; intro w hS
              refine drM_s hS ?_; clear hS; intro w hS
              refine drM_s hS ?_; clear hS; intro w hS
              refine drM_s hS ?_; clear hS; intro w hS
              refine drM_s hS ?_; clear hS; intro w hS
              refine drM_s hS ?_; clear hS; intro w hS
              obtain rfl := some_inj h
              exact hJ79 _ _ ⟨_, rfl, rfl, (hS.pick (A := [_, _, _, _, _, _, _, _, _, _, _, _, _, _, _, _, _]) [] rfl)⟩
          · clear h79 hS
            rintro s w ⟨t107, rfl, rfl, hS⟩
            have h := c79
            clear c79
            try dsimp only
            replace h := bnd h
            obtain ⟨o91, h91, c91⟩ := h
            refine cutM_i (fun s w => ∃ (t134 : Bool), o91 = t134 ∧ s = (t134, ()) ∧ Ho w0 w (L)) (fun J91 hJ91 => ?_) ?_
            · have h := h91
              clear h91
              replace h := bnd h
              obtain ⟨t135, ht135, h⟩ := h
              obtain rfl := feq_s ht135
              clear ht135
              refine cond_s h ?_ ?_ <;> clear h <;> intro hc h
              · refine cond_s h ?_ ?_ <;> clear h <;> intro hc h
                · replace h := bnd h
                  obtain ⟨t136, ht136, h⟩ := h
                  obtain rfl := feq_s ht136
                  clear ht136
                  refine cond_s h ?_ ?_ <;> clear h <;> intro hc h
                  · refine cond_s h ?_ ?_ <;> clear h <;> intro hc h
                    · replace h := bnd h
                      obtain ⟨t137, ht137, h⟩ := h
                      refine wk_math_Copysign H hS  ht137 ?_; clear hS ht137; rintro z92 w rfl hS
                      refine ⟨_, rfl, ?_⟩
                      replace h := bnd h
                      obtain ⟨t138, ht138, h⟩ := h
                      obtain rfl : (List.map nf ([4607182418800017408, 0, z92, 4607182418800017408] : List Nat)) = t138 := some_inj ht138
                      clear ht138
                      refine lit_s (ks := [4607182418800017408, 0, z92, 4607182418800017408]) (enc := (Value.float .f64)) (m := 4) hS rfl rfl ?_; clear hS; intro r93 w hS
                      replace h := bnd h
                      obtain ⟨⟨t139, t140, t141⟩, ho139, h⟩ := h
                      refine wk_girderlaw10_of H hS (Ent.sl mp0) ho139 ?_; clear hS ho139; rintro w rfl hS
                      refine ⟨_, _, _, _, _, rfl, ?_⟩
                      replace h := bnd h
                      obtain ⟨t142, ht142, h⟩ := h
                      refine wk_matrix_Symmetric H hS (Ent.sl mp0) ht142 ?_; clear hS ht142; rintro w hS
                      refine ⟨_, rfl, ?_⟩
                      refine cond_s h ?_ ?_ <;> clear h <;> intro hc h
                      · replace h := bnd h
                        obtain ⟨t143, ht143, h⟩ := h
                        obtain rfl : (List.map nf ([4607182418800017408, 4611686018427387904, 4613937818241073152] : List Nat)) = t143 := some_inj ht143
                        clear ht143
                        refine lit_s (ks := [4607182418800017408, 4611686018427387904, 4613937818241073152]) (enc := (Value.float .f64)) (m := 3) hS rfl rfl ?_; clear hS; intro r95 w hS
                        replace h := bnd h
                        obtain ⟨⟨t144, t145, t146⟩, ho144, h⟩ := h
                        refine wk_girderlaw10_of H hS (Ent.sl mp0) ho144 ?_; clear hS ho144; rintro w rfl hS
                        refine ⟨_, _, _, _, _, rfl, ?_⟩
                        replace h := bnd h
                        obtain ⟨t147, ht147, h⟩ := h
                        refine wk_matrix_Right H hS (Ent.sl mp0) ht147 ?_; clear hS ht147; rintro w hS
                        refine ⟨_, rfl, ?_⟩
                        obtain rfl := some_inj h
                        exact hJ91 _ _ ⟨_, rfl, rfl, (hS.pick (A := [_, _]) [] rfl)⟩
                      · obtain rfl := some_inj h
                        exact hJ91 _ _ ⟨_, rfl, rfl, (hS.pick (A := [_]) [] rfl)⟩
                    · obtain rfl := some_inj h
                      exact hJ91 _ _ ⟨_, rfl, rfl, hS⟩
                  · obtain rfl := some_inj h
                    exact hJ91 _ _ ⟨_, rfl, rfl, hS⟩
                · obtain rfl := some_inj h
                  exact hJ91 _ _ ⟨_, rfl, rfl, hS⟩
              · obtain rfl := some_inj h
                exact hJ91 _ _ ⟨_, rfl, rfl, hS⟩
            · clear h91 hS
              rintro s w ⟨t134, rfl, rfl, hS⟩
              have h := c91
              clear c91
              try dsimp only
              replace h := bnd h
              obtain ⟨t148, ht148, h⟩ := h
              obtain rfl : (List.map nf ([4607182418800017408] : List Nat)) = t148 := some_inj ht148
              clear ht148
              refine lit_s (ks := [4607182418800017408]) (enc := (Value.float .f64)) (m := 1) hS rfl rfl ?_; clear hS; intro r97 w hS
              replace h := bnd h
              obtain ⟨⟨t149, t150, t151⟩, ho149, h⟩ := h
              refine wk_girderlaw10_of H hS (Ent.sl mp0) ho149 ?_; clear hS ho149; rintro w rfl hS
              refine ⟨_, _, _, _, _, rfl, ?_⟩
              replace h := bnd h
              obtain ⟨⟨t152, t153⟩, ho152, h⟩ := h
              refine wk_matrix_Norm H hS (Ent.sl mp0) ho152 ?_; clear hS ho152; rintro z99 w rfl hS
              refine ⟨_, _, rfl, ?_⟩
              refine cond_s h ?_ ?_ <;> clear h <;> intro hc h
              · refine cond_s h ?_ ?_ <;> clear h <;> intro hc h
                · replace h := bnd h
                  obtain ⟨t154, ht154, h⟩ := h
                  obtain rfl := feq_s ht154
                  clear ht154
                  refine cond_s h ?_ ?_ <;> clear h <;> intro hc h
                  · refine cond_s h ?_ ?_ <;> clear h <;> intro hc h
                    · replace h := bnd h
                      obtain ⟨t155, ht155, h⟩ := h
                      refine wk_girderlaw10_awake H hS  ht155 ?_; clear hS ht155; rintro w hS
                      refine ⟨_, rfl, ?_⟩
                      have h := some_inj h
                      cases h
                      exact hK _ (hS.pick (A := [_]) [] rfl)
                    · have h := some_inj h
                      cases h
                      exact hK _ (hS.pick (A := [_]) [] rfl)
                  · have h := some_inj h
                    cases h
                    exact hK _ (hS.pick (A := [_]) [] rfl)
                · have h := some_inj h
                  cases h
                  exact hK _ (hS.pick (A := [_]) [] rfl)
              · have h := some_inj h
                cases h
                exact hK _ (hS.pick (A := [_]) [] rfl)

end Go.Eng
