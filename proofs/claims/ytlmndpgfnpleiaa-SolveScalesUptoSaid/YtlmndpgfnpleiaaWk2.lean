/-
  Each function comes to what its function of plain Lean says, printed by a program of the session. No condition.
-/
import Derived.Test.YtlmndpgfnpleiaaWk1
set_option linter.unusedSimpArgs false
set_option linter.unnecessarySimpa false
set_option linter.unusedSectionVars false
set_option linter.unusedVariables false
set_option maxRecDepth 100000
set_option maxHeartbeats 4000000
namespace Go.Eng
open Go

theorem wk_girderlaw13_SolveWhole {N : Nums} {P : Program} (H : AllOk N P) {w0 w : World} {L : List It} {q0 : Int} {q1 : Option Addr} {q1l q1c : Nat} {l1 : List Int} {q2 : Option Addr} {q2l q2c : Nat} {l2 : List Int} {u0 : Bool} (hS : Ho w0 w L) (hq1 : Ent L (rdA (List.map (Value.int .i64) l1) q1 q1l q1c)) (hq2 : Ent L (rdA (List.map (Value.int .i64) l2) q2 q2l q2c)) (hx : T_girderlaw13_SolveWhole q0 l1 l2 = some u0) {K : Value → World → Prop} (hK : ∀  (w1 : World), Ho w0 w1 (L) → K (.bool u0) w1) : CallsX P N.f_girderlaw13_SolveWhole #[.int .i64 q0, .slice q1 q1l q1c, .slice q2 q2l q2c] w K := by
  refine H.girderlaw13_SolveWhole q0 q1 q1l q1c q2 q2l q2c w _ ?_
  unfold S_girderlaw13_SolveWhole
  unfold T_girderlaw13_SolveWhole at hx
  have h := hx
  clear hx
  try dsimp only
  replace h := bnd h
  obtain ⟨⟨t1, t2, t3⟩, ho1, h⟩ := h
  refine wk_girderlaw13_whole H hS hq1 ho1 ?_; clear hS ho1; rintro a1 m1 c1 ws1 a2 m2 c2 ws2 w rfl rfl hS
  refine ⟨_, _, _, _, _, _, _, rfl, ?_⟩
  refine newM_s hS ?_; clear hS; intro r3 w hS
  refine stc_s hS rfl rfl ?_; clear hS; intro w hS
  refine stc_s hS rfl rfl ?_; clear hS; intro w hS
  refine stc_s hS rfl rfl ?_; clear hS; intro w hS
  replace h := bnd h
  obtain ⟨o8, h8, c8⟩ := h
  refine cutM_i (fun s w => ∃ (a4 : Option Addr) (m5 : Nat) (c6 : Nat) (ws7 : List Nat), (List.map nf ws7) = o8 ∧ s = ((a4, m5, c6), ()) ∧ Ho w0 w ((cl r3 [.int .i64 t1, .slice a1 m1 c1, .slice a2 m2 c2] N.t_Factor) :: (sl a1 m1 c1 (List.map (Value.float .f64) ws1) N.t_float64) :: (sl a2 m2 c2 (List.map (Value.float .f64) ws2) N.t_float64) :: (sl a4 m5 c6 (List.map (Value.float .f64) ws7) N.t_float64) :: L)) (fun J8 hJ8 => ?_) ?_
  · have h := h8
    clear h8
    replace hS := hS.none (α := Nat) (enc := (Value.float .f64)) (t := N.t_float64)
    refine iter_sim (fun s w t => ∃ (t5 : Int) (a9 : Option Addr) (m10 : Nat) (c11 : Nat) (ws12 : List Nat), (t5, (List.map nf ws12)) = t ∧ s = ((a9, m10, c11), t5, ()) ∧ Ho w0 w ((cl r3 [.int .i64 t1, .slice a1 m1 c1, .slice a2 m2 c2] N.t_Factor) :: (sl a1 m1 c1 (List.map (Value.float .f64) ws1) N.t_float64) :: (sl a2 m2 c2 (List.map (Value.float .f64) ws2) N.t_float64) :: (sl a9 m10 c11 (List.map (Value.float .f64) ws12) N.t_float64) :: L)) ?_ h ⟨_, _, _, _, _, rfl, rfl, (hS.pick (A := [_, _, _, _]) [1, 1, 1, 0] rfl)⟩
    clear h hS
    rintro s w t X q ⟨t5, a9, m10, c11, ws12, rfl, rfl, hS⟩ h hX hO
    unfold T_girderlaw13_SolveWhole_b2 at h
    try dsimp only
    refine ⟨_, (hS.cel mp0 rfl), ?_⟩
    refine cond_s h ?_ ?_ <;> clear h <;> intro hc h
    · replace h := bnd h
      obtain ⟨t7, ht7, h⟩ := h
      refine wk_girderlaw13_at H hS (hq2.mono tl4) ht7 ?_; clear hS ht7; rintro w hS
      refine ⟨_, rfl, ?_⟩
      replace h := bnd h
      obtain ⟨t8, ht8, h⟩ := h
      obtain rfl : (List.map nf ([(FloatKind.f64.nearest t7)] : List Nat)) = t8 := some_inj ht8
      clear ht8
      refine lit_s (ks := [(FloatKind.f64.nearest t7)]) (enc := (Value.float .f64)) (m := 1) hS rfl rfl ?_; clear hS; intro r13 w hS
      replace h := bnd h
      obtain ⟨t9, ht9, h⟩ := h
      obtain ⟨rfl, kt9⟩ := appF ht9
      clear ht9
      replace hS := ro4 hS
      refine app_s hS kt9 ((Ent.sl mp1).now (fun _ h => h) hS) (fun _ => rfl) rfl ?_; clear hS kt9; intro a14 c14 w hS
      obtain rfl := some_inj h
      exact hX _ rfl _ _ ⟨_, _, _, _, _, rfl, rfl, (hS.pick (A := [_, _, _, _, _]) [2, 2, 2, 0] rfl)⟩
    · obtain rfl := some_inj h
      have h := congrArg some (hO _ rfl)
      obtain rfl := some_inj h
      exact hJ8 _ _ ⟨_, _, _, _, rfl, rfl, hS⟩
  · clear h8 hS
    rintro s w ⟨a4, m5, c6, ws7, rfl, rfl, hS⟩
    have h := c8
    clear c8
    try dsimp only
    refine ⟨_, (hS.cel mp0 rfl), ?_⟩
    replace h := bnd h
    obtain ⟨t10, ht10, h⟩ := h
    obtain ⟨rfl, kt10⟩ := mkE ht10
    clear ht10
    refine mk_s (enc := (Value.int .i64)) hS kt10 rfl ?_; clear hS kt10; intro r15 w hS
    replace h := bnd h
    obtain ⟨o16, h16, c16⟩ := h
    refine cutM_i (fun s w => ∃ (t11 : List Int), t11 = o16 ∧ s = (()) ∧ Ho w0 w ((sl (some ⟨r15, 0, none⟩) ((t1).toNat) ((t1).toNat) (List.map (Value.int .i64) t11) N.t_int) :: (cl r3 [.int .i64 t1, .slice a1 m1 c1, .slice a2 m2 c2] N.t_Factor) :: (sl a1 m1 c1 (List.map (Value.float .f64) ws1) N.t_float64) :: (sl a2 m2 c2 (List.map (Value.float .f64) ws2) N.t_float64) :: (sl a4 m5 c6 (List.map (Value.float .f64) ws7) N.t_float64) :: L)) (fun J16 hJ16 => ?_) ?_
    · have h := h16
      clear h16
      refine iter_sim (fun s w t => ∃ (t12 : Int) (t13 : List Int), (t12, t13) = t ∧ s = (t12, ()) ∧ Ho w0 w ((sl (some ⟨r15, 0, none⟩) ((t1).toNat) ((t1).toNat) (List.map (Value.int .i64) t13) N.t_int) :: (cl r3 [.int .i64 t1, .slice a1 m1 c1, .slice a2 m2 c2] N.t_Factor) :: (sl a1 m1 c1 (List.map (Value.float .f64) ws1) N.t_float64) :: (sl a2 m2 c2 (List.map (Value.float .f64) ws2) N.t_float64) :: (sl a4 m5 c6 (List.map (Value.float .f64) ws7) N.t_float64) :: L)) ?_ h ⟨_, _, rfl, rfl, hS⟩
      clear h hS
      rintro s w t X q ⟨t12, t13, rfl, rfl, hS⟩ h hX hO
      unfold T_girderlaw13_SolveWhole_b9 at h
      try dsimp only
      refine ⟨_, (hS.cel mp1 rfl), ?_⟩
      refine cond_s h ?_ ?_ <;> clear h <;> intro hc h
      · replace h := bnd h
        obtain ⟨o17, h17, c17⟩ := h
        refine cutM_i (fun s w => ∃ (t14 : List Int), t14 = o17 ∧ s = (()) ∧ Ho w0 w ((sl (some ⟨r15, 0, none⟩) ((t1).toNat) ((t1).toNat) (List.map (Value.int .i64) t14) N.t_int) :: (cl r3 [.int .i64 t1, .slice a1 m1 c1, .slice a2 m2 c2] N.t_Factor) :: (sl a1 m1 c1 (List.map (Value.float .f64) ws1) N.t_float64) :: (sl a2 m2 c2 (List.map (Value.float .f64) ws2) N.t_float64) :: (sl a4 m5 c6 (List.map (Value.float .f64) ws7) N.t_float64) :: L)) (fun J17 hJ17 => ?_) ?_
        · have h := h17
          clear h17
          refine iter_sim (fun s w t => ∃ (t15 : Int) (t16 : List Int), (t15, t16) = t ∧ s = (t15, ()) ∧ Ho w0 w ((sl (some ⟨r15, 0, none⟩) ((t1).toNat) ((t1).toNat) (List.map (Value.int .i64) t16) N.t_int) :: (cl r3 [.int .i64 t1, .slice a1 m1 c1, .slice a2 m2 c2] N.t_Factor) :: (sl a1 m1 c1 (List.map (Value.float .f64) ws1) N.t_float64) :: (sl a2 m2 c2 (List.map (Value.float .f64) ws2) N.t_float64) :: (sl a4 m5 c6 (List.map (Value.float .f64) ws7) N.t_float64) :: L)) ?_ h ⟨_, _, rfl, rfl, hS⟩
          clear h hS
          rintro s w t X q ⟨t15, t16, rfl, rfl, hS⟩ h hX hO
          unfold T_girderlaw13_SolveWhole_b11 at h
          try dsimp only
          refine ⟨_, (hS.cel mp1 rfl), ?_⟩
          refine cond_s h ?_ ?_ <;> clear h <;> intro hc h
          · replace h := bnd h
            obtain ⟨t17, ht17, h⟩ := h
            obtain ⟨q18x, q18l, q18r⟩ := atE ht17
            clear ht17
            refine idy_s ((Ent.sl mp0).now (fun _ h => h) hS) q18x q18l q18r ?_
            refine ⟨_, rd_get ((Ent.sl mp0).now (fun _ h => h) hS) rfl q18x, ?_⟩
            refine ⟨_, (hS.cel mp1 rfl), ?_⟩
            refine ⟨_, _, _, (hS.cel mp1 rfl), ?_⟩
            refine ⟨_, _, _, (hS.cel mp1 rfl), ?_⟩
            replace h := bnd h
            obtain ⟨t18, ht18, h⟩ := h
            obtain ⟨z20, rfl, q21x, q21l, q21r⟩ := atF ht18
            clear ht18
            refine idx_s ((Ent.sl mp4).now (fun _ h => h) hS) q21x q21l q21r ?_; intro b22 hb22
            refine ⟨_, rd_get ((Ent.sl mp4).now (fun _ h => h) hS) hb22 q21x, ?_⟩
            replace h := bnd h
            obtain ⟨t19, ht19, h⟩ := h
            replace h := bnd h
            obtain ⟨t20, ht20, h⟩ := h
            replace h := bnd h
            obtain ⟨t21, ht21, h⟩ := h
            replace h := bnd h
            obtain ⟨t22, ht22, h⟩ := h
            refine ⟨?_, ?_⟩
            · refine drM_s hS ?_; clear hS; intro w hS
              skip
              skip
              refine wk_girderlaw13_entry H hS (Ent.sl mp2) (Ent.sl mp3) ht19 ?_; clear hS ht19; rintro w hS
              refine ⟨_, rfl, ?_⟩
              refine ⟨rd_get ((Ent.sl mp4).now (fun _ h => h) hS) hb22 q21x, ?_⟩
              refine ⟨rd_get ((Ent.sl mp0).now (fun _ h => h) hS) rfl q18x, ?_⟩
              skip
              skip
              refine f2i_s ht20 hS ?_; clear ht20; intro _ _
              skip
              skip
              obtain ⟨q23x, q23l, q23r⟩ := atE ht21
              clear ht21
              refine idy_s ((Ent.sl mp0).now (fun _ h => h) hS) q23x q23l q23r ?_
              refine drM_s hS ?_; clear hS; intro w hS
              skip
              skip
              obtain rfl := some_inj ht22
              clear ht22
              refine sto_s hS rfl q23r ?_; clear hS; intro w hS
              refine drM_s hS ?_; clear hS; intro w hS
              obtain rfl := some_inj h
              exact hX _ rfl _ _ ⟨_, _, rfl, rfl, hS⟩
            · refine drM_s hS ?_; clear hS; intro w hS
              skip
              skip
              refine f2i_s ht20 hS ?_; clear hS ht20; intro w hS
              refine ⟨rd_get ((Ent.sl mp4).now (fun _ h => h) hS) hb22 q21x, ?_⟩
              refine ⟨(hS.cel mp1 rfl), ?_⟩
              refine ⟨(hS.cel mp1 rfl), ?_⟩
              refine ⟨(hS.cel mp1 rfl), ?_⟩
              refine ⟨rd_get ((Ent.sl mp0).now (fun _ h => h) hS) rfl q18x, ?_⟩
              refine drM_s hS ?_; clear hS; intro w hS
              skip
              skip
              refine wk_girderlaw13_entry H hS (Ent.sl mp2) (Ent.sl mp3) ht19 ?_; clear hS ht19; rintro w hS
              refine ⟨_, rfl, ?_⟩
              refine ⟨rd_get ((Ent.sl mp4).now (fun _ h => h) hS) hb22 q21x, ?_⟩
              refine ⟨rd_get ((Ent.sl mp0).now (fun _ h => h) hS) rfl q18x, ?_⟩
              skip
              skip
              obtain ⟨q25x, q25l, q25r⟩ := atE ht21
              clear ht21
              refine idy_s ((Ent.sl mp0).now (fun _ h => h) hS) q25x q25l q25r ?_
              refine drM_s hS ?_; clear hS; intro w hS
              skip
              skip
              obtain rfl := some_inj ht22
              clear ht22
              refine sto_s hS rfl q25r ?_; clear hS; intro w hS
              refine drM_s hS ?_; clear hS; intro w hS
              obtain rfl := some_inj h
              exact hX _ rfl _ _ ⟨_, _, rfl, rfl, hS⟩
          · obtain rfl := some_inj h
            have h := congrArg some (hO _ rfl)
            obtain rfl := some_inj h
            exact hJ17 _ _ ⟨_, rfl, rfl, hS⟩
        · clear h17 hS
          rintro s w ⟨t14, rfl, rfl, hS⟩
          have h := c17
          clear c17
          try dsimp only
          obtain rfl := some_inj h
          exact hX _ rfl _ _ ⟨_, _, rfl, rfl, hS⟩
      · obtain rfl := some_inj h
        have h := congrArg some (hO _ rfl)
        obtain rfl := some_inj h
        exact hJ16 _ _ ⟨_, rfl, rfl, hS⟩
    · clear h16 hS
      rintro s w ⟨t11, rfl, rfl, hS⟩
      have h := c16
      clear c16
      try dsimp only
      replace h := bnd h
      obtain ⟨o35, h35, c35⟩ := h
      refine cutM_i (fun s w => ∃ (a27 : Option Addr) (m28 : Nat) (c29 : Nat) (ws30 : List Nat) (a31 : Option Addr) (m32 : Nat) (c33 : Nat) (ws34 : List Nat), ((List.map nf ws30), (List.map nf ws34)) = o35 ∧ s = ((a27, m28, c29), (a31, m32, c33), ()) ∧ Ho w0 w ((cl r3 [.int .i64 t1, .slice a1 m1 c1, .slice a2 m2 c2] N.t_Factor) :: (sl a1 m1 c1 (List.map (Value.float .f64) ws1) N.t_float64) :: (sl a2 m2 c2 (List.map (Value.float .f64) ws2) N.t_float64) :: (sl a4 m5 c6 (List.map (Value.float .f64) ws7) N.t_float64) :: (sl a27 m28 c29 (List.map (Value.float .f64) ws30) N.t_float64) :: (sl a31 m32 c33 (List.map (Value.float .f64) ws34) N.t_float64) :: L)) (fun J35 hJ35 => ?_) ?_
      · have h := h35
        clear h35
        replace hS := hS.none (α := Nat) (enc := (Value.float .f64)) (t := N.t_float64)
        replace hS := hS.none (α := Nat) (enc := (Value.float .f64)) (t := N.t_float64)
        refine iter_sim (fun s w t => ∃ (t25 : Int) (a36 : Option Addr) (m37 : Nat) (c38 : Nat) (ws39 : List Nat) (a40 : Option Addr) (m41 : Nat) (c42 : Nat) (ws43 : List Nat), (t25, (List.map nf ws39), (List.map nf ws43)) = t ∧ s = ((a36, m37, c38), (a40, m41, c42), t25, ()) ∧ Ho w0 w ((sl (some ⟨r15, 0, none⟩) ((t1).toNat) ((t1).toNat) (List.map (Value.int .i64) t11) N.t_int) :: (cl r3 [.int .i64 t1, .slice a1 m1 c1, .slice a2 m2 c2] N.t_Factor) :: (sl a1 m1 c1 (List.map (Value.float .f64) ws1) N.t_float64) :: (sl a2 m2 c2 (List.map (Value.float .f64) ws2) N.t_float64) :: (sl a4 m5 c6 (List.map (Value.float .f64) ws7) N.t_float64) :: (sl a36 m37 c38 (List.map (Value.float .f64) ws39) N.t_float64) :: (sl a40 m41 c42 (List.map (Value.float .f64) ws43) N.t_float64) :: L)) ?_ h ⟨_, _, _, _, _, _, _, _, _, rfl, rfl, (hS.pick (A := [_, _, _, _, _, _, _]) [2, 2, 2, 2, 2, 1, 0] rfl)⟩
        clear h hS
        rintro s w t X q ⟨t25, a36, m37, c38, ws39, a40, m41, c42, ws43, rfl, rfl, hS⟩ h hX hO
        unfold T_girderlaw13_SolveWhole_b18 at h
        try dsimp only
        refine ⟨_, (hS.cel mp1 rfl), ?_⟩
        refine cond_s h ?_ ?_ <;> clear h <;> intro hc h
        · replace h := bnd h
          obtain ⟨o44, h44, c44⟩ := h
          refine cutM_i (fun s w => ∃ (t28 : Int), t28 = o44 ∧ s = (t28, ()) ∧ Ho w0 w ((sl (some ⟨r15, 0, none⟩) ((t1).toNat) ((t1).toNat) (List.map (Value.int .i64) t11) N.t_int) :: (cl r3 [.int .i64 t1, .slice a1 m1 c1, .slice a2 m2 c2] N.t_Factor) :: (sl a1 m1 c1 (List.map (Value.float .f64) ws1) N.t_float64) :: (sl a2 m2 c2 (List.map (Value.float .f64) ws2) N.t_float64) :: (sl a4 m5 c6 (List.map (Value.float .f64) ws7) N.t_float64) :: (sl a36 m37 c38 (List.map (Value.float .f64) ws39) N.t_float64) :: (sl a40 m41 c42 (List.map (Value.float .f64) ws43) N.t_float64) :: L)) (fun J44 hJ44 => ?_) ?_
          · have h := h44
            clear h44
            refine iter_sim (fun s w t => ∃ (t29 : Int) (t30 : Int), (t29, t30) = t ∧ s = (t29, t30, ()) ∧ Ho w0 w ((sl (some ⟨r15, 0, none⟩) ((t1).toNat) ((t1).toNat) (List.map (Value.int .i64) t11) N.t_int) :: (cl r3 [.int .i64 t1, .slice a1 m1 c1, .slice a2 m2 c2] N.t_Factor) :: (sl a1 m1 c1 (List.map (Value.float .f64) ws1) N.t_float64) :: (sl a2 m2 c2 (List.map (Value.float .f64) ws2) N.t_float64) :: (sl a4 m5 c6 (List.map (Value.float .f64) ws7) N.t_float64) :: (sl a36 m37 c38 (List.map (Value.float .f64) ws39) N.t_float64) :: (sl a40 m41 c42 (List.map (Value.float .f64) ws43) N.t_float64) :: L)) ?_ h ⟨_, _, rfl, rfl, hS⟩
            clear h hS
            rintro s w t X q ⟨t29, t30, rfl, rfl, hS⟩ h hX hO
            unfold T_girderlaw13_SolveWhole_b20 at h
            try dsimp only
            refine ⟨_, (hS.cel mp1 rfl), ?_⟩
            refine cond_s h ?_ ?_ <;> clear h <;> intro hc h
            · refine ⟨_, (hS.cel mp1 rfl), ?_⟩
              refine ⟨_, _, _, (hS.cel mp1 rfl), ?_⟩
              refine ⟨_, _, _, (hS.cel mp1 rfl), ?_⟩
              refine ⟨_, _, _, (hS.cel mp1 rfl), ?_⟩
              replace h := bnd h
              obtain ⟨t31, ht31, h⟩ := h
              obtain ⟨z45, rfl, q46x, q46l, q46r⟩ := atF ht31
              clear ht31
              refine idx_s ((Ent.sl mp3).now (fun _ h => h) hS) q46x q46l q46r ?_; intro b47 hb47
              refine ⟨_, rd_get ((Ent.sl mp3).now (fun _ h => h) hS) hb47 q46x, ?_⟩
              replace h := bnd h
              obtain ⟨t32, ht32, h⟩ := h
              obtain ⟨q48x, q48l, q48r⟩ := atE ht32
              clear ht32
              refine idy_s ((Ent.sl mp0).now (fun _ h => h) hS) q48x q48l q48r ?_
              refine ⟨_, rd_get ((Ent.sl mp0).now (fun _ h => h) hS) rfl q48x, ?_⟩
              replace h := bnd h
              obtain ⟨t33, ht33, h⟩ := h
              replace h := bnd h
              obtain ⟨t34, ht34, h⟩ := h
              refine ⟨?_, ?_⟩
              · refine drM_s hS ?_; clear hS; intro w hS
                skip
                skip
                refine wk_girderlaw13_entry H hS (Ent.sl mp2) (Ent.sl mp3) ht33 ?_; clear hS ht33; rintro w hS
                refine ⟨_, rfl, ?_⟩
                refine ⟨rd_get ((Ent.sl mp0).now (fun _ h => h) hS) rfl q48x, ?_⟩
                refine ⟨rd_get ((Ent.sl mp3).now (fun _ h => h) hS) hb47 q46x, ?_⟩
                refine ⟨(hS.cel mp1 rfl), ?_⟩
                skip
                skip
                refine f2i_s ht34 hS ?_; clear ht34; intro _ _
                refine drM_s hS ?_; clear hS; intro w hS
                obtain rfl := some_inj h
                exact hX _ rfl _ _ ⟨_, _, rfl, rfl, hS⟩
              · refine drM_s hS ?_; clear hS; intro w hS
                skip
                skip
                refine f2i_s ht34 hS ?_; clear hS ht34; intro w hS
                refine ⟨rd_get ((Ent.sl mp0).now (fun _ h => h) hS) rfl q48x, ?_⟩
                refine ⟨rd_get ((Ent.sl mp3).now (fun _ h => h) hS) hb47 q46x, ?_⟩
                refine ⟨(hS.cel mp1 rfl), ?_⟩
                refine ⟨(hS.cel mp1 rfl), ?_⟩
                refine ⟨(hS.cel mp1 rfl), ?_⟩
                refine ⟨(hS.cel mp1 rfl), ?_⟩
                refine drM_s hS ?_; clear hS; intro w hS
                skip
                skip
                refine wk_girderlaw13_entry H hS (Ent.sl mp2) (Ent.sl mp3) ht33 ?_; clear hS ht33; rintro w hS
                refine ⟨_, rfl, ?_⟩
                refine ⟨rd_get ((Ent.sl mp0).now (fun _ h => h) hS) rfl q48x, ?_⟩
                refine ⟨rd_get ((Ent.sl mp3).now (fun _ h => h) hS) hb47 q46x, ?_⟩
                refine ⟨(hS.cel mp1 rfl), ?_⟩
                refine drM_s hS ?_; clear hS; intro w hS
                obtain rfl := some_inj h
                exact hX _ rfl _ _ ⟨_, _, rfl, rfl, hS⟩
            · obtain rfl := some_inj h
              have h := congrArg some (hO _ rfl)
              obtain rfl := some_inj h
              exact hJ44 _ _ ⟨_, rfl, rfl, hS⟩
          · clear h44 hS
            rintro s w ⟨t28, rfl, rfl, hS⟩
            have h := c44
            clear c44
            try dsimp only
            replace h := bnd h
            obtain ⟨t35, ht35, h⟩ := h
            obtain rfl : (List.map nf ([(FloatKind.f64.nearest t28)] : List Nat)) = t35 := some_inj ht35
            clear ht35
            refine lit_s (ks := [(FloatKind.f64.nearest t28)]) (enc := (Value.float .f64)) (m := 1) hS rfl rfl ?_; clear hS; intro r50 w hS
            replace h := bnd h
            obtain ⟨t36, ht36, h⟩ := h
            obtain ⟨rfl, kt36⟩ := appF ht36
            clear ht36
            replace hS := ro6 hS
            refine app_s hS kt36 ((Ent.sl mp1).now (fun _ h => h) hS) (fun _ => rfl) rfl ?_; clear hS kt36; intro a51 c51 w hS
            refine ⟨_, _, _, (hS.cel mp3 rfl), ?_⟩
            replace h := bnd h
            obtain ⟨t37, ht37, h⟩ := h
            obtain ⟨z52, rfl, q53x, q53l, q53r⟩ := atF ht37
            clear ht37
            refine idx_s ((Ent.sl mp5).now (fun _ h => h) hS) q53x q53l q53r ?_; intro b54 hb54
            refine ⟨_, rd_get ((Ent.sl mp5).now (fun _ h => h) hS) hb54 q53x, ?_⟩
            replace h := bnd h
            obtain ⟨t38, ht38, h⟩ := h
            refine f2i_s ht38 hS ?_; clear ht38; intro _ _
            replace h := bnd h
            obtain ⟨t39, ht39, h⟩ := h
            obtain ⟨q55x, q55l, q55r⟩ := atE ht39
            clear ht39
            refine idy_s ((Ent.sl mp2).now (fun _ h => h) hS) q55x q55l q55r ?_
            refine ⟨_, rd_get ((Ent.sl mp2).now (fun _ h => h) hS) rfl q55x, ?_⟩
            refine drM_s hS ?_; clear hS; intro w hS
            replace h := bnd h
            obtain ⟨t40, ht40, h⟩ := h
            obtain rfl : (List.map nf ([(FloatKind.f64.nearest (IntKind.i64.wrap (t38 * t39)))] : List Nat)) = t40 := some_inj ht40
            clear ht40
            refine lit_s (ks := [(FloatKind.f64.nearest (IntKind.i64.wrap (t38 * t39)))]) (enc := (Value.float .f64)) (m := 1) hS rfl rfl ?_; clear hS; intro r57 w hS
            refine ⟨rd_get ((Ent.sl mp3).now (fun _ h => h) hS) rfl q55x, ?_⟩
            refine ⟨rd_get ((Ent.sl mp6).now (fun _ h => h) hS) hb54 q53x, ?_⟩
            refine ⟨(hS.cel mp4 rfl), ?_⟩
            refine drM_s hS ?_; clear hS; intro w hS
            replace h := bnd h
            obtain ⟨t41, ht41, h⟩ := h
            obtain ⟨rfl, kt41⟩ := appF ht41
            clear ht41
            replace hS := ro8 hS
            refine app_s hS kt41 ((Ent.sl mp1).now (fun _ h => h) hS) (fun _ => rfl) rfl ?_; clear hS kt41; intro a58 c58 w hS
            refine ⟨rd_get ((Ent.sl mp4).now (fun _ h => h) hS) rfl q55x, ?_⟩
            refine ⟨rd_get ((Ent.sl mp7).now (fun _ h => h) hS) hb54 q53x, ?_⟩
            refine ⟨(hS.cel mp5 rfl), ?_⟩
            refine drM_s hS ?_; clear hS; intro w hS
            obtain rfl := some_inj h
            exact hX _ rfl _ _ ⟨_, _, _, _, _, _, _, _, _, rfl, rfl, (hS.pick (A := [_, _, _, _, _, _, _, _, _]) [4, 4, 4, 4, 4, 2, 0] rfl)⟩
        · obtain rfl := some_inj h
          have h := congrArg some (hO _ rfl)
          obtain rfl := some_inj h
          exact hJ35 _ _ ⟨_, _, _, _, _, _, _, _, rfl, rfl, (hS.pick (A := [_, _, _, _, _, _, _]) [1, 1, 1, 1, 1, 1] rfl)⟩
      · clear h35 hS
        rintro s w ⟨a27, m28, c29, ws30, a31, m32, c33, ws34, rfl, rfl, hS⟩
        have h := c35
        clear c35
        try dsimp only
        refine ⟨_, (hS.cel mp0 rfl), ?_⟩
        refine ⟨_, _, _, (hS.cel mp0 rfl), ?_⟩
        refine ⟨_, _, _, (hS.cel mp0 rfl), ?_⟩
        replace h := bnd h
        obtain ⟨⟨t42, t43⟩, ho42, h⟩ := h
        refine wk_solve_Forward H hS (Ent.sl mp1) (Ent.sl mp2) (Ent.sl mp4) ho42 ?_; clear hS ho42; rintro a59 m59 c59 ws59 w rfl hS
        refine ⟨_, _, _, _, rfl, ?_⟩
        refine ⟨_, (hS.cel mp1 rfl), ?_⟩
        refine ⟨_, _, _, (hS.cel mp1 rfl), ?_⟩
        refine ⟨_, _, _, (hS.cel mp1 rfl), ?_⟩
        replace h := bnd h
        obtain ⟨⟨t44, t45⟩, ho44, h⟩ := h
        refine wk_solve_Solve H hS (Ent.sl mp2) (Ent.sl mp3) (Ent.sl mp5) ho44 ?_; clear hS ho44; rintro a60 m60 c60 ws60 w rfl hS
        refine ⟨_, _, _, _, rfl, ?_⟩
        replace h := bnd h
        obtain ⟨o61, h61, c61⟩ := h
        refine cutM_i (fun s w => ∃ (t46 : Bool), t46 = o61 ∧ s = (t46, ()) ∧ Ho w0 w ((cl r3 [.int .i64 t1, .slice a1 m1 c1, .slice a2 m2 c2] N.t_Factor) :: (sl a1 m1 c1 (List.map (Value.float .f64) ws1) N.t_float64) :: (sl a2 m2 c2 (List.map (Value.float .f64) ws2) N.t_float64) :: L)) (fun J61 hJ61 => ?_) ?_
        · have h := h61
          clear h61
          refine cond_s h ?_ ?_ <;> clear h <;> intro hc h
          · refine cond_s h ?_ ?_ <;> clear h <;> intro hc h
            · replace h := bnd h
              obtain ⟨t47, ht47, h⟩ := h
              refine wk_girderlaw13_equal H hS (Ent.sl mp1) (Ent.sl mp7) ht47 ?_; clear hS ht47; rintro w hS
              refine ⟨_, rfl, ?_⟩
              refine cond_s h ?_ ?_ <;> clear h <;> intro hc h
              · replace h := bnd h
                obtain ⟨t48, ht48, h⟩ := h
                refine wk_girderlaw13_equal H hS (Ent.sl mp0) (Ent.sl mp5) ht48 ?_; clear hS ht48; rintro w hS
                refine ⟨_, rfl, ?_⟩
                obtain rfl := some_inj h
                exact hJ61 _ _ ⟨_, rfl, rfl, (hS.pick (A := [_, _, _, _, _, _, _, _]) [2, 2, 2] rfl)⟩
              · obtain rfl := some_inj h
                exact hJ61 _ _ ⟨_, rfl, rfl, (hS.pick (A := [_, _, _, _, _, _, _, _]) [2, 2, 2] rfl)⟩
            · obtain rfl := some_inj h
              exact hJ61 _ _ ⟨_, rfl, rfl, (hS.pick (A := [_, _, _, _, _, _, _, _]) [2, 2, 2] rfl)⟩
          · obtain rfl := some_inj h
            exact hJ61 _ _ ⟨_, rfl, rfl, (hS.pick (A := [_, _, _, _, _, _, _, _]) [2, 2, 2] rfl)⟩
        · clear h61 hS
          rintro s w ⟨t46, rfl, rfl, hS⟩
          have h := c61
          clear c61
          try dsimp only
          refine cond_s h ?_ ?_ <;> clear h <;> intro hc h
          · have h := some_inj h
            cases h
            exact hK _ (hS.pick (A := [_, _, _]) [] rfl)
          · replace h := bnd h
            obtain ⟨o62, h62, c62⟩ := h
            refine cutM_i (fun s w =>  .inl () = o62 ∧ s = (()) ∧ Ho w0 w (L)) (fun J62 hJ62 => ?_) ?_
            · have h := h62
              clear h62
              refine iter_sim (fun s w t => ∃ (t49 : Int), t49 = t ∧ s = (t49, ()) ∧ Ho w0 w ((cl r3 [.int .i64 t1, .slice a1 m1 c1, .slice a2 m2 c2] N.t_Factor) :: (sl a1 m1 c1 (List.map (Value.float .f64) ws1) N.t_float64) :: (sl a2 m2 c2 (List.map (Value.float .f64) ws2) N.t_float64) :: L)) ?_ h ⟨_, rfl, rfl, hS⟩
              clear h hS
              rintro s w t X q ⟨t49, rfl, rfl, hS⟩ h hX hO
              unfold T_girderlaw13_SolveWhole_b34 at h
              try dsimp only
              refine ⟨_, (hS.cel mp0 rfl), ?_⟩
              refine cond_s h ?_ ?_ <;> clear h <;> intro hc h
              · replace h := bnd h
                obtain ⟨o71, h71, c71⟩ := h
                refine cutM_i (fun s w => ∃ (a63 : Option Addr) (m64 : Nat) (c65 : Nat) (ws66 : List Nat) (a67 : Option Addr) (m68 : Nat) (c69 : Nat) (ws70 : List Nat), ((List.map nf ws66), (List.map nf ws70)) = o71 ∧ s = ((a63, m64, c65), (a67, m68, c69), ()) ∧ Ho w0 w ((cl r3 [.int .i64 t1, .slice a1 m1 c1, .slice a2 m2 c2] N.t_Factor) :: (sl a1 m1 c1 (List.map (Value.float .f64) ws1) N.t_float64) :: (sl a2 m2 c2 (List.map (Value.float .f64) ws2) N.t_float64) :: (sl a63 m64 c65 (List.map (Value.float .f64) ws66) N.t_float64) :: (sl a67 m68 c69 (List.map (Value.float .f64) ws70) N.t_float64) :: L)) (fun J71 hJ71 => ?_) ?_
                · have h := h71
                  clear h71
                  replace hS := hS.none (α := Nat) (enc := (Value.float .f64)) (t := N.t_float64)
                  replace hS := hS.none (α := Nat) (enc := (Value.float .f64)) (t := N.t_float64)
                  refine iter_sim (fun s w t => ∃ (t52 : Int) (a72 : Option Addr) (m73 : Nat) (c74 : Nat) (ws75 : List Nat) (a76 : Option Addr) (m77 : Nat) (c78 : Nat) (ws79 : List Nat), (t52, (List.map nf ws75), (List.map nf ws79)) = t ∧ s = ((a72, m73, c74), (a76, m77, c78), t52, ()) ∧ Ho w0 w ((cl r3 [.int .i64 t1, .slice a1 m1 c1, .slice a2 m2 c2] N.t_Factor) :: (sl a1 m1 c1 (List.map (Value.float .f64) ws1) N.t_float64) :: (sl a2 m2 c2 (List.map (Value.float .f64) ws2) N.t_float64) :: (sl a72 m73 c74 (List.map (Value.float .f64) ws75) N.t_float64) :: (sl a76 m77 c78 (List.map (Value.float .f64) ws79) N.t_float64) :: L)) ?_ h ⟨_, _, _, _, _, _, _, _, _, rfl, rfl, (hS.pick (A := [_, _, _, _, _]) [2, 2, 2, 1, 0] rfl)⟩
                  clear h hS
                  rintro s w t X q ⟨t52, a72, m73, c74, ws75, a76, m77, c78, ws79, rfl, rfl, hS⟩ h hX hO
                  unfold T_girderlaw13_SolveWhole_b41 at h
                  try dsimp only
                  refine ⟨_, (hS.cel mp0 rfl), ?_⟩
                  refine cond_s h ?_ ?_ <;> clear h <;> intro hc h
                  · replace h := bnd h
                    obtain ⟨o80, h80, c80⟩ := h
                    refine cutM_i (fun s w => ∃ (t55 : Int), t55 = o80 ∧ s = (t55, ()) ∧ Ho w0 w ((cl r3 [.int .i64 t1, .slice a1 m1 c1, .slice a2 m2 c2] N.t_Factor) :: (sl a1 m1 c1 (List.map (Value.float .f64) ws1) N.t_float64) :: (sl a2 m2 c2 (List.map (Value.float .f64) ws2) N.t_float64) :: (sl a72 m73 c74 (List.map (Value.float .f64) ws75) N.t_float64) :: (sl a76 m77 c78 (List.map (Value.float .f64) ws79) N.t_float64) :: L)) (fun J80 hJ80 => ?_) ?_
                    · have h := h80
                      clear h80
                      refine iter_sim (fun s w t => ∃ (t56 : Int) (t57 : Int), (t56, t57) = t ∧ s = (t56, t57, ()) ∧ Ho w0 w ((cl r3 [.int .i64 t1, .slice a1 m1 c1, .slice a2 m2 c2] N.t_Factor) :: (sl a1 m1 c1 (List.map (Value.float .f64) ws1) N.t_float64) :: (sl a2 m2 c2 (List.map (Value.float .f64) ws2) N.t_float64) :: (sl a72 m73 c74 (List.map (Value.float .f64) ws75) N.t_float64) :: (sl a76 m77 c78 (List.map (Value.float .f64) ws79) N.t_float64) :: L)) ?_ h ⟨_, _, rfl, rfl, hS⟩
                      clear h hS
                      rintro s w t X q ⟨t56, t57, rfl, rfl, hS⟩ h hX hO
                      unfold T_girderlaw13_SolveWhole_b43 at h
                      try dsimp only
                      refine ⟨_, (hS.cel mp0 rfl), ?_⟩
                      refine cond_s h ?_ ?_ <;> clear h <;> intro hc h
                      · refine ⟨_, (hS.cel mp0 rfl), ?_⟩
                        refine ⟨_, _, _, (hS.cel mp0 rfl), ?_⟩
                        refine ⟨_, _, _, (hS.cel mp0 rfl), ?_⟩
                        refine ⟨_, _, _, (hS.cel mp0 rfl), ?_⟩
                        replace h := bnd h
                        obtain ⟨t58, ht58, h⟩ := h
                        obtain ⟨z81, rfl, q82x, q82l, q82r⟩ := atF ht58
                        clear ht58
                        refine idx_s ((Ent.sl mp2).now (fun _ h => h) hS) q82x q82l q82r ?_; intro b83 hb83
                        refine ⟨_, rd_get ((Ent.sl mp2).now (fun _ h => h) hS) hb83 q82x, ?_⟩
                        refine ⟨_, (hS.cel mp0 rfl), ?_⟩
                        refine ⟨_, _, _, (hS.cel mp0 rfl), ?_⟩
                        refine ⟨_, _, _, (hS.cel mp0 rfl), ?_⟩
                        replace h := bnd h
                        obtain ⟨t59, ht59, h⟩ := h
                        replace h := bnd h
                        obtain ⟨t60, ht60, h⟩ := h
                        replace h := bnd h
                        obtain ⟨t61, ht61, h⟩ := h
                        refine ⟨?_, ?_⟩
                        · refine drM_s hS ?_; clear hS; intro w hS
                          skip
                          skip
                          refine wk_girderlaw13_entry H hS (Ent.sl mp1) (Ent.sl mp2) ht59 ?_; clear hS ht59; rintro w hS
                          refine ⟨_, rfl, ?_⟩
                          refine ⟨(hS.cel mp0 rfl), ?_⟩
                          refine ⟨(hS.cel mp0 rfl), ?_⟩
                          refine ⟨(hS.cel mp0 rfl), ?_⟩
                          refine ⟨rd_get ((Ent.sl mp2).now (fun _ h => h) hS) hb83 q82x, ?_⟩
                          refine ⟨(hS.cel mp0 rfl), ?_⟩
                          skip
                          skip
                          skip
                          skip
                          refine ⟨?_, ?_⟩
                          · refine drM_s hS ?_; clear hS; intro w hS
                            skip
                            skip
                            refine f2i_s ht60 hS ?_; clear hS ht60; intro w hS
                            refine ⟨(hS.cel mp0 rfl), ?_⟩
                            refine ⟨(hS.cel mp0 rfl), ?_⟩
                            refine ⟨(hS.cel mp0 rfl), ?_⟩
                            refine ⟨rd_get ((Ent.sl mp2).now (fun _ h => h) hS) hb83 q82x, ?_⟩
                            refine ⟨(hS.cel mp0 rfl), ?_⟩
                            refine drM_s hS ?_; clear hS; intro w hS
                            skip
                            skip
                            refine wk_girderlaw13_entry H hS (Ent.sl mp1) (Ent.sl mp2) ht61 ?_; clear hS ht61; rintro w hS
                            refine ⟨_, rfl, ?_⟩
                            refine ⟨rd_get ((Ent.sl mp2).now (fun _ h => h) hS) hb83 q82x, ?_⟩
                            refine ⟨(hS.cel mp0 rfl), ?_⟩
                            refine drM_s hS ?_; clear hS; intro w hS
                            obtain rfl := some_inj h
                            exact hX _ rfl _ _ ⟨_, _, rfl, rfl, hS⟩
                          · refine drM_s hS ?_; clear hS; intro w hS
                            skip
                            skip
                            refine wk_girderlaw13_entry H hS (Ent.sl mp1) (Ent.sl mp2) ht61 ?_; clear hS ht61; rintro w hS
                            refine ⟨_, rfl, ?_⟩
                            refine ⟨rd_get ((Ent.sl mp2).now (fun _ h => h) hS) hb83 q82x, ?_⟩
                            refine ⟨(hS.cel mp0 rfl), ?_⟩
                            skip
                            skip
                            refine f2i_s ht60 hS ?_; clear ht60; intro _ _
                            refine drM_s hS ?_; clear hS; intro w hS
                            obtain rfl := some_inj h
                            exact hX _ rfl _ _ ⟨_, _, rfl, rfl, hS⟩
                        · refine drM_s hS ?_; clear hS; intro w hS
                          skip
                          skip
                          refine f2i_s ht60 hS ?_; clear hS ht60; intro w hS
                          refine ⟨(hS.cel mp0 rfl), ?_⟩
                          refine ⟨(hS.cel mp0 rfl), ?_⟩
                          refine ⟨(hS.cel mp0 rfl), ?_⟩
                          refine ⟨rd_get ((Ent.sl mp2).now (fun _ h => h) hS) hb83 q82x, ?_⟩
                          refine ⟨(hS.cel mp0 rfl), ?_⟩
                          refine ⟨(hS.cel mp0 rfl), ?_⟩
                          refine ⟨(hS.cel mp0 rfl), ?_⟩
                          refine ⟨(hS.cel mp0 rfl), ?_⟩
                          refine drM_s hS ?_; clear hS; intro w hS
                          skip
                          skip
                          refine wk_girderlaw13_entry H hS (Ent.sl mp1) (Ent.sl mp2) ht59 ?_; clear hS ht59; rintro w hS
                          refine ⟨_, rfl, ?_⟩
                          refine ⟨(hS.cel mp0 rfl), ?_⟩
                          refine ⟨(hS.cel mp0 rfl), ?_⟩
                          refine ⟨(hS.cel mp0 rfl), ?_⟩
                          refine ⟨rd_get ((Ent.sl mp2).now (fun _ h => h) hS) hb83 q82x, ?_⟩
                          refine ⟨(hS.cel mp0 rfl), ?_⟩
                          refine drM_s hS ?_; clear hS; intro w hS
                          skip
                          skip
                          refine wk_girderlaw13_entry H hS (Ent.sl mp1) (Ent.sl mp2) ht61 ?_; clear hS ht61; rintro w hS
                          refine ⟨_, rfl, ?_⟩
                          refine ⟨rd_get ((Ent.sl mp2).now (fun _ h => h) hS) hb83 q82x, ?_⟩
                          refine ⟨(hS.cel mp0 rfl), ?_⟩
                          refine drM_s hS ?_; clear hS; intro w hS
                          obtain rfl := some_inj h
                          exact hX _ rfl _ _ ⟨_, _, rfl, rfl, hS⟩
                      · obtain rfl := some_inj h
                        have h := congrArg some (hO _ rfl)
                        obtain rfl := some_inj h
                        exact hJ80 _ _ ⟨_, rfl, rfl, hS⟩
                    · clear h80 hS
                      rintro s w ⟨t55, rfl, rfl, hS⟩
                      have h := c80
                      clear c80
                      try dsimp only
                      replace h := bnd h
                      obtain ⟨t62, ht62, h⟩ := h
                      obtain rfl : (List.map nf ([(FloatKind.f64.nearest t55)] : List Nat)) = t62 := some_inj ht62
                      clear ht62
                      refine lit_s (ks := [(FloatKind.f64.nearest t55)]) (enc := (Value.float .f64)) (m := 1) hS rfl rfl ?_; clear hS; intro r84 w hS
                      replace h := bnd h
                      obtain ⟨t63, ht63, h⟩ := h
                      obtain ⟨rfl, kt63⟩ := appF ht63
                      clear ht63
                      replace hS := ro4 hS
                      refine app_s hS kt63 ((Ent.sl mp1).now (fun _ h => h) hS) (fun _ => rfl) rfl ?_; clear hS kt63; intro a85 c85 w hS
                      replace h := bnd h
                      obtain ⟨t64, ht64, h⟩ := h
                      obtain rfl : (List.map nf ([0] : List Nat)) = t64 := some_inj ht64
                      clear ht64
                      refine lit_s (ks := [0]) (enc := (Value.float .f64)) (m := 1) hS rfl rfl ?_; clear hS; intro r86 w hS
                      replace h := bnd h
                      obtain ⟨t65, ht65, h⟩ := h
                      obtain ⟨rfl, kt65⟩ := appF ht65
                      clear ht65
                      replace hS := ro6 hS
                      refine app_s hS kt65 ((Ent.sl mp1).now (fun _ h => h) hS) (fun _ => rfl) rfl ?_; clear hS kt65; intro a87 c87 w hS
                      obtain rfl := some_inj h
                      exact hX _ rfl _ _ ⟨_, _, _, _, _, _, _, _, _, rfl, rfl, (hS.pick (A := [_, _, _, _, _, _, _]) [4, 4, 4, 2, 0] rfl)⟩
                  · obtain rfl := some_inj h
                    have h := congrArg some (hO _ rfl)
                    obtain rfl := some_inj h
                    exact hJ71 _ _ ⟨_, _, _, _, _, _, _, _, rfl, rfl, hS⟩
                · clear h71 hS
                  rintro s w ⟨a63, m64, c65, ws66, a67, m68, c69, ws70, rfl, rfl, hS⟩
                  have h := c71
                  clear c71
                  try dsimp only
                  replace h := bnd h
                  obtain ⟨t66, ht66, h⟩ := h
                  obtain ⟨z88, rfl, q89x, q89l, q89r⟩ := atF ht66
                  clear ht66
                  refine idx_s ((Ent.sl mp4).now (fun _ h => h) hS) q89x q89l q89r ?_; intro b90 hb90
                  replace hS := ro4 hS
                  replace h := bnd h
                  obtain ⟨t67, ht67, h⟩ := h
                  obtain rfl := setF ht67
                  clear ht67
                  refine sto_s hS hb90 q89r ?_; clear hS; intro w hS
                  refine ⟨_, (hS.cel mp1 rfl), ?_⟩
                  refine ⟨_, _, _, (hS.cel mp1 rfl), ?_⟩
                  refine ⟨_, _, _, (hS.cel mp1 rfl), ?_⟩
                  replace h := bnd h
                  obtain ⟨⟨t68, t69⟩, ho68, h⟩ := h
                  refine wk_solve_Solve H hS (Ent.sl mp2) (Ent.sl mp3) (Ent.sl mp4) ho68 ?_; clear hS ho68; rintro a91 m91 c91 ws91 w rfl hS
                  refine ⟨_, _, _, _, rfl, ?_⟩
                  refine cond_s h ?_ ?_ <;> clear h <;> intro hc h
                  · replace h := bnd h
                    obtain ⟨t70, ht70, h⟩ := h
                    refine wk_girderlaw13_equal H hS (Ent.sl mp0) (Ent.sl mp1) ht70 ?_; clear hS ht70; rintro w hS
                    refine ⟨_, rfl, ?_⟩
                    refine cond_s h ?_ ?_ <;> clear h <;> intro hc h
                    · obtain rfl := some_inj h
                      have h := congrArg some (hO _ rfl)
                      obtain rfl := some_inj h
                      have h := c62
                      have h := some_inj h
                      cases h
                      exact hK _ (hS.pick (A := [_, _, _, _, _, _]) [] rfl)
                    · obtain rfl := some_inj h
                      exact hX _ rfl _ _ ⟨_, rfl, rfl, (hS.pick (A := [_, _, _, _, _, _]) [2, 2, 2] rfl)⟩
                  · obtain rfl := some_inj h
                    have h := congrArg some (hO _ rfl)
                    obtain rfl := some_inj h
                    have h := c62
                    have h := some_inj h
                    cases h
                    exact hK _ (hS.pick (A := [_, _, _, _, _, _]) [] rfl)
              · obtain rfl := some_inj h
                have h := congrArg some (hO _ rfl)
                obtain rfl := some_inj h
                exact hJ62 _ _ ⟨rfl, rfl, (hS.pick (A := [_, _, _]) [] rfl)⟩
            · clear h62 hS
              rintro s w ⟨rfl, rfl, hS⟩
              have h := c62
              clear c62
              try dsimp only
              replace h := bnd h
              obtain ⟨t71, ht71, h⟩ := h
              refine wk_girderlaw13_awake H hS  ht71 ?_; clear hS ht71; rintro w hS
              refine ⟨_, rfl, ?_⟩
              have h := some_inj h
              cases h
              exact hK _ hS

theorem wk_girderlaw13_minus {N : Nums} {P : Program} (H : AllOk N P) {w0 w : World} {L : List It} {q0 : Option Addr} {q0l q0c : Nat} {ws0 : List Nat} {u0 : List Nat} (hS : Ho w0 w L) (hq0 : Ent L (rdA (List.map (Value.float .f64) ws0) q0 q0l q0c)) (hx : T_girderlaw13_minus (List.map nf ws0) = some u0) {K : Value → World → Prop} (hK : ∀ (a0 : Option Addr) (n0 c0 : Nat) (rws0 : List Nat) (w1 : World), List.map nf rws0 = u0 → Ho w0 w1 ((sl a0 n0 c0 (List.map (Value.float .f64) rws0) N.t_float64) :: L) → K (.slice a0 n0 c0) w1) : CallsX P N.f_girderlaw13_minus #[.slice q0 q0l q0c] w K := by
  refine H.girderlaw13_minus q0 q0l q0c w _ ?_
  unfold S_girderlaw13_minus
  unfold T_girderlaw13_minus at hx
  have h := hx
  clear hx
  try dsimp only
  replace h := bnd h
  obtain ⟨o5, h5, c5⟩ := h
  refine cutM_i (fun s w => ∃ (a1 : Option Addr) (m2 : Nat) (c3 : Nat) (ws4 : List Nat), (List.map nf ws4) = o5 ∧ s = ((a1, m2, c3), ()) ∧ Ho w0 w ((sl a1 m2 c3 (List.map (Value.float .f64) ws4) N.t_float64) :: L)) (fun J5 hJ5 => ?_) ?_
  · have h := h5
    clear h5
    replace hS := hS.none (α := Nat) (enc := (Value.float .f64)) (t := N.t_float64)
    refine iter_sim (fun s w t => ∃ (t2 : Int) (a6 : Option Addr) (m7 : Nat) (c8 : Nat) (ws9 : List Nat), (t2, (List.map nf ws9)) = t ∧ s = ((a6, m7, c8), t2, ()) ∧ Ho w0 w ((sl a6 m7 c8 (List.map (Value.float .f64) ws9) N.t_float64) :: L)) ?_ h ⟨_, _, _, _, _, rfl, rfl, hS⟩
    clear h hS
    rintro s w t X q ⟨t2, a6, m7, c8, ws9, rfl, rfl, hS⟩ h hX hO
    unfold T_girderlaw13_minus_b2 at h
    try dsimp only
    replace h := bnd h
    obtain ⟨t4, ht4, h⟩ := h
    obtain rfl := lenF ht4 ((hq0.mono tl1).now (fun _ h => h) hS)
    clear ht4
    refine cond_s h ?_ ?_ <;> clear h <;> intro hc h
    · replace h := bnd h
      obtain ⟨t5, ht5, h⟩ := h
      obtain ⟨z10, rfl, q11x, q11l, q11r⟩ := atF ht5
      clear ht5
      refine idx_s ((hq0.mono tl1).now (fun _ h => h) hS) q11x q11l q11r ?_; intro b12 hb12
      refine ⟨_, rd_get ((hq0.mono tl1).now (fun _ h => h) hS) hb12 q11x, ?_⟩
      replace h := bnd h
      obtain ⟨t6, ht6, h⟩ := h
      obtain rfl := fneg_s ht6
      clear ht6
      replace h := bnd h
      obtain ⟨t7, ht7, h⟩ := h
      obtain rfl : (List.map nf ([(fneg z10)] : List Nat)) = t7 := some_inj ht7
      clear ht7
      refine lit_s (ks := [(fneg z10)]) (enc := (Value.float .f64)) (m := 1) hS rfl rfl ?_; clear hS; intro r13 w hS
      replace h := bnd h
      obtain ⟨t8, ht8, h⟩ := h
      obtain ⟨rfl, kt8⟩ := appF ht8
      clear ht8
      replace hS := ro1 hS
      refine app_s hS kt8 ((Ent.sl mp1).now (fun _ h => h) hS) (fun _ => rfl) rfl ?_; clear hS kt8; intro a14 c14 w hS
      obtain rfl := some_inj h
      exact hX _ rfl _ _ ⟨_, _, _, _, _, rfl, rfl, (hS.pick (A := [_, _]) [0] rfl)⟩
    · obtain rfl := some_inj h
      have h := congrArg some (hO _ rfl)
      obtain rfl := some_inj h
      exact hJ5 _ _ ⟨_, _, _, _, rfl, rfl, hS⟩
  · clear h5 hS
    rintro s w ⟨a1, m2, c3, ws4, rfl, rfl, hS⟩
    have h := c5
    clear c5
    try dsimp only
    have h := some_inj h
    cases h
    exact hK _ _ _ _ _ rfl hS

theorem wk_girderlaw13_SolveTurns {N : Nums} {P : Program} (H : AllOk N P) {w0 w : World} {L : List It} {q0_0 : Int} {q0_1 : Option Addr} {q0_1l q0_1c : Nat} {ws0_1 : List Nat} {q0_2 : Option Addr} {q0_2l q0_2c : Nat} {ws0_2 : List Nat} {q1 : Option Addr} {q1l q1c : Nat} {ws1 : List Nat} {u0 : Bool} (hS : Ho w0 w L) (hq0_1 : Ent L (rdA (List.map (Value.float .f64) ws0_1) q0_1 q0_1l q0_1c)) (hq0_2 : Ent L (rdA (List.map (Value.float .f64) ws0_2) q0_2 q0_2l q0_2c)) (hq1 : Ent L (rdA (List.map (Value.float .f64) ws1) q1 q1l q1c)) (hx : T_girderlaw13_SolveTurns q0_0 (List.map nf ws0_1) (List.map nf ws0_2) (List.map nf ws1) = some u0) {K : Value → World → Prop} (hK : ∀  (w1 : World), Ho w0 w1 (L) → K (.bool u0) w1) : CallsX P N.f_girderlaw13_SolveTurns #[.agg #[.int .i64 q0_0, .slice q0_1 q0_1l q0_1c, .slice q0_2 q0_2l q0_2c], .slice q1 q1l q1c] w K := by
  refine H.girderlaw13_SolveTurns q0_0 q0_1 q0_1l q0_1c q0_2 q0_2l q0_2c q1 q1l q1c w _ ?_
  unfold S_girderlaw13_SolveTurns
  unfold T_girderlaw13_SolveTurns at hx
  have h := hx
  clear hx
  try dsimp only
  refine newM_s hS ?_; clear hS; intro r1 w hS
  refine ⟨_, (hS.cel mp0 rfl), ?_⟩
  refine ⟨_, _, _, (hS.cel mp0 rfl), ?_⟩
  refine ⟨_, _, _, (hS.cel mp0 rfl), ?_⟩
  replace h := bnd h
  obtain ⟨⟨t1, t2⟩, ho1, h⟩ := h
  refine wk_solve_Forward H hS (hq0_1.mono tl1) (hq0_2.mono tl1) (hq1.mono tl1) ho1 ?_; clear hS ho1; rintro a2 m2 c2 ws2 w rfl hS
  refine ⟨_, _, _, _, rfl, ?_⟩
  refine ⟨_, (hS.cel mp1 rfl), ?_⟩
  refine ⟨_, _, _, (hS.cel mp1 rfl), ?_⟩
  refine ⟨_, _, _, (hS.cel mp1 rfl), ?_⟩
  replace h := bnd h
  obtain ⟨⟨t3, t4⟩, ho3, h⟩ := h
  refine wk_solve_Solve H hS (hq0_1.mono tl2) (hq0_2.mono tl2) (hq1.mono tl2) ho3 ?_; clear hS ho3; rintro a3 m3 c3 ws3 w rfl hS
  refine ⟨_, _, _, _, rfl, ?_⟩
  refine cond_s h ?_ ?_ <;> clear h <;> intro hc h
  · refine cond_s h ?_ ?_ <;> clear h <;> intro hc h
    · refine cond_s h ?_ ?_ <;> clear h <;> intro hc h
      · replace h := bnd h
        obtain ⟨t5, ht5, h⟩ := h
        obtain rfl := lenF ht5 ((Ent.sl mp0).now (fun _ h => h) hS)
        clear ht5
        replace h := bnd h
        obtain ⟨t6, ht6, h⟩ := h
        obtain rfl := lenF ht6 ((Ent.sl mp1).now (fun _ h => h) hS)
        clear ht6
        refine cond_s h ?_ ?_ <;> clear h <;> intro hc h
        · replace h := bnd h
          obtain ⟨t7, ht7, h⟩ := h
          refine wk_girderlaw13_awake H hS  ht7 ?_; clear hS ht7; rintro w hS
          refine ⟨_, rfl, ?_⟩
          have h := some_inj h
          cases h
          exact hK _ (hS.pick (A := [_, _, _]) [] rfl)
        · have h := some_inj h
          cases h
          exact hK _ (hS.pick (A := [_, _, _]) [] rfl)
      · have h := some_inj h
        cases h
        exact hK _ (hS.pick (A := [_, _, _]) [] rfl)
    · have h := some_inj h
      cases h
      exact hK _ (hS.pick (A := [_, _, _]) [] rfl)
  · refine ⟨_, (hS.cel mp2 rfl), ?_⟩
    refine ⟨_, _, _, (hS.cel mp2 rfl), ?_⟩
    refine ⟨_, _, _, (hS.cel mp2 rfl), ?_⟩
    replace h := bnd h
    obtain ⟨⟨t8, t9⟩, ho8, h⟩ := h
    refine wk_solve_Back H hS (hq0_1.mono tl3) (hq0_2.mono tl3) (Ent.sl mp1) ho8 ?_; clear hS ho8; rintro a4 m4 c4 ws4 w rfl hS
    refine ⟨_, _, _, _, rfl, ?_⟩
    refine ⟨_, (hS.cel mp3 rfl), ?_⟩
    refine ⟨_, _, _, (hS.cel mp3 rfl), ?_⟩
    refine ⟨_, _, _, (hS.cel mp3 rfl), ?_⟩
    replace h := bnd h
    obtain ⟨⟨t10, t11, t12, t13⟩, ho10, h⟩ := h
    refine wk_solve_Inverse H hS (hq0_1.mono tl4) (hq0_2.mono tl4) ho10 ?_; clear hS ho10; rintro a5 m5 c5 ws5 w rfl hS
    refine ⟨_, _, _, _, _, _, rfl, ?_⟩
    refine newM_s hS ?_; clear hS; intro r6 w hS
    refine stc_s hS rfl rfl ?_; clear hS; intro w hS
    refine stc_s hS rfl rfl ?_; clear hS; intro w hS
    refine stc_s hS rfl rfl ?_; clear hS; intro w hS
    replace h := bnd h
    obtain ⟨o7, h7, c7⟩ := h
    refine cutM_i (fun s w => ∃ (t14 : Bool), t14 = o7 ∧ s = (t14, ()) ∧ Ho w0 w ((cl r6 [.int .i64 t10, .int .i64 t11, .slice a5 m5 c5] N.t_Matrix) :: (sl a5 m5 c5 (List.map (Value.float .f64) ws5) N.t_float64) :: (sl a3 m3 c3 (List.map (Value.float .f64) ws3) N.t_float64) :: (cl r1 [.int .i64 q0_0, .slice q0_1 q0_1l q0_1c, .slice q0_2 q0_2l q0_2c] N.t_Factor) :: L)) (fun J7 hJ7 => ?_) ?_
    · have h := h7
      clear h7
      refine cond_s h ?_ ?_ <;> clear h <;> intro hc h
      · refine cond_s h ?_ ?_ <;> clear h <;> intro hc h
        · replace h := bnd h
          obtain ⟨t15, ht15, h⟩ := h
          refine wk_girderkit_SameReals H hS (Ent.sl mp3) (Ent.sl mp2) ht15 ?_; clear hS ht15; rintro w hS
          refine ⟨_, rfl, ?_⟩
          obtain rfl := some_inj h
          exact hJ7 _ _ ⟨_, rfl, rfl, (hS.pick (A := [_, _, _, _, _, _]) [0, 0, 1, 2] rfl)⟩
        · obtain rfl := some_inj h
          exact hJ7 _ _ ⟨_, rfl, rfl, (hS.pick (A := [_, _, _, _, _, _]) [0, 0, 1, 2] rfl)⟩
      · obtain rfl := some_inj h
        exact hJ7 _ _ ⟨_, rfl, rfl, (hS.pick (A := [_, _, _, _, _, _]) [0, 0, 1, 2] rfl)⟩
    · clear h7 hS
      rintro s w ⟨t14, rfl, rfl, hS⟩
      have h := c7
      clear c7
      try dsimp only
      refine cond_s h ?_ ?_ <;> clear h <;> intro hc h
      · have h := some_inj h
        cases h
        exact hK _ (hS.pick (A := [_, _, _, _]) [] rfl)
      · refine cond_s h ?_ ?_ <;> clear h <;> intro hc h
        · refine cond_s h ?_ ?_ <;> clear h <;> intro hc h
          · replace h := bnd h
            obtain ⟨t16, ht16, h⟩ := h
            obtain rfl := lenF ht16 ((Ent.sl mp2).now (fun _ h => h) hS)
            clear ht16
            refine ⟨_, _, _, (hS.cel mp0 rfl), ?_⟩
            replace h := bnd h
            obtain ⟨t17, ht17, h⟩ := h
            obtain rfl := lenF ht17 ((Ent.sl mp1).now (fun _ h => h) hS)
            clear ht17
            refine cond_s h ?_ ?_ <;> clear h <;> intro hc h
            · replace h := bnd h
              obtain ⟨t18, ht18, h⟩ := h
              refine wk_girderlaw13_awake H hS  ht18 ?_; clear hS ht18; rintro w hS
              refine ⟨_, rfl, ?_⟩
              have h := some_inj h
              cases h
              exact hK _ (hS.pick (A := [_, _, _, _]) [] rfl)
            · have h := some_inj h
              cases h
              exact hK _ (hS.pick (A := [_, _, _, _]) [] rfl)
          · have h := some_inj h
            cases h
            exact hK _ (hS.pick (A := [_, _, _, _]) [] rfl)
        · refine ⟨_, (hS.cel mp3 rfl), ?_⟩
          refine ⟨_, _, _, (hS.cel mp3 rfl), ?_⟩
          refine ⟨_, _, _, (hS.cel mp3 rfl), ?_⟩
          refine drM_s hS ?_; clear hS; intro w hS
          replace h := bnd h
          obtain ⟨t19, ht19, h⟩ := h
          refine wk_girderlaw13_minus H hS (hq1.mono tl4) ht19 ?_; clear hS ht19; rintro a8 m8 c8 ws8 w rfl hS
          refine ⟨_, _, _, rfl, ?_⟩
          refine ⟨(hS.cel mp4 rfl), ?_⟩
          refine ⟨(hS.cel mp4 rfl), ?_⟩
          refine ⟨(hS.cel mp4 rfl), ?_⟩
          refine drM_s hS ?_; clear hS; intro w hS
          replace h := bnd h
          obtain ⟨⟨t20, t21⟩, ho20, h⟩ := h
          refine wk_solve_Solve H hS (hq0_1.mono tl5) (hq0_2.mono tl5) (Ent.sl mp0) ho20 ?_; clear hS ho20; rintro a9 m9 c9 ws9 w rfl hS
          refine ⟨_, _, _, _, rfl, ?_⟩
          refine drM_s hS ?_; clear hS; intro w hS
          replace h := bnd h
          obtain ⟨o10, h10, c10⟩ := h
          refine cutM_i (fun s w => ∃ (t22 : Bool), t22 = o10 ∧ s = (t22, ()) ∧ Ho w0 w ((cl r6 [.int .i64 t10, .int .i64 t11, .slice a5 m5 c5] N.t_Matrix) :: (sl a5 m5 c5 (List.map (Value.float .f64) ws5) N.t_float64) :: (cl r1 [.int .i64 q0_0, .slice q0_1 q0_1l q0_1c, .slice q0_2 q0_2l q0_2c] N.t_Factor) :: L)) (fun J10 hJ10 => ?_) ?_
          · have h := h10
            clear h10
            refine cond_s h ?_ ?_ <;> clear h <;> intro hc h
            · replace h := bnd h
              obtain ⟨t23, ht23, h⟩ := h
              refine wk_girderlaw13_minus H hS (Ent.sl mp4) ht23 ?_; clear hS ht23; rintro a11 m11 c11 ws11 w rfl hS
              refine ⟨_, _, _, rfl, ?_⟩
              replace h := bnd h
              obtain ⟨t24, ht24, h⟩ := h
              refine wk_girderlaw13_equal H hS (Ent.sl mp1) (Ent.sl mp0) ht24 ?_; clear hS ht24; rintro w hS
              refine ⟨_, rfl, ?_⟩
              refine cond_s h ?_ ?_ <;> clear h <;> intro hc h
              · refine ⟨_, (hS.cel mp3 rfl), ?_⟩
                refine ⟨_, (hS.cel mp6 rfl), ?_⟩
                refine cond_s h ?_ ?_ <;> clear h <;> intro hc h
                · refine ⟨_, (hS.cel mp3 rfl), ?_⟩
                  refine ⟨_, (hS.cel mp6 rfl), ?_⟩
                  refine cond_s h ?_ ?_ <;> clear h <;> intro hc h
                  · refine ⟨_, _, _, (hS.cel mp3 rfl), ?_⟩
                    replace h := bnd h
                    obtain ⟨t25, ht25, h⟩ := h
                    obtain rfl := lenF ht25 ((Ent.sl mp4).now (fun _ h => h) hS)
                    clear ht25
                    refine ⟨_, (hS.cel mp6 rfl), ?_⟩
                    refine ⟨_, (hS.cel mp6 rfl), ?_⟩
                    obtain rfl := some_inj h
                    exact hJ10 _ _ ⟨_, rfl, rfl, (hS.pick (A := [_, _, _, _, _, _, _]) [3, 3, 4] rfl)⟩
                  · obtain rfl := some_inj h
                    exact hJ10 _ _ ⟨_, rfl, rfl, (hS.pick (A := [_, _, _, _, _, _, _]) [3, 3, 4] rfl)⟩
                · obtain rfl := some_inj h
                  exact hJ10 _ _ ⟨_, rfl, rfl, (hS.pick (A := [_, _, _, _, _, _, _]) [3, 3, 4] rfl)⟩
              · obtain rfl := some_inj h
                exact hJ10 _ _ ⟨_, rfl, rfl, (hS.pick (A := [_, _, _, _, _, _, _]) [3, 3, 4] rfl)⟩
            · obtain rfl := some_inj h
              exact hJ10 _ _ ⟨_, rfl, rfl, (hS.pick (A := [_, _, _, _, _, _]) [2, 2, 3] rfl)⟩
          · clear h10 hS
            rintro s w ⟨t22, rfl, rfl, hS⟩
            have h := c10
            clear c10
            try dsimp only
            refine cond_s h ?_ ?_ <;> clear h <;> intro hc h
            · have h := some_inj h
              cases h
              exact hK _ (hS.pick (A := [_, _, _]) [] rfl)
            · replace h := bnd h
              obtain ⟨o12, h12, c12⟩ := h
              refine cutM_i (fun s w =>  .inl () = o12 ∧ s = (()) ∧ Ho w0 w (L)) (fun J12 hJ12 => ?_) ?_
              · have h := h12
                clear h12
                refine iter_sim (fun s w t => ∃ (t26 : Int), t26 = t ∧ s = (t26, ()) ∧ Ho w0 w ((cl r6 [.int .i64 t10, .int .i64 t11, .slice a5 m5 c5] N.t_Matrix) :: (sl a5 m5 c5 (List.map (Value.float .f64) ws5) N.t_float64) :: (cl r1 [.int .i64 q0_0, .slice q0_1 q0_1l q0_1c, .slice q0_2 q0_2l q0_2c] N.t_Factor) :: L)) ?_ h ⟨_, rfl, rfl, hS⟩
                clear h hS
                rintro s w t X q ⟨t26, rfl, rfl, hS⟩ h hX hO
                unfold T_girderlaw13_SolveTurns_b5 at h
                try dsimp only
                replace h := bnd h
                obtain ⟨o13, h13, c13⟩ := h
                refine cutM_i (fun s w => ∃ (t27 : Bool), t27 = o13 ∧ s = (t27, ()) ∧ Ho w0 w ((cl r6 [.int .i64 t10, .int .i64 t11, .slice a5 m5 c5] N.t_Matrix) :: (sl a5 m5 c5 (List.map (Value.float .f64) ws5) N.t_float64) :: (cl r1 [.int .i64 q0_0, .slice q0_1 q0_1l q0_1c, .slice q0_2 q0_2l q0_2c] N.t_Factor) :: L)) (fun J13 hJ13 => ?_) ?_
                · have h := h13
                  clear h13
                  refine ⟨_, (hS.cel mp2 rfl), ?_⟩
                  refine cond_s h ?_ ?_ <;> clear h <;> intro hc h
                  · obtain rfl := some_inj h
                    exact hJ13 _ _ ⟨_, rfl, rfl, hS⟩
                  · obtain rfl := some_inj h
                    exact hJ13 _ _ ⟨_, rfl, rfl, hS⟩
                · clear h13 hS
                  rintro s w ⟨t27, rfl, rfl, hS⟩
                  have h := c13
                  clear c13
                  try dsimp only
                  refine cond_s h ?_ ?_ <;> clear h <;> intro hc h
                  · refine ⟨_, (hS.cel mp2 rfl), ?_⟩
                    replace h := bnd h
                    obtain ⟨t28, ht28, h⟩ := h
                    obtain ⟨rfl, kt28⟩ := mkF ht28
                    clear ht28
                    refine mk_s (enc := (Value.float .f64)) hS kt28 rfl ?_; clear hS kt28; intro r14 w hS
                    replace h := bnd h
                    obtain ⟨t29, ht29, h⟩ := h
                    obtain ⟨z15, rfl, q16x, q16l, q16r⟩ := atF ht29
                    clear ht29
                    refine idy_s ((Ent.sl mp0).now (fun _ h => h) hS) q16x q16l q16r ?_
                    replace h := bnd h
                    obtain ⟨t30, ht30, h⟩ := h
                    obtain rfl := setF ht30
                    clear ht30
                    refine sto_s hS rfl q16r ?_; clear hS; intro w hS
                    refine ⟨_, (hS.cel mp3 rfl), ?_⟩
                    refine ⟨_, _, _, (hS.cel mp3 rfl), ?_⟩
                    refine ⟨_, _, _, (hS.cel mp3 rfl), ?_⟩
                    replace h := bnd h
                    obtain ⟨⟨t31, t32⟩, ho31, h⟩ := h
                    refine wk_solve_Solve H hS (hq0_1.mono tl4) (hq0_2.mono tl4) (Ent.sl mp0) ho31 ?_; clear hS ho31; rintro a18 m18 c18 ws18 w rfl hS
                    refine ⟨_, _, _, _, rfl, ?_⟩
                    replace h := bnd h
                    obtain ⟨o19, h19, c19⟩ := h
                    refine cutM_i (fun s w =>  .inl () = o19 ∧ s = (()) ∧ Ho w0 w ((cl r6 [.int .i64 t10, .int .i64 t11, .slice a5 m5 c5] N.t_Matrix) :: (sl a5 m5 c5 (List.map (Value.float .f64) ws5) N.t_float64) :: (cl r1 [.int .i64 q0_0, .slice q0_1 q0_1l q0_1c, .slice q0_2 q0_2l q0_2c] N.t_Factor) :: L)) (fun J19 hJ19 => ?_) ?_
                    · have h := h19
                      clear h19
                      refine iter_sim (fun s w t => ∃ (t33 : Int), t33 = t ∧ s = (t33, ()) ∧ Ho w0 w ((sl a18 m18 c18 (List.map (Value.float .f64) ws18) N.t_float64) :: (cl r6 [.int .i64 t10, .int .i64 t11, .slice a5 m5 c5] N.t_Matrix) :: (sl a5 m5 c5 (List.map (Value.float .f64) ws5) N.t_float64) :: (cl r1 [.int .i64 q0_0, .slice q0_1 q0_1l q0_1c, .slice q0_2 q0_2l q0_2c] N.t_Factor) :: L)) ?_ h ⟨_, rfl, rfl, (hS.pick (A := [_, _, _, _, _]) [0, 1, 1, 1] rfl)⟩
                      clear h hS
                      rintro s w t X q ⟨t33, rfl, rfl, hS⟩ h hX hO
                      unfold T_girderlaw13_SolveTurns_b7 at h
                      try dsimp only
                      refine ⟨_, (hS.cel mp3 rfl), ?_⟩
                      refine cond_s h ?_ ?_ <;> clear h <;> intro hc h
                      · refine cond_s h ?_ ?_ <;> clear h <;> intro hc h
                        · replace h := bnd h
                          obtain ⟨t34, ht34, h⟩ := h
                          obtain ⟨z20, rfl, q21x, q21l, q21r⟩ := atF ht34
                          clear ht34
                          refine idx_s ((Ent.sl mp0).now (fun _ h => h) hS) q21x q21l q21r ?_; intro b22 hb22
                          refine ⟨_, rd_get ((Ent.sl mp0).now (fun _ h => h) hS) hb22 q21x, ?_⟩
                          refine ⟨_, _, _, (hS.cel mp1 rfl), ?_⟩
                          refine ⟨_, (hS.cel mp3 rfl), ?_⟩
                          replace h := bnd h
                          obtain ⟨t35, ht35, h⟩ := h
                          obtain ⟨z23, rfl, q24x, q24l, q24r⟩ := atF ht35
                          clear ht35
                          refine idx_s ((Ent.sl mp2).now (fun _ h => h) hS) q24x q24l q24r ?_; intro b25 hb25
                          refine ⟨_, rd_get ((Ent.sl mp2).now (fun _ h => h) hS) hb25 q24x, ?_⟩
                          refine drM_s hS ?_; clear hS; intro w hS
                          replace h := bnd h
                          obtain ⟨t36, ht36, h⟩ := h
                          refine wk_girderkit_SameFloat H hS  ht36 ?_; clear hS ht36; rintro w hS
                          refine ⟨_, rfl, ?_⟩
                          refine ⟨(hS.cel mp3 rfl), ?_⟩
                          refine ⟨(hS.cel mp1 rfl), ?_⟩
                          refine drM_s hS ?_; clear hS; intro w hS
                          refine cond_s h ?_ ?_ <;> clear h <;> intro hc h
                          · obtain rfl := some_inj h
                            have h := congrArg some (hO _ rfl)
                            obtain rfl := some_inj h
                            have h := c19
                            obtain rfl := some_inj h
                            have h := congrArg some (hO _ rfl)
                            obtain rfl := some_inj h
                            have h := c12
                            have h := some_inj h
                            cases h
                            exact hK _ (hS.pick (A := [_, _, _, _]) [] rfl)
                          · obtain rfl := some_inj h
                            exact hX _ rfl _ _ ⟨_, rfl, rfl, hS⟩
                        · refine drM_s hS ?_; clear hS; intro w hS
                          refine drM_s hS ?_; clear hS; intro w hS
                          obtain rfl := some_inj h
                          have h := congrArg some (hO _ rfl)
                          obtain rfl := some_inj h
                          have h := c19
                          obtain rfl := some_inj h
                          have h := congrArg some (hO _ rfl)
                          obtain rfl := some_inj h
                          have h := c12
                          have h := some_inj h
                          cases h
                          exact hK _ (hS.pick (A := [_, _, _, _]) [] rfl)
                      · obtain rfl := some_inj h
                        have h := congrArg some (hO _ rfl)
                        obtain rfl := some_inj h
                        exact hJ19 _ _ ⟨rfl, rfl, (hS.pick (A := [_, _, _, _]) [1, 1, 1] rfl)⟩
                    · clear h19 hS
                      rintro s w ⟨rfl, rfl, hS⟩
                      have h := c19
                      clear c19
                      try dsimp only
                      obtain rfl := some_inj h
                      exact hX _ rfl _ _ ⟨_, rfl, rfl, hS⟩
                  · obtain rfl := some_inj h
                    have h := congrArg some (hO _ rfl)
                    obtain rfl := some_inj h
                    exact hJ12 _ _ ⟨rfl, rfl, (hS.pick (A := [_, _, _]) [] rfl)⟩
              · clear h12 hS
                rintro s w ⟨rfl, rfl, hS⟩
                have h := c12
                clear c12
                try dsimp only
                replace h := bnd h
                obtain ⟨t37, ht37, h⟩ := h
                refine wk_girderlaw13_awake H hS  ht37 ?_; clear hS ht37; rintro w hS
                refine ⟨_, rfl, ?_⟩
                have h := some_inj h
                cases h
                exact hK _ hS

theorem wk_girderlaw13_tame {N : Nums} {P : Program} (H : AllOk N P) {w0 w : World} {L : List It} {q0 : Nat} {u0 : Nat} (hS : Ho w0 w L)  (hx : T_girderlaw13_tame (nf q0) = some u0) {K : Value → World → Prop} (hK : ∀ (z0 : Nat) (w1 : World), nf z0 = u0 → Ho w0 w1 (L) → K (.float .f64 z0) w1) : CallsX P N.f_girderlaw13_tame #[.float .f64 q0] w K := by
  refine H.girderlaw13_tame q0 w _ ?_
  unfold S_girderlaw13_tame
  unfold T_girderlaw13_tame at hx
  have h := hx
  clear hx
  try dsimp only
  replace h := bnd h
  obtain ⟨t1, ht1, h⟩ := h
  obtain rfl := feq_s ht1
  clear ht1
  refine cond_s h ?_ ?_ <;> clear h <;> intro hc h
  · replace h := bnd h
    obtain ⟨t2, ht2, h⟩ := h
    obtain rfl := fge_s ht2
    clear ht2
    refine cond_s h ?_ ?_ <;> clear h <;> intro hc h
    · replace h := bnd h
      obtain ⟨t3, ht3, h⟩ := h
      obtain rfl := fle_s ht3
      clear ht3
      refine cond_s h ?_ ?_ <;> clear h <;> intro hc h
      · replace h := bnd h
        obtain ⟨t4, ht4, h⟩ := h
        obtain rfl := fle_s ht4
        clear ht4
        refine cond_s h ?_ ?_ <;> clear h <;> intro hc h
        · replace h := bnd h
          obtain ⟨t5, ht5, h⟩ := h
          obtain rfl := fge_s ht5
          clear ht5
          refine cond_s h ?_ ?_ <;> clear h <;> intro hc h
          · have h := some_inj h
            cases h
            exact hK _ _ rfl hS
          · have h := some_inj h
            cases h
            exact hK _ _ rfl hS
        · have h := some_inj h
          cases h
          exact hK _ _ rfl hS
      · have h := some_inj h
        cases h
        exact hK _ _ rfl hS
    · replace h := bnd h
      obtain ⟨t6, ht6, h⟩ := h
      obtain rfl := fle_s ht6
      clear ht6
      refine cond_s h ?_ ?_ <;> clear h <;> intro hc h
      · replace h := bnd h
        obtain ⟨t7, ht7, h⟩ := h
        obtain rfl := fge_s ht7
        clear ht7
        refine cond_s h ?_ ?_ <;> clear h <;> intro hc h
        · have h := some_inj h
          cases h
          exact hK _ _ rfl hS
        · have h := some_inj h
          cases h
          exact hK _ _ rfl hS
      · have h := some_inj h
        cases h
        exact hK _ _ rfl hS
  · have h := some_inj h
    cases h
    exact hK _ _ rfl hS

theorem wk_girderlaw13_SolveScales {N : Nums} {P : Program} (H : AllOk N P) {w0 w : World} {L : List It} {q0 : Int} {q1 : Option Addr} {q1l q1c : Nat} {l1 : List Int} {q2 : Option Addr} {q2l q2c : Nat} {ws2 : List Nat} {q3 : Option Addr} {q3l q3c : Nat} {ws3 : List Nat} {q4 : Int} {u0 : Bool} (hS : Ho w0 w L) (hq1 : Ent L (rdA (List.map (Value.int .i64) l1) q1 q1l q1c)) (hq2 : Ent L (rdA (List.map (Value.float .f64) ws2) q2 q2l q2c)) (hq3 : Ent L (rdA (List.map (Value.float .f64) ws3) q3 q3l q3c)) (hx : T_girderlaw13_SolveScales q0 l1 (List.map nf ws2) (List.map nf ws3) q4 = some u0) {K : Value → World → Prop} (hK : ∀  (w1 : World), Ho w0 w1 (L) → K (.bool u0) w1) : CallsX P N.f_girderlaw13_SolveScales #[.int .i64 q0, .slice q1 q1l q1c, .slice q2 q2l q2c, .slice q3 q3l q3c, .int .i64 q4] w K := by
  refine H.girderlaw13_SolveScales q0 q1 q1l q1c q2 q2l q2c q3 q3l q3c q4 w _ ?_
  unfold S_girderlaw13_SolveScales
  unfold T_girderlaw13_SolveScales at hx
  have h := hx
  clear hx
  try dsimp only
  replace h := bnd h
  obtain ⟨⟨t1, t2, t3⟩, ho1, h⟩ := h
  refine wk_girderlaw13_whole H hS hq1 ho1 ?_; clear hS ho1; rintro a1 m1 c1 ws1 a2 m2 c2 ws2 w rfl rfl hS
  refine ⟨_, _, _, _, _, _, _, rfl, ?_⟩
  refine newM_s hS ?_; clear hS; intro r3 w hS
  refine stc_s hS rfl rfl ?_; clear hS; intro w hS
  refine stc_s hS rfl rfl ?_; clear hS; intro w hS
  refine stc_s hS rfl rfl ?_; clear hS; intro w hS
  replace h := bnd h
  obtain ⟨o5, h5, c5⟩ := h
  refine cutM_i (fun s w => ∃ (ws4 : List Nat), (List.map nf ws4) = o5 ∧ s = (()) ∧ Ho w0 w ((cl r3 [.int .i64 t1, .slice a1 m1 c1, .slice a2 m2 c2] N.t_Factor) :: (sl a1 m1 c1 (List.map (Value.float .f64) ws4) N.t_float64) :: (sl a2 m2 c2 (List.map (Value.float .f64) ws2) N.t_float64) :: L)) (fun J5 hJ5 => ?_) ?_
  · have h := h5
    clear h5
    refine iter_sim (fun s w t => ∃ (t5 : Int) (ws6 : List Nat), (t5, (List.map nf ws6)) = t ∧ s = (t5, ()) ∧ Ho w0 w ((cl r3 [.int .i64 t1, .slice a1 m1 c1, .slice a2 m2 c2] N.t_Factor) :: (sl a1 m1 c1 (List.map (Value.float .f64) ws6) N.t_float64) :: (sl a2 m2 c2 (List.map (Value.float .f64) ws2) N.t_float64) :: L)) ?_ h ⟨_, _, rfl, rfl, hS⟩
    clear h hS
    rintro s w t X q ⟨t5, ws6, rfl, rfl, hS⟩ h hX hO
    unfold T_girderlaw13_SolveScales_b2 at h
    try dsimp only
    refine ⟨_, _, _, (hS.cel mp0 rfl), ?_⟩
    replace h := bnd h
    obtain ⟨t7, ht7, h⟩ := h
    obtain rfl := lenF ht7 ((Ent.sl mp1).now (fun _ h => h) hS)
    clear ht7
    refine cond_s h ?_ ?_ <;> clear h <;> intro hc h
    · refine ⟨_, _, _, (hS.cel mp0 rfl), ?_⟩
      refine drM_s hS ?_; clear hS; intro w hS
      replace h := bnd h
      obtain ⟨t8, ht8, h⟩ := h
      refine wk_girderlaw13_at H hS (hq1.mono tl3) ht8 ?_; clear hS ht8; rintro w hS
      refine ⟨_, rfl, ?_⟩
      refine ⟨(hS.cel mp0 rfl), ?_⟩
      replace h := bnd h
      obtain ⟨t9, ht9, h⟩ := h
      refine fdiv_s ht9 hS ?_; clear ht9; rintro z7 _ rfl _
      replace h := bnd h
      obtain ⟨t10, ht10, h⟩ := h
      obtain ⟨z8, rfl, q9x, q9l, q9r⟩ := atF ht10
      clear ht10
      refine idx_s ((Ent.sl mp1).now (fun _ h => h) hS) q9x q9l q9r ?_; intro b10 hb10
      refine drM_s hS ?_; clear hS; intro w hS
      replace hS := ro1 hS
      replace h := bnd h
      obtain ⟨t11, ht11, h⟩ := h
      obtain rfl := setF ht11
      clear ht11
      refine sto_s hS hb10 q9r ?_; clear hS; intro w hS
      refine drM_s hS ?_; clear hS; intro w hS
      obtain rfl := some_inj h
      exact hX _ rfl _ _ ⟨_, _, rfl, rfl, (hS.pick (A := [_, _, _]) [1, 0, 0] rfl)⟩
    · obtain rfl := some_inj h
      have h := congrArg some (hO _ rfl)
      obtain rfl := some_inj h
      exact hJ5 _ _ ⟨_, rfl, rfl, hS⟩
  · clear h5 hS
    rintro s w ⟨ws4, rfl, rfl, hS⟩
    have h := c5
    clear c5
    try dsimp only
    replace h := bnd h
    obtain ⟨t12, ht12, h⟩ := h
    refine wk_girderkit_Pick H hS  ht12 ?_; clear hS ht12; rintro w hS
    refine ⟨_, rfl, ?_⟩
    replace h := bnd h
    obtain ⟨o12, h12, c12⟩ := h
    refine cutM_i (fun s w => ∃ (z11 : Nat), (nf z11) = o12 ∧ s = (z11, ()) ∧ Ho w0 w ((cl r3 [.int .i64 t1, .slice a1 m1 c1, .slice a2 m2 c2] N.t_Factor) :: (sl a1 m1 c1 (List.map (Value.float .f64) ws4) N.t_float64) :: (sl a2 m2 c2 (List.map (Value.float .f64) ws2) N.t_float64) :: L)) (fun J12 hJ12 => ?_) ?_
    · have h := h12
      clear h12
      refine iter_sim (fun s w t => ∃ (z13 : Nat) (t15 : Int), ((nf z13), t15) = t ∧ s = (z13, t15, ()) ∧ Ho w0 w ((cl r3 [.int .i64 t1, .slice a1 m1 c1, .slice a2 m2 c2] N.t_Factor) :: (sl a1 m1 c1 (List.map (Value.float .f64) ws4) N.t_float64) :: (sl a2 m2 c2 (List.map (Value.float .f64) ws2) N.t_float64) :: L)) ?_ h ⟨_, _, rfl, rfl, hS⟩
      clear h hS
      rintro s w t X q ⟨z13, t15, rfl, rfl, hS⟩ h hX hO
      unfold T_girderlaw13_SolveScales_b4 at h
      try dsimp only
      refine cond_s h ?_ ?_ <;> clear h <;> intro hc h
      · replace h := bnd h
        obtain ⟨o15, h15, c15⟩ := h
        refine cutM_i (fun s w => ∃ (z14 : Nat) (t17 : Int), ((nf z14), t17) = o15 ∧ s = (z14, t17, ()) ∧ Ho w0 w ((cl r3 [.int .i64 t1, .slice a1 m1 c1, .slice a2 m2 c2] N.t_Factor) :: (sl a1 m1 c1 (List.map (Value.float .f64) ws4) N.t_float64) :: (sl a2 m2 c2 (List.map (Value.float .f64) ws2) N.t_float64) :: L)) (fun J15 hJ15 => ?_) ?_
        · have h := h15
          clear h15
          replace h := bnd h
          obtain ⟨o17, h17, c17⟩ := h
          refine cutM_i (fun s w => ∃ (z16 : Nat) (t19 : Int), ((nf z16), t19) = o17 ∧ s = (z16, t19, ()) ∧ Ho w0 w ((cl r3 [.int .i64 t1, .slice a1 m1 c1, .slice a2 m2 c2] N.t_Factor) :: (sl a1 m1 c1 (List.map (Value.float .f64) ws4) N.t_float64) :: (sl a2 m2 c2 (List.map (Value.float .f64) ws2) N.t_float64) :: L)) (fun J17 hJ17 => ?_) ?_
          · have h := h17
            clear h17
            refine cond_s h ?_ ?_ <;> clear h <;> intro hc h
            · replace h := bnd h
              obtain ⟨t20, ht20, h⟩ := h
              refine fmul_s ht20 hS ?_; clear hS ht20; rintro z18 w rfl hS
              obtain rfl := some_inj h
              exact hJ17 _ _ ⟨_, _, rfl, rfl, hS⟩
            · replace h := bnd h
              obtain ⟨t21, ht21, h⟩ := h
              refine fdiv_s ht21 hS ?_; clear hS ht21; rintro z19 w rfl hS
              obtain rfl := some_inj h
              exact hJ17 _ _ ⟨_, _, rfl, rfl, hS⟩
          · clear h17 hS
            rintro s w ⟨z16, t19, rfl, rfl, hS⟩
            have h := c17
            clear c17
            try dsimp only
            obtain rfl := some_inj h
            exact hJ15 _ _ ⟨_, _, rfl, rfl, hS⟩
        · clear h15 hS
          rintro s w ⟨z14, t17, rfl, rfl, hS⟩
          have h := c15
          clear c15
          try dsimp only
          obtain rfl := some_inj h
          exact hX _ rfl _ _ ⟨_, _, rfl, rfl, hS⟩
      · obtain rfl := some_inj h
        have h := congrArg some (hO _ rfl)
        obtain rfl := some_inj h
        exact hJ12 _ _ ⟨_, rfl, rfl, hS⟩
    · clear h12 hS
      rintro s w ⟨z11, rfl, rfl, hS⟩
      have h := c12
      clear c12
      try dsimp only
      replace h := bnd h
      obtain ⟨o29, h29, c29⟩ := h
      refine cutM_i (fun s w => ∃ (ws20 : List Nat) (a21 : Option Addr) (m22 : Nat) (c23 : Nat) (ws24 : List Nat) (a25 : Option Addr) (m26 : Nat) (c27 : Nat) (ws28 : List Nat), ((List.map nf ws20), (List.map nf ws24), (List.map nf ws28)) = o29 ∧ s = ((a21, m22, c23), (a25, m26, c27), ()) ∧ Ho w0 w ((cl r3 [.int .i64 t1, .slice a1 m1 c1, .slice a2 m2 c2] N.t_Factor) :: (sl a1 m1 c1 (List.map (Value.float .f64) ws4) N.t_float64) :: (sl a2 m2 c2 (List.map (Value.float .f64) ws20) N.t_float64) :: (sl a21 m22 c23 (List.map (Value.float .f64) ws24) N.t_float64) :: (sl a25 m26 c27 (List.map (Value.float .f64) ws28) N.t_float64) :: L)) (fun J29 hJ29 => ?_) ?_
      · have h := h29
        clear h29
        replace hS := hS.none (α := Nat) (enc := (Value.float .f64)) (t := N.t_float64)
        replace hS := hS.none (α := Nat) (enc := (Value.float .f64)) (t := N.t_float64)
        refine iter_sim (fun s w t => ∃ (t25 : Int) (ws30 : List Nat) (a31 : Option Addr) (m32 : Nat) (c33 : Nat) (ws34 : List Nat) (a35 : Option Addr) (m36 : Nat) (c37 : Nat) (ws38 : List Nat), (t25, (List.map nf ws30), (List.map nf ws34), (List.map nf ws38)) = t ∧ s = ((a31, m32, c33), (a35, m36, c37), t25, ()) ∧ Ho w0 w ((cl r3 [.int .i64 t1, .slice a1 m1 c1, .slice a2 m2 c2] N.t_Factor) :: (sl a1 m1 c1 (List.map (Value.float .f64) ws4) N.t_float64) :: (sl a2 m2 c2 (List.map (Value.float .f64) ws30) N.t_float64) :: (sl a31 m32 c33 (List.map (Value.float .f64) ws34) N.t_float64) :: (sl a35 m36 c37 (List.map (Value.float .f64) ws38) N.t_float64) :: L)) ?_ h ⟨_, _, _, _, _, _, _, _, _, _, rfl, rfl, (hS.pick (A := [_, _, _, _, _]) [2, 2, 2, 1, 0] rfl)⟩
        clear h hS
        rintro s w t X q ⟨t25, ws30, a31, m32, c33, ws34, a35, m36, c37, ws38, rfl, rfl, hS⟩ h hX hO
        unfold T_girderlaw13_SolveScales_b6 at h
        try dsimp only
        refine ⟨_, (hS.cel mp0 rfl), ?_⟩
        refine cond_s h ?_ ?_ <;> clear h <;> intro hc h
        · replace h := bnd h
          obtain ⟨o46, h46, c46⟩ := h
          refine cutM_i (fun s w => ∃ (ws39 : List Nat) (a40 : Option Addr) (c41 : Nat) (ws42 : List Nat) (a43 : Option Addr) (c44 : Nat) (ws45 : List Nat), ((List.map nf ws39), (List.map nf ws42), (List.map nf ws45)) = o46 ∧ s = ((a43, (m32 + 1), c44), (a40, (m36 + 1), c41), ()) ∧ Ho w0 w ((sl a2 m2 c2 (List.map (Value.float .f64) ws39) N.t_float64) :: (sl a40 (m36 + 1) c41 (List.map (Value.float .f64) ws42) N.t_float64) :: (sl a43 (m32 + 1) c44 (List.map (Value.float .f64) ws45) N.t_float64) :: (cl r3 [.int .i64 t1, .slice a1 m1 c1, .slice a2 m2 c2] N.t_Factor) :: (sl a1 m1 c1 (List.map (Value.float .f64) ws4) N.t_float64) :: L)) (fun J46 hJ46 => ?_) ?_
          · have h := h46
            clear h46
            replace h := bnd h
            obtain ⟨t32, ht32, h⟩ := h
            obtain rfl := lenF ht32 ((hq3.mono tl5).now (fun _ h => h) hS)
            clear ht32
            replace h := bnd h
            obtain ⟨o48, h48, c48⟩ := h
            refine cutM_i (fun s w => ∃ (z47 : Nat), (nf z47) = o48 ∧ s = (z47, ()) ∧ Ho w0 w ((cl r3 [.int .i64 t1, .slice a1 m1 c1, .slice a2 m2 c2] N.t_Factor) :: (sl a1 m1 c1 (List.map (Value.float .f64) ws4) N.t_float64) :: (sl a2 m2 c2 (List.map (Value.float .f64) ws30) N.t_float64) :: (sl a31 m32 c33 (List.map (Value.float .f64) ws34) N.t_float64) :: (sl a35 m36 c37 (List.map (Value.float .f64) ws38) N.t_float64) :: L)) (fun J48 hJ48 => ?_) ?_
            · have h := h48
              clear h48
              refine cond_s h ?_ ?_ <;> clear h <;> intro hc h
              · replace h := bnd h
                obtain ⟨t34, ht34, h⟩ := h
                obtain rfl := lenF ht34 ((hq3.mono tl5).now (fun _ h => h) hS)
                clear ht34
                replace h := bnd h
                obtain ⟨t37, ht37, h⟩ := h
                refine ⟨nz_s ht37, ?_⟩
                clear ht37
                replace h := bnd h
                obtain ⟨t35, ht35, h⟩ := h
                obtain ⟨z49, rfl, q50x, q50l, q50r⟩ := atF ht35
                clear ht35
                refine idx_s ((hq3.mono tl5).now (fun _ h => h) hS) q50x q50l q50r ?_; intro b51 hb51
                refine ⟨_, rd_get ((hq3.mono tl5).now (fun _ h => h) hS) hb51 q50x, ?_⟩
                replace h := bnd h
                obtain ⟨t36, ht36, h⟩ := h
                refine wk_girderlaw13_tame H hS  ht36 ?_; clear hS ht36; rintro z52 w rfl hS
                refine ⟨_, rfl, ?_⟩
                obtain rfl := some_inj h
                exact hJ48 _ _ ⟨_, rfl, rfl, hS⟩
              · obtain rfl := some_inj h
                exact hJ48 _ _ ⟨_, rfl, rfl, hS⟩
            · clear h48 hS
              rintro s w ⟨z47, rfl, rfl, hS⟩
              have h := c48
              clear c48
              try dsimp only
              replace h := bnd h
              obtain ⟨t38, ht38, h⟩ := h
              obtain rfl : (List.map nf ([z47] : List Nat)) = t38 := some_inj ht38
              clear ht38
              refine lit_s (ks := [z47]) (enc := (Value.float .f64)) (m := 1) hS rfl rfl ?_; clear hS; intro r53 w hS
              replace h := bnd h
              obtain ⟨t39, ht39, h⟩ := h
              obtain ⟨rfl, kt39⟩ := appF ht39
              clear ht39
              replace hS := ro4 hS
              refine app_s hS kt39 ((Ent.sl mp1).now (fun _ h => h) hS) (fun _ => rfl) rfl ?_; clear hS kt39; intro a54 c54 w hS
              replace h := bnd h
              obtain ⟨t40, ht40, h⟩ := h
              refine fmul_s ht40 hS ?_; clear hS ht40; rintro z55 w rfl hS
              replace h := bnd h
              obtain ⟨t41, ht41, h⟩ := h
              obtain rfl : (List.map nf ([z55] : List Nat)) = t41 := some_inj ht41
              clear ht41
              refine lit_s (ks := [z55]) (enc := (Value.float .f64)) (m := 1) hS rfl rfl ?_; clear hS; intro r56 w hS
              replace h := bnd h
              obtain ⟨t42, ht42, h⟩ := h
              obtain ⟨rfl, kt42⟩ := appF ht42
              clear ht42
              replace hS := ro6 hS
              refine app_s hS kt42 ((Ent.sl mp1).now (fun _ h => h) hS) (fun _ => rfl) rfl ?_; clear hS kt42; intro a57 c57 w hS
              replace h := bnd h
              obtain ⟨t43, ht43, h⟩ := h
              obtain rfl := lenF ht43 ((hq2.mono tl7).now (fun _ h => h) hS)
              clear ht43
              refine cond_s h ?_ ?_ <;> clear h <;> intro hc h
              · replace h := bnd h
                obtain ⟨t44, ht44, h⟩ := h
                obtain rfl := lenF ht44 ((hq2.mono tl7).now (fun _ h => h) hS)
                clear ht44
                replace h := bnd h
                obtain ⟨t55, ht55, h⟩ := h
                refine ⟨nz_s ht55, ?_⟩
                clear ht55
                replace h := bnd h
                obtain ⟨t45, ht45, h⟩ := h
                obtain ⟨z58, rfl, q59x, q59l, q59r⟩ := atF ht45
                clear ht45
                refine idx_s ((hq2.mono tl7).now (fun _ h => h) hS) q59x q59l q59r ?_; intro b60 hb60
                refine ⟨_, rd_get ((hq2.mono tl7).now (fun _ h => h) hS) hb60 q59x, ?_⟩
                replace h := bnd h
                obtain ⟨t46, ht46, h⟩ := h
                refine wk_girderlaw13_tame H hS  ht46 ?_; clear hS ht46; rintro z61 w rfl hS
                refine ⟨_, rfl, ?_⟩
                replace h := bnd h
                obtain ⟨t47, ht47, h⟩ := h
                obtain rfl := fne_s ht47
                clear ht47
                replace h := bnd h
                obtain ⟨o63, h63, c63⟩ := h
                refine cutM_i (fun s w => ∃ (ws62 : List Nat), (List.map nf ws62) = o63 ∧ s = (()) ∧ Ho w0 w ((sl a2 m2 c2 (List.map (Value.float .f64) ws62) N.t_float64) :: (sl a57 (m36 + 1) c57 (List.map (Value.float .f64) (ws38 ++ [z55])) N.t_float64) :: (sl a54 (m32 + 1) c54 (List.map (Value.float .f64) (ws34 ++ [z47])) N.t_float64) :: (cl r3 [.int .i64 t1, .slice a1 m1 c1, .slice a2 m2 c2] N.t_Factor) :: (sl a1 m1 c1 (List.map (Value.float .f64) ws4) N.t_float64) :: L)) (fun J63 hJ63 => ?_) ?_
                · have h := h63
                  clear h63
                  refine cond_s h ?_ ?_ <;> clear h <;> intro hc h
                  · refine ⟨_, _, _, (hS.cel mp4 rfl), ?_⟩
                    replace h := bnd h
                    obtain ⟨t49, ht49, h⟩ := h
                    obtain rfl := lenF ht49 ((hq2.mono tl7).now (fun _ h => h) hS)
                    clear ht49
                    replace h := bnd h
                    obtain ⟨t54, ht54, h⟩ := h
                    refine ⟨nz_s ht54, ?_⟩
                    clear ht54
                    replace h := bnd h
                    obtain ⟨t50, ht50, h⟩ := h
                    obtain ⟨z64, rfl, q65x, q65l, q65r⟩ := atF ht50
                    clear ht50
                    refine idx_s ((hq2.mono tl7).now (fun _ h => h) hS) q65x q65l q65r ?_; intro b66 hb66
                    refine ⟨_, rd_get ((hq2.mono tl7).now (fun _ h => h) hS) hb66 q65x, ?_⟩
                    refine drM_s hS ?_; clear hS; intro w hS
                    replace h := bnd h
                    obtain ⟨t51, ht51, h⟩ := h
                    refine wk_girderlaw13_tame H hS  ht51 ?_; clear hS ht51; rintro z67 w rfl hS
                    refine ⟨_, rfl, ?_⟩
                    refine ⟨(hS.cel mp4 rfl), ?_⟩
                    replace h := bnd h
                    obtain ⟨t52, ht52, h⟩ := h
                    obtain ⟨z68, rfl, q69x, q69l, q69r⟩ := atF ht52
                    clear ht52
                    refine idx_s ((Ent.sl mp6).now (fun _ h => h) hS) q69x q69l q69r ?_; intro b70 hb70
                    refine drM_s hS ?_; clear hS; intro w hS
                    replace hS := ro6 hS
                    replace h := bnd h
                    obtain ⟨t53, ht53, h⟩ := h
                    obtain rfl := setF ht53
                    clear ht53
                    refine sto_s hS hb70 q69r ?_; clear hS; intro w hS
                    refine drM_s hS ?_; clear hS; intro w hS
                    obtain rfl := some_inj h
                    exact hJ63 _ _ ⟨_, rfl, rfl, (hS.pick (A := [_, _, _, _, _, _, _]) [0, 0, 1, 2, 2] rfl)⟩
                  · obtain rfl := some_inj h
                    exact hJ63 _ _ ⟨_, rfl, rfl, (hS.pick (A := [_, _, _, _, _, _, _]) [6, 0, 1, 2, 2] rfl)⟩
                · clear h63 hS
                  rintro s w ⟨ws62, rfl, rfl, hS⟩
                  have h := c63
                  clear c63
                  try dsimp only
                  obtain rfl := some_inj h
                  exact hJ46 _ _ ⟨_, _, _, _, _, _, _, rfl, rfl, hS⟩
              · replace h := bnd h
                obtain ⟨o71, h71, c71⟩ := h
                refine cutM_i (fun s w =>  () = o71 ∧ s = (()) ∧ Ho w0 w ((sl a57 (m36 + 1) c57 (List.map (Value.float .f64) (ws38 ++ [z55])) N.t_float64) :: (sl a54 (m32 + 1) c54 (List.map (Value.float .f64) (ws34 ++ [z47])) N.t_float64) :: (cl r3 [.int .i64 t1, .slice a1 m1 c1, .slice a2 m2 c2] N.t_Factor) :: (sl a1 m1 c1 (List.map (Value.float .f64) ws4) N.t_float64) :: (sl a2 m2 c2 (List.map (Value.float .f64) ws30) N.t_float64) :: L)) (fun J71 hJ71 => ?_) ?_
                · have h := h71
                  clear h71
                  obtain rfl := some_inj h
                  exact hJ71 _ _ ⟨rfl, rfl, (hS.pick (A := [_, _, _, _, _, _, _]) [0, 1, 2, 2, 2] rfl)⟩
                · clear h71 hS
                  rintro s w ⟨rfl, rfl, hS⟩
                  have h := c71
                  clear c71
                  try dsimp only
                  obtain rfl := some_inj h
                  exact hJ46 _ _ ⟨_, _, _, _, _, _, _, rfl, rfl, (hS.pick (A := [_, _, _, _, _]) [4, 0, 0, 0, 0] rfl)⟩
          · clear h46 hS
            rintro s w ⟨ws39, a40, c41, ws42, a43, c44, ws45, rfl, rfl, hS⟩
            have h := c46
            clear c46
            try dsimp only
            obtain rfl := some_inj h
            exact hX _ rfl _ _ ⟨_, _, _, _, _, _, _, _, _, _, rfl, rfl, (hS.pick (A := [_, _, _, _, _]) [3, 3, 0, 1, 0] rfl)⟩
        · obtain rfl := some_inj h
          have h := congrArg some (hO _ rfl)
          obtain rfl := some_inj h
          exact hJ29 _ _ ⟨_, _, _, _, _, _, _, _, _, rfl, rfl, hS⟩
      · clear h29 hS
        rintro s w ⟨ws20, a21, m22, c23, ws24, a25, m26, c27, ws28, rfl, rfl, hS⟩
        have h := c29
        clear c29
        try dsimp only
        refine ⟨_, (hS.cel mp0 rfl), ?_⟩
        refine ⟨_, _, _, (hS.cel mp0 rfl), ?_⟩
        refine ⟨_, _, _, (hS.cel mp0 rfl), ?_⟩
        replace h := bnd h
        obtain ⟨⟨t56, t57⟩, ho56, h⟩ := h
        refine wk_solve_Solve H hS (Ent.sl mp1) (Ent.sl mp2) (Ent.sl mp3) ho56 ?_; clear hS ho56; rintro a72 m72 c72 ws72 w rfl hS
        refine ⟨_, _, _, _, rfl, ?_⟩
        refine ⟨_, (hS.cel mp1 rfl), ?_⟩
        refine ⟨_, _, _, (hS.cel mp1 rfl), ?_⟩
        refine ⟨_, _, _, (hS.cel mp1 rfl), ?_⟩
        replace h := bnd h
        obtain ⟨⟨t58, t59⟩, ho58, h⟩ := h
        refine wk_solve_Solve H hS (Ent.sl mp2) (Ent.sl mp3) (Ent.sl mp5) ho58 ?_; clear hS ho58; rintro a73 m73 c73 ws73 w rfl hS
        refine ⟨_, _, _, _, rfl, ?_⟩
        replace h := bnd h
        obtain ⟨o74, h74, c74⟩ := h
        refine cutM_i (fun s w => ∃ (t60 : Bool), t60 = o74 ∧ s = (t60, ()) ∧ Ho w0 w ((sl a73 m73 c73 (List.map (Value.float .f64) ws73) N.t_float64) :: (sl a72 m72 c72 (List.map (Value.float .f64) ws72) N.t_float64) :: (cl r3 [.int .i64 t1, .slice a1 m1 c1, .slice a2 m2 c2] N.t_Factor) :: (sl a1 m1 c1 (List.map (Value.float .f64) ws4) N.t_float64) :: (sl a2 m2 c2 (List.map (Value.float .f64) ws20) N.t_float64) :: L)) (fun J74 hJ74 => ?_) ?_
        · have h := h74
          clear h74
          refine cond_s h ?_ ?_ <;> clear h <;> intro hc h
          · refine cond_s h ?_ ?_ <;> clear h <;> intro hc h
            · replace h := bnd h
              obtain ⟨t61, ht61, h⟩ := h
              obtain rfl := lenF ht61 ((Ent.sl mp1).now (fun _ h => h) hS)
              clear ht61
              refine ⟨_, (hS.cel mp2 rfl), ?_⟩
              refine cond_s h ?_ ?_ <;> clear h <;> intro hc h
              · replace h := bnd h
                obtain ⟨t62, ht62, h⟩ := h
                obtain rfl := lenF ht62 ((Ent.sl mp0).now (fun _ h => h) hS)
                clear ht62
                refine ⟨_, (hS.cel mp2 rfl), ?_⟩
                obtain rfl := some_inj h
                exact hJ74 _ _ ⟨_, rfl, rfl, (hS.pick (A := [_, _, _, _, _, _, _]) [0, 0, 0, 0, 0] rfl)⟩
              · obtain rfl := some_inj h
                exact hJ74 _ _ ⟨_, rfl, rfl, (hS.pick (A := [_, _, _, _, _, _, _]) [0, 0, 0, 0, 0] rfl)⟩
            · obtain rfl := some_inj h
              exact hJ74 _ _ ⟨_, rfl, rfl, (hS.pick (A := [_, _, _, _, _, _, _]) [0, 0, 0, 0, 0] rfl)⟩
          · obtain rfl := some_inj h
            exact hJ74 _ _ ⟨_, rfl, rfl, (hS.pick (A := [_, _, _, _, _, _, _]) [0, 0, 0, 0, 0] rfl)⟩
        · clear h74 hS
          rintro s w ⟨t60, rfl, rfl, hS⟩
          have h := c74
          clear c74
          try dsimp only
          refine cond_s h ?_ ?_ <;> clear h <;> intro hc h
          · have h := some_inj h
            cases h
            exact hK _ (hS.pick (A := [_, _, _, _, _]) [] rfl)
          · replace h := bnd h
            obtain ⟨o75, h75, c75⟩ := h
            refine cutM_i (fun s w =>  .inl () = o75 ∧ s = (()) ∧ Ho w0 w (L)) (fun J75 hJ75 => ?_) ?_
            · have h := h75
              clear h75
              refine iter_sim (fun s w t => ∃ (t63 : Int), t63 = t ∧ s = (t63, ()) ∧ Ho w0 w ((sl a73 m73 c73 (List.map (Value.float .f64) ws73) N.t_float64) :: (sl a72 m72 c72 (List.map (Value.float .f64) ws72) N.t_float64) :: (cl r3 [.int .i64 t1, .slice a1 m1 c1, .slice a2 m2 c2] N.t_Factor) :: (sl a1 m1 c1 (List.map (Value.float .f64) ws4) N.t_float64) :: (sl a2 m2 c2 (List.map (Value.float .f64) ws20) N.t_float64) :: L)) ?_ h ⟨_, rfl, rfl, hS⟩
              clear h hS
              rintro s w t X q ⟨t63, rfl, rfl, hS⟩ h hX hO
              unfold T_girderlaw13_SolveScales_b8 at h
              try dsimp only
              refine ⟨_, (hS.cel mp2 rfl), ?_⟩
              refine cond_s h ?_ ?_ <;> clear h <;> intro hc h
              · replace h := bnd h
                obtain ⟨t64, ht64, h⟩ := h
                obtain ⟨z76, rfl, q77x, q77l, q77r⟩ := atF ht64
                clear ht64
                refine idx_s ((Ent.sl mp0).now (fun _ h => h) hS) q77x q77l q77r ?_; intro b78 hb78
                refine ⟨_, rd_get ((Ent.sl mp0).now (fun _ h => h) hS) hb78 q77x, ?_⟩
                replace h := bnd h
                obtain ⟨t65, ht65, h⟩ := h
                obtain ⟨z79, rfl, q80x, q80l, q80r⟩ := atF ht65
                clear ht65
                refine idx_s ((Ent.sl mp1).now (fun _ h => h) hS) q80x q80l q80r ?_; intro b81 hb81
                refine ⟨_, rd_get ((Ent.sl mp1).now (fun _ h => h) hS) hb81 q80x, ?_⟩
                replace h := bnd h
                obtain ⟨t66, ht66, h⟩ := h
                refine fmul_s ht66 hS ?_; clear ht66; rintro z82 _ rfl _
                refine drM_s hS ?_; clear hS; intro w hS
                replace h := bnd h
                obtain ⟨t67, ht67, h⟩ := h
                refine wk_girderkit_SameFloat H hS  ht67 ?_; clear hS ht67; rintro w hS
                refine ⟨_, rfl, ?_⟩
                refine ⟨rd_get ((Ent.sl mp1).now (fun _ h => h) hS) hb81 q80x, ?_⟩
                refine drM_s hS ?_; clear hS; intro w hS
                refine cond_s h ?_ ?_ <;> clear h <;> intro hc h
                · obtain rfl := some_inj h
                  have h := congrArg some (hO _ rfl)
                  obtain rfl := some_inj h
                  have h := c75
                  have h := some_inj h
                  cases h
                  exact hK _ (hS.pick (A := [_, _, _, _, _]) [] rfl)
                · obtain rfl := some_inj h
                  exact hX _ rfl _ _ ⟨_, rfl, rfl, hS⟩
              · obtain rfl := some_inj h
                have h := congrArg some (hO _ rfl)
                obtain rfl := some_inj h
                exact hJ75 _ _ ⟨rfl, rfl, (hS.pick (A := [_, _, _, _, _]) [] rfl)⟩
            · clear h75 hS
              rintro s w ⟨rfl, rfl, hS⟩
              have h := c75
              clear c75
              try dsimp only
              replace h := bnd h
              obtain ⟨t68, ht68, h⟩ := h
              refine wk_girderlaw13_awake H hS  ht68 ?_; clear hS ht68; rintro w hS
              refine ⟨_, rfl, ?_⟩
              have h := some_inj h
              cases h
              exact hK _ hS

theorem wk_girderlaw13_one {N : Nums} {P : Program} (H : AllOk N P) {w0 w : World} {L : List It} {q0 : Nat} {u0 : Int} {u1 : List Nat} {u2 : List Nat} (hS : Ho w0 w L)  (hx : T_girderlaw13_one (nf q0) = some (u0, u1, u2)) {K : Value → World → Prop} (hK : ∀ (a1 : Option Addr) (n1 c1 : Nat) (rws1 : List Nat) (a2 : Option Addr) (n2 c2 : Nat) (rws2 : List Nat) (w1 : World), List.map nf rws1 = u1 → List.map nf rws2 = u2 → Ho w0 w1 ((sl a1 n1 c1 (List.map (Value.float .f64) rws1) N.t_float64) :: (sl a2 n2 c2 (List.map (Value.float .f64) rws2) N.t_float64) :: L) → K (.agg #[.int .i64 u0, .slice a1 n1 c1, .slice a2 n2 c2]) w1) : CallsX P N.f_girderlaw13_one #[.float .f64 q0] w K := by
  refine H.girderlaw13_one q0 w _ ?_
  unfold S_girderlaw13_one
  unfold T_girderlaw13_one at hx
  have h := hx
  clear hx
  try dsimp only
  refine newM_s hS ?_; clear hS; intro r1 w hS
  replace h := bnd h
  obtain ⟨t1, ht1, h⟩ := h
  obtain rfl : (List.map nf ([q0] : List Nat)) = t1 := some_inj ht1
  clear ht1
  refine lit_s (ks := [q0]) (enc := (Value.float .f64)) (m := 1) hS rfl rfl ?_; clear hS; intro r2 w hS
  replace hS := ro1 hS
  refine stc_s hS rfl rfl ?_; clear hS; intro w hS
  refine stc_s hS rfl rfl ?_; clear hS; intro w hS
  refine stc_s hS rfl rfl ?_; clear hS; intro w hS
  refine ⟨_, (hS.cel mp0 rfl), ?_⟩
  refine ⟨_, _, _, (hS.cel mp0 rfl), ?_⟩
  refine ⟨_, _, _, (hS.cel mp0 rfl), ?_⟩
  replace hS := hS.none (α := Nat) (enc := (Value.float .f64)) (t := N.t_float64)
  have h := some_inj h
  cases h
  exact hK _ _ _ _ _ _ _ _ _ rfl rfl (hS.pick (A := [_, _, _]) [0, 1] rfl)

theorem wk_math_Float64frombits {N : Nums} {P : Program} (H : AllOk N P) {w0 w : World} {L : List It} {q0 : Int} {u0 : Nat} (hS : Ho w0 w L)  (hx : T_math_Float64frombits q0 = some u0) {K : Value → World → Prop} (hK : ∀ (z0 : Nat) (w1 : World), nf z0 = u0 → Ho w0 w1 (L) → K (.float .f64 z0) w1) : CallsX P N.f_math_Float64frombits #[.int .u64 q0] w K := by
  unfold T_math_Float64frombits at hx
  have hx := some_inj hx
  exact H.math_Float64frombits q0 w _ (hK _ _ hx hS)

theorem wk_math_Copysign {N : Nums} {P : Program} (H : AllOk N P) {w0 w : World} {L : List It} {q0 : Nat} {q1 : Nat} {u0 : Nat} (hS : Ho w0 w L)  (hx : T_math_Copysign (nf q0) (nf q1) = some u0) {K : Value → World → Prop} (hK : ∀ (z0 : Nat) (w1 : World), nf z0 = u0 → Ho w0 w1 (L) → K (.float .f64 z0) w1) : CallsX P N.f_math_Copysign #[.float .f64 q0, .float .f64 q1] w K := by
  unfold T_math_Copysign at hx
  have hn : isNaN q1 = false := by
    cases e : isNaN q1 with
    | false => rfl
    | true => rw [isNaN_nf, e] at hx; cases hx
  rw [isNaN_nf, hn, nf_of_not hn] at hx
  have hx := some_inj hx
  refine (copysign_c H q0 q1 w).mono ?_
  rintro _ w1 ⟨rfl, h1⟩
  exact hK _ _ ((nf_copy _ _).symm.trans hx) (hS.next h1)

theorem wk_math_Inf {N : Nums} {P : Program} (H : AllOk N P) {w0 w : World} {L : List It} {q0 : Int} {u0 : Nat} (hS : Ho w0 w L)  (hx : T_math_Inf q0 = some u0) {K : Value → World → Prop} (hK : ∀ (z0 : Nat) (w1 : World), nf z0 = u0 → Ho w0 w1 (L) → K (.float .f64 z0) w1) : CallsX P N.f_math_Inf #[.int .i64 q0] w K := by
  refine H.math_Inf q0 w _ ?_
  unfold S_math_Inf
  unfold T_math_Inf at hx
  have h := hx
  clear hx
  try dsimp only
  replace h := bnd h
  obtain ⟨o1, h1, c1⟩ := h
  refine cutM_i (fun s w => ∃ (t1 : Int), t1 = o1 ∧ s = (t1, ()) ∧ Ho w0 w (L)) (fun J1 hJ1 => ?_) ?_
  · have h := h1
    clear h1
    refine cond_s h ?_ ?_ <;> clear h <;> intro hc h
    · obtain rfl := some_inj h
      exact hJ1 _ _ ⟨_, rfl, rfl, hS⟩
    · obtain rfl := some_inj h
      exact hJ1 _ _ ⟨_, rfl, rfl, hS⟩
  · clear h1 hS
    rintro s w ⟨t1, rfl, rfl, hS⟩
    have h := c1
    clear c1
    try dsimp only
    replace h := bnd h
    obtain ⟨t2, ht2, h⟩ := h
    refine wk_math_Float64frombits H hS  ht2 ?_; clear hS ht2; rintro z2 w rfl hS
    refine ⟨_, rfl, ?_⟩
    have h := some_inj h
    cases h
    exact hK _ _ rfl hS

theorem wk_math_NaN {N : Nums} {P : Program} (H : AllOk N P) {w0 w : World} {L : List It}  {u0 : Nat} (hS : Ho w0 w L)  (hx : T_math_NaN  = some u0) {K : Value → World → Prop} (hK : ∀ (z0 : Nat) (w1 : World), nf z0 = u0 → Ho w0 w1 (L) → K (.float .f64 z0) w1) : CallsX P N.f_math_NaN #[] w K := by
  refine H.math_NaN  w _ ?_
  unfold S_math_NaN
  unfold T_math_NaN at hx
  have h := hx
  clear hx
  try dsimp only
  replace h := bnd h
  obtain ⟨t1, ht1, h⟩ := h
  refine wk_math_Float64frombits H hS  ht1 ?_; clear hS ht1; rintro z1 w rfl hS
  refine ⟨_, rfl, ?_⟩
  have h := some_inj h
  cases h
  exact hK _ _ rfl hS

theorem wk_girderlaw13_SolveNumbers {N : Nums} {P : Program} (H : AllOk N P) {w0 w : World} {L : List It}  {u0 : Bool} (hS : Ho w0 w L)  (hx : T_girderlaw13_SolveNumbers  = some u0) {K : Value → World → Prop} (hK : ∀  (w1 : World), Ho w0 w1 (L) → K (.bool u0) w1) : CallsX P N.f_girderlaw13_SolveNumbers #[] w K := by
  refine H.girderlaw13_SolveNumbers  w _ ?_
  unfold S_girderlaw13_SolveNumbers
  unfold T_girderlaw13_SolveNumbers at hx
  have h := hx
  clear hx
  try dsimp only
  replace h := bnd h
  obtain ⟨⟨t1, t2, t3⟩, ho1, h⟩ := h
  refine wk_girderlaw13_one H hS  ho1 ?_; clear hS ho1; rintro a1 m1 c1 ws1 a2 m2 c2 ws2 w rfl rfl hS
  refine ⟨_, _, _, _, _, _, _, rfl, ?_⟩
  replace h := bnd h
  obtain ⟨t4, ht4, h⟩ := h
  obtain rfl : (List.map nf ([4617315517961601024] : List Nat)) = t4 := some_inj ht4
  clear ht4
  refine lit_s (ks := [4617315517961601024]) (enc := (Value.float .f64)) (m := 1) hS rfl rfl ?_; clear hS; intro r3 w hS
  replace h := bnd h
  obtain ⟨⟨t5, t6⟩, ho5, h⟩ := h
  refine wk_solve_Forward H hS (Ent.sl mp1) (Ent.sl mp2) (Ent.sl mp0) ho5 ?_; clear hS ho5; rintro a4 m4 c4 ws4 w rfl hS
  refine ⟨_, _, _, _, rfl, ?_⟩
  replace h := bnd h
  obtain ⟨⟨t7, t8, t9⟩, ho7, h⟩ := h
  refine wk_girderlaw13_one H hS  ho7 ?_; clear hS ho7; rintro a5 m5 c5 ws5 a6 m6 c6 ws6 w rfl rfl hS
  refine ⟨_, _, _, _, _, _, _, rfl, ?_⟩
  replace h := bnd h
  obtain ⟨t10, ht10, h⟩ := h
  obtain rfl : (List.map nf ([4617315517961601024] : List Nat)) = t10 := some_inj ht10
  clear ht10
  refine lit_s (ks := [4617315517961601024]) (enc := (Value.float .f64)) (m := 1) hS rfl rfl ?_; clear hS; intro r7 w hS
  replace h := bnd h
  obtain ⟨⟨t11, t12⟩, ho11, h⟩ := h
  refine wk_solve_Solve H hS (Ent.sl mp1) (Ent.sl mp2) (Ent.sl mp0) ho11 ?_; clear hS ho11; rintro a8 m8 c8 ws8 w rfl hS
  refine ⟨_, _, _, _, rfl, ?_⟩
  replace h := bnd h
  obtain ⟨t13, ht13, h⟩ := h
  refine wk_math_Copysign H hS  ht13 ?_; clear hS ht13; rintro z9 w rfl hS
  refine ⟨_, rfl, ?_⟩
  replace h := bnd h
  obtain ⟨⟨t14, t15, t16⟩, ho14, h⟩ := h
  refine wk_girderlaw13_one H hS  ho14 ?_; clear hS ho14; rintro a10 m10 c10 ws10 a11 m11 c11 ws11 w rfl rfl hS
  refine ⟨_, _, _, _, _, _, _, rfl, ?_⟩
  replace h := bnd h
  obtain ⟨t17, ht17, h⟩ := h
  obtain rfl : (List.map nf ([4617315517961601024] : List Nat)) = t17 := some_inj ht17
  clear ht17
  refine lit_s (ks := [4617315517961601024]) (enc := (Value.float .f64)) (m := 1) hS rfl rfl ?_; clear hS; intro r12 w hS
  replace h := bnd h
  obtain ⟨⟨t18, t19⟩, ho18, h⟩ := h
  refine wk_solve_Back H hS (Ent.sl mp1) (Ent.sl mp2) (Ent.sl mp0) ho18 ?_; clear hS ho18; rintro a13 m13 c13 ws13 w rfl hS
  refine ⟨_, _, _, _, rfl, ?_⟩
  replace h := bnd h
  obtain ⟨t20, ht20, h⟩ := h
  refine wk_math_Inf H hS  ht20 ?_; clear hS ht20; rintro z14 w rfl hS
  refine ⟨_, rfl, ?_⟩
  replace h := bnd h
  obtain ⟨⟨t21, t22, t23⟩, ho21, h⟩ := h
  refine wk_girderlaw13_one H hS  ho21 ?_; clear hS ho21; rintro a15 m15 c15 ws15 a16 m16 c16 ws16 w rfl rfl hS
  refine ⟨_, _, _, _, _, _, _, rfl, ?_⟩
  replace h := bnd h
  obtain ⟨t24, ht24, h⟩ := h
  obtain rfl : (List.map nf ([13840687554816376832] : List Nat)) = t24 := some_inj ht24
  clear ht24
  refine lit_s (ks := [13840687554816376832]) (enc := (Value.float .f64)) (m := 1) hS rfl rfl ?_; clear hS; intro r17 w hS
  replace h := bnd h
  obtain ⟨⟨t25, t26⟩, ho25, h⟩ := h
  refine wk_solve_Solve H hS (Ent.sl mp1) (Ent.sl mp2) (Ent.sl mp0) ho25 ?_; clear hS ho25; rintro a18 m18 c18 ws18 w rfl hS
  refine ⟨_, _, _, _, rfl, ?_⟩
  replace h := bnd h
  obtain ⟨t27, ht27, h⟩ := h
  refine wk_math_NaN H hS  ht27 ?_; clear hS ht27; rintro z19 w rfl hS
  refine ⟨_, rfl, ?_⟩
  replace h := bnd h
  obtain ⟨⟨t28, t29, t30⟩, ho28, h⟩ := h
  refine wk_girderlaw13_one H hS  ho28 ?_; clear hS ho28; rintro a20 m20 c20 ws20 a21 m21 c21 ws21 w rfl rfl hS
  refine ⟨_, _, _, _, _, _, _, rfl, ?_⟩
  replace h := bnd h
  obtain ⟨t31, ht31, h⟩ := h
  obtain rfl : (List.map nf ([4617315517961601024] : List Nat)) = t31 := some_inj ht31
  clear ht31
  refine lit_s (ks := [4617315517961601024]) (enc := (Value.float .f64)) (m := 1) hS rfl rfl ?_; clear hS; intro r22 w hS
  replace h := bnd h
  obtain ⟨⟨t32, t33⟩, ho32, h⟩ := h
  refine wk_solve_Solve H hS (Ent.sl mp1) (Ent.sl mp2) (Ent.sl mp0) ho32 ?_; clear hS ho32; rintro a23 m23 c23 ws23 w rfl hS
  refine ⟨_, _, _, _, rfl, ?_⟩
  replace h := bnd h
  obtain ⟨⟨t34, t35, t36⟩, ho34, h⟩ := h
  refine wk_girderlaw13_one H hS  ho34 ?_; clear hS ho34; rintro a24 m24 c24 ws24 a25 m25 c25 ws25 w rfl rfl hS
  refine ⟨_, _, _, _, _, _, _, rfl, ?_⟩
  replace h := bnd h
  obtain ⟨t37, ht37, h⟩ := h
  obtain rfl : (List.map nf ([4617315517961601024, 4617315517961601024] : List Nat)) = t37 := some_inj ht37
  clear ht37
  refine lit_s (ks := [4617315517961601024, 4617315517961601024]) (enc := (Value.float .f64)) (m := 2) hS rfl rfl ?_; clear hS; intro r26 w hS
  replace h := bnd h
  obtain ⟨⟨t38, t39⟩, ho38, h⟩ := h
  refine wk_solve_Solve H hS (Ent.sl mp1) (Ent.sl mp2) (Ent.sl mp0) ho38 ?_; clear hS ho38; rintro a27 m27 c27 ws27 w rfl hS
  refine ⟨_, _, _, _, rfl, ?_⟩
  replace h := bnd h
  obtain ⟨t40, ht40, h⟩ := h
  obtain rfl : (List.map nf ([4607182418800017408, 4607182418800017408] : List Nat)) = t40 := some_inj ht40
  clear ht40
  refine lit_s (ks := [4607182418800017408, 4607182418800017408]) (enc := (Value.float .f64)) (m := 2) hS rfl rfl ?_; clear hS; intro r28 w hS
  replace h := bnd h
  obtain ⟨t41, ht41, h⟩ := h
  obtain rfl : (List.map nf ([4617315517961601024, 4617315517961601024] : List Nat)) = t41 := some_inj ht41
  clear ht41
  refine lit_s (ks := [4617315517961601024, 4617315517961601024]) (enc := (Value.float .f64)) (m := 2) hS rfl rfl ?_; clear hS; intro r29 w hS
  replace h := bnd h
  obtain ⟨⟨t42, t43⟩, ho42, h⟩ := h
  refine wk_solve_Forward H hS (Ent.nil _) (Ent.sl mp1) (Ent.sl mp0) ho42 ?_; clear hS ho42; rintro a30 m30 c30 ws30 w rfl hS
  refine ⟨_, _, _, _, rfl, ?_⟩
  replace h := bnd h
  obtain ⟨⟨t44, t45⟩, ho44, h⟩ := h
  refine wk_solve_Solve H hS (Ent.nil _) (Ent.nil _) (Ent.nil _) ho44 ?_; clear hS ho44; rintro a31 m31 c31 ws31 w rfl hS
  refine ⟨_, _, _, _, rfl, ?_⟩
  replace h := bnd h
  obtain ⟨⟨t46, t47, t48, t49⟩, ho46, h⟩ := h
  refine wk_solve_Inverse H hS (Ent.nil _) (Ent.nil _) ho46 ?_; clear hS ho46; rintro a32 m32 c32 ws32 w rfl hS
  refine ⟨_, _, _, _, _, _, rfl, ?_⟩
  refine newM_s hS ?_; clear hS; intro r33 w hS
  refine stc_s hS rfl rfl ?_; clear hS; intro w hS
  refine stc_s hS rfl rfl ?_; clear hS; intro w hS
  refine stc_s hS rfl rfl ?_; clear hS; intro w hS
  replace h := bnd h
  obtain ⟨⟨t50, t51, t52⟩, ho50, h⟩ := h
  refine wk_girderlaw13_one H hS  ho50 ?_; clear hS ho50; rintro a34 m34 c34 ws34 a35 m35 c35 ws35 w rfl rfl hS
  refine ⟨_, _, _, _, _, _, _, rfl, ?_⟩
  replace h := bnd h
  obtain ⟨⟨t53, t54, t55, t56⟩, ho53, h⟩ := h
  refine wk_solve_Inverse H hS (Ent.sl mp0) (Ent.sl mp1) ho53 ?_; clear hS ho53; rintro a36 m36 c36 ws36 w rfl hS
  refine ⟨_, _, _, _, _, _, rfl, ?_⟩
  refine newM_s hS ?_; clear hS; intro r37 w hS
  refine stc_s hS rfl rfl ?_; clear hS; intro w hS
  refine stc_s hS rfl rfl ?_; clear hS; intro w hS
  refine stc_s hS rfl rfl ?_; clear hS; intro w hS
  replace h := bnd h
  obtain ⟨o38, h38, c38⟩ := h
  refine cutM_i (fun s w => ∃ (t57 : Bool), t57 = o38 ∧ s = (t57, ()) ∧ Ho w0 w ((cl r37 [.int .i64 t53, .int .i64 t54, .slice a36 m36 c36] N.t_Matrix) :: (sl a36 m36 c36 (List.map (Value.float .f64) ws36) N.t_float64) :: (sl a30 m30 c30 (List.map (Value.float .f64) ws30) N.t_float64) :: (sl a27 m27 c27 (List.map (Value.float .f64) ws27) N.t_float64) :: (sl a13 m13 c13 (List.map (Value.float .f64) ws13) N.t_float64) :: (sl a8 m8 c8 (List.map (Value.float .f64) ws8) N.t_float64) :: L)) (fun J38 hJ38 => ?_) ?_
  · have h := h38
    clear h38
    replace h := bnd h
    obtain ⟨t58, ht58, h⟩ := h
    obtain rfl : (List.map nf ([4617315517961601024] : List Nat)) = t58 := some_inj ht58
    clear ht58
    refine lit_s (ks := [4617315517961601024]) (enc := (Value.float .f64)) (m := 1) hS rfl rfl ?_; clear hS; intro r39 w hS
    replace h := bnd h
    obtain ⟨t59, ht59, h⟩ := h
    refine wk_girderlaw13_is H hS (Ent.sl mp31) (Ent.sl mp0) ht59 ?_; clear hS ht59; rintro w hS
    refine ⟨_, rfl, ?_⟩
    refine cond_s h ?_ ?_ <;> clear h <;> intro hc h
    · replace h := bnd h
      obtain ⟨t60, ht60, h⟩ := h
      refine wk_math_Copysign H hS  ht60 ?_; clear hS ht60; rintro z40 w rfl hS
      refine ⟨_, rfl, ?_⟩
      replace h := bnd h
      obtain ⟨t61, ht61, h⟩ := h
      obtain rfl : (List.map nf ([z40] : List Nat)) = t61 := some_inj ht61
      clear ht61
      refine lit_s (ks := [z40]) (enc := (Value.float .f64)) (m := 1) hS rfl rfl ?_; clear hS; intro r41 w hS
      replace h := bnd h
      obtain ⟨t62, ht62, h⟩ := h
      refine wk_girderlaw13_is H hS (Ent.sl mp20) (Ent.sl mp0) ht62 ?_; clear hS ht62; rintro w hS
      refine ⟨_, rfl, ?_⟩
      refine cond_s h ?_ ?_ <;> clear h <;> intro hc h
      · replace h := bnd h
        obtain ⟨t63, ht63, h⟩ := h
        refine wk_math_NaN H hS  ht63 ?_; clear hS ht63; rintro z42 w rfl hS
        refine ⟨_, rfl, ?_⟩
        replace h := bnd h
        obtain ⟨t64, ht64, h⟩ := h
        obtain rfl : (List.map nf ([z42] : List Nat)) = t64 := some_inj ht64
        clear ht64
        refine lit_s (ks := [z42]) (enc := (Value.float .f64)) (m := 1) hS rfl rfl ?_; clear hS; intro r43 w hS
        replace h := bnd h
        obtain ⟨t65, ht65, h⟩ := h
        refine wk_girderlaw13_is H hS (Ent.sl mp17) (Ent.sl mp0) ht65 ?_; clear hS ht65; rintro w hS
        refine ⟨_, rfl, ?_⟩
        refine cond_s h ?_ ?_ <;> clear h <;> intro hc h
        · replace h := bnd h
          obtain ⟨t66, ht66, h⟩ := h
          refine wk_girderlaw13_is H hS (Ent.sl mp9) (Ent.nil _) ht66 ?_; clear hS ht66; rintro w hS
          refine ⟨_, rfl, ?_⟩
          refine cond_s h ?_ ?_ <;> clear h <;> intro hc h
          · refine cond_s h ?_ ?_ <;> clear h <;> intro hc h
            · refine ⟨_, (hS.cel mp7 rfl), ?_⟩
              refine ⟨_, (hS.cel mp7 rfl), ?_⟩
              refine ⟨_, _, _, (hS.cel mp7 rfl), ?_⟩
              replace h := bnd h
              obtain ⟨t67, ht67, h⟩ := h
              obtain rfl := lenF ht67 ((Ent.sl mp8).now (fun _ h => h) hS)
              clear ht67
              obtain rfl := some_inj h
              exact hJ38 _ _ ⟨_, rfl, rfl, (hS.pick (A := [_, _, _, _, _, _, _, _, _, _, _, _, _, _, _, _, _, _, _, _, _, _, _, _, _, _, _, _, _, _, _, _, _, _, _, _, _]) [3, 3, 8, 10, 21, 24] rfl)⟩
            · obtain rfl := some_inj h
              exact hJ38 _ _ ⟨_, rfl, rfl, (hS.pick (A := [_, _, _, _, _, _, _, _, _, _, _, _, _, _, _, _, _, _, _, _, _, _, _, _, _, _, _, _, _, _, _, _, _, _, _, _, _]) [3, 3, 8, 10, 21, 24] rfl)⟩
          · obtain rfl := some_inj h
            exact hJ38 _ _ ⟨_, rfl, rfl, (hS.pick (A := [_, _, _, _, _, _, _, _, _, _, _, _, _, _, _, _, _, _, _, _, _, _, _, _, _, _, _, _, _, _, _, _, _, _, _, _, _]) [3, 3, 8, 10, 21, 24] rfl)⟩
        · obtain rfl := some_inj h
          exact hJ38 _ _ ⟨_, rfl, rfl, (hS.pick (A := [_, _, _, _, _, _, _, _, _, _, _, _, _, _, _, _, _, _, _, _, _, _, _, _, _, _, _, _, _, _, _, _, _, _, _, _, _]) [3, 3, 8, 10, 21, 24] rfl)⟩
      · obtain rfl := some_inj h
        exact hJ38 _ _ ⟨_, rfl, rfl, (hS.pick (A := [_, _, _, _, _, _, _, _, _, _, _, _, _, _, _, _, _, _, _, _, _, _, _, _, _, _, _, _, _, _, _, _, _, _, _, _]) [2, 2, 7, 9, 20, 23] rfl)⟩
    · obtain rfl := some_inj h
      exact hJ38 _ _ ⟨_, rfl, rfl, (hS.pick (A := [_, _, _, _, _, _, _, _, _, _, _, _, _, _, _, _, _, _, _, _, _, _, _, _, _, _, _, _, _, _, _, _, _, _, _]) [1, 1, 6, 8, 19, 22] rfl)⟩
  · clear h38 hS
    rintro s w ⟨t57, rfl, rfl, hS⟩
    have h := c38
    clear c38
    try dsimp only
    replace h := bnd h
    obtain ⟨o44, h44, c44⟩ := h
    refine cutM_i (fun s w => ∃ (t68 : Bool), t68 = o44 ∧ s = (t68, ()) ∧ Ho w0 w (L)) (fun J44 hJ44 => ?_) ?_
    · have h := h44
      clear h44
      replace h := bnd h
      obtain ⟨t69, ht69, h⟩ := h
      refine wk_girderlaw13_is H hS (Ent.sl mp5) (Ent.nil _) ht69 ?_; clear hS ht69; rintro w hS
      refine ⟨_, rfl, ?_⟩
      refine cond_s h ?_ ?_ <;> clear h <;> intro hc h
      · replace h := bnd h
        obtain ⟨t70, ht70, h⟩ := h
        refine wk_girderlaw13_is H hS (Ent.sl mp4) (Ent.nil _) ht70 ?_; clear hS ht70; rintro w hS
        refine ⟨_, rfl, ?_⟩
        refine cond_s h ?_ ?_ <;> clear h <;> intro hc h
        · replace h := bnd h
          obtain ⟨t71, ht71, h⟩ := h
          refine wk_girderlaw13_is H hS (Ent.sl mp3) (Ent.nil _) ht71 ?_; clear hS ht71; rintro w hS
          refine ⟨_, rfl, ?_⟩
          refine cond_s h ?_ ?_ <;> clear h <;> intro hc h
          · replace h := bnd h
            obtain ⟨t72, ht72, h⟩ := h
            refine wk_girderlaw13_is H hS (Ent.sl mp2) (Ent.nil _) ht72 ?_; clear hS ht72; rintro w hS
            refine ⟨_, rfl, ?_⟩
            refine cond_s h ?_ ?_ <;> clear h <;> intro hc h
            · refine cond_s h ?_ ?_ <;> clear h <;> intro hc h
              · refine ⟨_, (hS.cel mp0 rfl), ?_⟩
                refine ⟨_, (hS.cel mp0 rfl), ?_⟩
                refine ⟨_, _, _, (hS.cel mp0 rfl), ?_⟩
                replace h := bnd h
                obtain ⟨t73, ht73, h⟩ := h
                refine wk_girderkit_SameMatrix H hS (Ent.sl mp1) (Ent.nil _) ht73 ?_; clear hS ht73; rintro w hS
                refine ⟨_, rfl, ?_⟩
                obtain rfl := some_inj h
                exact hJ44 _ _ ⟨_, rfl, rfl, (hS.pick (A := [_, _, _, _, _, _]) [] rfl)⟩
              · obtain rfl := some_inj h
                exact hJ44 _ _ ⟨_, rfl, rfl, (hS.pick (A := [_, _, _, _, _, _]) [] rfl)⟩
            · obtain rfl := some_inj h
              exact hJ44 _ _ ⟨_, rfl, rfl, (hS.pick (A := [_, _, _, _, _, _]) [] rfl)⟩
          · obtain rfl := some_inj h
            exact hJ44 _ _ ⟨_, rfl, rfl, (hS.pick (A := [_, _, _, _, _, _]) [] rfl)⟩
        · obtain rfl := some_inj h
          exact hJ44 _ _ ⟨_, rfl, rfl, (hS.pick (A := [_, _, _, _, _, _]) [] rfl)⟩
      · obtain rfl := some_inj h
        exact hJ44 _ _ ⟨_, rfl, rfl, (hS.pick (A := [_, _, _, _, _, _]) [] rfl)⟩
    · clear h44 hS
      rintro s w ⟨t68, rfl, rfl, hS⟩
      have h := c44
      clear c44
      try dsimp only
      replace h := bnd h
      obtain ⟨o50, h50, c50⟩ := h
      refine cutM_i (fun s w => ∃ (r45 : Nat) (r46 : Nat) (ws47 : List Nat) (r48 : Nat) (ws49 : List Nat), ((List.map nf ws47), (List.map nf ws49)) = o50 ∧ s = ((some ⟨r45, 0, none⟩), ()) ∧ Ho w0 w ((cl r45 [.int .i64 48, .slice (some ⟨r48, 0, none⟩) ((1128 : Int).toNat) ((1128 : Int).toNat), .slice (some ⟨r46, 0, none⟩) ((48 : Int).toNat) ((48 : Int).toNat)] N.t_Factor) :: (sl (some ⟨r46, 0, none⟩) ((48 : Int).toNat) ((48 : Int).toNat) (List.map (Value.float .f64) ws47) N.t_float64) :: (sl (some ⟨r48, 0, none⟩) ((1128 : Int).toNat) ((1128 : Int).toNat) (List.map (Value.float .f64) ws49) N.t_float64) :: L)) (fun J50 hJ50 => ?_) ?_
      · have h := h50
        clear h50
        replace h := bnd h
        obtain ⟨t76, ht76, h⟩ := h
        replace h := bnd h
        obtain ⟨t77, ht77, h⟩ := h
        refine ⟨?_, ?_, ?_⟩
        · refine drM_s hS ?_; clear hS; intro w hS
          skip
          skip
          obtain ⟨rfl, kt76⟩ := mkF ht76
          clear ht76
          refine mk_s (enc := (Value.float .f64)) hS kt76 rfl ?_; clear hS kt76; intro r51 w hS
          refine ⟨?_, ?_⟩
          · refine drM_s hS ?_; clear hS; intro w hS
            skip
            skip
            obtain ⟨rfl, kt77⟩ := mkF ht77
            clear ht77
            refine mk_s (enc := (Value.float .f64)) hS kt77 rfl ?_; clear hS kt77; intro r52 w hS
            refine drM_s hS ?_; clear hS; intro w hS
            refine newM_s hS ?_; clear hS; intro r53 w hS
            refine drM_s hS ?_; clear hS; intro w hS
            refine stc_s hS rfl rfl ?_; clear hS; intro w hS
            refine stc_s hS rfl rfl ?_; clear hS; intro w hS
            refine stc_s hS rfl rfl ?_; clear hS; intro w hS
            refine drM_s hS ?_; clear hS; intro w hS
            obtain rfl := some_inj h
            exact hJ50 _ _ ⟨_, _, _, _, _, rfl, rfl, hS⟩
          · refine drM_s hS ?_; clear hS; intro w hS
            refine newM_s hS ?_; clear hS; intro r54 w hS
            refine drM_s hS ?_; clear hS; intro w hS
            skip
            skip
            obtain ⟨rfl, kt77⟩ := mkF ht77
            clear ht77
            refine mk_s (enc := (Value.float .f64)) hS kt77 rfl ?_; clear hS kt77; intro r55 w hS
            refine drM_s hS ?_; clear hS; intro w hS
            replace hS := ro1 hS
            refine stc_s hS rfl rfl ?_; clear hS; intro w hS
            refine stc_s hS rfl rfl ?_; clear hS; intro w hS
            refine stc_s hS rfl rfl ?_; clear hS; intro w hS
            refine drM_s hS ?_; clear hS; intro w hS
            obtain rfl := some_inj h
            exact hJ50 _ _ ⟨_, _, _, _, _, rfl, rfl, hS⟩
        · refine drM_s hS ?_; clear hS; intro w hS
          skip
          skip
          obtain ⟨rfl, kt77⟩ := mkF ht77
          clear ht77
          refine mk_s (enc := (Value.float .f64)) hS kt77 rfl ?_; clear hS kt77; intro r56 w hS
          refine ⟨?_, ?_⟩
          · refine drM_s hS ?_; clear hS; intro w hS
            skip
            skip
            obtain ⟨rfl, kt76⟩ := mkF ht76
            clear ht76
            refine mk_s (enc := (Value.float .f64)) hS kt76 rfl ?_; clear hS kt76; intro r57 w hS
            refine drM_s hS ?_; clear hS; intro w hS
            refine newM_s hS ?_; clear hS; intro r58 w hS
            refine drM_s hS ?_; clear hS; intro w hS
            refine stc_s hS rfl rfl ?_; clear hS; intro w hS
            refine stc_s hS rfl rfl ?_; clear hS; intro w hS
            refine stc_s hS rfl rfl ?_; clear hS; intro w hS
            refine drM_s hS ?_; clear hS; intro w hS
            obtain rfl := some_inj h
            exact hJ50 _ _ ⟨_, _, _, _, _, rfl, rfl, (hS.pick (A := [_, _, _]) [0, 1, 0] rfl)⟩
          · refine drM_s hS ?_; clear hS; intro w hS
            refine newM_s hS ?_; clear hS; intro r59 w hS
            refine drM_s hS ?_; clear hS; intro w hS
            skip
            skip
            obtain ⟨rfl, kt76⟩ := mkF ht76
            clear ht76
            refine mk_s (enc := (Value.float .f64)) hS kt76 rfl ?_; clear hS kt76; intro r60 w hS
            refine drM_s hS ?_; clear hS; intro w hS
            replace hS := ro1 hS
            refine stc_s hS rfl rfl ?_; clear hS; intro w hS
            refine stc_s hS rfl rfl ?_; clear hS; intro w hS
            refine stc_s hS rfl rfl ?_; clear hS; intro w hS
            refine drM_s hS ?_; clear hS; intro w hS
            obtain rfl := some_inj h
            exact hJ50 _ _ ⟨_, _, _, _, _, rfl, rfl, (hS.pick (A := [_, _, _]) [0, 1, 0] rfl)⟩
        · refine drM_s hS ?_; clear hS; intro w hS
          refine newM_s hS ?_; clear hS; intro r61 w hS
          skip
          skip
          skip
          skip
          refine ⟨?_, ?_⟩
          · refine drM_s hS ?_; clear hS; intro w hS
            skip
            skip
            obtain ⟨rfl, kt76⟩ := mkF ht76
            clear ht76
            refine mk_s (enc := (Value.float .f64)) hS kt76 rfl ?_; clear hS kt76; intro r62 w hS
            refine drM_s hS ?_; clear hS; intro w hS
            skip
            skip
            obtain ⟨rfl, kt77⟩ := mkF ht77
            clear ht77
            refine mk_s (enc := (Value.float .f64)) hS kt77 rfl ?_; clear hS kt77; intro r63 w hS
            refine drM_s hS ?_; clear hS; intro w hS
            replace hS := ro2 hS
            refine stc_s hS rfl rfl ?_; clear hS; intro w hS
            refine stc_s hS rfl rfl ?_; clear hS; intro w hS
            refine stc_s hS rfl rfl ?_; clear hS; intro w hS
            refine drM_s hS ?_; clear hS; intro w hS
            obtain rfl := some_inj h
            exact hJ50 _ _ ⟨_, _, _, _, _, rfl, rfl, hS⟩
          · refine drM_s hS ?_; clear hS; intro w hS
            skip
            skip
            obtain ⟨rfl, kt77⟩ := mkF ht77
            clear ht77
            refine mk_s (enc := (Value.float .f64)) hS kt77 rfl ?_; clear hS kt77; intro r64 w hS
            refine drM_s hS ?_; clear hS; intro w hS
            skip
            skip
            obtain ⟨rfl, kt76⟩ := mkF ht76
            clear ht76
            refine mk_s (enc := (Value.float .f64)) hS kt76 rfl ?_; clear hS kt76; intro r65 w hS
            refine drM_s hS ?_; clear hS; intro w hS
            replace hS := ro2 hS
            refine stc_s hS rfl rfl ?_; clear hS; intro w hS
            refine stc_s hS rfl rfl ?_; clear hS; intro w hS
            refine stc_s hS rfl rfl ?_; clear hS; intro w hS
            refine drM_s hS ?_; clear hS; intro w hS
            obtain rfl := some_inj h
            exact hJ50 _ _ ⟨_, _, _, _, _, rfl, rfl, (hS.pick (A := [_, _, _]) [0, 1, 0] rfl)⟩
      · clear h50 hS
        rintro s w ⟨r45, r46, ws47, r48, ws49, rfl, rfl, hS⟩
        have h := c50
        clear c50
        try dsimp only
        replace h := bnd h
        obtain ⟨o67, h67, c67⟩ := h
        refine cutM_i (fun s w => ∃ (ws66 : List Nat), (List.map nf ws66) = o67 ∧ s = (()) ∧ Ho w0 w ((cl r45 [.int .i64 48, .slice (some ⟨r48, 0, none⟩) ((1128 : Int).toNat) ((1128 : Int).toNat), .slice (some ⟨r46, 0, none⟩) ((48 : Int).toNat) ((48 : Int).toNat)] N.t_Factor) :: (sl (some ⟨r46, 0, none⟩) ((48 : Int).toNat) ((48 : Int).toNat) (List.map (Value.float .f64) ws66) N.t_float64) :: (sl (some ⟨r48, 0, none⟩) ((1128 : Int).toNat) ((1128 : Int).toNat) (List.map (Value.float .f64) ws49) N.t_float64) :: L)) (fun J67 hJ67 => ?_) ?_
        · have h := h67
          clear h67
          refine iter_sim (fun s w t => ∃ (t79 : Int) (ws68 : List Nat), (t79, (List.map nf ws68)) = t ∧ s = (t79, ()) ∧ Ho w0 w ((cl r45 [.int .i64 48, .slice (some ⟨r48, 0, none⟩) ((1128 : Int).toNat) ((1128 : Int).toNat), .slice (some ⟨r46, 0, none⟩) ((48 : Int).toNat) ((48 : Int).toNat)] N.t_Factor) :: (sl (some ⟨r46, 0, none⟩) ((48 : Int).toNat) ((48 : Int).toNat) (List.map (Value.float .f64) ws68) N.t_float64) :: (sl (some ⟨r48, 0, none⟩) ((1128 : Int).toNat) ((1128 : Int).toNat) (List.map (Value.float .f64) ws49) N.t_float64) :: L)) ?_ h ⟨_, _, rfl, rfl, hS⟩
          clear h hS
          rintro s w t X q ⟨t79, ws68, rfl, rfl, hS⟩ h hX hO
          unfold T_girderlaw13_SolveNumbers_b2 at h
          try dsimp only
          refine cond_s h ?_ ?_ <;> clear h <;> intro hc h
          · refine optM_s ?_
            refine ⟨_, _, _, (hS.cel mp0 rfl), ?_⟩
            replace h := bnd h
            obtain ⟨t81, ht81, h⟩ := h
            obtain ⟨z69, rfl, q70x, q70l, q70r⟩ := atF ht81
            clear ht81
            refine idx_s ((Ent.sl mp1).now (fun _ h => h) hS) q70x q70l q70r ?_; intro b71 hb71
            replace hS := ro1 hS
            replace h := bnd h
            obtain ⟨t82, ht82, h⟩ := h
            obtain rfl := setF ht82
            clear ht82
            refine sto_s hS hb71 q70r ?_; clear hS; intro w hS
            obtain rfl := some_inj h
            exact hX _ rfl _ _ ⟨_, _, rfl, rfl, (hS.pick (A := [_, _, _]) [1, 0, 0] rfl)⟩
          · obtain rfl := some_inj h
            have h := congrArg some (hO _ rfl)
            obtain rfl := some_inj h
            exact hJ67 _ _ ⟨_, rfl, rfl, hS⟩
        · clear h67 hS
          rintro s w ⟨ws66, rfl, rfl, hS⟩
          have h := c67
          clear c67
          try dsimp only
          refine optM_s ?_
          refine ⟨_, (hS.cel mp0 rfl), ?_⟩
          refine ⟨_, _, _, (hS.cel mp0 rfl), ?_⟩
          refine ⟨_, _, _, (hS.cel mp0 rfl), ?_⟩
          replace h := bnd h
          obtain ⟨⟨t83, t84, t85, t86⟩, ho83, h⟩ := h
          refine wk_solve_Inverse H hS (Ent.sl mp2) (Ent.sl mp1) ho83 ?_; clear hS ho83; rintro a72 m72 c72 ws72 w rfl hS
          refine ⟨_, _, _, _, _, _, rfl, ?_⟩
          refine newM_s hS ?_; clear hS; intro r73 w hS
          refine stc_s hS rfl rfl ?_; clear hS; intro w hS
          refine stc_s hS rfl rfl ?_; clear hS; intro w hS
          refine stc_s hS rfl rfl ?_; clear hS; intro w hS
          replace h := bnd h
          obtain ⟨o79, h79, c79⟩ := h
          refine cutM_i (fun s w => ∃ (t87 : Int) (r74 : Nat) (t88 : Int) (t89 : Int) (a75 : Option Addr) (m76 : Nat) (c77 : Nat) (ws78 : List Nat), (t87, t88, t89, (List.map nf ws78)) = o79 ∧ s = ((some ⟨r74, 0, none⟩), t87, ()) ∧ Ho w0 w ((cl r74 [.int .i64 t88, .int .i64 t89, .slice a75 m76 c77] N.t_Matrix) :: (sl a75 m76 c77 (List.map (Value.float .f64) ws78) N.t_float64) :: (cl r73 [.int .i64 t83, .int .i64 t84, .slice a72 m72 c72] N.t_Matrix) :: (sl a72 m72 c72 (List.map (Value.float .f64) ws72) N.t_float64) :: L)) (fun J79 hJ79 => ?_) ?_
          · have h := h79
            clear h79
            replace h := bnd h
            obtain ⟨t91, ht91, h⟩ := h
            replace h := bnd h
            obtain ⟨t92, ht92, h⟩ := h
            replace h := bnd h
            obtain ⟨⟨t93, t94, t95, t96⟩, ho93, h⟩ := h
            refine ⟨?_, ?_, ?_⟩
            · refine drM_s hS ?_; clear hS; intro w hS
              skip
              skip
              obtain ⟨rfl, kt91⟩ := mkF ht91
              clear ht91
              refine mk_s (enc := (Value.float .f64)) hS kt91 rfl ?_; clear hS kt91; intro r80 w hS
              refine ⟨?_, ?_⟩
              · refine drM_s hS ?_; clear hS; intro w hS
                skip
                skip
                obtain ⟨rfl, kt92⟩ := mkF ht92
                clear ht92
                refine mk_s (enc := (Value.float .f64)) hS kt92 rfl ?_; clear hS kt92; intro r81 w hS
                refine ⟨?_, ?_⟩
                · refine drM_s hS ?_; clear hS; intro w hS
                  skip
                  skip
                  refine wk_solve_Inverse H hS (Ent.sl mp1) (Ent.sl mp0) ho93 ?_; clear hS ho93; rintro a82 m82 c82 ws82 w rfl hS
                  refine ⟨_, _, _, _, _, _, rfl, ?_⟩
                  refine drM_s hS ?_; clear hS; intro w hS
                  refine newM_s hS ?_; clear hS; intro r83 w hS
                  refine drM_s hS ?_; clear hS; intro w hS
                  refine stc_s hS rfl rfl ?_; clear hS; intro w hS
                  refine stc_s hS rfl rfl ?_; clear hS; intro w hS
                  refine stc_s hS rfl rfl ?_; clear hS; intro w hS
                  refine drM_s hS ?_; clear hS; intro w hS
                  obtain rfl := some_inj h
                  exact hJ79 _ _ ⟨_, _, _, _, _, _, _, _, rfl, rfl, (hS.pick (A := [_, _, _, _, _, _, _, _, _]) [0, 0, 2, 2] rfl)⟩
                · refine drM_s hS ?_; clear hS; intro w hS
                  refine newM_s hS ?_; clear hS; intro r84 w hS
                  refine drM_s hS ?_; clear hS; intro w hS
                  skip
                  skip
                  refine wk_solve_Inverse H hS (Ent.sl mp2) (Ent.sl mp1) ho93 ?_; clear hS ho93; rintro a85 m85 c85 ws85 w rfl hS
                  refine ⟨_, _, _, _, _, _, rfl, ?_⟩
                  refine drM_s hS ?_; clear hS; intro w hS
                  replace hS := ro1 hS
                  refine stc_s hS rfl rfl ?_; clear hS; intro w hS
                  refine stc_s hS rfl rfl ?_; clear hS; intro w hS
                  refine stc_s hS rfl rfl ?_; clear hS; intro w hS
                  refine drM_s hS ?_; clear hS; intro w hS
                  obtain rfl := some_inj h
                  exact hJ79 _ _ ⟨_, _, _, _, _, _, _, _, rfl, rfl, (hS.pick (A := [_, _, _, _, _, _, _, _, _]) [0, 0, 2, 2] rfl)⟩
              · refine drM_s hS ?_; clear hS; intro w hS
                refine newM_s hS ?_; clear hS; intro r86 w hS
                refine drM_s hS ?_; clear hS; intro w hS
                skip
                skip
                obtain ⟨rfl, kt92⟩ := mkF ht92
                clear ht92
                refine mk_s (enc := (Value.float .f64)) hS kt92 rfl ?_; clear hS kt92; intro r87 w hS
                refine drM_s hS ?_; clear hS; intro w hS
                skip
                skip
                refine wk_solve_Inverse H hS (Ent.sl mp2) (Ent.sl mp0) ho93 ?_; clear hS ho93; rintro a88 m88 c88 ws88 w rfl hS
                refine ⟨_, _, _, _, _, _, rfl, ?_⟩
                refine drM_s hS ?_; clear hS; intro w hS
                replace hS := ro2 hS
                refine stc_s hS rfl rfl ?_; clear hS; intro w hS
                refine stc_s hS rfl rfl ?_; clear hS; intro w hS
                refine stc_s hS rfl rfl ?_; clear hS; intro w hS
                refine drM_s hS ?_; clear hS; intro w hS
                obtain rfl := some_inj h
                exact hJ79 _ _ ⟨_, _, _, _, _, _, _, _, rfl, rfl, (hS.pick (A := [_, _, _, _, _, _, _, _, _]) [0, 0, 2, 2] rfl)⟩
            · refine drM_s hS ?_; clear hS; intro w hS
              skip
              skip
              obtain ⟨rfl, kt92⟩ := mkF ht92
              clear ht92
              refine mk_s (enc := (Value.float .f64)) hS kt92 rfl ?_; clear hS kt92; intro r89 w hS
              refine ⟨?_, ?_⟩
              · refine drM_s hS ?_; clear hS; intro w hS
                skip
                skip
                obtain ⟨rfl, kt91⟩ := mkF ht91
                clear ht91
                refine mk_s (enc := (Value.float .f64)) hS kt91 rfl ?_; clear hS kt91; intro r90 w hS
                refine ⟨?_, ?_⟩
                · refine drM_s hS ?_; clear hS; intro w hS
                  skip
                  skip
                  refine wk_solve_Inverse H hS (Ent.sl mp0) (Ent.sl mp1) ho93 ?_; clear hS ho93; rintro a91 m91 c91 ws91 w rfl hS
                  refine ⟨_, _, _, _, _, _, rfl, ?_⟩
                  refine drM_s hS ?_; clear hS; intro w hS
                  refine newM_s hS ?_; clear hS; intro r92 w hS
                  refine drM_s hS ?_; clear hS; intro w hS
                  refine stc_s hS rfl rfl ?_; clear hS; intro w hS
                  refine stc_s hS rfl rfl ?_; clear hS; intro w hS
                  refine stc_s hS rfl rfl ?_; clear hS; intro w hS
                  refine drM_s hS ?_; clear hS; intro w hS
                  obtain rfl := some_inj h
                  exact hJ79 _ _ ⟨_, _, _, _, _, _, _, _, rfl, rfl, (hS.pick (A := [_, _, _, _, _, _, _, _, _]) [0, 0, 2, 2] rfl)⟩
                · refine drM_s hS ?_; clear hS; intro w hS
                  refine newM_s hS ?_; clear hS; intro r93 w hS
                  refine drM_s hS ?_; clear hS; intro w hS
                  skip
                  skip
                  refine wk_solve_Inverse H hS (Ent.sl mp1) (Ent.sl mp2) ho93 ?_; clear hS ho93; rintro a94 m94 c94 ws94 w rfl hS
                  refine ⟨_, _, _, _, _, _, rfl, ?_⟩
                  refine drM_s hS ?_; clear hS; intro w hS
                  replace hS := ro1 hS
                  refine stc_s hS rfl rfl ?_; clear hS; intro w hS
                  refine stc_s hS rfl rfl ?_; clear hS; intro w hS
                  refine stc_s hS rfl rfl ?_; clear hS; intro w hS
                  refine drM_s hS ?_; clear hS; intro w hS
                  obtain rfl := some_inj h
                  exact hJ79 _ _ ⟨_, _, _, _, _, _, _, _, rfl, rfl, (hS.pick (A := [_, _, _, _, _, _, _, _, _]) [0, 0, 2, 2] rfl)⟩
              · refine drM_s hS ?_; clear hS; intro w hS
                refine newM_s hS ?_; clear hS; intro r95 w hS
                refine drM_s hS ?_; clear hS; intro w hS
                skip
                skip
                obtain ⟨rfl, kt91⟩ := mkF ht91
                clear ht91
                refine mk_s (enc := (Value.float .f64)) hS kt91 rfl ?_; clear hS kt91; intro r96 w hS
                refine drM_s hS ?_; clear hS; intro w hS
                skip
                skip
                refine wk_solve_Inverse H hS (Ent.sl mp0) (Ent.sl mp2) ho93 ?_; clear hS ho93; rintro a97 m97 c97 ws97 w rfl hS
                refine ⟨_, _, _, _, _, _, rfl, ?_⟩
                refine drM_s hS ?_; clear hS; intro w hS
                replace hS := ro2 hS
                refine stc_s hS rfl rfl ?_; clear hS; intro w hS
                refine stc_s hS rfl rfl ?_; clear hS; intro w hS
                refine stc_s hS rfl rfl ?_; clear hS; intro w hS
                refine drM_s hS ?_; clear hS; intro w hS
                obtain rfl := some_inj h
                exact hJ79 _ _ ⟨_, _, _, _, _, _, _, _, rfl, rfl, (hS.pick (A := [_, _, _, _, _, _, _, _, _]) [0, 0, 2, 2] rfl)⟩
            · refine drM_s hS ?_; clear hS; intro w hS
              refine newM_s hS ?_; clear hS; intro r98 w hS
              skip
              skip
              skip
              skip
              skip
              skip
              refine ⟨?_, ?_⟩
              · refine drM_s hS ?_; clear hS; intro w hS
                skip
                skip
                obtain ⟨rfl, kt91⟩ := mkF ht91
                clear ht91
                refine mk_s (enc := (Value.float .f64)) hS kt91 rfl ?_; clear hS kt91; intro r99 w hS
                refine drM_s hS ?_; clear hS; intro w hS
                skip
                skip
                obtain ⟨rfl, kt92⟩ := mkF ht92
                clear ht92
                refine mk_s (enc := (Value.float .f64)) hS kt92 rfl ?_; clear hS kt92; intro r100 w hS
                refine drM_s hS ?_; clear hS; intro w hS
                skip
                skip
                refine wk_solve_Inverse H hS (Ent.sl mp1) (Ent.sl mp0) ho93 ?_; clear hS ho93; rintro a101 m101 c101 ws101 w rfl hS
                refine ⟨_, _, _, _, _, _, rfl, ?_⟩
                refine drM_s hS ?_; clear hS; intro w hS
                replace hS := ro3 hS
                refine stc_s hS rfl rfl ?_; clear hS; intro w hS
                refine stc_s hS rfl rfl ?_; clear hS; intro w hS
                refine stc_s hS rfl rfl ?_; clear hS; intro w hS
                refine drM_s hS ?_; clear hS; intro w hS
                obtain rfl := some_inj h
                exact hJ79 _ _ ⟨_, _, _, _, _, _, _, _, rfl, rfl, (hS.pick (A := [_, _, _, _, _, _, _, _, _]) [0, 0, 2, 2] rfl)⟩
              · refine drM_s hS ?_; clear hS; intro w hS
                skip
                skip
                obtain ⟨rfl, kt92⟩ := mkF ht92
                clear ht92
                refine mk_s (enc := (Value.float .f64)) hS kt92 rfl ?_; clear hS kt92; intro r102 w hS
                refine drM_s hS ?_; clear hS; intro w hS
                skip
                skip
                obtain ⟨rfl, kt91⟩ := mkF ht91
                clear ht91
                refine mk_s (enc := (Value.float .f64)) hS kt91 rfl ?_; clear hS kt91; intro r103 w hS
                refine drM_s hS ?_; clear hS; intro w hS
                skip
                skip
                refine wk_solve_Inverse H hS (Ent.sl mp0) (Ent.sl mp1) ho93 ?_; clear hS ho93; rintro a104 m104 c104 ws104 w rfl hS
                refine ⟨_, _, _, _, _, _, rfl, ?_⟩
                refine drM_s hS ?_; clear hS; intro w hS
                replace hS := ro3 hS
                refine stc_s hS rfl rfl ?_; clear hS; intro w hS
                refine stc_s hS rfl rfl ?_; clear hS; intro w hS
                refine stc_s hS rfl rfl ?_; clear hS; intro w hS
                refine drM_s hS ?_; clear hS; intro w hS
                obtain rfl := some_inj h
                exact hJ79 _ _ ⟨_, _, _, _, _, _, _, _, rfl, rfl, (hS.pick (A := [_, _, _, _, _, _, _, _, _]) [0, 0, 2, 2] rfl)⟩
          · clear h79 hS
            rintro s w ⟨t87, r74, t88, t89, a75, m76, c77, ws78, rfl, rfl, hS⟩
            have h := c79
            clear c79
            try dsimp only
            replace h := bnd h
            obtain ⟨⟨t97, t98⟩, ho97, h⟩ := h
            refine wk_solve_Solve H hS (Ent.nil _) (Ent.nil _) (Ent.nil _) ho97 ?_; clear hS ho97; rintro a105 m105 c105 ws105 w rfl hS
            refine ⟨_, _, _, _, rfl, ?_⟩
            refine cond_s h ?_ ?_ <;> clear h <;> intro hc h
            · refine cond_s h ?_ ?_ <;> clear h <;> intro hc h
              · refine cond_s h ?_ ?_ <;> clear h <;> intro hc h
                · refine ⟨_, _, _, (hS.cel mp3 rfl), ?_⟩
                  replace h := bnd h
                  obtain ⟨t99, ht99, h⟩ := h
                  obtain rfl := lenF ht99 ((Ent.sl mp4).now (fun _ h => h) hS)
                  clear ht99
                  refine cond_s h ?_ ?_ <;> clear h <;> intro hc h
                  · refine ⟨_, _, _, (hS.cel mp3 rfl), ?_⟩
                    replace h := bnd h
                    obtain ⟨t100, ht100, h⟩ := h
                    obtain ⟨z106, rfl, q107x, q107l, q107r⟩ := atF ht100
                    clear ht100
                    refine idx_s ((Ent.sl mp4).now (fun _ h => h) hS) q107x q107l q107r ?_; intro b108 hb108
                    refine ⟨_, rd_get ((Ent.sl mp4).now (fun _ h => h) hS) hb108 q107x, ?_⟩
                    replace h := bnd h
                    obtain ⟨t101, ht101, h⟩ := h
                    obtain rfl := feq_s ht101
                    clear ht101
                    refine cond_s h ?_ ?_ <;> clear h <;> intro hc h
                    · refine ⟨_, _, _, (hS.cel mp3 rfl), ?_⟩
                      replace h := bnd h
                      obtain ⟨t102, ht102, h⟩ := h
                      obtain ⟨z109, rfl, q110x, q110l, q110r⟩ := atF ht102
                      clear ht102
                      refine idx_s ((Ent.sl mp4).now (fun _ h => h) hS) q110x q110l q110r ?_; intro b111 hb111
                      refine ⟨_, rd_get ((Ent.sl mp4).now (fun _ h => h) hS) hb111 q110x, ?_⟩
                      replace h := bnd h
                      obtain ⟨t103, ht103, h⟩ := h
                      obtain rfl := feq_s ht103
                      clear ht103
                      refine cond_s h ?_ ?_ <;> clear h <;> intro hc h
                      · refine cond_s h ?_ ?_ <;> clear h <;> intro hc h
                        · refine optM_s ?_
                          refine ⟨_, _, _, (hS.cel mp1 rfl), ?_⟩
                          replace h := bnd h
                          obtain ⟨t104, ht104, h⟩ := h
                          obtain rfl := lenF ht104 ((Ent.sl mp2).now (fun _ h => h) hS)
                          clear ht104
                          refine cond_s h ?_ ?_ <;> clear h <;> intro hc h
                          · refine cond_s h ?_ ?_ <;> clear h <;> intro hc h
                            · replace h := bnd h
                              obtain ⟨t105, ht105, h⟩ := h
                              refine wk_girderlaw13_awake H hS  ht105 ?_; clear hS ht105; rintro w hS
                              refine ⟨_, rfl, ?_⟩
                              have h := some_inj h
                              cases h
                              exact hK _ (hS.pick (A := [_, _, _, _, _]) [] rfl)
                            · have h := some_inj h
                              cases h
                              exact hK _ (hS.pick (A := [_, _, _, _, _]) [] rfl)
                          · have h := some_inj h
                            cases h
                            exact hK _ (hS.pick (A := [_, _, _, _, _]) [] rfl)
                        · have h := some_inj h
                          cases h
                          exact hK _ (hS.pick (A := [_, _, _, _, _]) [] rfl)
                      · have h := some_inj h
                        cases h
                        exact hK _ (hS.pick (A := [_, _, _, _, _]) [] rfl)
                    · have h := some_inj h
                      cases h
                      exact hK _ (hS.pick (A := [_, _, _, _, _]) [] rfl)
                  · have h := some_inj h
                    cases h
                    exact hK _ (hS.pick (A := [_, _, _, _, _]) [] rfl)
                · have h := some_inj h
                  cases h
                  exact hK _ (hS.pick (A := [_, _, _, _, _]) [] rfl)
              · have h := some_inj h
                cases h
                exact hK _ (hS.pick (A := [_, _, _, _, _]) [] rfl)
            · have h := some_inj h
              cases h
              exact hK _ (hS.pick (A := [_, _, _, _, _]) [] rfl)

end Go.Eng
