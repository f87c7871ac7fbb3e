/-
  Each function comes to what its function of plain Lean says, printed by a program of the session. No condition.
-/
import Derived.Test.YtmecjaojkegamaaGreatDoorWk1
set_option linter.unusedSimpArgs false
set_option linter.unnecessarySimpa false
set_option linter.unusedSectionVars false
set_option linter.unusedVariables false
set_option maxRecDepth 100000
set_option maxHeartbeats 4000000
namespace Go.Eng
open Go

theorem wk_girderkit_SameDyad {N : Nums} {P : Program} (H : AllOk N P) {w0 w : World} {L : List It} {q0_0 : Bool} {q0_1 : Option Addr} {q0_1l q0_1c : Nat} {l0_1 : List Int} {q0_2 : Int} {q1_0 : Bool} {q1_1 : Option Addr} {q1_1l q1_1c : Nat} {l1_1 : List Int} {q1_2 : Int} {u0 : Bool} (hS : Ho w0 w (L)) (hq0_1 : Ent L (rdA (List.map (Value.int .u64) l0_1) q0_1 q0_1l q0_1c)) (hq1_1 : Ent L (rdA (List.map (Value.int .u64) l1_1) q1_1 q1_1l q1_1c)) (hx : T_girderkit_SameDyad q0_0 l0_1 q0_2 q1_0 l1_1 q1_2 = some u0) {K : Value → World → Prop} (hK : ∀  (w1 : World), Ho w0 w1 (L) → K (.bool u0) w1) : CallsX P N.f_girderkit_SameDyad #[.agg #[.bool q0_0, .slice q0_1 q0_1l q0_1c, .int .i64 q0_2], .agg #[.bool q1_0, .slice q1_1 q1_1l q1_1c, .int .i64 q1_2]] w K := by
  refine H.girderkit_SameDyad q0_0 q0_1 q0_1l q0_1c q0_2 q1_0 q1_1 q1_1l q1_1c q1_2 w _ ?_
  unfold S_girderkit_SameDyad
  unfold T_girderkit_SameDyad at hx
  have h := hx
  clear hx
  try dsimp only
  refine newM_s hS ?_; clear hS; intro r1 w hS
  refine newM_s hS ?_; clear hS; intro r2 w hS
  refine ⟨_, (hS.cel mp1 rfl), ?_⟩
  refine ⟨_, (hS.cel mp0 rfl), ?_⟩
  refine cond_s h ?_ ?_ <;> clear h <;> intro hc h
  · refine ⟨_, _, _, (hS.cel mp1 rfl), ?_⟩
    refine ⟨_, _, _, (hS.cel mp0 rfl), ?_⟩
    replace h := bnd h
    obtain ⟨t1, ht1, h⟩ := h
    refine wk_girderkit_SameLimbs H hS (hq0_1.mono tl2) (hq1_1.mono tl2) ht1 ?_; clear hS ht1; rintro w hS
    refine ⟨_, rfl, ?_⟩
    refine cond_s h ?_ ?_ <;> clear h <;> intro hc h
    · refine ⟨_, (hS.cel mp1 rfl), ?_⟩
      refine ⟨_, (hS.cel mp0 rfl), ?_⟩
      have h := some_inj h
      cases h
      exact hK _ (hS.pick (A := [_, _]) [] rfl)
    · have h := some_inj h
      cases h
      exact hK _ (hS.pick (A := [_, _]) [] rfl)
  · have h := some_inj h
    cases h
    exact hK _ (hS.pick (A := [_, _]) [] rfl)

theorem wk_girderkit_KeptLimbs {N : Nums} {P : Program} (H : AllOk N P) {w0 w : World} {L : List It} {q0 : Option Addr} {q0l : Nat} {q1 : Option Addr} {q1l q1c : Nat} {l1 : List Int} {u0 : Bool} (hS : Ho w0 w (L)) (hq0 : Ent L (rdA (List.map (Value.int .u64) (l1 ++ marksU)) q0 (q0l + 12) (q0l + 12))) (hq1 : Ent L (rdA (List.map (Value.int .u64) l1) q1 q1l q1c)) (hx : T_girderkit_KeptLimbs l1 l1 = some u0) {K : Value → World → Prop} (hK : ∀  (w1 : World), Ho w0 w1 (L) → K (.bool u0) w1) : CallsX P N.f_girderkit_KeptLimbs #[.slice q0 q0l (q0l + 12), .slice q1 q1l q1c] w K := by
  unfold T_girderkit_KeptLimbs at hx
  have hd : l1.length ≤ 4294967000 := by
    rcases Nat.lt_or_ge 4294967000 l1.length with h | h
    · rw [decide_eq_false (by omega)] at hx; cases hx
    · exact h
  rw [decide_eq_true hd] at hx
  have hx := some_inj hx
  subst hx
  have r0 := (hq0.now (fun _ h => h) hS).len
  have r1 := (hq1.now (fun _ h => h) hS).len
  have e12 : marksU.length = 12 := rfl
  rw [List.length_map, List.length_append, e12] at r0
  rw [List.length_map] at r1
  obtain rfl : q0l = q1l := by omega
  exact keptU_c H hS hq0 hq1 hd hK

theorem wk_girderkit_KeptDyad {N : Nums} {P : Program} (H : AllOk N P) {w0 w : World} {L : List It} {q0_0 : Bool} {q0_1 : Option Addr} {q0_1l : Nat} {q0_2 : Int} {q1_0 : Bool} {q1_1 : Option Addr} {q1_1l q1_1c : Nat} {l1_1 : List Int} {q1_2 : Int} {u0 : Bool} (hS : Ho w0 w (L)) (hq0_1 : Ent L (rdA (List.map (Value.int .u64) (l1_1 ++ marksU)) q0_1 (q0_1l + 12) (q0_1l + 12))) (hq1_1 : Ent L (rdA (List.map (Value.int .u64) l1_1) q1_1 q1_1l q1_1c)) (hx : T_girderkit_KeptDyad q0_0 l1_1 q0_2 q1_0 l1_1 q1_2 = some u0) {K : Value → World → Prop} (hK : ∀  (w1 : World), Ho w0 w1 (L) → K (.bool u0) w1) : CallsX P N.f_girderkit_KeptDyad #[.agg #[.bool q0_0, .slice q0_1 q0_1l (q0_1l + 12), .int .i64 q0_2], .agg #[.bool q1_0, .slice q1_1 q1_1l q1_1c, .int .i64 q1_2]] w K := by
  refine H.girderkit_KeptDyad q0_0 q0_1 q0_1l (q0_1l + 12) q0_2 q1_0 q1_1 q1_1l q1_1c q1_2 w _ ?_
  unfold S_girderkit_KeptDyad
  unfold T_girderkit_KeptDyad at hx
  have h := hx
  clear hx
  try dsimp only
  refine newM_s hS ?_; clear hS; intro r1 w hS
  refine newM_s hS ?_; clear hS; intro r2 w hS
  refine ⟨_, (hS.cel mp1 rfl), ?_⟩
  refine ⟨_, _, _, (hS.cel mp1 rfl), ?_⟩
  refine ⟨_, (hS.cel mp1 rfl), ?_⟩
  refine ⟨_, (hS.cel mp0 rfl), ?_⟩
  refine ⟨_, _, _, (hS.cel mp0 rfl), ?_⟩
  refine ⟨_, (hS.cel mp0 rfl), ?_⟩
  replace h := bnd h
  obtain ⟨t1, ht1, h⟩ := h
  refine wk_girderkit_SameDyad H hS (Ent.lent (hq0_1.mono tl2) rfl rfl) (hq1_1.mono tl2) ht1 ?_; clear hS ht1; rintro w hS
  refine ⟨_, rfl, ?_⟩
  refine cond_s h ?_ ?_ <;> clear h <;> intro hc h
  · refine ⟨_, _, _, (hS.cel mp1 rfl), ?_⟩
    refine ⟨_, _, _, (hS.cel mp0 rfl), ?_⟩
    replace h := bnd h
    obtain ⟨t2, ht2, h⟩ := h
    refine wk_girderkit_KeptLimbs H hS (hq0_1.mono tl2) (hq1_1.mono tl2) ht2 ?_; clear hS ht2; rintro w hS
    refine ⟨_, rfl, ?_⟩
    have h := some_inj h
    cases h
    exact hK _ (hS.pick (A := [_, _]) [] rfl)
  · have h := some_inj h
    cases h
    exact hK _ (hS.pick (A := [_, _]) [] rfl)

theorem wk_girderkit_SameFloat {N : Nums} {P : Program} (H : AllOk N P) {w0 w : World} {L : List It} {q0 : Nat} {q1 : Nat} {u0 : Bool} (hS : Ho w0 w (L))  (hx : T_girderkit_SameFloat (nf q0) (nf q1) = some u0) {K : Value → World → Prop} (hK : ∀  (w1 : World), Ho w0 w1 (L) → K (.bool u0) w1) : CallsX P N.f_girderkit_SameFloat #[.float .f64 q0, .float .f64 q1] w K := by
  unfold T_girderkit_SameFloat at hx
  have hx := some_inj hx
  subst hx
  refine (sameFloat_c H q0 q1 w).mono ?_
  rintro _ w1 ⟨rfl, h1⟩
  exact hK _ (hS.next h1)

theorem wk_girderlaw02_DyadRounds {N : Nums} {P : Program} (H : AllOk N P) {w0 w : World} {L : List It} {q0_0 : Bool} {q0_1 : Option Addr} {q0_1l q0_1c : Nat} {l0_1 : List Int} {q0_2 : Int} {q1 : Int} {u0 : Bool} (hS : Ho w0 w (L)) (hq0_1 : Ent L (rdA (List.map (Value.int .u64) l0_1) q0_1 q0_1l q0_1c)) (hG : Ent L (tab64 N.g_1)) (hx : T_girderlaw02_DyadRounds q0_0 l0_1 q0_2 q1 = some u0) {K : Value → World → Prop} (hK : ∀  (w1 : World), Ho w0 w1 (L) → K (.bool u0) w1) : CallsX P N.f_girderlaw02_DyadRounds #[.agg #[.bool q0_0, .slice q0_1 q0_1l q0_1c, .int .i64 q0_2], .int .i8 q1] w K := by
  refine H.girderlaw02_DyadRounds q0_0 q0_1 q0_1l q0_1c q0_2 q1 w _ ?_
  unfold S_girderlaw02_DyadRounds
  unfold T_girderlaw02_DyadRounds at hx
  have h := hx
  clear hx
  try dsimp only
  refine newM_s hS ?_; clear hS; intro r1 w hS
  replace h := bnd h
  obtain ⟨t1, ht1, h⟩ := h
  refine wk_girderlaw02_awake H hS (hG.mono tl1) ht1 ?_; clear hS ht1; rintro w hS
  refine ⟨_, rfl, ?_⟩
  refine cond_s h ?_ ?_ <;> clear h <;> intro hc h
  · have h := some_inj h
    cases h
    exact hK _ (hS.pick (A := [_]) [] rfl)
  · refine ⟨_, (hS.cel mp0 rfl), ?_⟩
    refine ⟨_, _, _, (hS.cel mp0 rfl), ?_⟩
    refine ⟨_, (hS.cel mp0 rfl), ?_⟩
    replace h := bnd h
    obtain ⟨⟨t2, t3, t4⟩, ho2, h⟩ := h
    refine wk_girderkit_LentDyad H hS (hq0_1.mono tl1) ho2 ?_; clear hS ho2; rintro r2 w rfl hS
    refine ⟨_, _, _, _, _, rfl, ?_⟩
    refine newM_s hS ?_; clear hS; intro r3 w hS
    refine stc_s hS rfl rfl ?_; clear hS; intro w hS
    refine stc_s hS rfl rfl ?_; clear hS; intro w hS
    refine stc_s hS rfl rfl ?_; clear hS; intro w hS
    refine ⟨_, (hS.cel mp0 rfl), ?_⟩
    refine ⟨_, _, _, (hS.cel mp0 rfl), ?_⟩
    refine ⟨_, (hS.cel mp0 rfl), ?_⟩
    replace h := bnd h
    obtain ⟨⟨t5, t6⟩, ho5, h⟩ := h
    refine wk_dyad_Round H hS (Ent.lent (Ent.sl mp1) rfl rfl) (hG.mono tl3) ho5 ?_; clear hS ho5; rintro z4 w rfl hS
    refine ⟨_, _, rfl, ?_⟩
    refine ⟨_, (hS.cel mp2 rfl), ?_⟩
    refine ⟨_, _, _, (hS.cel mp2 rfl), ?_⟩
    refine ⟨_, (hS.cel mp2 rfl), ?_⟩
    replace h := bnd h
    obtain ⟨⟨t7, t8⟩, ho7, h⟩ := h
    refine wk_girderref02_Round H hS (hq0_1.mono tl3) ho7 ?_; clear hS ho7; rintro z5 w rfl hS
    refine ⟨_, _, rfl, ?_⟩
    refine ⟨_, (hS.cel mp0 rfl), ?_⟩
    refine ⟨_, _, _, (hS.cel mp0 rfl), ?_⟩
    refine ⟨_, (hS.cel mp0 rfl), ?_⟩
    refine ⟨_, (hS.cel mp2 rfl), ?_⟩
    refine ⟨_, _, _, (hS.cel mp2 rfl), ?_⟩
    refine ⟨_, (hS.cel mp2 rfl), ?_⟩
    replace h := bnd h
    obtain ⟨t9, ht9, h⟩ := h
    refine wk_girderkit_KeptDyad H hS (Ent.sl mp1) (hq0_1.mono tl3) ht9 ?_; clear hS ht9; rintro w hS
    refine ⟨_, rfl, ?_⟩
    refine cond_s h ?_ ?_ <;> clear h <;> intro hc h
    · refine cond_s h ?_ ?_ <;> clear h <;> intro hc h
      · replace h := bnd h
        obtain ⟨t10, ht10, h⟩ := h
        refine wk_girderkit_SameFloat H hS  ht10 ?_; clear hS ht10; rintro w hS
        refine ⟨_, rfl, ?_⟩
        have h := some_inj h
        cases h
        exact hK _ (hS.pick (A := [_, _, _]) [] rfl)
      · have h := some_inj h
        cases h
        exact hK _ (hS.pick (A := [_, _, _]) [] rfl)
    · have h := some_inj h
      cases h
      exact hK _ (hS.pick (A := [_, _, _]) [] rfl)

end Go.Eng
