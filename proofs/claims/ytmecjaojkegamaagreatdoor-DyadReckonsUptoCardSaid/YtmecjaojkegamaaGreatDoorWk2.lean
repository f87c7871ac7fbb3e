/-
 Each function comes to what its function of plain Lean says, printed by a program of the session. No condition.
-/
import Derived.Test.YtmecjaojkegamaaGreatDoorWk1
set_option linter.unusedSimpArgs false
set_option linter.unnecessarySimpa false
set_option linter.unusedSectionVars false
set_option linter.unusedVariables false
set_option maxRecDepth 100000
set_option maxHeartbeats 4000000
namespace Go.Eng
open Go

theorem wk_girderref02_Plus0 {N : Nums} {P : Program} (H : AllOk N P) {w0 w : World} {L : List It} {q0_0 : Bool} {q0_1 : Option Addr} {q0_1l q0_1c : Nat} {l0_1 : List Int} {q0_2 : Int} {q1_0 : Bool} {q1_1 : Option Addr} {q1_1l q1_1c : Nat} {l1_1 : List Int} {q1_2 : Int} {u0 : Bool} {u1 : List Int} {u2 : Int} (hS : Ho w0 w (L)) (hq0_1 : Ent L (rdA (List.map (Value.int .u64) l0_1) q0_1 q0_1l q0_1c)) (hq1_1 : Ent L (rdA (List.map (Value.int .u64) l1_1) q1_1 q1_1l q1_1c)) (hx : T_girderref02_Plus0 q0_0 l0_1 q0_2 q1_0 l1_1 q1_2 = some (u0, u1, u2)) {K : Value → World → Prop} (hK : ∀ (it1 : It) (a1 : Option Addr) (n1 c1 : Nat) (w1 : World), (∀ L1, it1 ∈ L1 → Ent L1 (rdA (List.map (Value.int .u64) l0_1) q0_1 q0_1l q0_1c) → Ent L1 (rdA (List.map (Value.int .u64) l1_1) q1_1 q1_1l q1_1c) → Ent L1 (rdA (List.map (Value.int .u64) u1) a1 n1 c1)) → Ho w0 w1 (it1 :: L) → K (.agg #[.bool u0, .slice a1 n1 c1, .int .i64 u2]) w1) : CallsX P N.f_girderref02_Plus #[.agg #[.bool q0_0, .slice q0_1 q0_1l q0_1c, .int .i64 q0_2], .agg #[.bool q1_0, .slice q1_1 q1_1l q1_1c, .int .i64 q1_2]] w K := by
 unfold T_girderref02_Plus0 at hx
 cases hx

theorem wk_girderref02_Plus1 {N : Nums} {P : Program} (H : AllOk N P) {w0 w : World} {L : List It} {q0_0 : Bool} {q0_1 : Option Addr} {q0_1l q0_1c : Nat} {l0_1 : List Int} {q0_2 : Int} {q1_0 : Bool} {q1_1 : Option Addr} {q1_1l q1_1c : Nat} {l1_1 : List Int} {q1_2 : Int} {u0 : Bool} {u1 : List Int} {u2 : Int} (hS : Ho w0 w (L)) (hq0_1 : Ent L (rdA (List.map (Value.int .u64) l0_1) q0_1 q0_1l q0_1c)) (hq1_1 : Ent L (rdA (List.map (Value.int .u64) l1_1) q1_1 q1_1l q1_1c)) (hx : T_girderref02_Plus1 q0_0 l0_1 q0_2 q1_0 l1_1 q1_2 = some (u0, u1, u2)) {K : Value → World → Prop} (hK : ∀ (it1 : It) (a1 : Option Addr) (n1 c1 : Nat) (w1 : World), (∀ L1, it1 ∈ L1 → Ent L1 (rdA (List.map (Value.int .u64) l0_1) q0_1 q0_1l q0_1c) → Ent L1 (rdA (List.map (Value.int .u64) l1_1) q1_1 q1_1l q1_1c) → Ent L1 (rdA (List.map (Value.int .u64) u1) a1 n1 c1)) → Ho w0 w1 (it1 :: L) → K (.agg #[.bool u0, .slice a1 n1 c1, .int .i64 u2]) w1) : CallsX P N.f_girderref02_Plus #[.agg #[.bool q0_0, .slice q0_1 q0_1l q0_1c, .int .i64 q0_2], .agg #[.bool q1_0, .slice q1_1 q1_1l q1_1c, .int .i64 q1_2]] w K := by
 refine H.girderref02_Plus q0_0 q0_1 q0_1l q0_1c q0_2 q1_0 q1_1 q1_1l q1_1c q1_2 w _ ?_
 unfold S_girderref02_Plus
 unfold T_girderref02_Plus1 at hx
 have h := hx
 clear hx
 try dsimp only
 refine newM_s hS ?_; clear hS; intro r1 w hS
 refine newM_s hS ?_; clear hS; intro r2 w hS
 refine newM_s hS ?_; clear hS; intro r3 w hS
 refine ⟨_, (hS.cel mp2 rfl), ?_⟩
 refine ⟨_, _, _, (hS.cel mp2 rfl), ?_⟩
 refine ⟨_, (hS.cel mp2 rfl), ?_⟩
 obtain ⟨t1, ht1, h⟩ := bnd h
 refine wk_girderref02_Num_Zero H hS (hq0_1.mono tl3) ht1 ?_; clear hS ht1; rintro w hS
 refine ⟨_, rfl, ?_⟩
 refine cond_s h ?_ ?_ <;> clear h <;> intro hc h
 ·
  refine ⟨_, (hS.cel mp1 rfl), ?_⟩
  refine ⟨_, _, _, (hS.cel mp1 rfl), ?_⟩
  refine ⟨_, (hS.cel mp1 rfl), ?_⟩
  refine stc_s hS rfl rfl ?_; clear hS; intro w hS
  refine stc_s hS rfl rfl ?_; clear hS; intro w hS
  refine stc_s hS rfl rfl ?_; clear hS; intro w hS
  refine ⟨_, (hS.cel mp0 rfl), ?_⟩
  refine ⟨_, _, _, (hS.cel mp0 rfl), ?_⟩
  refine ⟨_, (hS.cel mp0 rfl), ?_⟩
  replace hS := hS.voidItem
  have h := some_inj h
  cases h
  exact hK _ _ _ _ _ (fun _ hm hdq0_1 hdq1_1 => hdq1_1) (hS.pick (A := [_, _, _, _]) [0] rfl)
 ·
  refine ⟨_, (hS.cel mp1 rfl), ?_⟩
  refine ⟨_, _, _, (hS.cel mp1 rfl), ?_⟩
  refine ⟨_, (hS.cel mp1 rfl), ?_⟩
  obtain ⟨t2, ht2, h⟩ := bnd h
  refine wk_girderref02_Num_Zero H hS (hq1_1.mono tl3) ht2 ?_; clear hS ht2; rintro w hS
  refine ⟨_, rfl, ?_⟩
  refine cond_s h ?_ ?_ <;> clear h <;> intro hc h
  ·
   refine ⟨_, (hS.cel mp2 rfl), ?_⟩
   refine ⟨_, _, _, (hS.cel mp2 rfl), ?_⟩
   refine ⟨_, (hS.cel mp2 rfl), ?_⟩
   refine stc_s hS rfl rfl ?_; clear hS; intro w hS
   refine stc_s hS rfl rfl ?_; clear hS; intro w hS
   refine stc_s hS rfl rfl ?_; clear hS; intro w hS
   refine ⟨_, (hS.cel mp0 rfl), ?_⟩
   refine ⟨_, _, _, (hS.cel mp0 rfl), ?_⟩
   refine ⟨_, (hS.cel mp0 rfl), ?_⟩
   replace hS := hS.voidItem
   have h := some_inj h
   cases h
   exact hK _ _ _ _ _ (fun _ hm hdq0_1 hdq1_1 => hdq0_1) (hS.pick (A := [_, _, _, _]) [0] rfl)
  ·
   refine ⟨_, (hS.cel mp2 rfl), ?_⟩
   refine ⟨_, (hS.cel mp1 rfl), ?_⟩
   refine cond_s h ?_ ?_ <;> clear h <;> intro hc h
   ·
    refine ⟨_, (hS.cel mp1 rfl), ?_⟩
    refine ⟨_, _, _, (hS.cel mp1 rfl), ?_⟩
    refine ⟨_, (hS.cel mp1 rfl), ?_⟩
    refine ⟨_, (hS.cel mp2 rfl), ?_⟩
    refine ⟨_, _, _, (hS.cel mp2 rfl), ?_⟩
    refine ⟨_, (hS.cel mp2 rfl), ?_⟩
    obtain ⟨⟨t3, t4, t5⟩, ho3, h⟩ := bnd h
    refine wk_girderref02_Plus0 H hS (hq1_1.mono tl3) (hq0_1.mono tl3) ho3 ?_; clear hS ho3; rintro it4 a4 m4 c4 w e4 hS
    refine ⟨_, _, _, _, _, rfl, ?_⟩
    replace hS := ro1 hS
    refine stc_s hS rfl rfl ?_; clear hS; intro w hS
    refine stc_s hS rfl rfl ?_; clear hS; intro w hS
    refine stc_s hS rfl rfl ?_; clear hS; intro w hS
    refine ⟨_, (hS.cel mp0 rfl), ?_⟩
    refine ⟨_, _, _, (hS.cel mp0 rfl), ?_⟩
    refine ⟨_, (hS.cel mp0 rfl), ?_⟩
    have h := some_inj h
    cases h
    exact hK _ _ _ _ _ (fun _ hm hdq0_1 hdq1_1 => (e4 _ hm hdq1_1 hdq0_1)) (hS.pick (A := [_, _, _, _]) [1] rfl)
   ·
    refine ⟨_, _, _, (hS.cel mp2 rfl), ?_⟩
    refine ⟨_, _, _, (hS.cel mp1 rfl), ?_⟩
    refine ⟨_, (hS.cel mp1 rfl), ?_⟩
    refine ⟨_, (hS.cel mp2 rfl), ?_⟩
    obtain ⟨t6, ht6, h⟩ := bnd h
    refine wk_girderref02_NatUp H hS (hq1_1.mono tl3) ht6 ?_; clear hS ht6; rintro a5 m5 c5 w hS
    refine ⟨_, _, _, rfl, ?_⟩
    refine ⟨_, (hS.cel mp3 rfl), ?_⟩
    refine ⟨_, (hS.cel mp2 rfl), ?_⟩
    refine cond_s h ?_ ?_ <;> clear h <;> intro hc h
    ·
     refine ⟨_, (hS.cel mp3 rfl), ?_⟩
     refine ⟨_, (hS.cel mp3 rfl), ?_⟩
     refine drM_s hS ?_; clear hS; intro w hS
     obtain ⟨t7, ht7, h⟩ := bnd h
     refine wk_girderref02_NatAdd H hS (hq0_1.mono tl4) (Ent.sl mp0) ht7 ?_; clear hS ht7; rintro a6 m6 c6 w hS
     refine ⟨_, _, _, rfl, ?_⟩
     refine ⟨(hS.cel mp4 rfl), ?_⟩
     refine ⟨(hS.cel mp4 rfl), ?_⟩
     refine drM_s hS ?_; clear hS; intro w hS
     replace hS := ro2 hS
     refine stc_s hS rfl rfl ?_; clear hS; intro w hS
     refine stc_s hS rfl rfl ?_; clear hS; intro w hS
     refine stc_s hS rfl rfl ?_; clear hS; intro w hS
     refine drM_s hS ?_; clear hS; intro w hS
     refine ⟨_, (hS.cel mp0 rfl), ?_⟩
     refine ⟨_, _, _, (hS.cel mp0 rfl), ?_⟩
     refine ⟨_, (hS.cel mp0 rfl), ?_⟩
     have h := some_inj h
     cases h
     exact hK _ _ _ _ _ (fun _ hm hdq0_1 hdq1_1 => (Ent.sl hm)) (hS.pick (A := [_, _, _, _, _]) [1] rfl)
    ·
     obtain ⟨t8, ht8, h⟩ := bnd h
     refine wk_girderref02_NatCmp H hS (hq0_1.mono tl4) (Ent.sl mp0) ht8 ?_; clear hS ht8; rintro w hS
     refine ⟨_, rfl, ?_⟩
     refine cond_s h ?_ ?_ <;> clear h <;> intro hc h
     ·
      refine ⟨_, (hS.cel mp3 rfl), ?_⟩
      refine ⟨_, (hS.cel mp3 rfl), ?_⟩
      refine drM_s hS ?_; clear hS; intro w hS
      obtain ⟨t9, ht9, h⟩ := bnd h
      refine wk_girderref02_NatSub H hS (hq0_1.mono tl4) (Ent.sl mp0) ht9 ?_; clear hS ht9; rintro a7 m7 c7 w hS
      refine ⟨_, _, _, rfl, ?_⟩
      refine ⟨(hS.cel mp4 rfl), ?_⟩
      refine ⟨(hS.cel mp4 rfl), ?_⟩
      refine drM_s hS ?_; clear hS; intro w hS
      replace hS := ro2 hS
      refine stc_s hS rfl rfl ?_; clear hS; intro w hS
      refine stc_s hS rfl rfl ?_; clear hS; intro w hS
      refine stc_s hS rfl rfl ?_; clear hS; intro w hS
      refine drM_s hS ?_; clear hS; intro w hS
      refine ⟨_, (hS.cel mp0 rfl), ?_⟩
      refine ⟨_, _, _, (hS.cel mp0 rfl), ?_⟩
      refine ⟨_, (hS.cel mp0 rfl), ?_⟩
      have h := some_inj h
      cases h
      exact hK _ _ _ _ _ (fun _ hm hdq0_1 hdq1_1 => (Ent.sl hm)) (hS.pick (A := [_, _, _, _, _]) [1] rfl)
     ·
      refine ⟨_, (hS.cel mp2 rfl), ?_⟩
      refine ⟨_, (hS.cel mp3 rfl), ?_⟩
      refine drM_s hS ?_; clear hS; intro w hS
      obtain ⟨t10, ht10, h⟩ := bnd h
      refine wk_girderref02_NatSub H hS (Ent.sl mp0) (hq0_1.mono tl4) ht10 ?_; clear hS ht10; rintro a8 m8 c8 w hS
      refine ⟨_, _, _, rfl, ?_⟩
      refine ⟨(hS.cel mp4 rfl), ?_⟩
      refine ⟨(hS.cel mp3 rfl), ?_⟩
      refine drM_s hS ?_; clear hS; intro w hS
      replace hS := ro2 hS
      refine stc_s hS rfl rfl ?_; clear hS; intro w hS
      refine stc_s hS rfl rfl ?_; clear hS; intro w hS
      refine stc_s hS rfl rfl ?_; clear hS; intro w hS
      refine drM_s hS ?_; clear hS; intro w hS
      refine ⟨_, (hS.cel mp0 rfl), ?_⟩
      refine ⟨_, _, _, (hS.cel mp0 rfl), ?_⟩
      refine ⟨_, (hS.cel mp0 rfl), ?_⟩
      have h := some_inj h
      cases h
      exact hK _ _ _ _ _ (fun _ hm hdq0_1 hdq1_1 => (Ent.sl hm)) (hS.pick (A := [_, _, _, _, _]) [1] rfl)

theorem wk_girderref02_Plus {N : Nums} {P : Program} (H : AllOk N P) {w0 w : World} {L : List It} {q0_0 : Bool} {q0_1 : Option Addr} {q0_1l q0_1c : Nat} {l0_1 : List Int} {q0_2 : Int} {q1_0 : Bool} {q1_1 : Option Addr} {q1_1l q1_1c : Nat} {l1_1 : List Int} {q1_2 : Int} {u0 : Bool} {u1 : List Int} {u2 : Int} (hS : Ho w0 w (L)) (hq0_1 : Ent L (rdA (List.map (Value.int .u64) l0_1) q0_1 q0_1l q0_1c)) (hq1_1 : Ent L (rdA (List.map (Value.int .u64) l1_1) q1_1 q1_1l q1_1c)) (hx : T_girderref02_Plus q0_0 l0_1 q0_2 q1_0 l1_1 q1_2 = some (u0, u1, u2)) {K : Value → World → Prop} (hK : ∀ (it1 : It) (a1 : Option Addr) (n1 c1 : Nat) (w1 : World), (∀ L1, it1 ∈ L1 → Ent L1 (rdA (List.map (Value.int .u64) l0_1) q0_1 q0_1l q0_1c) → Ent L1 (rdA (List.map (Value.int .u64) l1_1) q1_1 q1_1l q1_1c) → Ent L1 (rdA (List.map (Value.int .u64) u1) a1 n1 c1)) → Ho w0 w1 (it1 :: L) → K (.agg #[.bool u0, .slice a1 n1 c1, .int .i64 u2]) w1) : CallsX P N.f_girderref02_Plus #[.agg #[.bool q0_0, .slice q0_1 q0_1l q0_1c, .int .i64 q0_2], .agg #[.bool q1_0, .slice q1_1 q1_1l q1_1c, .int .i64 q1_2]] w K := by
 refine H.girderref02_Plus q0_0 q0_1 q0_1l q0_1c q0_2 q1_0 q1_1 q1_1l q1_1c q1_2 w _ ?_
 unfold S_girderref02_Plus
 unfold T_girderref02_Plus at hx
 have h := hx
 clear hx
 try dsimp only
 refine newM_s hS ?_; clear hS; intro r1 w hS
 refine newM_s hS ?_; clear hS; intro r2 w hS
 refine newM_s hS ?_; clear hS; intro r3 w hS
 refine ⟨_, (hS.cel mp2 rfl), ?_⟩
 refine ⟨_, _, _, (hS.cel mp2 rfl), ?_⟩
 refine ⟨_, (hS.cel mp2 rfl), ?_⟩
 obtain ⟨t1, ht1, h⟩ := bnd h
 refine wk_girderref02_Num_Zero H hS (hq0_1.mono tl3) ht1 ?_; clear hS ht1; rintro w hS
 refine ⟨_, rfl, ?_⟩
 refine cond_s h ?_ ?_ <;> clear h <;> intro hc h
 ·
  refine ⟨_, (hS.cel mp1 rfl), ?_⟩
  refine ⟨_, _, _, (hS.cel mp1 rfl), ?_⟩
  refine ⟨_, (hS.cel mp1 rfl), ?_⟩
  refine stc_s hS rfl rfl ?_; clear hS; intro w hS
  refine stc_s hS rfl rfl ?_; clear hS; intro w hS
  refine stc_s hS rfl rfl ?_; clear hS; intro w hS
  refine ⟨_, (hS.cel mp0 rfl), ?_⟩
  refine ⟨_, _, _, (hS.cel mp0 rfl), ?_⟩
  refine ⟨_, (hS.cel mp0 rfl), ?_⟩
  replace hS := hS.voidItem
  have h := some_inj h
  cases h
  exact hK _ _ _ _ _ (fun _ hm hdq0_1 hdq1_1 => hdq1_1) (hS.pick (A := [_, _, _, _]) [0] rfl)
 ·
  refine ⟨_, (hS.cel mp1 rfl), ?_⟩
  refine ⟨_, _, _, (hS.cel mp1 rfl), ?_⟩
  refine ⟨_, (hS.cel mp1 rfl), ?_⟩
  obtain ⟨t2, ht2, h⟩ := bnd h
  refine wk_girderref02_Num_Zero H hS (hq1_1.mono tl3) ht2 ?_; clear hS ht2; rintro w hS
  refine ⟨_, rfl, ?_⟩
  refine cond_s h ?_ ?_ <;> clear h <;> intro hc h
  ·
   refine ⟨_, (hS.cel mp2 rfl), ?_⟩
   refine ⟨_, _, _, (hS.cel mp2 rfl), ?_⟩
   refine ⟨_, (hS.cel mp2 rfl), ?_⟩
   refine stc_s hS rfl rfl ?_; clear hS; intro w hS
   refine stc_s hS rfl rfl ?_; clear hS; intro w hS
   refine stc_s hS rfl rfl ?_; clear hS; intro w hS
   refine ⟨_, (hS.cel mp0 rfl), ?_⟩
   refine ⟨_, _, _, (hS.cel mp0 rfl), ?_⟩
   refine ⟨_, (hS.cel mp0 rfl), ?_⟩
   replace hS := hS.voidItem
   have h := some_inj h
   cases h
   exact hK _ _ _ _ _ (fun _ hm hdq0_1 hdq1_1 => hdq0_1) (hS.pick (A := [_, _, _, _]) [0] rfl)
  ·
   refine ⟨_, (hS.cel mp2 rfl), ?_⟩
   refine ⟨_, (hS.cel mp1 rfl), ?_⟩
   refine cond_s h ?_ ?_ <;> clear h <;> intro hc h
   ·
    refine ⟨_, (hS.cel mp1 rfl), ?_⟩
    refine ⟨_, _, _, (hS.cel mp1 rfl), ?_⟩
    refine ⟨_, (hS.cel mp1 rfl), ?_⟩
    refine ⟨_, (hS.cel mp2 rfl), ?_⟩
    refine ⟨_, _, _, (hS.cel mp2 rfl), ?_⟩
    refine ⟨_, (hS.cel mp2 rfl), ?_⟩
    obtain ⟨⟨t3, t4, t5⟩, ho3, h⟩ := bnd h
    refine wk_girderref02_Plus1 H hS (hq1_1.mono tl3) (hq0_1.mono tl3) ho3 ?_; clear hS ho3; rintro it4 a4 m4 c4 w e4 hS
    refine ⟨_, _, _, _, _, rfl, ?_⟩
    replace hS := ro1 hS
    refine stc_s hS rfl rfl ?_; clear hS; intro w hS
    refine stc_s hS rfl rfl ?_; clear hS; intro w hS
    refine stc_s hS rfl rfl ?_; clear hS; intro w hS
    refine ⟨_, (hS.cel mp0 rfl), ?_⟩
    refine ⟨_, _, _, (hS.cel mp0 rfl), ?_⟩
    refine ⟨_, (hS.cel mp0 rfl), ?_⟩
    have h := some_inj h
    cases h
    exact hK _ _ _ _ _ (fun _ hm hdq0_1 hdq1_1 => (e4 _ hm hdq1_1 hdq0_1)) (hS.pick (A := [_, _, _, _]) [1] rfl)
   ·
    refine ⟨_, _, _, (hS.cel mp2 rfl), ?_⟩
    refine ⟨_, _, _, (hS.cel mp1 rfl), ?_⟩
    refine ⟨_, (hS.cel mp1 rfl), ?_⟩
    refine ⟨_, (hS.cel mp2 rfl), ?_⟩
    obtain ⟨t6, ht6, h⟩ := bnd h
    refine wk_girderref02_NatUp H hS (hq1_1.mono tl3) ht6 ?_; clear hS ht6; rintro a5 m5 c5 w hS
    refine ⟨_, _, _, rfl, ?_⟩
    refine ⟨_, (hS.cel mp3 rfl), ?_⟩
    refine ⟨_, (hS.cel mp2 rfl), ?_⟩
    refine cond_s h ?_ ?_ <;> clear h <;> intro hc h
    ·
     refine ⟨_, (hS.cel mp3 rfl), ?_⟩
     refine ⟨_, (hS.cel mp3 rfl), ?_⟩
     refine drM_s hS ?_; clear hS; intro w hS
     obtain ⟨t7, ht7, h⟩ := bnd h
     refine wk_girderref02_NatAdd H hS (hq0_1.mono tl4) (Ent.sl mp0) ht7 ?_; clear hS ht7; rintro a6 m6 c6 w hS
     refine ⟨_, _, _, rfl, ?_⟩
     refine ⟨(hS.cel mp4 rfl), ?_⟩
     refine ⟨(hS.cel mp4 rfl), ?_⟩
     refine drM_s hS ?_; clear hS; intro w hS
     replace hS := ro2 hS
     refine stc_s hS rfl rfl ?_; clear hS; intro w hS
     refine stc_s hS rfl rfl ?_; clear hS; intro w hS
     refine stc_s hS rfl rfl ?_; clear hS; intro w hS
     refine drM_s hS ?_; clear hS; intro w hS
     refine ⟨_, (hS.cel mp0 rfl), ?_⟩
     refine ⟨_, _, _, (hS.cel mp0 rfl), ?_⟩
     refine ⟨_, (hS.cel mp0 rfl), ?_⟩
     have h := some_inj h
     cases h
     exact hK _ _ _ _ _ (fun _ hm hdq0_1 hdq1_1 => (Ent.sl hm)) (hS.pick (A := [_, _, _, _, _]) [1] rfl)
    ·
     obtain ⟨t8, ht8, h⟩ := bnd h
     refine wk_girderref02_NatCmp H hS (hq0_1.mono tl4) (Ent.sl mp0) ht8 ?_; clear hS ht8; rintro w hS
     refine ⟨_, rfl, ?_⟩
     refine cond_s h ?_ ?_ <;> clear h <;> intro hc h
     ·
      refine ⟨_, (hS.cel mp3 rfl), ?_⟩
      refine ⟨_, (hS.cel mp3 rfl), ?_⟩
      refine drM_s hS ?_; clear hS; intro w hS
      obtain ⟨t9, ht9, h⟩ := bnd h
      refine wk_girderref02_NatSub H hS (hq0_1.mono tl4) (Ent.sl mp0) ht9 ?_; clear hS ht9; rintro a7 m7 c7 w hS
      refine ⟨_, _, _, rfl, ?_⟩
      refine ⟨(hS.cel mp4 rfl), ?_⟩
      refine ⟨(hS.cel mp4 rfl), ?_⟩
      refine drM_s hS ?_; clear hS; intro w hS
      replace hS := ro2 hS
      refine stc_s hS rfl rfl ?_; clear hS; intro w hS
      refine stc_s hS rfl rfl ?_; clear hS; intro w hS
      refine stc_s hS rfl rfl ?_; clear hS; intro w hS
      refine drM_s hS ?_; clear hS; intro w hS
      refine ⟨_, (hS.cel mp0 rfl), ?_⟩
      refine ⟨_, _, _, (hS.cel mp0 rfl), ?_⟩
      refine ⟨_, (hS.cel mp0 rfl), ?_⟩
      have h := some_inj h
      cases h
      exact hK _ _ _ _ _ (fun _ hm hdq0_1 hdq1_1 => (Ent.sl hm)) (hS.pick (A := [_, _, _, _, _]) [1] rfl)
     ·
      refine ⟨_, (hS.cel mp2 rfl), ?_⟩
      refine ⟨_, (hS.cel mp3 rfl), ?_⟩
      refine drM_s hS ?_; clear hS; intro w hS
      obtain ⟨t10, ht10, h⟩ := bnd h
      refine wk_girderref02_NatSub H hS (Ent.sl mp0) (hq0_1.mono tl4) ht10 ?_; clear hS ht10; rintro a8 m8 c8 w hS
      refine ⟨_, _, _, rfl, ?_⟩
      refine ⟨(hS.cel mp4 rfl), ?_⟩
      refine ⟨(hS.cel mp3 rfl), ?_⟩
      refine drM_s hS ?_; clear hS; intro w hS
      replace hS := ro2 hS
      refine stc_s hS rfl rfl ?_; clear hS; intro w hS
      refine stc_s hS rfl rfl ?_; clear hS; intro w hS
      refine stc_s hS rfl rfl ?_; clear hS; intro w hS
      refine drM_s hS ?_; clear hS; intro w hS
      refine ⟨_, (hS.cel mp0 rfl), ?_⟩
      refine ⟨_, _, _, (hS.cel mp0 rfl), ?_⟩
      refine ⟨_, (hS.cel mp0 rfl), ?_⟩
      have h := some_inj h
      cases h
      exact hK _ _ _ _ _ (fun _ hm hdq0_1 hdq1_1 => (Ent.sl hm)) (hS.pick (A := [_, _, _, _, _]) [1] rfl)

theorem wk_girderref02_short {N : Nums} {P : Program} (H : AllOk N P) {w0 w : World} {L : List It} {q0 : Option Addr} {q0l q0c : Nat} {l0 : List Int} {q1 : Int} {u0 : List Int} {u1 : Int} (hS : Ho w0 w (L)) (hq0 : Ent L (rdA (List.map (Value.int .u64) l0) q0 q0l q0c)) (hx : T_girderref02_short l0 q1 = some (u0, u1)) {K : Value → World → Prop} (hK : ∀ (a0 : Option Addr) (n0 c0 : Nat) (w1 : World), Ho w0 w1 ((sl a0 n0 c0 (List.map (Value.int .u64) u0) N.t_uint64) :: L) → K (.tuple #[.slice a0 n0 c0, .int .u64 u1]) w1) : CallsX P N.f_girderref02_short #[.slice q0 q0l q0c, .int .u64 q1] w K := by
 refine H.girderref02_short q0 q0l q0c q1 w _ ?_
 unfold S_girderref02_short
 unfold T_girderref02_short at hx
 have h := hx
 clear hx
 try dsimp only
 obtain ⟨t1, ht1, h⟩ := bnd h
 obtain rfl := lenE ht1 (hq0.now (fun _ h => h) hS)
 clear ht1
 obtain ⟨t2, ht2, h⟩ := bnd h
 obtain ⟨rfl, kt2⟩ := mkE ht2
 clear ht2
 refine mk_s (enc := (Value.int .u64)) hS kt2 rfl ?_; clear hS kt2; intro r1 w hS
 obtain ⟨t3, ht3, h⟩ := bnd h
 obtain rfl := lenE ht3 ((hq0.mono tl1).now (fun _ h => h) hS)
 clear ht3
 obtain ⟨o2, h2, c2⟩ := bnd h
 refine cutM_i (fun s w => ∃ (t4 : Int) (t5 : List Int), (t4, t5) = o2 ∧ s = (t4, ()) ∧ Ho w0 w ((sl (some ⟨r1, 0, none⟩) ((((q0l : Nat) : Int)).toNat) ((((q0l : Nat) : Int)).toNat) (List.map (Value.int .u64) t5) N.t_uint64) :: L)) (fun J2 hJ2 => ?_) ?_
 ·
  have h := h2
  clear h2
  refine iter_sim (fun s w t => ∃ (t6 : Int) (t7 : Int) (t8 : List Int), (t6, t7, t8) = t ∧ s = (t6, t7, ()) ∧ Ho w0 w ((sl (some ⟨r1, 0, none⟩) ((((q0l : Nat) : Int)).toNat) ((((q0l : Nat) : Int)).toNat) (List.map (Value.int .u64) t8) N.t_uint64) :: L)) ?_ h ⟨_, _, _, rfl, rfl, hS⟩
  clear h hS
  rintro s w t X q ⟨t6, t7, t8, rfl, rfl, hS⟩ h hX hO
  unfold T_girderref02_short_b2 at h
  try dsimp only
  refine cond_s h ?_ ?_ <;> clear h <;> intro hc h
  ·
   obtain ⟨t9, ht9, h⟩ := bnd h
   obtain ⟨q3x, q3l, q3r⟩ := atE ht9
   clear ht9
   refine idx_s ((hq0.mono tl1).now (fun _ h => h) hS) q3x q3l q3r ?_; intro b4 hb4
   refine ⟨_, rd_get ((hq0.mono tl1).now (fun _ h => h) hS) hb4 q3x, ?_⟩
   obtain ⟨t13, ht13, h⟩ := bnd h
   refine ⟨nz_s ht13, ?_⟩
   clear ht13
   obtain ⟨t10, ht10, h⟩ := bnd h
   obtain ⟨q5x, q5l, q5r⟩ := atE ht10
   clear ht10
   refine idy_s ((Ent.sl mp0).now (fun _ h => h) hS) q5x q5l q5r ?_
   obtain ⟨t11, ht11, h⟩ := bnd h
   obtain rfl := some_inj ht11
   clear ht11
   refine sto_s hS rfl q5r ?_; clear hS; intro w hS
   obtain ⟨t12, ht12, h⟩ := bnd h
   refine ⟨nz_s ht12, ?_⟩
   clear ht12
   obtain rfl := some_inj h
   exact hX _ rfl _ _ ⟨_, _, _, rfl, rfl, hS⟩
  ·
   obtain rfl := some_inj h
   have h := congrArg some (hO _ rfl)
   obtain rfl := some_inj h
   exact hJ2 _ _ ⟨_, _, rfl, rfl, hS⟩
 ·
  clear h2 hS
  rintro s w ⟨t4, t5, rfl, rfl, hS⟩
  have h := c2
  clear c2
  try dsimp only
  obtain ⟨t14, ht14, h⟩ := bnd h
  refine wk_girderref02_low H hS (Ent.sl mp0) ht14 ?_; clear hS ht14; rintro w hS
  refine ⟨_, _, _, rfl, ?_⟩
  obtain ⟨t15, ht15, h⟩ := bnd h
  obtain ⟨rfl, q80, q81, q82⟩ := subE ht15
  clear ht15
  have q83 := ((Ent.sl mp0).now (fun _ h => h) hS).hiCap q82
  replace hS := Ho.cut hS q82
  have h := some_inj h
  cases h
  exact hK _ _ _ _ hS

theorem wk_girderref02_NatDown {N : Nums} {P : Program} (H : AllOk N P) {w0 w : World} {L : List It} {q0 : Option Addr} {q0l q0c : Nat} {l0 : List Int} {q1 : Int} {u0 : List Int} {u1 : Bool} (hS : Ho w0 w (L)) (hq0 : Ent L (rdA (List.map (Value.int .u64) l0) q0 q0l q0c)) (hx : T_girderref02_NatDown l0 q1 = some (u0, u1)) {K : Value → World → Prop} (hK : ∀ (a0 : Option Addr) (n0 c0 : Nat) (w1 : World), Ho w0 w1 ((sl a0 n0 c0 (List.map (Value.int .u64) u0) N.t_uint64) :: L) → K (.tuple #[.slice a0 n0 c0, .bool u1]) w1) : CallsX P N.f_girderref02_NatDown #[.slice q0 q0l q0c, .int .i64 q1] w K := by
 refine H.girderref02_NatDown q0 q0l q0c q1 w _ ?_
 unfold S_girderref02_NatDown
 unfold T_girderref02_NatDown at hx
 have h := hx
 clear hx
 try dsimp only
 obtain ⟨t1, ht1, h⟩ := bnd h
 refine wk_girderref02_halves H hS hq0 ht1 ?_; clear hS ht1; rintro a1 m1 c1 w hS
 refine ⟨_, _, _, rfl, ?_⟩
 obtain ⟨o2, h2, c2⟩ := bnd h
 refine cutM_i (fun s w => ∃ (t2 : Bool), t2 = o2 ∧ s = (t2, ()) ∧ Ho w0 w ((sl a1 m1 c1 (List.map (Value.int .u64) t1) N.t_uint64) :: L)) (fun J2 hJ2 => ?_) ?_
 ·
  have h := h2
  clear h2
  refine iter_sim (fun s w t => ∃ (t3 : Bool) (t4 : Int), (t3, t4) = t ∧ s = (t3, t4, ()) ∧ Ho w0 w ((sl a1 m1 c1 (List.map (Value.int .u64) t1) N.t_uint64) :: L)) ?_ h ⟨_, _, rfl, rfl, hS⟩
  clear h hS
  rintro s w t X q ⟨t3, t4, rfl, rfl, hS⟩ h hX hO
  unfold T_girderref02_NatDown_b2 at h
  try dsimp only
  refine ⟨by decide, ?_⟩
  refine cond_s h ?_ ?_ <;> clear h <;> intro hc h
  ·
   obtain ⟨t5, ht5, h⟩ := bnd h
   obtain rfl := lenE ht5 ((Ent.sl mp0).now (fun _ h => h) hS)
   clear ht5
   refine cond_s h ?_ ?_ <;> clear h <;> intro hc h
   ·
    refine cond_s h ?_ ?_ <;> clear h <;> intro hc h
    ·
     obtain ⟨t6, ht6, h⟩ := bnd h
     obtain ⟨q3x, q3l, q3r⟩ := atE ht6
     clear ht6
     refine idx_s ((Ent.sl mp0).now (fun _ h => h) hS) q3x q3l q3r ?_; intro b4 hb4
     refine ⟨_, rd_get ((Ent.sl mp0).now (fun _ h => h) hS) hb4 q3x, ?_⟩
     obtain rfl := some_inj h
     exact hX _ rfl _ _ ⟨_, _, rfl, rfl, hS⟩
    ·
     obtain rfl := some_inj h
     exact hX _ rfl _ _ ⟨_, _, rfl, rfl, hS⟩
   ·
    obtain rfl := some_inj h
    have h := congrArg some (hO _ rfl)
    obtain rfl := some_inj h
    exact hJ2 _ _ ⟨_, rfl, rfl, hS⟩
  ·
   obtain rfl := some_inj h
   have h := congrArg some (hO _ rfl)
   obtain rfl := some_inj h
   exact hJ2 _ _ ⟨_, rfl, rfl, hS⟩
 ·
  clear h2 hS
  rintro s w ⟨t2, rfl, rfl, hS⟩
  have h := c2
  clear c2
  try dsimp only
  refine ⟨by decide, ?_⟩
  obtain ⟨t7, ht7, h⟩ := bnd h
  obtain rfl := lenE ht7 ((Ent.sl mp0).now (fun _ h => h) hS)
  clear ht7
  refine cond_s h ?_ ?_ <;> clear h <;> intro hc h
  ·
   replace hS := hS.none (α := Int) (enc := (Value.int .u64)) (t := N.t_uint64)
   have h := some_inj h
   cases h
   exact hK _ _ _ _ (hS.pick (A := [_, _]) [0] rfl)
  ·
   obtain ⟨o5, h5, c5⟩ := bnd h
   refine cutM_i (fun s w => ∃ (t8 : Int), t8 = o5 ∧ s = (t8, ()) ∧ Ho w0 w ((sl a1 m1 c1 (List.map (Value.int .u64) t1) N.t_uint64) :: L)) (fun J5 hJ5 => ?_) ?_
   ·
    have h := h5
    clear h5
    refine iter_sim (fun s w t => ∃ (t9 : Int) (t10 : Int), (t9, t10) = t ∧ s = (t9, t10, ()) ∧ Ho w0 w ((sl a1 m1 c1 (List.map (Value.int .u64) t1) N.t_uint64) :: L)) ?_ h ⟨_, _, rfl, rfl, hS⟩
    clear h hS
    rintro s w t X q ⟨t9, t10, rfl, rfl, hS⟩ h hX hO
    unfold T_girderref02_NatDown_b4 at h
    try dsimp only
    refine ⟨by decide, ?_⟩
    refine cond_s h ?_ ?_ <;> clear h <;> intro hc h
    ·
     obtain rfl := some_inj h
     exact hX _ rfl _ _ ⟨_, _, rfl, rfl, hS⟩
    ·
     obtain rfl := some_inj h
     have h := congrArg some (hO _ rfl)
     obtain rfl := some_inj h
     exact hJ5 _ _ ⟨_, rfl, rfl, hS⟩
   ·
    clear h5 hS
    rintro s w ⟨t8, rfl, rfl, hS⟩
    have h := c5
    clear c5
    try dsimp only
    refine ⟨by decide, ?_⟩
    obtain ⟨t12, ht12, h⟩ := bnd h
    obtain rfl := lenE ht12 ((Ent.sl mp0).now (fun _ h => h) hS)
    clear ht12
    obtain ⟨t11, ht11, h⟩ := bnd h
    obtain ⟨rfl, q60, q61, q62⟩ := subE ht11
    clear ht11
    refine ⟨(by first | exact q60 | omega), (by first | exact q61 | omega), ?_⟩
    obtain ⟨⟨t13, t14⟩, ho13, h⟩ := bnd h
    refine wk_girderref02_short H hS (Ent.from (Ent.sl mp0) q60 q61) ho13 ?_; clear hS ho13; rintro a7 m7 c7 w hS
    refine ⟨_, _, _, _, rfl, ?_⟩
    obtain ⟨t15, ht15, h⟩ := bnd h
    refine wk_girderref02_limbs H hS (Ent.sl mp0) ht15 ?_; clear hS ht15; rintro a8 m8 c8 w hS
    refine ⟨_, _, _, rfl, ?_⟩
    refine cond_s h ?_ ?_ <;> clear h <;> intro hc h
    ·
     have h := some_inj h
     cases h
     exact hK _ _ _ _ (hS.pick (A := [_, _, _]) [0] rfl)
    ·
     have h := some_inj h
     cases h
     exact hK _ _ _ _ (hS.pick (A := [_, _, _]) [0] rfl)

theorem wk_girderref02_Norm {N : Nums} {P : Program} (H : AllOk N P) {w0 w : World} {L : List It} {q0_0 : Bool} {q0_1 : Option Addr} {q0_1l q0_1c : Nat} {l0_1 : List Int} {q0_2 : Int} {u0 : Bool} {u1 : List Int} {u2 : Int} {u3 : Int} (hS : Ho w0 w (L)) (hq0_1 : Ent L (rdA (List.map (Value.int .u64) l0_1) q0_1 q0_1l q0_1c)) (hx : T_girderref02_Norm q0_0 l0_1 q0_2 = some (u0, u1, u2, u3)) {K : Value → World → Prop} (hK : ∀ (a1 : Option Addr) (n1 c1 : Nat) (w1 : World), Ho w0 w1 ((sl a1 n1 c1 (List.map (Value.int .u64) u1) N.t_uint64) :: L) → K (.tuple #[.agg #[.bool u0, .slice a1 n1 c1, .int .i64 u2], .int .i64 u3]) w1) : CallsX P N.f_girderref02_Norm #[.agg #[.bool q0_0, .slice q0_1 q0_1l q0_1c, .int .i64 q0_2]] w K := by
 refine H.girderref02_Norm q0_0 q0_1 q0_1l q0_1c q0_2 w _ ?_
 unfold S_girderref02_Norm
 unfold T_girderref02_Norm at hx
 have h := hx
 clear hx
 try dsimp only
 refine newM_s hS ?_; clear hS; intro r1 w hS
 refine newM_s hS ?_; clear hS; intro r2 w hS
 refine ⟨_, _, _, (hS.cel mp1 rfl), ?_⟩
 obtain ⟨t1, ht1, h⟩ := bnd h
 refine wk_girderref02_NatTrim H hS (hq0_1.mono tl2) ht1 ?_; clear hS ht1; rintro a3 m3 c3 w hS
 refine ⟨_, _, _, rfl, ?_⟩
 obtain ⟨t2, ht2, h⟩ := bnd h
 obtain rfl := lenE ht2 ((Ent.sl mp0).now (fun _ h => h) hS)
 clear ht2
 refine cond_s h ?_ ?_ <;> clear h <;> intro hc h
 ·
  replace hS := ro1 hS
  refine stc_s hS rfl rfl ?_; clear hS; intro w hS
  refine stc_s hS rfl rfl ?_; clear hS; intro w hS
  refine stc_s hS rfl rfl ?_; clear hS; intro w hS
  refine ⟨_, (hS.cel mp0 rfl), ?_⟩
  refine ⟨_, _, _, (hS.cel mp0 rfl), ?_⟩
  refine ⟨_, (hS.cel mp0 rfl), ?_⟩
  replace hS := hS.none (α := Int) (enc := (Value.int .u64)) (t := N.t_uint64)
  have h := some_inj h
  cases h
  exact hK _ _ _ _ (hS.pick (A := [_, _, _, _]) [0] rfl)
 ·
  obtain ⟨o4, h4, c4⟩ := bnd h
  refine cutM_i (fun s w => ∃ (t3 : Int), t3 = o4 ∧ s = (t3, ()) ∧ Ho w0 w ((sl a3 m3 c3 (List.map (Value.int .u64) t1) N.t_uint64) :: (cl r2 [.bool false, .slice none 0 0, .int .i64 0] N.t_Dyad) :: (cl r1 [.bool q0_0, .slice q0_1 q0_1l q0_1c, .int .i64 q0_2] N.t_Dyad) :: L)) (fun J4 hJ4 => ?_) ?_
  ·
   have h := h4
   clear h4
   refine iter_sim (fun s w t => ∃ (t4 : Int), t4 = t ∧ s = (t4, ()) ∧ Ho w0 w ((sl a3 m3 c3 (List.map (Value.int .u64) t1) N.t_uint64) :: (cl r2 [.bool false, .slice none 0 0, .int .i64 0] N.t_Dyad) :: (cl r1 [.bool q0_0, .slice q0_1 q0_1l q0_1c, .int .i64 q0_2] N.t_Dyad) :: L)) ?_ h ⟨_, rfl, rfl, hS⟩
   clear h hS
   rintro s w t X q ⟨t4, rfl, rfl, hS⟩ h hX hO
   unfold T_girderref02_Norm_b2 at h
   try dsimp only
   refine ⟨by decide, ?_⟩
   obtain ⟨t5, ht5, h⟩ := bnd h
   obtain ⟨q5x, q5l, q5r⟩ := atE ht5
   clear ht5
   refine idx_s ((Ent.sl mp0).now (fun _ h => h) hS) q5x q5l q5r ?_; intro b6 hb6
   refine ⟨_, rd_get ((Ent.sl mp0).now (fun _ h => h) hS) hb6 q5x, ?_⟩
   refine ⟨by decide, ?_⟩
   obtain ⟨t6, ht6, h⟩ := bnd h
   refine ⟨nn_s ht6, ?_⟩
   clear ht6
   refine ⟨by decide, ?_⟩
   refine cond_s h ?_ ?_ <;> clear h <;> intro hc h
   ·
    obtain rfl := some_inj h
    exact hX _ rfl _ _ ⟨_, rfl, rfl, hS⟩
   ·
    obtain rfl := some_inj h
    have h := congrArg some (hO _ rfl)
    obtain rfl := some_inj h
    exact hJ4 _ _ ⟨_, rfl, rfl, hS⟩
  ·
   clear h4 hS
   rintro s w ⟨t3, rfl, rfl, hS⟩
   have h := c4
   clear c4
   try dsimp only
   obtain ⟨⟨t7, t8⟩, ho7, h⟩ := bnd h
   refine wk_girderref02_NatDown H hS (Ent.sl mp0) ho7 ?_; clear hS ho7; rintro a7 m7 c7 w hS
   refine ⟨_, _, _, _, rfl, ?_⟩
   obtain ⟨o8, h8, c8⟩ := bnd h
   refine cutM_i (fun s w => ∃ (t9 : Bool), t9 = o8 ∧ s = (t9, ()) ∧ Ho w0 w ((sl a7 m7 c7 (List.map (Value.int .u64) t7) N.t_uint64) :: (cl r2 [.bool false, .slice none 0 0, .int .i64 0] N.t_Dyad) :: (cl r1 [.bool q0_0, .slice q0_1 q0_1l q0_1c, .int .i64 q0_2] N.t_Dyad) :: L)) (fun J8 hJ8 => ?_) ?_
   ·
    have h := h8
    clear h8
    obtain ⟨t10, ht10, h⟩ := bnd h
    obtain rfl := lenE ht10 ((Ent.sl mp0).now (fun _ h => h) hS)
    clear ht10
    refine cond_s h ?_ ?_ <;> clear h <;> intro hc h
    ·
     refine ⟨_, (hS.cel mp3 rfl), ?_⟩
     refine cond_s h ?_ ?_ <;> clear h <;> intro hc h
     ·
      refine ⟨_, (hS.cel mp3 rfl), ?_⟩
      refine cond_s h ?_ ?_ <;> clear h <;> intro hc h
      ·
       refine ⟨_, (hS.cel mp3 rfl), ?_⟩
       obtain rfl := some_inj h
       exact hJ8 _ _ ⟨_, rfl, rfl, (hS.pick (A := [_, _, _, _]) [0, 1, 1] rfl)⟩
      ·
       obtain rfl := some_inj h
       exact hJ8 _ _ ⟨_, rfl, rfl, (hS.pick (A := [_, _, _, _]) [0, 1, 1] rfl)⟩
     ·
      obtain rfl := some_inj h
      exact hJ8 _ _ ⟨_, rfl, rfl, (hS.pick (A := [_, _, _, _]) [0, 1, 1] rfl)⟩
    ·
     obtain rfl := some_inj h
     exact hJ8 _ _ ⟨_, rfl, rfl, (hS.pick (A := [_, _, _, _]) [0, 1, 1] rfl)⟩
   ·
    clear h8 hS
    rintro s w ⟨t9, rfl, rfl, hS⟩
    have h := c8
    clear c8
    try dsimp only
    refine cond_s h ?_ ?_ <;> clear h <;> intro hc h
    ·
     replace hS := ro1 hS
     refine stc_s hS rfl rfl ?_; clear hS; intro w hS
     refine stc_s hS rfl rfl ?_; clear hS; intro w hS
     refine stc_s hS rfl rfl ?_; clear hS; intro w hS
     refine ⟨_, (hS.cel mp0 rfl), ?_⟩
     refine ⟨_, _, _, (hS.cel mp0 rfl), ?_⟩
     refine ⟨_, (hS.cel mp0 rfl), ?_⟩
     replace hS := hS.none (α := Int) (enc := (Value.int .u64)) (t := N.t_uint64)
     have h := some_inj h
     cases h
     exact hK _ _ _ _ (hS.pick (A := [_, _, _, _]) [0] rfl)
    ·
     refine ⟨_, (hS.cel mp2 rfl), ?_⟩
     refine ⟨_, (hS.cel mp2 rfl), ?_⟩
     replace hS := ro1 hS
     refine stc_s hS rfl rfl ?_; clear hS; intro w hS
     refine stc_s hS rfl rfl ?_; clear hS; intro w hS
     refine stc_s hS rfl rfl ?_; clear hS; intro w hS
     refine ⟨_, (hS.cel mp0 rfl), ?_⟩
     refine ⟨_, _, _, (hS.cel mp0 rfl), ?_⟩
     refine ⟨_, (hS.cel mp0 rfl), ?_⟩
     have h := some_inj h
     cases h
     exact hK _ _ _ _ (hS.pick (A := [_, _, _]) [1] rfl)

theorem wk_girderref02_Told {N : Nums} {P : Program} (H : AllOk N P) {w0 w : World} {L : List It} {q0_0 : Bool} {q0_1 : Option Addr} {q0_1l q0_1c : Nat} {l0_1 : List Int} {q0_2 : Int} {u0 : Bool} {u1 : List Int} {u2 : Int} {u3 : Int} (hS : Ho w0 w (L)) (hq0_1 : Ent L (rdA (List.map (Value.int .u64) l0_1) q0_1 q0_1l q0_1c)) (hx : T_girderref02_Told q0_0 l0_1 q0_2 = some (u0, u1, u2, u3)) {K : Value → World → Prop} (hK : ∀ (a1 : Option Addr) (n1 c1 : Nat) (w1 : World), Ho w0 w1 ((sl a1 n1 c1 (List.map (Value.int .u64) u1) N.t_uint64) :: L) → K (.tuple #[.agg #[.bool u0, .slice a1 n1 c1, .int .i64 u2], .int .i64 u3]) w1) : CallsX P N.f_girderref02_Told #[.agg #[.bool q0_0, .slice q0_1 q0_1l q0_1c, .int .i64 q0_2]] w K := by
 refine H.girderref02_Told q0_0 q0_1 q0_1l q0_1c q0_2 w _ ?_
 unfold S_girderref02_Told
 unfold T_girderref02_Told at hx
 have h := hx
 clear hx
 try dsimp only
 refine newM_s hS ?_; clear hS; intro r1 w hS
 refine newM_s hS ?_; clear hS; intro r2 w hS
 refine ⟨_, (hS.cel mp1 rfl), ?_⟩
 refine ⟨_, _, _, (hS.cel mp1 rfl), ?_⟩
 refine ⟨_, (hS.cel mp1 rfl), ?_⟩
 obtain ⟨⟨t1, t2, t3, t4⟩, ho1, h⟩ := bnd h
 refine wk_girderref02_Norm H hS (hq0_1.mono tl2) ho1 ?_; clear hS ho1; rintro a3 m3 c3 w hS
 refine ⟨_, _, _, _, _, _, rfl, ?_⟩
 replace hS := ro1 hS
 refine stc_s hS rfl rfl ?_; clear hS; intro w hS
 refine stc_s hS rfl rfl ?_; clear hS; intro w hS
 refine stc_s hS rfl rfl ?_; clear hS; intro w hS
 refine ⟨_, (hS.cel mp0 rfl), ?_⟩
 refine ⟨_, _, _, (hS.cel mp0 rfl), ?_⟩
 refine ⟨_, (hS.cel mp0 rfl), ?_⟩
 have h := some_inj h
 cases h
 exact hK _ _ _ _ (hS.pick (A := [_, _, _]) [1] rfl)

theorem wk_girderref02_Add {N : Nums} {P : Program} (H : AllOk N P) {w0 w : World} {L : List It} {q0_0 : Bool} {q0_1 : Option Addr} {q0_1l q0_1c : Nat} {l0_1 : List Int} {q0_2 : Int} {q1_0 : Bool} {q1_1 : Option Addr} {q1_1l q1_1c : Nat} {l1_1 : List Int} {q1_2 : Int} {u0 : Bool} {u1 : List Int} {u2 : Int} {u3 : Int} (hS : Ho w0 w (L)) (hq0_1 : Ent L (rdA (List.map (Value.int .u64) l0_1) q0_1 q0_1l q0_1c)) (hq1_1 : Ent L (rdA (List.map (Value.int .u64) l1_1) q1_1 q1_1l q1_1c)) (hx : T_girderref02_Add q0_0 l0_1 q0_2 q1_0 l1_1 q1_2 = some (u0, u1, u2, u3)) {K : Value → World → Prop} (hK : ∀ (a1 : Option Addr) (n1 c1 : Nat) (w1 : World), Ho w0 w1 ((sl a1 n1 c1 (List.map (Value.int .u64) u1) N.t_uint64) :: L) → K (.tuple #[.agg #[.bool u0, .slice a1 n1 c1, .int .i64 u2], .int .i64 u3]) w1) : CallsX P N.f_girderref02_Add #[.agg #[.bool q0_0, .slice q0_1 q0_1l q0_1c, .int .i64 q0_2], .agg #[.bool q1_0, .slice q1_1 q1_1l q1_1c, .int .i64 q1_2]] w K := by
 refine H.girderref02_Add q0_0 q0_1 q0_1l q0_1c q0_2 q1_0 q1_1 q1_1l q1_1c q1_2 w _ ?_
 unfold S_girderref02_Add
 unfold T_girderref02_Add at hx
 have h := hx
 clear hx
 try dsimp only
 refine newM_s hS ?_; clear hS; intro r1 w hS
 refine newM_s hS ?_; clear hS; intro r2 w hS
 refine newM_s hS ?_; clear hS; intro r3 w hS
 obtain ⟨o4, h4, c4⟩ := bnd h
 refine cutM_i (fun s w => ∃ (t1 : Bool), t1 = o4 ∧ s = (t1, ()) ∧ Ho w0 w ((cl r3 [.bool false, .slice none 0 0, .int .i64 0] N.t_Dyad) :: (cl r2 [.bool q1_0, .slice q1_1 q1_1l q1_1c, .int .i64 q1_2] N.t_Dyad) :: (cl r1 [.bool q0_0, .slice q0_1 q0_1l q0_1c, .int .i64 q0_2] N.t_Dyad) :: L)) (fun J4 hJ4 => ?_) ?_
 ·
  have h := h4
  clear h4
  refine ⟨_, (hS.cel mp2 rfl), ?_⟩
  refine ⟨_, _, _, (hS.cel mp2 rfl), ?_⟩
  refine ⟨_, (hS.cel mp2 rfl), ?_⟩
  obtain ⟨t2, ht2, h⟩ := bnd h
  refine wk_girderref02_Right H hS (hq0_1.mono tl3) ht2 ?_; clear hS ht2; rintro w hS
  refine ⟨_, rfl, ?_⟩
  refine cond_s h ?_ ?_ <;> clear h <;> intro hc h
  ·
   refine ⟨_, (hS.cel mp1 rfl), ?_⟩
   refine ⟨_, _, _, (hS.cel mp1 rfl), ?_⟩
   refine ⟨_, (hS.cel mp1 rfl), ?_⟩
   obtain ⟨t3, ht3, h⟩ := bnd h
   refine wk_girderref02_Right H hS (hq1_1.mono tl3) ht3 ?_; clear hS ht3; rintro w hS
   refine ⟨_, rfl, ?_⟩
   obtain rfl := some_inj h
   exact hJ4 _ _ ⟨_, rfl, rfl, hS⟩
  ·
   obtain rfl := some_inj h
   exact hJ4 _ _ ⟨_, rfl, rfl, hS⟩
 ·
  clear h4 hS
  rintro s w ⟨t1, rfl, rfl, hS⟩
  have h := c4
  clear c4
  try dsimp only
  refine cond_s h ?_ ?_ <;> clear h <;> intro hc h
  ·
   refine stc_s hS rfl rfl ?_; clear hS; intro w hS
   refine stc_s hS rfl rfl ?_; clear hS; intro w hS
   refine stc_s hS rfl rfl ?_; clear hS; intro w hS
   refine ⟨_, (hS.cel mp0 rfl), ?_⟩
   refine ⟨_, _, _, (hS.cel mp0 rfl), ?_⟩
   refine ⟨_, (hS.cel mp0 rfl), ?_⟩
   replace hS := hS.none (α := Int) (enc := (Value.int .u64)) (t := N.t_uint64)
   have h := some_inj h
   cases h
   exact hK _ _ _ _ (hS.pick (A := [_, _, _, _]) [0] rfl)
  ·
   refine ⟨_, (hS.cel mp2 rfl), ?_⟩
   refine ⟨_, _, _, (hS.cel mp2 rfl), ?_⟩
   refine ⟨_, (hS.cel mp2 rfl), ?_⟩
   refine ⟨_, (hS.cel mp1 rfl), ?_⟩
   refine ⟨_, _, _, (hS.cel mp1 rfl), ?_⟩
   refine ⟨_, (hS.cel mp1 rfl), ?_⟩
   obtain ⟨t4, ht4, h⟩ := bnd h
   refine wk_girderref02_far H hS (hq0_1.mono tl3) (hq1_1.mono tl3) ht4 ?_; clear hS ht4; rintro w hS
   refine ⟨_, rfl, ?_⟩
   refine cond_s h ?_ ?_ <;> clear h <;> intro hc h
   ·
    refine stc_s hS rfl rfl ?_; clear hS; intro w hS
    refine stc_s hS rfl rfl ?_; clear hS; intro w hS
    refine stc_s hS rfl rfl ?_; clear hS; intro w hS
    refine ⟨_, (hS.cel mp0 rfl), ?_⟩
    refine ⟨_, _, _, (hS.cel mp0 rfl), ?_⟩
    refine ⟨_, (hS.cel mp0 rfl), ?_⟩
    replace hS := hS.none (α := Int) (enc := (Value.int .u64)) (t := N.t_uint64)
    have h := some_inj h
    cases h
    exact hK _ _ _ _ (hS.pick (A := [_, _, _, _]) [0] rfl)
   ·
    refine ⟨_, (hS.cel mp2 rfl), ?_⟩
    refine ⟨_, _, _, (hS.cel mp2 rfl), ?_⟩
    refine ⟨_, (hS.cel mp2 rfl), ?_⟩
    refine ⟨_, (hS.cel mp1 rfl), ?_⟩
    refine ⟨_, _, _, (hS.cel mp1 rfl), ?_⟩
    refine ⟨_, (hS.cel mp1 rfl), ?_⟩
    refine drM_s hS ?_; clear hS; intro w hS
    obtain ⟨⟨t5, t6, t7⟩, ho5, h⟩ := bnd h
    refine wk_girderref02_Dyad H hS (hq0_1.mono tl3) ho5 ?_; clear hS ho5; rintro a5 m5 c5 w hS
    refine ⟨_, _, _, _, _, rfl, ?_⟩
    refine ⟨(hS.cel mp2 rfl), ?_⟩
    refine ⟨(hS.cel mp2 rfl), ?_⟩
    refine ⟨(hS.cel mp2 rfl), ?_⟩
    refine drM_s hS ?_; clear hS; intro w hS
    obtain ⟨⟨t8, t9, t10⟩, ho8, h⟩ := bnd h
    refine wk_girderref02_Dyad H hS (hq1_1.mono tl4) ho8 ?_; clear hS ho8; rintro a6 m6 c6 w hS
    refine ⟨_, _, _, _, _, rfl, ?_⟩
    refine drM_s hS ?_; clear hS; intro w hS
    obtain ⟨⟨t11, t12, t13⟩, ho11, h⟩ := bnd h
    refine wk_girderref02_Plus H hS (Ent.sl mp1) (Ent.sl mp0) ho11 ?_; clear hS ho11; rintro it7 a7 m7 c7 w e7 hS
    refine ⟨_, _, _, _, _, rfl, ?_⟩
    refine drM_s hS ?_; clear hS; intro w hS
    obtain ⟨⟨t14, t15, t16, t17⟩, ho14, h⟩ := bnd h
    refine wk_girderref02_Told H hS (e7 _ mp0 (Ent.sl mp2) (Ent.sl mp1)) ho14 ?_; clear hS ho14; rintro a8 m8 c8 w hS
    refine ⟨_, _, _, _, _, _, rfl, ?_⟩
    refine drM_s hS ?_; clear hS; intro w hS
    replace hS := ro4 hS
    refine stc_s hS rfl rfl ?_; clear hS; intro w hS
    refine stc_s hS rfl rfl ?_; clear hS; intro w hS
    refine stc_s hS rfl rfl ?_; clear hS; intro w hS
    refine drM_s hS ?_; clear hS; intro w hS
    refine ⟨_, (hS.cel mp0 rfl), ?_⟩
    refine ⟨_, _, _, (hS.cel mp0 rfl), ?_⟩
    refine ⟨_, (hS.cel mp0 rfl), ?_⟩
    have h := some_inj h
    cases h
    exact hK _ _ _ _ (hS.pick (A := [_, _, _, _, _, _, _]) [1] rfl)

theorem wk_girderref02_Minus {N : Nums} {P : Program} (H : AllOk N P) {w0 w : World} {L : List It} {q0_0 : Bool} {q0_1 : Option Addr} {q0_1l q0_1c : Nat} {l0_1 : List Int} {q0_2 : Int} {u0 : Bool} {u1 : List Int} {u2 : Int} (hS : Ho w0 w (L)) (hq0_1 : Ent L (rdA (List.map (Value.int .u64) l0_1) q0_1 q0_1l q0_1c)) (hx : T_girderref02_Minus q0_0 l0_1 q0_2 = some (u0, u1, u2)) {K : Value → World → Prop} (hK : ∀  (w1 : World), l0_1 = u1 → Ho w0 w1 (L) → K (.agg #[.bool u0, .slice q0_1 q0_1l q0_1c, .int .i64 u2]) w1) : CallsX P N.f_girderref02_Minus #[.agg #[.bool q0_0, .slice q0_1 q0_1l q0_1c, .int .i64 q0_2]] w K := by
 refine H.girderref02_Minus q0_0 q0_1 q0_1l q0_1c q0_2 w _ ?_
 unfold S_girderref02_Minus
 unfold T_girderref02_Minus at hx
 have h := hx
 clear hx
 try dsimp only
 refine newM_s hS ?_; clear hS; intro r1 w hS
 refine newM_s hS ?_; clear hS; intro r2 w hS
 refine ⟨_, (hS.cel mp1 rfl), ?_⟩
 refine ⟨_, _, _, (hS.cel mp1 rfl), ?_⟩
 refine ⟨_, (hS.cel mp1 rfl), ?_⟩
 refine stc_s hS rfl rfl ?_; clear hS; intro w hS
 refine stc_s hS rfl rfl ?_; clear hS; intro w hS
 refine stc_s hS rfl rfl ?_; clear hS; intro w hS
 refine ⟨_, (hS.cel mp0 rfl), ?_⟩
 refine ⟨_, _, _, (hS.cel mp0 rfl), ?_⟩
 refine ⟨_, (hS.cel mp0 rfl), ?_⟩
 have h := some_inj h
 cases h
 exact hK _ rfl (hS.pick (A := [_, _]) [] rfl)

theorem wk_girderref02_Neg {N : Nums} {P : Program} (H : AllOk N P) {w0 w : World} {L : List It} {q0_0 : Bool} {q0_1 : Option Addr} {q0_1l q0_1c : Nat} {l0_1 : List Int} {q0_2 : Int} {u0 : Bool} {u1 : List Int} {u2 : Int} {u3 : Int} (hS : Ho w0 w (L)) (hq0_1 : Ent L (rdA (List.map (Value.int .u64) l0_1) q0_1 q0_1l q0_1c)) (hx : T_girderref02_Neg q0_0 l0_1 q0_2 = some (u0, u1, u2, u3)) {K : Value → World → Prop} (hK : ∀ (a1 : Option Addr) (n1 c1 : Nat) (w1 : World), Ho w0 w1 ((sl a1 n1 c1 (List.map (Value.int .u64) u1) N.t_uint64) :: L) → K (.tuple #[.agg #[.bool u0, .slice a1 n1 c1, .int .i64 u2], .int .i64 u3]) w1) : CallsX P N.f_girderref02_Neg #[.agg #[.bool q0_0, .slice q0_1 q0_1l q0_1c, .int .i64 q0_2]] w K := by
 refine H.girderref02_Neg q0_0 q0_1 q0_1l q0_1c q0_2 w _ ?_
 unfold S_girderref02_Neg
 unfold T_girderref02_Neg at hx
 have h := hx
 clear hx
 try dsimp only
 refine newM_s hS ?_; clear hS; intro r1 w hS
 refine newM_s hS ?_; clear hS; intro r2 w hS
 refine ⟨_, (hS.cel mp1 rfl), ?_⟩
 refine ⟨_, _, _, (hS.cel mp1 rfl), ?_⟩
 refine ⟨_, (hS.cel mp1 rfl), ?_⟩
 obtain ⟨t1, ht1, h⟩ := bnd h
 refine wk_girderref02_Right H hS (hq0_1.mono tl2) ht1 ?_; clear hS ht1; rintro w hS
 refine ⟨_, rfl, ?_⟩
 refine cond_s h ?_ ?_ <;> clear h <;> intro hc h
 ·
  refine stc_s hS rfl rfl ?_; clear hS; intro w hS
  refine stc_s hS rfl rfl ?_; clear hS; intro w hS
  refine stc_s hS rfl rfl ?_; clear hS; intro w hS
  refine ⟨_, (hS.cel mp0 rfl), ?_⟩
  refine ⟨_, _, _, (hS.cel mp0 rfl), ?_⟩
  refine ⟨_, (hS.cel mp0 rfl), ?_⟩
  replace hS := hS.none (α := Int) (enc := (Value.int .u64)) (t := N.t_uint64)
  have h := some_inj h
  cases h
  exact hK _ _ _ _ (hS.pick (A := [_, _, _]) [0] rfl)
 ·
  refine ⟨_, (hS.cel mp1 rfl), ?_⟩
  refine ⟨_, _, _, (hS.cel mp1 rfl), ?_⟩
  refine ⟨_, (hS.cel mp1 rfl), ?_⟩
  obtain ⟨⟨t2, t3, t4⟩, ho2, h⟩ := bnd h
  refine wk_girderref02_Dyad H hS (hq0_1.mono tl2) ho2 ?_; clear hS ho2; rintro a3 m3 c3 w hS
  refine ⟨_, _, _, _, _, rfl, ?_⟩
  obtain ⟨⟨t5, t6, t7⟩, ho5, h⟩ := bnd h
  refine wk_girderref02_Minus H hS (Ent.sl mp0) ho5 ?_; clear hS ho5; rintro w rfl hS
  refine ⟨_, _, _, _, _, rfl, ?_⟩
  obtain ⟨⟨t8, t9, t10, t11⟩, ho8, h⟩ := bnd h
  refine wk_girderref02_Told H hS (Ent.sl mp0) ho8 ?_; clear hS ho8; rintro a5 m5 c5 w hS
  refine ⟨_, _, _, _, _, _, rfl, ?_⟩
  replace hS := ro2 hS
  refine stc_s hS rfl rfl ?_; clear hS; intro w hS
  refine stc_s hS rfl rfl ?_; clear hS; intro w hS
  refine stc_s hS rfl rfl ?_; clear hS; intro w hS
  refine ⟨_, (hS.cel mp0 rfl), ?_⟩
  refine ⟨_, _, _, (hS.cel mp0 rfl), ?_⟩
  refine ⟨_, (hS.cel mp0 rfl), ?_⟩
  have h := some_inj h
  cases h
  exact hK _ _ _ _ (hS.pick (A := [_, _, _, _]) [1] rfl)

theorem wk_girderref02_Sub {N : Nums} {P : Program} (H : AllOk N P) {w0 w : World} {L : List It} {q0_0 : Bool} {q0_1 : Option Addr} {q0_1l q0_1c : Nat} {l0_1 : List Int} {q0_2 : Int} {q1_0 : Bool} {q1_1 : Option Addr} {q1_1l q1_1c : Nat} {l1_1 : List Int} {q1_2 : Int} {u0 : Bool} {u1 : List Int} {u2 : Int} {u3 : Int} (hS : Ho w0 w (L)) (hq0_1 : Ent L (rdA (List.map (Value.int .u64) l0_1) q0_1 q0_1l q0_1c)) (hq1_1 : Ent L (rdA (List.map (Value.int .u64) l1_1) q1_1 q1_1l q1_1c)) (hx : T_girderref02_Sub q0_0 l0_1 q0_2 q1_0 l1_1 q1_2 = some (u0, u1, u2, u3)) {K : Value → World → Prop} (hK : ∀ (a1 : Option Addr) (n1 c1 : Nat) (w1 : World), Ho w0 w1 ((sl a1 n1 c1 (List.map (Value.int .u64) u1) N.t_uint64) :: L) → K (.tuple #[.agg #[.bool u0, .slice a1 n1 c1, .int .i64 u2], .int .i64 u3]) w1) : CallsX P N.f_girderref02_Sub #[.agg #[.bool q0_0, .slice q0_1 q0_1l q0_1c, .int .i64 q0_2], .agg #[.bool q1_0, .slice q1_1 q1_1l q1_1c, .int .i64 q1_2]] w K := by
 refine H.girderref02_Sub q0_0 q0_1 q0_1l q0_1c q0_2 q1_0 q1_1 q1_1l q1_1c q1_2 w _ ?_
 unfold S_girderref02_Sub
 unfold T_girderref02_Sub at hx
 have h := hx
 clear hx
 try dsimp only
 refine newM_s hS ?_; clear hS; intro r1 w hS
 refine newM_s hS ?_; clear hS; intro r2 w hS
 refine newM_s hS ?_; clear hS; intro r3 w hS
 refine ⟨_, (hS.cel mp1 rfl), ?_⟩
 refine ⟨_, _, _, (hS.cel mp1 rfl), ?_⟩
 refine ⟨_, (hS.cel mp1 rfl), ?_⟩
 obtain ⟨⟨t1, t2, t3, t4⟩, ho1, h⟩ := bnd h
 refine wk_girderref02_Neg H hS (hq1_1.mono tl3) ho1 ?_; clear hS ho1; rintro a4 m4 c4 w hS
 refine ⟨_, _, _, _, _, _, rfl, ?_⟩
 refine newM_s hS ?_; clear hS; intro r5 w hS
 refine stc_s hS rfl rfl ?_; clear hS; intro w hS
 refine stc_s hS rfl rfl ?_; clear hS; intro w hS
 refine stc_s hS rfl rfl ?_; clear hS; intro w hS
 refine cond_s h ?_ ?_ <;> clear h <;> intro hc h
 ·
  replace hS := ro2 hS
  refine stc_s hS rfl rfl ?_; clear hS; intro w hS
  refine stc_s hS rfl rfl ?_; clear hS; intro w hS
  refine stc_s hS rfl rfl ?_; clear hS; intro w hS
  refine ⟨_, (hS.cel mp0 rfl), ?_⟩
  refine ⟨_, _, _, (hS.cel mp0 rfl), ?_⟩
  refine ⟨_, (hS.cel mp0 rfl), ?_⟩
  replace hS := hS.none (α := Int) (enc := (Value.int .u64)) (t := N.t_uint64)
  have h := some_inj h
  cases h
  exact hK _ _ _ _ (hS.pick (A := [_, _, _, _, _, _]) [0] rfl)
 ·
  refine ⟨_, (hS.cel mp4 rfl), ?_⟩
  refine ⟨_, _, _, (hS.cel mp4 rfl), ?_⟩
  refine ⟨_, (hS.cel mp4 rfl), ?_⟩
  refine ⟨_, (hS.cel mp0 rfl), ?_⟩
  refine ⟨_, _, _, (hS.cel mp0 rfl), ?_⟩
  refine ⟨_, (hS.cel mp0 rfl), ?_⟩
  obtain ⟨⟨t5, t6, t7, t8⟩, ho5, h⟩ := bnd h
  refine wk_girderref02_Add H hS (hq0_1.mono tl5) (Ent.sl mp1) ho5 ?_; clear hS ho5; rintro a6 m6 c6 w hS
  refine ⟨_, _, _, _, _, _, rfl, ?_⟩
  replace hS := ro3 hS
  refine stc_s hS rfl rfl ?_; clear hS; intro w hS
  refine stc_s hS rfl rfl ?_; clear hS; intro w hS
  refine stc_s hS rfl rfl ?_; clear hS; intro w hS
  refine ⟨_, (hS.cel mp0 rfl), ?_⟩
  refine ⟨_, _, _, (hS.cel mp0 rfl), ?_⟩
  refine ⟨_, (hS.cel mp0 rfl), ?_⟩
  have h := some_inj h
  cases h
  exact hK _ _ _ _ (hS.pick (A := [_, _, _, _, _, _]) [1] rfl)

theorem wk_girderref02_product {N : Nums} {P : Program} (H : AllOk N P) {w0 w : World} {L : List It} {q0 : Option Addr} {q0l q0c : Nat} {l0 : List Int} {q1 : Option Addr} {q1l q1c : Nat} {l1 : List Int} {u0 : List Int} (hS : Ho w0 w (L)) (hq0 : Ent L (rdA (List.map (Value.int .u64) l0) q0 q0l q0c)) (hq1 : Ent L (rdA (List.map (Value.int .u64) l1) q1 q1l q1c)) (hx : T_girderref02_product l0 l1 = some u0) {K : Value → World → Prop} (hK : ∀ (a0 : Option Addr) (n0 c0 : Nat) (w1 : World), Ho w0 w1 ((sl a0 n0 c0 (List.map (Value.int .u64) u0) N.t_uint64) :: L) → K (.slice a0 n0 c0) w1) : CallsX P N.f_girderref02_product #[.slice q0 q0l q0c, .slice q1 q1l q1c] w K := by
 refine H.girderref02_product q0 q0l q0c q1 q1l q1c w _ ?_
 unfold S_girderref02_product
 unfold T_girderref02_product at hx
 have h := hx
 clear hx
 try dsimp only
 obtain ⟨t1, ht1, h⟩ := bnd h
 obtain rfl := lenE ht1 (hq0.now (fun _ h => h) hS)
 clear ht1
 obtain ⟨t2, ht2, h⟩ := bnd h
 obtain rfl := lenE ht2 (hq1.now (fun _ h => h) hS)
 clear ht2
 obtain ⟨t3, ht3, h⟩ := bnd h
 obtain ⟨rfl, kt3⟩ := mkE ht3
 clear ht3
 refine mk_s (enc := (Value.int .u64)) hS kt3 rfl ?_; clear hS kt3; intro r1 w hS
 obtain ⟨o2, h2, c2⟩ := bnd h
 refine cutM_i (fun s w => ∃ (t4 : List Int), t4 = o2 ∧ s = (()) ∧ Ho w0 w ((sl (some ⟨r1, 0, none⟩) (((IntKind.i64.wrap (((q0l : Nat) : Int) + ((q1l : Nat) : Int)))).toNat) (((IntKind.i64.wrap (((q0l : Nat) : Int) + ((q1l : Nat) : Int)))).toNat) (List.map (Value.int .u64) t4) N.t_uint64) :: L)) (fun J2 hJ2 => ?_) ?_
 ·
  have h := h2
  clear h2
  refine iter_sim (fun s w t => ∃ (t5 : Int) (t6 : List Int), (t5, t6) = t ∧ s = (t5, ()) ∧ Ho w0 w ((sl (some ⟨r1, 0, none⟩) (((IntKind.i64.wrap (((q0l : Nat) : Int) + ((q1l : Nat) : Int)))).toNat) (((IntKind.i64.wrap (((q0l : Nat) : Int) + ((q1l : Nat) : Int)))).toNat) (List.map (Value.int .u64) t6) N.t_uint64) :: L)) ?_ h ⟨_, _, rfl, rfl, hS⟩
  clear h hS
  rintro s w t X q ⟨t5, t6, rfl, rfl, hS⟩ h hX hO
  unfold T_girderref02_product_b7 at h
  try dsimp only
  obtain ⟨t7, ht7, h⟩ := bnd h
  obtain rfl := lenE ht7 ((hq0.mono tl1).now (fun _ h => h) hS)
  clear ht7
  refine cond_s h ?_ ?_ <;> clear h <;> intro hc h
  ·
   obtain ⟨o3, h3, c3⟩ := bnd h
   refine cutM_i (fun s w => ∃ (t8 : Int) (t9 : List Int), (t8, t9) = o3 ∧ s = (t8, ()) ∧ Ho w0 w ((sl (some ⟨r1, 0, none⟩) (((IntKind.i64.wrap (((q0l : Nat) : Int) + ((q1l : Nat) : Int)))).toNat) (((IntKind.i64.wrap (((q0l : Nat) : Int) + ((q1l : Nat) : Int)))).toNat) (List.map (Value.int .u64) t9) N.t_uint64) :: L)) (fun J3 hJ3 => ?_) ?_
   ·
    have h := h3
    clear h3
    refine iter_sim (fun s w t => ∃ (t10 : Int) (t11 : Int) (t12 : List Int), (t10, t11, t12) = t ∧ s = (t10, t11, ()) ∧ Ho w0 w ((sl (some ⟨r1, 0, none⟩) (((IntKind.i64.wrap (((q0l : Nat) : Int) + ((q1l : Nat) : Int)))).toNat) (((IntKind.i64.wrap (((q0l : Nat) : Int) + ((q1l : Nat) : Int)))).toNat) (List.map (Value.int .u64) t12) N.t_uint64) :: L)) ?_ h ⟨_, _, _, rfl, rfl, hS⟩
    clear h hS
    rintro s w t X q ⟨t10, t11, t12, rfl, rfl, hS⟩ h hX hO
    unfold T_girderref02_product_b9 at h
    try dsimp only
    obtain ⟨t13, ht13, h⟩ := bnd h
    obtain rfl := lenE ht13 ((hq1.mono tl1).now (fun _ h => h) hS)
    clear ht13
    refine cond_s h ?_ ?_ <;> clear h <;> intro hc h
    ·
     obtain ⟨t14, ht14, h⟩ := bnd h
     obtain ⟨q4x, q4l, q4r⟩ := atE ht14
     clear ht14
     refine idx_s ((hq0.mono tl1).now (fun _ h => h) hS) q4x q4l q4r ?_; intro b5 hb5
     refine ⟨_, rd_get ((hq0.mono tl1).now (fun _ h => h) hS) hb5 q4x, ?_⟩
     obtain ⟨t15, ht15, h⟩ := bnd h
     obtain ⟨q6x, q6l, q6r⟩ := atE ht15
     clear ht15
     refine idx_s ((hq1.mono tl1).now (fun _ h => h) hS) q6x q6l q6r ?_; intro b7 hb7
     refine ⟨_, rd_get ((hq1.mono tl1).now (fun _ h => h) hS) hb7 q6x, ?_⟩
     obtain ⟨t16, ht16, h⟩ := bnd h
     obtain ⟨q8x, q8l, q8r⟩ := atE ht16
     clear ht16
     refine idy_s ((Ent.sl mp0).now (fun _ h => h) hS) q8x q8l q8r ?_
     refine ⟨_, rd_get ((Ent.sl mp0).now (fun _ h => h) hS) rfl q8x, ?_⟩
     refine drM_s hS ?_; clear hS; intro w hS
     refine ⟨by decide, ?_⟩
     obtain ⟨t17, ht17, h⟩ := bnd h
     obtain ⟨q10x, q10l, q10r⟩ := atE ht17
     clear ht17
     refine idy_s ((Ent.sl mp0).now (fun _ h => h) hS) q10x q10l q10r ?_
     obtain ⟨t18, ht18, h⟩ := bnd h
     obtain rfl := some_inj ht18
     clear ht18
     refine sto_s hS rfl q10r ?_; clear hS; intro w hS
     refine ⟨by decide, ?_⟩
     obtain rfl := some_inj h
     exact hX _ rfl _ _ ⟨_, _, _, rfl, rfl, hS⟩
    ·
     obtain rfl := some_inj h
     have h := congrArg some (hO _ rfl)
     obtain rfl := some_inj h
     exact hJ3 _ _ ⟨_, _, rfl, rfl, hS⟩
   ·
    clear h3 hS
    rintro s w ⟨t8, t9, rfl, rfl, hS⟩
    have h := c3
    clear c3
    try dsimp only
    obtain ⟨t19, ht19, h⟩ := bnd h
    obtain rfl := lenE ht19 ((hq1.mono tl1).now (fun _ h => h) hS)
    clear ht19
    obtain ⟨t20, ht20, h⟩ := bnd h
    obtain ⟨q12x, q12l, q12r⟩ := atE ht20
    clear ht20
    refine idy_s ((Ent.sl mp0).now (fun _ h => h) hS) q12x q12l q12r ?_
    obtain ⟨t21, ht21, h⟩ := bnd h
    obtain rfl := some_inj ht21
    clear ht21
    refine sto_s hS rfl q12r ?_; clear hS; intro w hS
    obtain rfl := some_inj h
    exact hX _ rfl _ _ ⟨_, _, rfl, rfl, hS⟩
  ·
   obtain rfl := some_inj h
   have h := congrArg some (hO _ rfl)
   obtain rfl := some_inj h
   exact hJ2 _ _ ⟨_, rfl, rfl, hS⟩
 ·
  clear h2 hS
  rintro s w ⟨t4, rfl, rfl, hS⟩
  have h := c2
  clear c2
  try dsimp only
  obtain ⟨t22, ht22, h⟩ := bnd h
  refine wk_girderref02_low H hS (Ent.sl mp0) ht22 ?_; clear hS ht22; rintro w hS
  refine ⟨_, _, _, rfl, ?_⟩
  obtain ⟨t23, ht23, h⟩ := bnd h
  obtain ⟨rfl, q150, q151, q152⟩ := subE ht23
  clear ht23
  have q153 := ((Ent.sl mp0).now (fun _ h => h) hS).hiCap q152
  replace hS := Ho.cut hS q152
  have h := some_inj h
  cases h
  exact hK _ _ _ _ hS

theorem wk_girderref02_NatMul {N : Nums} {P : Program} (H : AllOk N P) {w0 w : World} {L : List It} {q0 : Option Addr} {q0l q0c : Nat} {l0 : List Int} {q1 : Option Addr} {q1l q1c : Nat} {l1 : List Int} {u0 : List Int} (hS : Ho w0 w (L)) (hq0 : Ent L (rdA (List.map (Value.int .u64) l0) q0 q0l q0c)) (hq1 : Ent L (rdA (List.map (Value.int .u64) l1) q1 q1l q1c)) (hx : T_girderref02_NatMul l0 l1 = some u0) {K : Value → World → Prop} (hK : ∀ (a0 : Option Addr) (n0 c0 : Nat) (w1 : World), Ho w0 w1 ((sl a0 n0 c0 (List.map (Value.int .u64) u0) N.t_uint64) :: L) → K (.slice a0 n0 c0) w1) : CallsX P N.f_girderref02_NatMul #[.slice q0 q0l q0c, .slice q1 q1l q1c] w K := by
 refine H.girderref02_NatMul q0 q0l q0c q1 q1l q1c w _ ?_
 unfold S_girderref02_NatMul
 unfold T_girderref02_NatMul at hx
 have h := hx
 clear hx
 try dsimp only
 obtain ⟨t1, ht1, h⟩ := bnd h
 refine wk_girderref02_halves H hS hq0 ht1 ?_; clear hS ht1; rintro a1 m1 c1 w hS
 refine ⟨_, _, _, rfl, ?_⟩
 obtain ⟨t2, ht2, h⟩ := bnd h
 refine wk_girderref02_halves H hS (hq1.mono tl1) ht2 ?_; clear hS ht2; rintro a2 m2 c2 w hS
 refine ⟨_, _, _, rfl, ?_⟩
 obtain ⟨t3, ht3, h⟩ := bnd h
 refine wk_girderref02_product H hS (Ent.sl mp1) (Ent.sl mp0) ht3 ?_; clear hS ht3; rintro a3 m3 c3 w hS
 refine ⟨_, _, _, rfl, ?_⟩
 obtain ⟨t4, ht4, h⟩ := bnd h
 refine wk_girderref02_limbs H hS (Ent.sl mp0) ht4 ?_; clear hS ht4; rintro a4 m4 c4 w hS
 refine ⟨_, _, _, rfl, ?_⟩
 have h := some_inj h
 cases h
 exact hK _ _ _ _ (hS.pick (A := [_, _, _, _]) [0] rfl)

theorem wk_girderref02_Times {N : Nums} {P : Program} (H : AllOk N P) {w0 w : World} {L : List It} {q0_0 : Bool} {q0_1 : Option Addr} {q0_1l q0_1c : Nat} {l0_1 : List Int} {q0_2 : Int} {q1_0 : Bool} {q1_1 : Option Addr} {q1_1l q1_1c : Nat} {l1_1 : List Int} {q1_2 : Int} {u0 : Bool} {u1 : List Int} {u2 : Int} (hS : Ho w0 w (L)) (hq0_1 : Ent L (rdA (List.map (Value.int .u64) l0_1) q0_1 q0_1l q0_1c)) (hq1_1 : Ent L (rdA (List.map (Value.int .u64) l1_1) q1_1 q1_1l q1_1c)) (hx : T_girderref02_Times q0_0 l0_1 q0_2 q1_0 l1_1 q1_2 = some (u0, u1, u2)) {K : Value → World → Prop} (hK : ∀ (a1 : Option Addr) (n1 c1 : Nat) (w1 : World), Ho w0 w1 ((sl a1 n1 c1 (List.map (Value.int .u64) u1) N.t_uint64) :: L) → K (.agg #[.bool u0, .slice a1 n1 c1, .int .i64 u2]) w1) : CallsX P N.f_girderref02_Times #[.agg #[.bool q0_0, .slice q0_1 q0_1l q0_1c, .int .i64 q0_2], .agg #[.bool q1_0, .slice q1_1 q1_1l q1_1c, .int .i64 q1_2]] w K := by
 refine H.girderref02_Times q0_0 q0_1 q0_1l q0_1c q0_2 q1_0 q1_1 q1_1l q1_1c q1_2 w _ ?_
 unfold S_girderref02_Times
 unfold T_girderref02_Times at hx
 have h := hx
 clear hx
 try dsimp only
 refine newM_s hS ?_; clear hS; intro r1 w hS
 refine newM_s hS ?_; clear hS; intro r2 w hS
 refine newM_s hS ?_; clear hS; intro r3 w hS
 refine ⟨_, (hS.cel mp2 rfl), ?_⟩
 refine ⟨_, (hS.cel mp1 rfl), ?_⟩
 refine ⟨_, _, _, (hS.cel mp2 rfl), ?_⟩
 refine ⟨_, _, _, (hS.cel mp1 rfl), ?_⟩
 refine ⟨_, (hS.cel mp2 rfl), ?_⟩
 refine ⟨_, (hS.cel mp1 rfl), ?_⟩
 refine drM_s hS ?_; clear hS; intro w hS
 obtain ⟨t1, ht1, h⟩ := bnd h
 refine wk_girderref02_NatMul H hS (hq0_1.mono tl3) (hq1_1.mono tl3) ht1 ?_; clear hS ht1; rintro a4 m4 c4 w hS
 refine ⟨_, _, _, rfl, ?_⟩
 refine ⟨(hS.cel mp2 rfl), ?_⟩
 refine ⟨(hS.cel mp3 rfl), ?_⟩
 refine ⟨(hS.cel mp2 rfl), ?_⟩
 refine ⟨(hS.cel mp3 rfl), ?_⟩
 refine drM_s hS ?_; clear hS; intro w hS
 replace hS := ro1 hS
 refine stc_s hS rfl rfl ?_; clear hS; intro w hS
 refine stc_s hS rfl rfl ?_; clear hS; intro w hS
 refine stc_s hS rfl rfl ?_; clear hS; intro w hS
 refine drM_s hS ?_; clear hS; intro w hS
 refine ⟨_, (hS.cel mp0 rfl), ?_⟩
 refine ⟨_, _, _, (hS.cel mp0 rfl), ?_⟩
 refine ⟨_, (hS.cel mp0 rfl), ?_⟩
 have h := some_inj h
 cases h
 exact hK _ _ _ _ (hS.pick (A := [_, _, _, _]) [1] rfl)

theorem wk_girderref02_Mul {N : Nums} {P : Program} (H : AllOk N P) {w0 w : World} {L : List It} {q0_0 : Bool} {q0_1 : Option Addr} {q0_1l q0_1c : Nat} {l0_1 : List Int} {q0_2 : Int} {q1_0 : Bool} {q1_1 : Option Addr} {q1_1l q1_1c : Nat} {l1_1 : List Int} {q1_2 : Int} {u0 : Bool} {u1 : List Int} {u2 : Int} {u3 : Int} (hS : Ho w0 w (L)) (hq0_1 : Ent L (rdA (List.map (Value.int .u64) l0_1) q0_1 q0_1l q0_1c)) (hq1_1 : Ent L (rdA (List.map (Value.int .u64) l1_1) q1_1 q1_1l q1_1c)) (hx : T_girderref02_Mul q0_0 l0_1 q0_2 q1_0 l1_1 q1_2 = some (u0, u1, u2, u3)) {K : Value → World → Prop} (hK : ∀ (a1 : Option Addr) (n1 c1 : Nat) (w1 : World), Ho w0 w1 ((sl a1 n1 c1 (List.map (Value.int .u64) u1) N.t_uint64) :: L) → K (.tuple #[.agg #[.bool u0, .slice a1 n1 c1, .int .i64 u2], .int .i64 u3]) w1) : CallsX P N.f_girderref02_Mul #[.agg #[.bool q0_0, .slice q0_1 q0_1l q0_1c, .int .i64 q0_2], .agg #[.bool q1_0, .slice q1_1 q1_1l q1_1c, .int .i64 q1_2]] w K := by
 refine H.girderref02_Mul q0_0 q0_1 q0_1l q0_1c q0_2 q1_0 q1_1 q1_1l q1_1c q1_2 w _ ?_
 unfold S_girderref02_Mul
 unfold T_girderref02_Mul at hx
 have h := hx
 clear hx
 try dsimp only
 refine newM_s hS ?_; clear hS; intro r1 w hS
 refine newM_s hS ?_; clear hS; intro r2 w hS
 refine newM_s hS ?_; clear hS; intro r3 w hS
 obtain ⟨o4, h4, c4⟩ := bnd h
 refine cutM_i (fun s w => ∃ (t1 : Bool), t1 = o4 ∧ s = (t1, ()) ∧ Ho w0 w ((cl r3 [.bool false, .slice none 0 0, .int .i64 0] N.t_Dyad) :: (cl r2 [.bool q1_0, .slice q1_1 q1_1l q1_1c, .int .i64 q1_2] N.t_Dyad) :: (cl r1 [.bool q0_0, .slice q0_1 q0_1l q0_1c, .int .i64 q0_2] N.t_Dyad) :: L)) (fun J4 hJ4 => ?_) ?_
 ·
  have h := h4
  clear h4
  refine ⟨_, (hS.cel mp2 rfl), ?_⟩
  refine ⟨_, _, _, (hS.cel mp2 rfl), ?_⟩
  refine ⟨_, (hS.cel mp2 rfl), ?_⟩
  obtain ⟨t2, ht2, h⟩ := bnd h
  refine wk_girderref02_Right H hS (hq0_1.mono tl3) ht2 ?_; clear hS ht2; rintro w hS
  refine ⟨_, rfl, ?_⟩
  refine cond_s h ?_ ?_ <;> clear h <;> intro hc h
  ·
   refine ⟨_, (hS.cel mp1 rfl), ?_⟩
   refine ⟨_, _, _, (hS.cel mp1 rfl), ?_⟩
   refine ⟨_, (hS.cel mp1 rfl), ?_⟩
   obtain ⟨t3, ht3, h⟩ := bnd h
   refine wk_girderref02_Right H hS (hq1_1.mono tl3) ht3 ?_; clear hS ht3; rintro w hS
   refine ⟨_, rfl, ?_⟩
   obtain rfl := some_inj h
   exact hJ4 _ _ ⟨_, rfl, rfl, hS⟩
  ·
   obtain rfl := some_inj h
   exact hJ4 _ _ ⟨_, rfl, rfl, hS⟩
 ·
  clear h4 hS
  rintro s w ⟨t1, rfl, rfl, hS⟩
  have h := c4
  clear c4
  try dsimp only
  refine cond_s h ?_ ?_ <;> clear h <;> intro hc h
  ·
   refine stc_s hS rfl rfl ?_; clear hS; intro w hS
   refine stc_s hS rfl rfl ?_; clear hS; intro w hS
   refine stc_s hS rfl rfl ?_; clear hS; intro w hS
   refine ⟨_, (hS.cel mp0 rfl), ?_⟩
   refine ⟨_, _, _, (hS.cel mp0 rfl), ?_⟩
   refine ⟨_, (hS.cel mp0 rfl), ?_⟩
   replace hS := hS.none (α := Int) (enc := (Value.int .u64)) (t := N.t_uint64)
   have h := some_inj h
   cases h
   exact hK _ _ _ _ (hS.pick (A := [_, _, _, _]) [0] rfl)
  ·
   refine ⟨_, (hS.cel mp2 rfl), ?_⟩
   refine ⟨_, _, _, (hS.cel mp2 rfl), ?_⟩
   refine ⟨_, (hS.cel mp2 rfl), ?_⟩
   refine ⟨_, (hS.cel mp1 rfl), ?_⟩
   refine ⟨_, _, _, (hS.cel mp1 rfl), ?_⟩
   refine ⟨_, (hS.cel mp1 rfl), ?_⟩
   refine drM_s hS ?_; clear hS; intro w hS
   obtain ⟨⟨t4, t5, t6⟩, ho4, h⟩ := bnd h
   refine wk_girderref02_Dyad H hS (hq0_1.mono tl3) ho4 ?_; clear hS ho4; rintro a5 m5 c5 w hS
   refine ⟨_, _, _, _, _, rfl, ?_⟩
   refine ⟨(hS.cel mp2 rfl), ?_⟩
   refine ⟨(hS.cel mp2 rfl), ?_⟩
   refine ⟨(hS.cel mp2 rfl), ?_⟩
   refine drM_s hS ?_; clear hS; intro w hS
   obtain ⟨⟨t7, t8, t9⟩, ho7, h⟩ := bnd h
   refine wk_girderref02_Dyad H hS (hq1_1.mono tl4) ho7 ?_; clear hS ho7; rintro a6 m6 c6 w hS
   refine ⟨_, _, _, _, _, rfl, ?_⟩
   refine drM_s hS ?_; clear hS; intro w hS
   obtain ⟨⟨t10, t11, t12⟩, ho10, h⟩ := bnd h
   refine wk_girderref02_Times H hS (Ent.sl mp1) (Ent.sl mp0) ho10 ?_; clear hS ho10; rintro a7 m7 c7 w hS
   refine ⟨_, _, _, _, _, rfl, ?_⟩
   refine drM_s hS ?_; clear hS; intro w hS
   obtain ⟨⟨t13, t14, t15, t16⟩, ho13, h⟩ := bnd h
   refine wk_girderref02_Told H hS (Ent.sl mp0) ho13 ?_; clear hS ho13; rintro a8 m8 c8 w hS
   refine ⟨_, _, _, _, _, _, rfl, ?_⟩
   refine drM_s hS ?_; clear hS; intro w hS
   replace hS := ro4 hS
   refine stc_s hS rfl rfl ?_; clear hS; intro w hS
   refine stc_s hS rfl rfl ?_; clear hS; intro w hS
   refine stc_s hS rfl rfl ?_; clear hS; intro w hS
   refine drM_s hS ?_; clear hS; intro w hS
   refine ⟨_, (hS.cel mp0 rfl), ?_⟩
   refine ⟨_, _, _, (hS.cel mp0 rfl), ?_⟩
   refine ⟨_, (hS.cel mp0 rfl), ?_⟩
   have h := some_inj h
   cases h
   exact hK _ _ _ _ (hS.pick (A := [_, _, _, _, _, _, _]) [1] rfl)

theorem wk_girderref02_Num_Sign {N : Nums} {P : Program} (H : AllOk N P) {w0 w : World} {L : List It} {q0_0 : Bool} {q0_1 : Option Addr} {q0_1l q0_1c : Nat} {l0_1 : List Int} {q0_2 : Int} {u0 : Int} (hS : Ho w0 w (L)) (hq0_1 : Ent L (rdA (List.map (Value.int .u64) l0_1) q0_1 q0_1l q0_1c)) (hx : T_girderref02_Num_Sign q0_0 l0_1 q0_2 = some u0) {K : Value → World → Prop} (hK : ∀  (w1 : World), Ho w0 w1 (L) → K (.int .i64 u0) w1) : CallsX P N.f_girderref02_Num_Sign #[.agg #[.bool q0_0, .slice q0_1 q0_1l q0_1c, .int .i64 q0_2]] w K := by
 refine H.girderref02_Num_Sign q0_0 q0_1 q0_1l q0_1c q0_2 w _ ?_
 unfold S_girderref02_Num_Sign
 unfold T_girderref02_Num_Sign at hx
 have h := hx
 clear hx
 try dsimp only
 refine newM_s hS ?_; clear hS; intro r1 w hS
 refine ⟨_, (hS.cel mp0 rfl), ?_⟩
 refine ⟨_, _, _, (hS.cel mp0 rfl), ?_⟩
 refine ⟨_, (hS.cel mp0 rfl), ?_⟩
 obtain ⟨t1, ht1, h⟩ := bnd h
 refine wk_girderref02_Num_Zero H hS (hq0_1.mono tl1) ht1 ?_; clear hS ht1; rintro w hS
 refine ⟨_, rfl, ?_⟩
 refine cond_s h ?_ ?_ <;> clear h <;> intro hc h
 ·
  have h := some_inj h
  cases h
  exact hK _ (hS.pick (A := [_]) [] rfl)
 ·
  refine ⟨_, (hS.cel mp0 rfl), ?_⟩
  refine cond_s h ?_ ?_ <;> clear h <;> intro hc h
  ·
   have h := some_inj h
   cases h
   exact hK _ (hS.pick (A := [_]) [] rfl)
  ·
   have h := some_inj h
   cases h
   exact hK _ (hS.pick (A := [_]) [] rfl)

theorem wk_girderref02_Num_top {N : Nums} {P : Program} (H : AllOk N P) {w0 w : World} {L : List It} {q0_0 : Bool} {q0_1 : Option Addr} {q0_1l q0_1c : Nat} {l0_1 : List Int} {q0_2 : Int} {u0 : Int} (hS : Ho w0 w (L)) (hq0_1 : Ent L (rdA (List.map (Value.int .u64) l0_1) q0_1 q0_1l q0_1c)) (hx : T_girderref02_Num_top q0_0 l0_1 q0_2 = some u0) {K : Value → World → Prop} (hK : ∀  (w1 : World), Ho w0 w1 (L) → K (.int .i64 u0) w1) : CallsX P N.f_girderref02_Num_top #[.agg #[.bool q0_0, .slice q0_1 q0_1l q0_1c, .int .i64 q0_2]] w K := by
 refine H.girderref02_Num_top q0_0 q0_1 q0_1l q0_1c q0_2 w _ ?_
 unfold S_girderref02_Num_top
 unfold T_girderref02_Num_top at hx
 have h := hx
 clear hx
 try dsimp only
 refine newM_s hS ?_; clear hS; intro r1 w hS
 refine ⟨_, (hS.cel mp0 rfl), ?_⟩
 refine ⟨_, _, _, (hS.cel mp0 rfl), ?_⟩
 refine drM_s hS ?_; clear hS; intro w hS
 obtain ⟨t1, ht1, h⟩ := bnd h
 refine wk_girderref02_NatBits H hS (hq0_1.mono tl1) ht1 ?_; clear hS ht1; rintro w hS
 refine ⟨_, rfl, ?_⟩
 refine ⟨(hS.cel mp0 rfl), ?_⟩
 refine drM_s hS ?_; clear hS; intro w hS
 have h := some_inj h
 cases h
 exact hK _ (hS.pick (A := [_]) [] rfl)

theorem wk_girderref02_Compare {N : Nums} {P : Program} (H : AllOk N P) {w0 w : World} {L : List It} {q0_0 : Bool} {q0_1 : Option Addr} {q0_1l q0_1c : Nat} {l0_1 : List Int} {q0_2 : Int} {q1_0 : Bool} {q1_1 : Option Addr} {q1_1l q1_1c : Nat} {l1_1 : List Int} {q1_2 : Int} {u0 : Int} (hS : Ho w0 w (L)) (hq0_1 : Ent L (rdA (List.map (Value.int .u64) l0_1) q0_1 q0_1l q0_1c)) (hq1_1 : Ent L (rdA (List.map (Value.int .u64) l1_1) q1_1 q1_1l q1_1c)) (hx : T_girderref02_Compare q0_0 l0_1 q0_2 q1_0 l1_1 q1_2 = some u0) {K : Value → World → Prop} (hK : ∀  (w1 : World), Ho w0 w1 (L) → K (.int .i64 u0) w1) : CallsX P N.f_girderref02_Compare #[.agg #[.bool q0_0, .slice q0_1 q0_1l q0_1c, .int .i64 q0_2], .agg #[.bool q1_0, .slice q1_1 q1_1l q1_1c, .int .i64 q1_2]] w K := by
 refine H.girderref02_Compare q0_0 q0_1 q0_1l q0_1c q0_2 q1_0 q1_1 q1_1l q1_1c q1_2 w _ ?_
 unfold S_girderref02_Compare
 unfold T_girderref02_Compare at hx
 have h := hx
 clear hx
 try dsimp only
 refine newM_s hS ?_; clear hS; intro r1 w hS
 refine newM_s hS ?_; clear hS; intro r2 w hS
 refine ⟨_, (hS.cel mp1 rfl), ?_⟩
 refine ⟨_, _, _, (hS.cel mp1 rfl), ?_⟩
 refine ⟨_, (hS.cel mp1 rfl), ?_⟩
 refine ⟨_, (hS.cel mp0 rfl), ?_⟩
 refine ⟨_, _, _, (hS.cel mp0 rfl), ?_⟩
 refine ⟨_, (hS.cel mp0 rfl), ?_⟩
 refine drM_s hS ?_; clear hS; intro w hS
 obtain ⟨t1, ht1, h⟩ := bnd h
 refine wk_girderref02_Num_Sign H hS (hq0_1.mono tl2) ht1 ?_; clear hS ht1; rintro w hS
 refine ⟨_, rfl, ?_⟩
 refine ⟨(hS.cel mp0 rfl), ?_⟩
 refine ⟨(hS.cel mp0 rfl), ?_⟩
 refine ⟨(hS.cel mp0 rfl), ?_⟩
 refine drM_s hS ?_; clear hS; intro w hS
 obtain ⟨t2, ht2, h⟩ := bnd h
 refine wk_girderref02_Num_Sign H hS (hq1_1.mono tl2) ht2 ?_; clear hS ht2; rintro w hS
 refine ⟨_, rfl, ?_⟩
 refine drM_s hS ?_; clear hS; intro w hS
 obtain ⟨o3, h3, c3⟩ := bnd h
 refine cutM_i (fun s w => ∃ (t3 : Bool), t3 = o3 ∧ s = (t3, ()) ∧ Ho w0 w ((cl r2 [.bool q1_0, .slice q1_1 q1_1l q1_1c, .int .i64 q1_2] N.t_girderref02_Num) :: (cl r1 [.bool q0_0, .slice q0_1 q0_1l q0_1c, .int .i64 q0_2] N.t_girderref02_Num) :: L)) (fun J3 hJ3 => ?_) ?_
 ·
  have h := h3
  clear h3
  refine cond_s h ?_ ?_ <;> clear h <;> intro hc h
  ·
   obtain rfl := some_inj h
   exact hJ3 _ _ ⟨_, rfl, rfl, hS⟩
  ·
   obtain rfl := some_inj h
   exact hJ3 _ _ ⟨_, rfl, rfl, hS⟩
 ·
  clear h3 hS
  rintro s w ⟨t3, rfl, rfl, hS⟩
  have h := c3
  clear c3
  try dsimp only
  refine cond_s h ?_ ?_ <;> clear h <;> intro hc h
  ·
   refine cond_s h ?_ ?_ <;> clear h <;> intro hc h
   ·
    have h := some_inj h
    cases h
    exact hK _ (hS.pick (A := [_, _]) [] rfl)
   ·
    refine cond_s h ?_ ?_ <;> clear h <;> intro hc h
    ·
     have h := some_inj h
     cases h
     exact hK _ (hS.pick (A := [_, _]) [] rfl)
    ·
     have h := some_inj h
     cases h
     exact hK _ (hS.pick (A := [_, _]) [] rfl)
  ·
   refine ⟨_, (hS.cel mp1 rfl), ?_⟩
   refine ⟨_, _, _, (hS.cel mp1 rfl), ?_⟩
   refine ⟨_, (hS.cel mp1 rfl), ?_⟩
   refine ⟨_, (hS.cel mp0 rfl), ?_⟩
   refine ⟨_, _, _, (hS.cel mp0 rfl), ?_⟩
   refine ⟨_, (hS.cel mp0 rfl), ?_⟩
   refine drM_s hS ?_; clear hS; intro w hS
   obtain ⟨t4, ht4, h⟩ := bnd h
   refine wk_girderref02_Num_top H hS (hq0_1.mono tl2) ht4 ?_; clear hS ht4; rintro w hS
   refine ⟨_, rfl, ?_⟩
   refine ⟨(hS.cel mp0 rfl), ?_⟩
   refine ⟨(hS.cel mp0 rfl), ?_⟩
   refine ⟨(hS.cel mp0 rfl), ?_⟩
   refine drM_s hS ?_; clear hS; intro w hS
   obtain ⟨t5, ht5, h⟩ := bnd h
   refine wk_girderref02_Num_top H hS (hq1_1.mono tl2) ht5 ?_; clear hS ht5; rintro w hS
   refine ⟨_, rfl, ?_⟩
   refine drM_s hS ?_; clear hS; intro w hS
   refine cond_s h ?_ ?_ <;> clear h <;> intro hc h
   ·
    refine ⟨_, (hS.cel mp1 rfl), ?_⟩
    refine ⟨_, _, _, (hS.cel mp1 rfl), ?_⟩
    refine ⟨_, (hS.cel mp1 rfl), ?_⟩
    refine ⟨_, (hS.cel mp0 rfl), ?_⟩
    refine ⟨_, _, _, (hS.cel mp0 rfl), ?_⟩
    refine ⟨_, (hS.cel mp0 rfl), ?_⟩
    refine drM_s hS ?_; clear hS; intro w hS
    obtain ⟨t6, ht6, h⟩ := bnd h
    refine wk_girderref02_Num_top H hS (hq0_1.mono tl2) ht6 ?_; clear hS ht6; rintro w hS
    refine ⟨_, rfl, ?_⟩
    refine ⟨(hS.cel mp0 rfl), ?_⟩
    refine ⟨(hS.cel mp0 rfl), ?_⟩
    refine ⟨(hS.cel mp0 rfl), ?_⟩
    refine drM_s hS ?_; clear hS; intro w hS
    obtain ⟨t7, ht7, h⟩ := bnd h
    refine wk_girderref02_Num_top H hS (hq1_1.mono tl2) ht7 ?_; clear hS ht7; rintro w hS
    refine ⟨_, rfl, ?_⟩
    refine drM_s hS ?_; clear hS; intro w hS
    refine cond_s h ?_ ?_ <;> clear h <;> intro hc h
    ·
     have h := some_inj h
     cases h
     exact hK _ (hS.pick (A := [_, _]) [] rfl)
    ·
     have h := some_inj h
     cases h
     exact hK _ (hS.pick (A := [_, _]) [] rfl)
   ·
    refine ⟨_, (hS.cel mp1 rfl), ?_⟩
    refine ⟨_, _, _, (hS.cel mp1 rfl), ?_⟩
    refine ⟨_, (hS.cel mp1 rfl), ?_⟩
    refine ⟨_, (hS.cel mp0 rfl), ?_⟩
    refine ⟨_, _, _, (hS.cel mp0 rfl), ?_⟩
    refine ⟨_, (hS.cel mp0 rfl), ?_⟩
    refine drM_s hS ?_; clear hS; intro w hS
    obtain ⟨⟨t8, t9, t10⟩, ho8, h⟩ := bnd h
    refine wk_girderref02_Minus H hS (hq1_1.mono tl2) ho8 ?_; clear hS ho8; rintro w rfl hS
    refine ⟨_, _, _, _, _, rfl, ?_⟩
    refine ⟨(hS.cel mp1 rfl), ?_⟩
    refine ⟨(hS.cel mp1 rfl), ?_⟩
    refine ⟨(hS.cel mp1 rfl), ?_⟩
    refine drM_s hS ?_; clear hS; intro w hS
    obtain ⟨⟨t11, t12, t13⟩, ho11, h⟩ := bnd h
    refine wk_girderref02_Plus H hS (hq0_1.mono tl2) (hq1_1.mono tl2) ho11 ?_; clear hS ho11; rintro it5 a5 m5 c5 w e5 hS
    refine ⟨_, _, _, _, _, rfl, ?_⟩
    refine drM_s hS ?_; clear hS; intro w hS
    obtain ⟨t14, ht14, h⟩ := bnd h
    refine wk_girderref02_Num_Sign H hS (e5 _ mp0 (hq0_1.mono tl3) (hq1_1.mono tl3)) ht14 ?_; clear hS ht14; rintro w hS
    refine ⟨_, rfl, ?_⟩
    refine drM_s hS ?_; clear hS; intro w hS
    have h := some_inj h
    cases h
    exact hK _ (hS.pick (A := [_, _, _]) [] rfl)

theorem wk_girderref02_Cmp {N : Nums} {P : Program} (H : AllOk N P) {w0 w : World} {L : List It} {q0_0 : Bool} {q0_1 : Option Addr} {q0_1l q0_1c : Nat} {l0_1 : List Int} {q0_2 : Int} {q1_0 : Bool} {q1_1 : Option Addr} {q1_1l q1_1c : Nat} {l1_1 : List Int} {q1_2 : Int} {u0 : Int} {u1 : Int} (hS : Ho w0 w (L)) (hq0_1 : Ent L (rdA (List.map (Value.int .u64) l0_1) q0_1 q0_1l q0_1c)) (hq1_1 : Ent L (rdA (List.map (Value.int .u64) l1_1) q1_1 q1_1l q1_1c)) (hx : T_girderref02_Cmp q0_0 l0_1 q0_2 q1_0 l1_1 q1_2 = some (u0, u1)) {K : Value → World → Prop} (hK : ∀  (w1 : World), Ho w0 w1 (L) → K (.tuple #[.int .i64 u0, .int .i64 u1]) w1) : CallsX P N.f_girderref02_Cmp #[.agg #[.bool q0_0, .slice q0_1 q0_1l q0_1c, .int .i64 q0_2], .agg #[.bool q1_0, .slice q1_1 q1_1l q1_1c, .int .i64 q1_2]] w K := by
 refine H.girderref02_Cmp q0_0 q0_1 q0_1l q0_1c q0_2 q1_0 q1_1 q1_1l q1_1c q1_2 w _ ?_
 unfold S_girderref02_Cmp
 unfold T_girderref02_Cmp at hx
 have h := hx
 clear hx
 try dsimp only
 refine newM_s hS ?_; clear hS; intro r1 w hS
 refine newM_s hS ?_; clear hS; intro r2 w hS
 refine ⟨_, (hS.cel mp1 rfl), ?_⟩
 refine ⟨_, _, _, (hS.cel mp1 rfl), ?_⟩
 refine ⟨_, (hS.cel mp1 rfl), ?_⟩
 obtain ⟨t1, ht1, h⟩ := bnd h
 refine wk_girderref02_Right H hS (hq0_1.mono tl2) ht1 ?_; clear hS ht1; rintro w hS
 refine ⟨_, rfl, ?_⟩
 refine cond_s h ?_ ?_ <;> clear h <;> intro hc h
 ·
  refine ⟨_, (hS.cel mp0 rfl), ?_⟩
  refine ⟨_, _, _, (hS.cel mp0 rfl), ?_⟩
  refine ⟨_, (hS.cel mp0 rfl), ?_⟩
  obtain ⟨t2, ht2, h⟩ := bnd h
  refine wk_girderref02_Right H hS (hq1_1.mono tl2) ht2 ?_; clear hS ht2; rintro w hS
  refine ⟨_, rfl, ?_⟩
  refine cond_s h ?_ ?_ <;> clear h <;> intro hc h
  ·
   have h := some_inj h
   cases h
   exact hK _ (hS.pick (A := [_, _]) [] rfl)
  ·
   refine ⟨_, (hS.cel mp1 rfl), ?_⟩
   refine ⟨_, _, _, (hS.cel mp1 rfl), ?_⟩
   refine ⟨_, (hS.cel mp1 rfl), ?_⟩
   refine ⟨_, (hS.cel mp0 rfl), ?_⟩
   refine ⟨_, _, _, (hS.cel mp0 rfl), ?_⟩
   refine ⟨_, (hS.cel mp0 rfl), ?_⟩
   refine drM_s hS ?_; clear hS; intro w hS
   obtain ⟨⟨t3, t4, t5⟩, ho3, h⟩ := bnd h
   refine wk_girderref02_Dyad H hS (hq0_1.mono tl2) ho3 ?_; clear hS ho3; rintro a3 m3 c3 w hS
   refine ⟨_, _, _, _, _, rfl, ?_⟩
   refine ⟨(hS.cel mp1 rfl), ?_⟩
   refine ⟨(hS.cel mp1 rfl), ?_⟩
   refine ⟨(hS.cel mp1 rfl), ?_⟩
   refine drM_s hS ?_; clear hS; intro w hS
   obtain ⟨⟨t6, t7, t8⟩, ho6, h⟩ := bnd h
   refine wk_girderref02_Dyad H hS (hq1_1.mono tl3) ho6 ?_; clear hS ho6; rintro a4 m4 c4 w hS
   refine ⟨_, _, _, _, _, rfl, ?_⟩
   refine drM_s hS ?_; clear hS; intro w hS
   obtain ⟨t9, ht9, h⟩ := bnd h
   refine wk_girderref02_Compare H hS (Ent.sl mp1) (Ent.sl mp0) ht9 ?_; clear hS ht9; rintro w hS
   refine ⟨_, rfl, ?_⟩
   refine drM_s hS ?_; clear hS; intro w hS
   have h := some_inj h
   cases h
   exact hK _ (hS.pick (A := [_, _, _, _]) [] rfl)
 ·
  have h := some_inj h
  cases h
  exact hK _ (hS.pick (A := [_, _]) [] rfl)

theorem wk_girderref02_Sign {N : Nums} {P : Program} (H : AllOk N P) {w0 w : World} {L : List It} {q0_0 : Bool} {q0_1 : Option Addr} {q0_1l q0_1c : Nat} {l0_1 : List Int} {q0_2 : Int} {u0 : Int} {u1 : Int} (hS : Ho w0 w (L)) (hq0_1 : Ent L (rdA (List.map (Value.int .u64) l0_1) q0_1 q0_1l q0_1c)) (hx : T_girderref02_Sign q0_0 l0_1 q0_2 = some (u0, u1)) {K : Value → World → Prop} (hK : ∀  (w1 : World), Ho w0 w1 (L) → K (.tuple #[.int .i64 u0, .int .i64 u1]) w1) : CallsX P N.f_girderref02_Sign #[.agg #[.bool q0_0, .slice q0_1 q0_1l q0_1c, .int .i64 q0_2]] w K := by
 refine H.girderref02_Sign q0_0 q0_1 q0_1l q0_1c q0_2 w _ ?_
 unfold S_girderref02_Sign
 unfold T_girderref02_Sign at hx
 have h := hx
 clear hx
 try dsimp only
 refine newM_s hS ?_; clear hS; intro r1 w hS
 refine ⟨_, (hS.cel mp0 rfl), ?_⟩
 refine ⟨_, _, _, (hS.cel mp0 rfl), ?_⟩
 refine ⟨_, (hS.cel mp0 rfl), ?_⟩
 obtain ⟨t1, ht1, h⟩ := bnd h
 refine wk_girderref02_Right H hS (hq0_1.mono tl1) ht1 ?_; clear hS ht1; rintro w hS
 refine ⟨_, rfl, ?_⟩
 refine cond_s h ?_ ?_ <;> clear h <;> intro hc h
 ·
  have h := some_inj h
  cases h
  exact hK _ (hS.pick (A := [_]) [] rfl)
 ·
  refine ⟨_, (hS.cel mp0 rfl), ?_⟩
  refine ⟨_, _, _, (hS.cel mp0 rfl), ?_⟩
  refine ⟨_, (hS.cel mp0 rfl), ?_⟩
  obtain ⟨⟨t2, t3, t4⟩, ho2, h⟩ := bnd h
  refine wk_girderref02_Dyad H hS (hq0_1.mono tl1) ho2 ?_; clear hS ho2; rintro a2 m2 c2 w hS
  refine ⟨_, _, _, _, _, rfl, ?_⟩
  obtain ⟨t5, ht5, h⟩ := bnd h
  refine wk_girderref02_Num_Sign H hS (Ent.sl mp0) ht5 ?_; clear hS ht5; rintro w hS
  refine ⟨_, rfl, ?_⟩
  have h := some_inj h
  cases h
  exact hK _ (hS.pick (A := [_, _]) [] rfl)

theorem wk_girderlaw02_DyadReckons {N : Nums} {P : Program} (H : AllOk N P) {w0 w : World} {L : List It} {q0_0 : Bool} {q0_1 : Option Addr} {q0_1l q0_1c : Nat} {l0_1 : List Int} {q0_2 : Int} {q1_0 : Bool} {q1_1 : Option Addr} {q1_1l q1_1c : Nat} {l1_1 : List Int} {q1_2 : Int} {u0 : Bool} (hS : Ho w0 w (L)) (hq0_1 : Ent L (rdA (List.map (Value.int .u64) l0_1) q0_1 q0_1l q0_1c)) (hq1_1 : Ent L (rdA (List.map (Value.int .u64) l1_1) q1_1 q1_1l q1_1c)) (hG : Ent L (tab64 N.g_1)) (hx : T_girderlaw02_DyadReckons q0_0 l0_1 q0_2 q1_0 l1_1 q1_2 = some u0) {K : Value → World → Prop} (hK : ∀  (w1 : World), Ho w0 w1 (L) → K (.bool u0) w1) : CallsX P N.f_girderlaw02_DyadReckons #[.agg #[.bool q0_0, .slice q0_1 q0_1l q0_1c, .int .i64 q0_2], .agg #[.bool q1_0, .slice q1_1 q1_1l q1_1c, .int .i64 q1_2]] w K := by
 refine H.girderlaw02_DyadReckons q0_0 q0_1 q0_1l q0_1c q0_2 q1_0 q1_1 q1_1l q1_1c q1_2 w _ ?_
 unfold S_girderlaw02_DyadReckons
 unfold T_girderlaw02_DyadReckons at hx
 have h := hx
 clear hx
 try dsimp only
 refine newM_s hS ?_; clear hS; intro r1 w hS
 refine newM_s hS ?_; clear hS; intro r2 w hS
 obtain ⟨t1, ht1, h⟩ := bnd h
 refine wk_girderlaw02_awake H hS (hG.mono tl2) ht1 ?_; clear hS ht1; rintro w hS
 refine ⟨_, rfl, ?_⟩
 refine cond_s h ?_ ?_ <;> clear h <;> intro hc h
 ·
  have h := some_inj h
  cases h
  exact hK _ (hS.pick (A := [_, _]) [] rfl)
 ·
  obtain ⟨o7, h7, c7⟩ := bnd h
  refine cutM_i (fun s w => ∃ (r3 : Nat) (t2 : Bool) (t3 : Int) (r4 : Nat) (t4 : Bool) (t5 : Int) (r5 : Nat) (r6 : Nat), (t2, t3, t4, t5, l1_1, l0_1) = o7 ∧ s = ((some ⟨r4, 0, none⟩), (some ⟨r3, 0, none⟩), ()) ∧ Ho w0 w ((cl r3 [.bool t2, .slice (some ⟨r5, 0, none⟩) q1_1l (q1_1l + 12), .int .i64 t3] N.t_Dyad) :: (cl r4 [.bool t4, .slice (some ⟨r6, 0, none⟩) q0_1l (q0_1l + 12), .int .i64 t5] N.t_Dyad) :: (sl (some ⟨r5, 0, none⟩) (q1_1l + 12) (q1_1l + 12) (List.map (Value.int .u64) (l1_1 ++ marksU)) N.t_uint64) :: (sl (some ⟨r6, 0, none⟩) (q0_1l + 12) (q0_1l + 12) (List.map (Value.int .u64) (l0_1 ++ marksU)) N.t_uint64) :: (cl r2 [.bool q1_0, .slice q1_1 q1_1l q1_1c, .int .i64 q1_2] N.t_Dyad) :: (cl r1 [.bool q0_0, .slice q0_1 q0_1l q0_1c, .int .i64 q0_2] N.t_Dyad) :: L)) (fun J7 hJ7 => ?_) ?_
  ·
   have h := h7
   clear h7
   refine ⟨_, (hS.cel mp1 rfl), ?_⟩
   refine ⟨_, _, _, (hS.cel mp1 rfl), ?_⟩
   refine ⟨_, (hS.cel mp1 rfl), ?_⟩
   refine ⟨_, (hS.cel mp0 rfl), ?_⟩
   refine ⟨_, _, _, (hS.cel mp0 rfl), ?_⟩
   refine ⟨_, (hS.cel mp0 rfl), ?_⟩
   refine ⟨?_, ?_, ?_⟩
   ·
    refine drM_s hS ?_; clear hS; intro w hS
    obtain ⟨⟨t8, t9, t10⟩, ho8, h⟩ := bnd h
    refine wk_girderkit_LentDyad H hS (hq0_1.mono tl2) ho8 ?_; clear hS ho8; rintro r8 w rfl hS
    refine ⟨_, _, _, _, _, rfl, ?_⟩
    refine ⟨(hS.cel mp1 rfl), ?_⟩
    refine ⟨(hS.cel mp1 rfl), ?_⟩
    refine ⟨(hS.cel mp1 rfl), ?_⟩
    refine ⟨?_, ?_, ?_⟩
    ·
     refine drM_s hS ?_; clear hS; intro w hS
     obtain ⟨⟨t11, t12, t13⟩, ho11, h⟩ := bnd h
     refine wk_girderkit_LentDyad H hS (hq1_1.mono tl3) ho11 ?_; clear hS ho11; rintro r9 w rfl hS
     refine ⟨_, _, _, _, _, rfl, ?_⟩
     refine ⟨?_, ?_⟩
     ·
      refine drM_s hS ?_; clear hS; intro w hS
      refine newM_s hS ?_; clear hS; intro r10 w hS
      refine drM_s hS ?_; clear hS; intro w hS
      refine newM_s hS ?_; clear hS; intro r11 w hS
      refine drM_s hS ?_; clear hS; intro w hS
      replace hS := ro1 hS
      refine stc_s hS rfl rfl ?_; clear hS; intro w hS
      refine stc_s hS rfl rfl ?_; clear hS; intro w hS
      refine stc_s hS rfl rfl ?_; clear hS; intro w hS
      refine drM_s hS ?_; clear hS; intro w hS
      replace hS := ro1 hS
      refine stc_s hS rfl rfl ?_; clear hS; intro w hS
      refine stc_s hS rfl rfl ?_; clear hS; intro w hS
      refine stc_s hS rfl rfl ?_; clear hS; intro w hS
      refine drM_s hS ?_; clear hS; intro w hS
      obtain rfl := some_inj h
      exact hJ7 _ _ ⟨_, _, _, _, _, _, _, _, rfl, rfl, hS⟩
     ·
      refine drM_s hS ?_; clear hS; intro w hS
      refine newM_s hS ?_; clear hS; intro r12 w hS
      refine drM_s hS ?_; clear hS; intro w hS
      refine newM_s hS ?_; clear hS; intro r13 w hS
      refine drM_s hS ?_; clear hS; intro w hS
      refine stc_s hS rfl rfl ?_; clear hS; intro w hS
      refine stc_s hS rfl rfl ?_; clear hS; intro w hS
      refine stc_s hS rfl rfl ?_; clear hS; intro w hS
      refine drM_s hS ?_; clear hS; intro w hS
      replace hS := ro1 hS
      refine stc_s hS rfl rfl ?_; clear hS; intro w hS
      refine stc_s hS rfl rfl ?_; clear hS; intro w hS
      refine stc_s hS rfl rfl ?_; clear hS; intro w hS
      refine drM_s hS ?_; clear hS; intro w hS
      obtain rfl := some_inj h
      exact hJ7 _ _ ⟨_, _, _, _, _, _, _, _, rfl, rfl, hS⟩
    ·
     refine drM_s hS ?_; clear hS; intro w hS
     refine newM_s hS ?_; clear hS; intro r14 w hS
     refine ⟨(hS.cel mp2 rfl), ?_⟩
     refine ⟨(hS.cel mp2 rfl), ?_⟩
     refine ⟨(hS.cel mp2 rfl), ?_⟩
     refine ⟨?_, ?_⟩
     ·
      refine drM_s hS ?_; clear hS; intro w hS
      obtain ⟨⟨t11, t12, t13⟩, ho11, h⟩ := bnd h
      refine wk_girderkit_LentDyad H hS (hq1_1.mono tl4) ho11 ?_; clear hS ho11; rintro r15 w rfl hS
      refine ⟨_, _, _, _, _, rfl, ?_⟩
      refine drM_s hS ?_; clear hS; intro w hS
      refine newM_s hS ?_; clear hS; intro r16 w hS
      refine drM_s hS ?_; clear hS; intro w hS
      replace hS := ro2 hS
      refine stc_s hS rfl rfl ?_; clear hS; intro w hS
      refine stc_s hS rfl rfl ?_; clear hS; intro w hS
      refine stc_s hS rfl rfl ?_; clear hS; intro w hS
      refine drM_s hS ?_; clear hS; intro w hS
      replace hS := ro1 hS
      refine stc_s hS rfl rfl ?_; clear hS; intro w hS
      refine stc_s hS rfl rfl ?_; clear hS; intro w hS
      refine stc_s hS rfl rfl ?_; clear hS; intro w hS
      refine drM_s hS ?_; clear hS; intro w hS
      obtain rfl := some_inj h
      exact hJ7 _ _ ⟨_, _, _, _, _, _, _, _, rfl, rfl, hS⟩
     ·
      refine drM_s hS ?_; clear hS; intro w hS
      refine newM_s hS ?_; clear hS; intro r17 w hS
      refine ⟨(hS.cel mp3 rfl), ?_⟩
      refine ⟨(hS.cel mp3 rfl), ?_⟩
      refine ⟨(hS.cel mp3 rfl), ?_⟩
      refine drM_s hS ?_; clear hS; intro w hS
      obtain ⟨⟨t11, t12, t13⟩, ho11, h⟩ := bnd h
      refine wk_girderkit_LentDyad H hS (hq1_1.mono tl5) ho11 ?_; clear hS ho11; rintro r18 w rfl hS
      refine ⟨_, _, _, _, _, rfl, ?_⟩
      refine drM_s hS ?_; clear hS; intro w hS
      replace hS := ro2 hS
      refine stc_s hS rfl rfl ?_; clear hS; intro w hS
      refine stc_s hS rfl rfl ?_; clear hS; intro w hS
      refine stc_s hS rfl rfl ?_; clear hS; intro w hS
      refine drM_s hS ?_; clear hS; intro w hS
      replace hS := ro2 hS
      refine stc_s hS rfl rfl ?_; clear hS; intro w hS
      refine stc_s hS rfl rfl ?_; clear hS; intro w hS
      refine stc_s hS rfl rfl ?_; clear hS; intro w hS
      refine drM_s hS ?_; clear hS; intro w hS
      obtain rfl := some_inj h
      exact hJ7 _ _ ⟨_, _, _, _, _, _, _, _, rfl, rfl, hS⟩
    ·
     refine drM_s hS ?_; clear hS; intro w hS
     refine newM_s hS ?_; clear hS; intro r19 w hS
     refine ⟨(hS.cel mp2 rfl), ?_⟩
     refine ⟨(hS.cel mp2 rfl), ?_⟩
     refine ⟨(hS.cel mp2 rfl), ?_⟩
     refine ⟨?_, ?_⟩
     ·
      refine drM_s hS ?_; clear hS; intro w hS
      obtain ⟨⟨t11, t12, t13⟩, ho11, h⟩ := bnd h
      refine wk_girderkit_LentDyad H hS (hq1_1.mono tl4) ho11 ?_; clear hS ho11; rintro r20 w rfl hS
      refine ⟨_, _, _, _, _, rfl, ?_⟩
      refine drM_s hS ?_; clear hS; intro w hS
      refine newM_s hS ?_; clear hS; intro r21 w hS
      refine drM_s hS ?_; clear hS; intro w hS
      refine stc_s hS rfl rfl ?_; clear hS; intro w hS
      refine stc_s hS rfl rfl ?_; clear hS; intro w hS
      refine stc_s hS rfl rfl ?_; clear hS; intro w hS
      refine drM_s hS ?_; clear hS; intro w hS
      replace hS := ro2 hS
      refine stc_s hS rfl rfl ?_; clear hS; intro w hS
      refine stc_s hS rfl rfl ?_; clear hS; intro w hS
      refine stc_s hS rfl rfl ?_; clear hS; intro w hS
      refine drM_s hS ?_; clear hS; intro w hS
      obtain rfl := some_inj h
      exact hJ7 _ _ ⟨_, _, _, _, _, _, _, _, rfl, rfl, hS⟩
     ·
      refine drM_s hS ?_; clear hS; intro w hS
      refine newM_s hS ?_; clear hS; intro r22 w hS
      refine ⟨(hS.cel mp3 rfl), ?_⟩
      refine ⟨(hS.cel mp3 rfl), ?_⟩
      refine ⟨(hS.cel mp3 rfl), ?_⟩
      refine drM_s hS ?_; clear hS; intro w hS
      obtain ⟨⟨t11, t12, t13⟩, ho11, h⟩ := bnd h
      refine wk_girderkit_LentDyad H hS (hq1_1.mono tl5) ho11 ?_; clear hS ho11; rintro r23 w rfl hS
      refine ⟨_, _, _, _, _, rfl, ?_⟩
      refine drM_s hS ?_; clear hS; intro w hS
      replace hS := ro1 hS
      refine stc_s hS rfl rfl ?_; clear hS; intro w hS
      refine stc_s hS rfl rfl ?_; clear hS; intro w hS
      refine stc_s hS rfl rfl ?_; clear hS; intro w hS
      refine drM_s hS ?_; clear hS; intro w hS
      replace hS := ro2 hS
      refine stc_s hS rfl rfl ?_; clear hS; intro w hS
      refine stc_s hS rfl rfl ?_; clear hS; intro w hS
      refine stc_s hS rfl rfl ?_; clear hS; intro w hS
      refine drM_s hS ?_; clear hS; intro w hS
      obtain rfl := some_inj h
      exact hJ7 _ _ ⟨_, _, _, _, _, _, _, _, rfl, rfl, hS⟩
   ·
    refine drM_s hS ?_; clear hS; intro w hS
    refine newM_s hS ?_; clear hS; intro r24 w hS
    refine ⟨(hS.cel mp1 rfl), ?_⟩
    refine ⟨(hS.cel mp1 rfl), ?_⟩
    refine ⟨(hS.cel mp1 rfl), ?_⟩
    refine ⟨(hS.cel mp2 rfl), ?_⟩
    refine ⟨(hS.cel mp2 rfl), ?_⟩
    refine ⟨(hS.cel mp2 rfl), ?_⟩
    refine ⟨?_, ?_⟩
    ·
     refine drM_s hS ?_; clear hS; intro w hS
     obtain ⟨⟨t8, t9, t10⟩, ho8, h⟩ := bnd h
     refine wk_girderkit_LentDyad H hS (hq0_1.mono tl3) ho8 ?_; clear hS ho8; rintro r25 w rfl hS
     refine ⟨_, _, _, _, _, rfl, ?_⟩
     refine ⟨(hS.cel mp2 rfl), ?_⟩
     refine ⟨(hS.cel mp2 rfl), ?_⟩
     refine ⟨(hS.cel mp2 rfl), ?_⟩
     refine ⟨?_, ?_⟩
     ·
      refine drM_s hS ?_; clear hS; intro w hS
      obtain ⟨⟨t11, t12, t13⟩, ho11, h⟩ := bnd h
      refine wk_girderkit_LentDyad H hS (hq1_1.mono tl4) ho11 ?_; clear hS ho11; rintro r26 w rfl hS
      refine ⟨_, _, _, _, _, rfl, ?_⟩
      refine drM_s hS ?_; clear hS; intro w hS
      refine newM_s hS ?_; clear hS; intro r27 w hS
      refine drM_s hS ?_; clear hS; intro w hS
      replace hS := ro3 hS
      refine stc_s hS rfl rfl ?_; clear hS; intro w hS
      refine stc_s hS rfl rfl ?_; clear hS; intro w hS
      refine stc_s hS rfl rfl ?_; clear hS; intro w hS
      refine drM_s hS ?_; clear hS; intro w hS
      replace hS := ro1 hS
      refine stc_s hS rfl rfl ?_; clear hS; intro w hS
      refine stc_s hS rfl rfl ?_; clear hS; intro w hS
      refine stc_s hS rfl rfl ?_; clear hS; intro w hS
      refine drM_s hS ?_; clear hS; intro w hS
      obtain rfl := some_inj h
      exact hJ7 _ _ ⟨_, _, _, _, _, _, _, _, rfl, rfl, hS⟩
     ·
      refine drM_s hS ?_; clear hS; intro w hS
      refine newM_s hS ?_; clear hS; intro r28 w hS
      refine ⟨(hS.cel mp3 rfl), ?_⟩
      refine ⟨(hS.cel mp3 rfl), ?_⟩
      refine ⟨(hS.cel mp3 rfl), ?_⟩
      refine drM_s hS ?_; clear hS; intro w hS
      obtain ⟨⟨t11, t12, t13⟩, ho11, h⟩ := bnd h
      refine wk_girderkit_LentDyad H hS (hq1_1.mono tl5) ho11 ?_; clear hS ho11; rintro r29 w rfl hS
      refine ⟨_, _, _, _, _, rfl, ?_⟩
      refine drM_s hS ?_; clear hS; intro w hS
      replace hS := ro3 hS
      refine stc_s hS rfl rfl ?_; clear hS; intro w hS
      refine stc_s hS rfl rfl ?_; clear hS; intro w hS
      refine stc_s hS rfl rfl ?_; clear hS; intro w hS
      refine drM_s hS ?_; clear hS; intro w hS
      replace hS := ro2 hS
      refine stc_s hS rfl rfl ?_; clear hS; intro w hS
      refine stc_s hS rfl rfl ?_; clear hS; intro w hS
      refine stc_s hS rfl rfl ?_; clear hS; intro w hS
      refine drM_s hS ?_; clear hS; intro w hS
      obtain rfl := some_inj h
      exact hJ7 _ _ ⟨_, _, _, _, _, _, _, _, rfl, rfl, hS⟩
    ·
     refine drM_s hS ?_; clear hS; intro w hS
     refine newM_s hS ?_; clear hS; intro r30 w hS
     refine ⟨(hS.cel mp2 rfl), ?_⟩
     refine ⟨(hS.cel mp2 rfl), ?_⟩
     refine ⟨(hS.cel mp2 rfl), ?_⟩
     refine ⟨(hS.cel mp3 rfl), ?_⟩
     refine ⟨(hS.cel mp3 rfl), ?_⟩
     refine ⟨(hS.cel mp3 rfl), ?_⟩
     refine drM_s hS ?_; clear hS; intro w hS
     obtain ⟨⟨t8, t9, t10⟩, ho8, h⟩ := bnd h
     refine wk_girderkit_LentDyad H hS (hq0_1.mono tl4) ho8 ?_; clear hS ho8; rintro r31 w rfl hS
     refine ⟨_, _, _, _, _, rfl, ?_⟩
     refine ⟨(hS.cel mp3 rfl), ?_⟩
     refine ⟨(hS.cel mp3 rfl), ?_⟩
     refine ⟨(hS.cel mp3 rfl), ?_⟩
     refine drM_s hS ?_; clear hS; intro w hS
     obtain ⟨⟨t11, t12, t13⟩, ho11, h⟩ := bnd h
     refine wk_girderkit_LentDyad H hS (hq1_1.mono tl5) ho11 ?_; clear hS ho11; rintro r32 w rfl hS
     refine ⟨_, _, _, _, _, rfl, ?_⟩
     refine drM_s hS ?_; clear hS; intro w hS
     replace hS := ro3 hS
     refine stc_s hS rfl rfl ?_; clear hS; intro w hS
     refine stc_s hS rfl rfl ?_; clear hS; intro w hS
     refine stc_s hS rfl rfl ?_; clear hS; intro w hS
     refine drM_s hS ?_; clear hS; intro w hS
     replace hS := ro3 hS
     refine stc_s hS rfl rfl ?_; clear hS; intro w hS
     refine stc_s hS rfl rfl ?_; clear hS; intro w hS
     refine stc_s hS rfl rfl ?_; clear hS; intro w hS
     refine drM_s hS ?_; clear hS; intro w hS
     obtain rfl := some_inj h
     exact hJ7 _ _ ⟨_, _, _, _, _, _, _, _, rfl, rfl, hS⟩
   ·
    refine drM_s hS ?_; clear hS; intro w hS
    refine newM_s hS ?_; clear hS; intro r33 w hS
    refine ⟨(hS.cel mp1 rfl), ?_⟩
    refine ⟨(hS.cel mp1 rfl), ?_⟩
    refine ⟨(hS.cel mp1 rfl), ?_⟩
    refine ⟨(hS.cel mp2 rfl), ?_⟩
    refine ⟨(hS.cel mp2 rfl), ?_⟩
    refine ⟨(hS.cel mp2 rfl), ?_⟩
    refine ⟨?_, ?_⟩
    ·
     refine drM_s hS ?_; clear hS; intro w hS
     obtain ⟨⟨t8, t9, t10⟩, ho8, h⟩ := bnd h
     refine wk_girderkit_LentDyad H hS (hq0_1.mono tl3) ho8 ?_; clear hS ho8; rintro r34 w rfl hS
     refine ⟨_, _, _, _, _, rfl, ?_⟩
     refine ⟨(hS.cel mp2 rfl), ?_⟩
     refine ⟨(hS.cel mp2 rfl), ?_⟩
     refine ⟨(hS.cel mp2 rfl), ?_⟩
     refine ⟨?_, ?_⟩
     ·
      refine drM_s hS ?_; clear hS; intro w hS
      obtain ⟨⟨t11, t12, t13⟩, ho11, h⟩ := bnd h
      refine wk_girderkit_LentDyad H hS (hq1_1.mono tl4) ho11 ?_; clear hS ho11; rintro r35 w rfl hS
      refine ⟨_, _, _, _, _, rfl, ?_⟩
      refine drM_s hS ?_; clear hS; intro w hS
      refine newM_s hS ?_; clear hS; intro r36 w hS
      refine drM_s hS ?_; clear hS; intro w hS
      refine stc_s hS rfl rfl ?_; clear hS; intro w hS
      refine stc_s hS rfl rfl ?_; clear hS; intro w hS
      refine stc_s hS rfl rfl ?_; clear hS; intro w hS
      refine drM_s hS ?_; clear hS; intro w hS
      replace hS := ro3 hS
      refine stc_s hS rfl rfl ?_; clear hS; intro w hS
      refine stc_s hS rfl rfl ?_; clear hS; intro w hS
      refine stc_s hS rfl rfl ?_; clear hS; intro w hS
      refine drM_s hS ?_; clear hS; intro w hS
      obtain rfl := some_inj h
      exact hJ7 _ _ ⟨_, _, _, _, _, _, _, _, rfl, rfl, hS⟩
     ·
      refine drM_s hS ?_; clear hS; intro w hS
      refine newM_s hS ?_; clear hS; intro r37 w hS
      refine ⟨(hS.cel mp3 rfl), ?_⟩
      refine ⟨(hS.cel mp3 rfl), ?_⟩
      refine ⟨(hS.cel mp3 rfl), ?_⟩
      refine drM_s hS ?_; clear hS; intro w hS
      obtain ⟨⟨t11, t12, t13⟩, ho11, h⟩ := bnd h
      refine wk_girderkit_LentDyad H hS (hq1_1.mono tl5) ho11 ?_; clear hS ho11; rintro r38 w rfl hS
      refine ⟨_, _, _, _, _, rfl, ?_⟩
      refine drM_s hS ?_; clear hS; intro w hS
      replace hS := ro1 hS
      refine stc_s hS rfl rfl ?_; clear hS; intro w hS
      refine stc_s hS rfl rfl ?_; clear hS; intro w hS
      refine stc_s hS rfl rfl ?_; clear hS; intro w hS
      refine drM_s hS ?_; clear hS; intro w hS
      replace hS := ro3 hS
      refine stc_s hS rfl rfl ?_; clear hS; intro w hS
      refine stc_s hS rfl rfl ?_; clear hS; intro w hS
      refine stc_s hS rfl rfl ?_; clear hS; intro w hS
      refine drM_s hS ?_; clear hS; intro w hS
      obtain rfl := some_inj h
      exact hJ7 _ _ ⟨_, _, _, _, _, _, _, _, rfl, rfl, hS⟩
    ·
     refine drM_s hS ?_; clear hS; intro w hS
     refine newM_s hS ?_; clear hS; intro r39 w hS
     refine ⟨(hS.cel mp2 rfl), ?_⟩
     refine ⟨(hS.cel mp2 rfl), ?_⟩
     refine ⟨(hS.cel mp2 rfl), ?_⟩
     refine ⟨(hS.cel mp3 rfl), ?_⟩
     refine ⟨(hS.cel mp3 rfl), ?_⟩
     refine ⟨(hS.cel mp3 rfl), ?_⟩
     refine drM_s hS ?_; clear hS; intro w hS
     obtain ⟨⟨t8, t9, t10⟩, ho8, h⟩ := bnd h
     refine wk_girderkit_LentDyad H hS (hq0_1.mono tl4) ho8 ?_; clear hS ho8; rintro r40 w rfl hS
     refine ⟨_, _, _, _, _, rfl, ?_⟩
     refine ⟨(hS.cel mp3 rfl), ?_⟩
     refine ⟨(hS.cel mp3 rfl), ?_⟩
     refine ⟨(hS.cel mp3 rfl), ?_⟩
     refine drM_s hS ?_; clear hS; intro w hS
     obtain ⟨⟨t11, t12, t13⟩, ho11, h⟩ := bnd h
     refine wk_girderkit_LentDyad H hS (hq1_1.mono tl5) ho11 ?_; clear hS ho11; rintro r41 w rfl hS
     refine ⟨_, _, _, _, _, rfl, ?_⟩
     refine drM_s hS ?_; clear hS; intro w hS
     replace hS := ro2 hS
     refine stc_s hS rfl rfl ?_; clear hS; intro w hS
     refine stc_s hS rfl rfl ?_; clear hS; intro w hS
     refine stc_s hS rfl rfl ?_; clear hS; intro w hS
     refine drM_s hS ?_; clear hS; intro w hS
     replace hS := ro3 hS
     refine stc_s hS rfl rfl ?_; clear hS; intro w hS
     refine stc_s hS rfl rfl ?_; clear hS; intro w hS
     refine stc_s hS rfl rfl ?_; clear hS; intro w hS
     refine drM_s hS ?_; clear hS; intro w hS
     obtain rfl := some_inj h
     exact hJ7 _ _ ⟨_, _, _, _, _, _, _, _, rfl, rfl, hS⟩
  ·
   clear h7 hS
   rintro s w ⟨r3, t2, t3, r4, t4, t5, r5, r6, rfl, rfl, hS⟩
   have h := c7
   clear c7
   try dsimp only
   refine optM_s ?_
   refine ⟨_, (hS.cel mp1 rfl), ?_⟩
   refine ⟨_, _, _, (hS.cel mp1 rfl), ?_⟩
   refine ⟨_, (hS.cel mp1 rfl), ?_⟩
   refine optM_s ?_
   refine ⟨_, (hS.cel mp0 rfl), ?_⟩
   refine ⟨_, _, _, (hS.cel mp0 rfl), ?_⟩
   refine ⟨_, (hS.cel mp0 rfl), ?_⟩
   obtain ⟨⟨t14, t15, t16, t17⟩, ho14, h⟩ := bnd h
   refine wk_dyad_Add H hS (Ent.lent (Ent.sl mp3) rfl rfl) (Ent.lent (Ent.sl mp2) rfl rfl) ho14 ?_; clear hS ho14; rintro a42 m42 c42 w hS
   refine ⟨_, _, _, _, _, _, rfl, ?_⟩
   refine newM_s hS ?_; clear hS; intro r43 w hS
   refine stc_s hS rfl rfl ?_; clear hS; intro w hS
   refine stc_s hS rfl rfl ?_; clear hS; intro w hS
   refine stc_s hS rfl rfl ?_; clear hS; intro w hS
   refine optM_s ?_
   refine ⟨_, (hS.cel mp3 rfl), ?_⟩
   refine ⟨_, _, _, (hS.cel mp3 rfl), ?_⟩
   refine ⟨_, (hS.cel mp3 rfl), ?_⟩
   refine optM_s ?_
   refine ⟨_, (hS.cel mp2 rfl), ?_⟩
   refine ⟨_, _, _, (hS.cel mp2 rfl), ?_⟩
   refine ⟨_, (hS.cel mp2 rfl), ?_⟩
   obtain ⟨⟨t18, t19, t20, t21⟩, ho18, h⟩ := bnd h
   refine wk_dyad_Sub H hS (Ent.lent (Ent.sl mp5) rfl rfl) (Ent.lent (Ent.sl mp4) rfl rfl) ho18 ?_; clear hS ho18; rintro a44 m44 c44 w hS
   refine ⟨_, _, _, _, _, _, rfl, ?_⟩
   refine newM_s hS ?_; clear hS; intro r45 w hS
   refine stc_s hS rfl rfl ?_; clear hS; intro w hS
   refine stc_s hS rfl rfl ?_; clear hS; intro w hS
   refine stc_s hS rfl rfl ?_; clear hS; intro w hS
   refine optM_s ?_
   refine ⟨_, (hS.cel mp5 rfl), ?_⟩
   refine ⟨_, _, _, (hS.cel mp5 rfl), ?_⟩
   refine ⟨_, (hS.cel mp5 rfl), ?_⟩
   refine optM_s ?_
   refine ⟨_, (hS.cel mp4 rfl), ?_⟩
   refine ⟨_, _, _, (hS.cel mp4 rfl), ?_⟩
   refine ⟨_, (hS.cel mp4 rfl), ?_⟩
   obtain ⟨⟨t22, t23, t24, t25⟩, ho22, h⟩ := bnd h
   refine wk_dyad_Mul H hS (Ent.lent (Ent.sl mp7) rfl rfl) (Ent.lent (Ent.sl mp6) rfl rfl) ho22 ?_; clear hS ho22; rintro a46 m46 c46 w hS
   refine ⟨_, _, _, _, _, _, rfl, ?_⟩
   refine newM_s hS ?_; clear hS; intro r47 w hS
   refine stc_s hS rfl rfl ?_; clear hS; intro w hS
   refine stc_s hS rfl rfl ?_; clear hS; intro w hS
   refine stc_s hS rfl rfl ?_; clear hS; intro w hS
   refine optM_s ?_
   refine ⟨_, (hS.cel mp7 rfl), ?_⟩
   refine ⟨_, _, _, (hS.cel mp7 rfl), ?_⟩
   refine ⟨_, (hS.cel mp7 rfl), ?_⟩
   refine optM_s ?_
   refine ⟨_, (hS.cel mp6 rfl), ?_⟩
   refine ⟨_, _, _, (hS.cel mp6 rfl), ?_⟩
   refine ⟨_, (hS.cel mp6 rfl), ?_⟩
   obtain ⟨⟨t26, t27⟩, ho26, h⟩ := bnd h
   refine wk_dyad_Cmp H hS (Ent.lent (Ent.sl mp9) rfl rfl) (Ent.lent (Ent.sl mp8) rfl rfl) ho26 ?_; clear hS ho26; rintro w hS
   refine ⟨_, _, rfl, ?_⟩
   refine optM_s ?_
   refine ⟨_, (hS.cel mp7 rfl), ?_⟩
   refine ⟨_, _, _, (hS.cel mp7 rfl), ?_⟩
   refine ⟨_, (hS.cel mp7 rfl), ?_⟩
   obtain ⟨⟨t28, t29, t30, t31⟩, ho28, h⟩ := bnd h
   refine wk_dyad_Neg H hS (Ent.lent (Ent.sl mp9) rfl rfl) ho28 ?_; clear hS ho28; rintro a48 m48 c48 w hS
   refine ⟨_, _, _, _, _, _, rfl, ?_⟩
   refine newM_s hS ?_; clear hS; intro r49 w hS
   refine stc_s hS rfl rfl ?_; clear hS; intro w hS
   refine stc_s hS rfl rfl ?_; clear hS; intro w hS
   refine stc_s hS rfl rfl ?_; clear hS; intro w hS
   refine optM_s ?_
   refine ⟨_, (hS.cel mp9 rfl), ?_⟩
   refine ⟨_, _, _, (hS.cel mp9 rfl), ?_⟩
   refine ⟨_, (hS.cel mp9 rfl), ?_⟩
   obtain ⟨⟨t32, t33⟩, ho32, h⟩ := bnd h
   refine wk_dyad_Sign H hS (Ent.lent (Ent.sl mp11) rfl rfl) ho32 ?_; clear hS ho32; rintro w hS
   refine ⟨_, _, rfl, ?_⟩
   obtain ⟨o50, h50, c50⟩ := bnd h
   refine cutM_i (fun s w => ∃ (t34 : Bool), t34 = o50 ∧ s = (t34, ()) ∧ Ho w0 w ((cl r49 [.bool t28, .slice a48 m48 c48, .int .i64 t30] N.t_Dyad) :: (sl a48 m48 c48 (List.map (Value.int .u64) t29) N.t_uint64) :: (cl r47 [.bool t22, .slice a46 m46 c46, .int .i64 t24] N.t_Dyad) :: (sl a46 m46 c46 (List.map (Value.int .u64) t23) N.t_uint64) :: (cl r45 [.bool t18, .slice a44 m44 c44, .int .i64 t20] N.t_Dyad) :: (sl a44 m44 c44 (List.map (Value.int .u64) t19) N.t_uint64) :: (cl r43 [.bool t14, .slice a42 m42 c42, .int .i64 t16] N.t_Dyad) :: (sl a42 m42 c42 (List.map (Value.int .u64) t15) N.t_uint64) :: (cl r3 [.bool t2, .slice (some ⟨r5, 0, none⟩) q1_1l (q1_1l + 12), .int .i64 t3] N.t_Dyad) :: (cl r4 [.bool t4, .slice (some ⟨r6, 0, none⟩) q0_1l (q0_1l + 12), .int .i64 t5] N.t_Dyad) :: (sl (some ⟨r5, 0, none⟩) (q1_1l + 12) (q1_1l + 12) (List.map (Value.int .u64) (l1_1 ++ marksU)) N.t_uint64) :: (sl (some ⟨r6, 0, none⟩) (q0_1l + 12) (q0_1l + 12) (List.map (Value.int .u64) (l0_1 ++ marksU)) N.t_uint64) :: (cl r2 [.bool q1_0, .slice q1_1 q1_1l q1_1c, .int .i64 q1_2] N.t_Dyad) :: (cl r1 [.bool q0_0, .slice q0_1 q0_1l q0_1c, .int .i64 q0_2] N.t_Dyad) :: L)) (fun J50 hJ50 => ?_) ?_
   ·
    have h := h50
    clear h50
    refine optM_s ?_
    refine ⟨_, (hS.cel mp9 rfl), ?_⟩
    refine ⟨_, _, _, (hS.cel mp9 rfl), ?_⟩
    refine ⟨_, (hS.cel mp9 rfl), ?_⟩
    refine ⟨_, (hS.cel mp13 rfl), ?_⟩
    refine ⟨_, _, _, (hS.cel mp13 rfl), ?_⟩
    refine ⟨_, (hS.cel mp13 rfl), ?_⟩
    obtain ⟨t35, ht35, h⟩ := bnd h
    refine wk_girderkit_KeptDyad H hS (Ent.sl mp11) (hq0_1.mono tl14) ht35 ?_; clear hS ht35; rintro w hS
    refine ⟨_, rfl, ?_⟩
    refine cond_s h ?_ ?_ <;> clear h <;> intro hc h
    ·
     refine optM_s ?_
     refine ⟨_, (hS.cel mp8 rfl), ?_⟩
     refine ⟨_, _, _, (hS.cel mp8 rfl), ?_⟩
     refine ⟨_, (hS.cel mp8 rfl), ?_⟩
     refine ⟨_, (hS.cel mp12 rfl), ?_⟩
     refine ⟨_, _, _, (hS.cel mp12 rfl), ?_⟩
     refine ⟨_, (hS.cel mp12 rfl), ?_⟩
     obtain ⟨t36, ht36, h⟩ := bnd h
     refine wk_girderkit_KeptDyad H hS (Ent.sl mp10) (hq1_1.mono tl14) ht36 ?_; clear hS ht36; rintro w hS
     refine ⟨_, rfl, ?_⟩
     obtain rfl := some_inj h
     exact hJ50 _ _ ⟨_, rfl, rfl, hS⟩
    ·
     obtain rfl := some_inj h
     exact hJ50 _ _ ⟨_, rfl, rfl, hS⟩
   ·
    clear h50 hS
    rintro s w ⟨t34, rfl, rfl, hS⟩
    have h := c50
    clear c50
    try dsimp only
    refine optM_s ?_
    refine ⟨_, (hS.cel mp9 rfl), ?_⟩
    refine ⟨_, _, _, (hS.cel mp9 rfl), ?_⟩
    refine ⟨_, (hS.cel mp9 rfl), ?_⟩
    obtain ⟨t37, ht37, h⟩ := bnd h
    have kt37 := ovr_s ht37
    clear ht37
    replace hS := ro11 hS
    refine wk_girderkit_OverDyad H hS kt37 ?_; clear hS kt37; intro w hS
    refine ⟨rfl, ?_⟩
    refine optM_s ?_
    refine ⟨_, (hS.cel mp8 rfl), ?_⟩
    refine ⟨_, _, _, (hS.cel mp8 rfl), ?_⟩
    refine ⟨_, (hS.cel mp8 rfl), ?_⟩
    obtain ⟨t38, ht38, h⟩ := bnd h
    have kt38 := ovr_s ht38
    clear ht38
    replace hS := ro10 hS
    refine wk_girderkit_OverDyad H hS kt38 ?_; clear hS kt38; intro w hS
    refine ⟨rfl, ?_⟩
    refine ⟨_, (hS.cel mp11 rfl), ?_⟩
    refine ⟨_, _, _, (hS.cel mp11 rfl), ?_⟩
    refine ⟨_, (hS.cel mp11 rfl), ?_⟩
    refine ⟨_, (hS.cel mp10 rfl), ?_⟩
    refine ⟨_, _, _, (hS.cel mp10 rfl), ?_⟩
    refine ⟨_, (hS.cel mp10 rfl), ?_⟩
    obtain ⟨⟨t39, t40, t41, t42⟩, ho39, h⟩ := bnd h
    refine wk_girderref02_Add H hS (hq0_1.mono tl12) (hq1_1.mono tl12) ho39 ?_; clear hS ho39; rintro a51 m51 c51 w hS
    refine ⟨_, _, _, _, _, _, rfl, ?_⟩
    refine newM_s hS ?_; clear hS; intro r52 w hS
    refine stc_s hS rfl rfl ?_; clear hS; intro w hS
    refine stc_s hS rfl rfl ?_; clear hS; intro w hS
    refine stc_s hS rfl rfl ?_; clear hS; intro w hS
    refine ⟨_, (hS.cel mp13 rfl), ?_⟩
    refine ⟨_, _, _, (hS.cel mp13 rfl), ?_⟩
    refine ⟨_, (hS.cel mp13 rfl), ?_⟩
    refine ⟨_, (hS.cel mp12 rfl), ?_⟩
    refine ⟨_, _, _, (hS.cel mp12 rfl), ?_⟩
    refine ⟨_, (hS.cel mp12 rfl), ?_⟩
    obtain ⟨⟨t43, t44, t45, t46⟩, ho43, h⟩ := bnd h
    refine wk_girderref02_Sub H hS (hq0_1.mono tl14) (hq1_1.mono tl14) ho43 ?_; clear hS ho43; rintro a53 m53 c53 w hS
    refine ⟨_, _, _, _, _, _, rfl, ?_⟩
    refine newM_s hS ?_; clear hS; intro r54 w hS
    refine stc_s hS rfl rfl ?_; clear hS; intro w hS
    refine stc_s hS rfl rfl ?_; clear hS; intro w hS
    refine stc_s hS rfl rfl ?_; clear hS; intro w hS
    refine ⟨_, (hS.cel mp15 rfl), ?_⟩
    refine ⟨_, _, _, (hS.cel mp15 rfl), ?_⟩
    refine ⟨_, (hS.cel mp15 rfl), ?_⟩
    refine ⟨_, (hS.cel mp14 rfl), ?_⟩
    refine ⟨_, _, _, (hS.cel mp14 rfl), ?_⟩
    refine ⟨_, (hS.cel mp14 rfl), ?_⟩
    obtain ⟨⟨t47, t48, t49, t50⟩, ho47, h⟩ := bnd h
    refine wk_girderref02_Mul H hS (hq0_1.mono tl16) (hq1_1.mono tl16) ho47 ?_; clear hS ho47; rintro a55 m55 c55 w hS
    refine ⟨_, _, _, _, _, _, rfl, ?_⟩
    refine newM_s hS ?_; clear hS; intro r56 w hS
    refine stc_s hS rfl rfl ?_; clear hS; intro w hS
    refine stc_s hS rfl rfl ?_; clear hS; intro w hS
    refine stc_s hS rfl rfl ?_; clear hS; intro w hS
    refine ⟨_, (hS.cel mp17 rfl), ?_⟩
    refine ⟨_, _, _, (hS.cel mp17 rfl), ?_⟩
    refine ⟨_, (hS.cel mp17 rfl), ?_⟩
    refine ⟨_, (hS.cel mp16 rfl), ?_⟩
    refine ⟨_, _, _, (hS.cel mp16 rfl), ?_⟩
    refine ⟨_, (hS.cel mp16 rfl), ?_⟩
    obtain ⟨⟨t51, t52⟩, ho51, h⟩ := bnd h
    refine wk_girderref02_Cmp H hS (hq0_1.mono tl18) (hq1_1.mono tl18) ho51 ?_; clear hS ho51; rintro w hS
    refine ⟨_, _, rfl, ?_⟩
    refine ⟨_, (hS.cel mp17 rfl), ?_⟩
    refine ⟨_, _, _, (hS.cel mp17 rfl), ?_⟩
    refine ⟨_, (hS.cel mp17 rfl), ?_⟩
    obtain ⟨⟨t53, t54, t55, t56⟩, ho53, h⟩ := bnd h
    refine wk_girderref02_Neg H hS (hq0_1.mono tl18) ho53 ?_; clear hS ho53; rintro a57 m57 c57 w hS
    refine ⟨_, _, _, _, _, _, rfl, ?_⟩
    refine newM_s hS ?_; clear hS; intro r58 w hS
    refine stc_s hS rfl rfl ?_; clear hS; intro w hS
    refine stc_s hS rfl rfl ?_; clear hS; intro w hS
    refine stc_s hS rfl rfl ?_; clear hS; intro w hS
    refine ⟨_, (hS.cel mp19 rfl), ?_⟩
    refine ⟨_, _, _, (hS.cel mp19 rfl), ?_⟩
    refine ⟨_, (hS.cel mp19 rfl), ?_⟩
    obtain ⟨⟨t57, t58⟩, ho57, h⟩ := bnd h
    refine wk_girderref02_Sign H hS (hq0_1.mono tl20) ho57 ?_; clear hS ho57; rintro w hS
    refine ⟨_, _, rfl, ?_⟩
    obtain ⟨o59, h59, c59⟩ := bnd h
    refine cutM_i (fun s w => ∃ (t59 : Bool), t59 = o59 ∧ s = (t59, ()) ∧ Ho w0 w ((cl r58 [.bool t53, .slice a57 m57 c57, .int .i64 t55] N.t_Dyad) :: (sl a57 m57 c57 (List.map (Value.int .u64) t54) N.t_uint64) :: (cl r56 [.bool t47, .slice a55 m55 c55, .int .i64 t49] N.t_Dyad) :: (sl a55 m55 c55 (List.map (Value.int .u64) t48) N.t_uint64) :: (cl r54 [.bool t43, .slice a53 m53 c53, .int .i64 t45] N.t_Dyad) :: (sl a53 m53 c53 (List.map (Value.int .u64) t44) N.t_uint64) :: (cl r52 [.bool t39, .slice a51 m51 c51, .int .i64 t41] N.t_Dyad) :: (sl a51 m51 c51 (List.map (Value.int .u64) t40) N.t_uint64) :: (cl r49 [.bool t28, .slice a48 m48 c48, .int .i64 t30] N.t_Dyad) :: (sl a48 m48 c48 (List.map (Value.int .u64) t29) N.t_uint64) :: (cl r47 [.bool t22, .slice a46 m46 c46, .int .i64 t24] N.t_Dyad) :: (sl a46 m46 c46 (List.map (Value.int .u64) t23) N.t_uint64) :: (cl r45 [.bool t18, .slice a44 m44 c44, .int .i64 t20] N.t_Dyad) :: (sl a44 m44 c44 (List.map (Value.int .u64) t19) N.t_uint64) :: (cl r43 [.bool t14, .slice a42 m42 c42, .int .i64 t16] N.t_Dyad) :: (sl a42 m42 c42 (List.map (Value.int .u64) t15) N.t_uint64) :: L)) (fun J59 hJ59 => ?_) ?_
    ·
     have h := h59
     clear h59
     refine cond_s h ?_ ?_ <;> clear h <;> intro hc h
     ·
      refine cond_s h ?_ ?_ <;> clear h <;> intro hc h
      ·
       refine cond_s h ?_ ?_ <;> clear h <;> intro hc h
       ·
        refine cond_s h ?_ ?_ <;> clear h <;> intro hc h
        ·
         refine cond_s h ?_ ?_ <;> clear h <;> intro hc h
         ·
          refine cond_s h ?_ ?_ <;> clear h <;> intro hc h
          ·
           obtain rfl := some_inj h
           exact hJ59 _ _ ⟨_, rfl, rfl, (hS.pick (A := [_, _, _, _, _, _, _, _, _, _, _, _, _, _, _, _, _, _, _, _]) [0, 0, 0, 0, 0, 0, 0, 0, 0, 0, 0, 0, 0, 0, 0, 0] rfl)⟩
          ·
           obtain rfl := some_inj h
           exact hJ59 _ _ ⟨_, rfl, rfl, (hS.pick (A := [_, _, _, _, _, _, _, _, _, _, _, _, _, _, _, _, _, _, _, _]) [0, 0, 0, 0, 0, 0, 0, 0, 0, 0, 0, 0, 0, 0, 0, 0] rfl)⟩
         ·
          obtain rfl := some_inj h
          exact hJ59 _ _ ⟨_, rfl, rfl, (hS.pick (A := [_, _, _, _, _, _, _, _, _, _, _, _, _, _, _, _, _, _, _, _]) [0, 0, 0, 0, 0, 0, 0, 0, 0, 0, 0, 0, 0, 0, 0, 0] rfl)⟩
        ·
         obtain rfl := some_inj h
         exact hJ59 _ _ ⟨_, rfl, rfl, (hS.pick (A := [_, _, _, _, _, _, _, _, _, _, _, _, _, _, _, _, _, _, _, _]) [0, 0, 0, 0, 0, 0, 0, 0, 0, 0, 0, 0, 0, 0, 0, 0] rfl)⟩
       ·
        obtain rfl := some_inj h
        exact hJ59 _ _ ⟨_, rfl, rfl, (hS.pick (A := [_, _, _, _, _, _, _, _, _, _, _, _, _, _, _, _, _, _, _, _]) [0, 0, 0, 0, 0, 0, 0, 0, 0, 0, 0, 0, 0, 0, 0, 0] rfl)⟩
      ·
       obtain rfl := some_inj h
       exact hJ59 _ _ ⟨_, rfl, rfl, (hS.pick (A := [_, _, _, _, _, _, _, _, _, _, _, _, _, _, _, _, _, _, _, _]) [0, 0, 0, 0, 0, 0, 0, 0, 0, 0, 0, 0, 0, 0, 0, 0] rfl)⟩
     ·
      obtain rfl := some_inj h
      exact hJ59 _ _ ⟨_, rfl, rfl, (hS.pick (A := [_, _, _, _, _, _, _, _, _, _, _, _, _, _, _, _, _, _, _, _]) [0, 0, 0, 0, 0, 0, 0, 0, 0, 0, 0, 0, 0, 0, 0, 0] rfl)⟩
    ·
     clear h59 hS
     rintro s w ⟨t59, rfl, rfl, hS⟩
     have h := c59
     clear c59
     try dsimp only
     refine cond_s h ?_ ?_ <;> clear h <;> intro hc h
     ·
      have h := some_inj h
      cases h
      exact hK _ (hS.pick (A := [_, _, _, _, _, _, _, _, _, _, _, _, _, _, _, _]) [] rfl)
     ·
      refine ⟨_, (hS.cel mp14 rfl), ?_⟩
      refine ⟨_, _, _, (hS.cel mp14 rfl), ?_⟩
      refine ⟨_, (hS.cel mp14 rfl), ?_⟩
      refine ⟨_, (hS.cel mp6 rfl), ?_⟩
      refine ⟨_, _, _, (hS.cel mp6 rfl), ?_⟩
      refine ⟨_, (hS.cel mp6 rfl), ?_⟩
      obtain ⟨t60, ht60, h⟩ := bnd h
      refine wk_girderkit_SameDyad H hS (Ent.sl mp15) (Ent.sl mp7) ht60 ?_; clear hS ht60; rintro w hS
      refine ⟨_, rfl, ?_⟩
      refine cond_s h ?_ ?_ <;> clear h <;> intro hc h
      ·
       refine ⟨_, (hS.cel mp12 rfl), ?_⟩
       refine ⟨_, _, _, (hS.cel mp12 rfl), ?_⟩
       refine ⟨_, (hS.cel mp12 rfl), ?_⟩
       refine ⟨_, (hS.cel mp4 rfl), ?_⟩
       refine ⟨_, _, _, (hS.cel mp4 rfl), ?_⟩
       refine ⟨_, (hS.cel mp4 rfl), ?_⟩
       obtain ⟨t61, ht61, h⟩ := bnd h
       refine wk_girderkit_SameDyad H hS (Ent.sl mp13) (Ent.sl mp5) ht61 ?_; clear hS ht61; rintro w hS
       refine ⟨_, rfl, ?_⟩
       refine cond_s h ?_ ?_ <;> clear h <;> intro hc h
       ·
        refine ⟨_, (hS.cel mp10 rfl), ?_⟩
        refine ⟨_, _, _, (hS.cel mp10 rfl), ?_⟩
        refine ⟨_, (hS.cel mp10 rfl), ?_⟩
        refine ⟨_, (hS.cel mp2 rfl), ?_⟩
        refine ⟨_, _, _, (hS.cel mp2 rfl), ?_⟩
        refine ⟨_, (hS.cel mp2 rfl), ?_⟩
        obtain ⟨t62, ht62, h⟩ := bnd h
        refine wk_girderkit_SameDyad H hS (Ent.sl mp11) (Ent.sl mp3) ht62 ?_; clear hS ht62; rintro w hS
        refine ⟨_, rfl, ?_⟩
        refine cond_s h ?_ ?_ <;> clear h <;> intro hc h
        ·
         refine cond_s h ?_ ?_ <;> clear h <;> intro hc h
         ·
          refine ⟨_, (hS.cel mp8 rfl), ?_⟩
          refine ⟨_, _, _, (hS.cel mp8 rfl), ?_⟩
          refine ⟨_, (hS.cel mp8 rfl), ?_⟩
          refine ⟨_, (hS.cel mp0 rfl), ?_⟩
          refine ⟨_, _, _, (hS.cel mp0 rfl), ?_⟩
          refine ⟨_, (hS.cel mp0 rfl), ?_⟩
          obtain ⟨t63, ht63, h⟩ := bnd h
          refine wk_girderkit_SameDyad H hS (Ent.sl mp9) (Ent.sl mp1) ht63 ?_; clear hS ht63; rintro w hS
          refine ⟨_, rfl, ?_⟩
          refine cond_s h ?_ ?_ <;> clear h <;> intro hc h
          ·
           have h := some_inj h
           cases h
           exact hK _ (hS.pick (A := [_, _, _, _, _, _, _, _, _, _, _, _, _, _, _, _]) [] rfl)
          ·
           have h := some_inj h
           cases h
           exact hK _ (hS.pick (A := [_, _, _, _, _, _, _, _, _, _, _, _, _, _, _, _]) [] rfl)
         ·
          have h := some_inj h
          cases h
          exact hK _ (hS.pick (A := [_, _, _, _, _, _, _, _, _, _, _, _, _, _, _, _]) [] rfl)
        ·
         have h := some_inj h
         cases h
         exact hK _ (hS.pick (A := [_, _, _, _, _, _, _, _, _, _, _, _, _, _, _, _]) [] rfl)
       ·
        have h := some_inj h
        cases h
        exact hK _ (hS.pick (A := [_, _, _, _, _, _, _, _, _, _, _, _, _, _, _, _]) [] rfl)
      ·
       have h := some_inj h
       cases h
       exact hK _ (hS.pick (A := [_, _, _, _, _, _, _, _, _, _, _, _, _, _, _, _]) [] rfl)

end Go.Eng
