/-
 Each function comes to what its function of plain Lean says, printed by a program of the session. No condition.
-/
import Derived.Test.YtdephdnkkljfeaaGreatDoorWk1
set_option linter.all false
set_option maxRecDepth 100000
set_option maxHeartbeats 4000000
namespace Go.Eng
open Go
variable {N : Nums} {P : Program} (H : AllOk N P) {w0 w : World} {L : List It} {K : Value → World → Prop}
include H
theorem wk_vector_fit {q0 q0l q0c ws0 q1 q1l q1c ws1 u0} (hS : Ho w0 w L) (hq0 : EF L ws0 q0 q0l q0c) (hq1 : EF L ws1 q1 q1l q1c) (h : T_vector_fit (List.map nf ws0) (List.map nf ws1) = some u0) (hK : ∀ w1, Ho w0 w1 L → K (.int .i64 u0) w1) : CallsX P N.f_vector_fit #[.slice q0 q0l q0c, .slice q1 q1l q1c] w K := by
 refine H.vector_fit q0 q0l q0c q1 q1l q1c w _ ?_
 unfold S_vector_fit
 unfold T_vector_fit at h
 try dsimp only
 obtain ⟨t1, ht1, h⟩ := bnd h
 obtain rfl := lenF ht1 (hq0.now (fun _ h => h) hS)
 obtain ⟨t2, ht2, h⟩ := bnd h
 obtain rfl := lenF ht2 (hq1.now (fun _ h => h) hS)
 refine cond_s h ?_ ?_ <;> intro hc h
 ·
  cases some_inj h
  exact hK _ hS
 obtain ⟨t3, ht3, h⟩ := bnd h
 obtain rfl := lenF ht3 (hq0.now (fun _ h => h) hS)
 refine cond_s h ?_ ?_ <;> intro hc h
 ·
  cases some_inj h
  exact hK _ hS
 cases some_inj h
 exact hK _ hS
theorem wk_vector_each {q0 q0l q0c ws0 q1 q1l q1c ws1} {q2 : Value} {f2 : Nat → Nat → Option Nat} {u0 u1} (hS : Ho w0 w L) (hq0 : EF L ws0 q0 q0l q0c) (hq1 : EF L ws1 q1 q1l q1c) (hf2 : ∀ (v0 : Nat) (v1 : Nat) (w : World) (L1 : List It) (r1 : Nat) (K : Value → World → Prop), (∀ e, e ∈ L → e ∈ L1) → f2 (nf v0) (nf v1) = some r1 → Ho w0 w L1 → (∀ (z : Nat) (w1 : World), nf z = r1 → Ho w0 w1 L1 → K (.float .f64 z) w1) → fnM q2 fun g gp gq => CallsX P g (gp.toList ++ (([.float .f64 v0, .float .f64 v1] : List Value) ++ gq.toList)).toArray w K) (h : T_vector_each (List.map nf ws0) (List.map nf ws1) f2 = some (u0, u1)) (hK : ∀ (a0 : Option Addr) (n0 c0 : Nat) (rws0 : List Nat) (w1 : World), List.map nf rws0 = u0 → Ho w0 w1 ((sl a0 n0 c0 (List.map (Value.float .f64) rws0) N.t_float64) :: L) → K (.tuple #[.slice a0 n0 c0, .int .i64 u1]) w1) : CallsX P N.f_vector_each #[.slice q0 q0l q0c, .slice q1 q1l q1c, q2] w K := by
 refine H.vector_each q0 q0l q0c q1 q1l q1c q2 w _ ?_
 unfold S_vector_each
 unfold T_vector_each at h
 try dsimp only
 obtain ⟨t1, ht1, h⟩ := bnd h
 refine wk_vector_fit H hS hq0 hq1 ht1 ?_; rintro w hS
 refine ⟨_, rfl, ?_⟩
 refine cond_s h ?_ ?_ <;> intro hc h
 ·
  replace hS := hS.none (α := Nat) (enc := (Value.float .f64)) (t := N.t_float64)
  cases some_inj h
  exact hK _ _ _ _ _ rfl hS
 obtain ⟨t2, ht2, h⟩ := bnd h
 obtain rfl := lenF ht2 (hq0.now (fun _ h => h) hS)
 obtain ⟨t3, ht3, h⟩ := bnd h
 obtain ⟨rfl, kt3⟩ := mkF ht3
 refine mk_s (enc := (Value.float .f64)) hS kt3 rfl ?_; clear hS kt3; intro r1 w hS
 obtain ⟨t4, ht4, h⟩ := bnd h
 obtain rfl := lenF ht4 ((hq0.mono tl1).now (fun _ h => h) hS)
 obtain ⟨o3, h3, c3⟩ := bnd h
 refine cutM_i (fun s w => ∃ (ws2 : List Nat), (List.map nf ws2) = o3 ∧ s = (()) ∧ Ho w0 w ((sl (some ⟨r1, 0, none⟩) ((((q0l : Nat) : Int)).toNat) ((((q0l : Nat) : Int)).toNat) (List.map (Value.float .f64) ws2) N.t_float64) :: L)) (fun J3 hJ3 => ?_) ?_
 ·
  have h := h3
  clear h3
  refine iter_sim (fun s w t => ∃ (t6 : Int) (ws4 : List Nat), (t6, (List.map nf ws4)) = t ∧ s = (t6, ()) ∧ Ho w0 w ((sl (some ⟨r1, 0, none⟩) ((((q0l : Nat) : Int)).toNat) ((((q0l : Nat) : Int)).toNat) (List.map (Value.float .f64) ws4) N.t_float64) :: L)) ?_ h ⟨_, _, rfl, rfl, hS⟩
  clear h hS
  rintro s w t X q ⟨t6, ws4, rfl, rfl, hS⟩ h hX hO
  unfold T_vector_each_b2 at h
  try dsimp only
  refine cond_s h ?_ ?_ <;> intro hc h
  ·
   obtain ⟨t8, ht8, h⟩ := bnd h
   obtain ⟨z5, rfl, q6x, q6l, q6r⟩ := atF ht8
   refine idx_s ((hq0.mono tl1).now (fun _ h => h) hS) q6x q6l q6r ?_; intro b7 hb7
   refine ⟨_, rd_get ((hq0.mono tl1).now (fun _ h => h) hS) hb7 q6x, ?_⟩
   obtain ⟨t9, ht9, h⟩ := bnd h
   obtain ⟨z8, rfl, q9x, q9l, q9r⟩ := atF ht9
   refine idx_s ((hq1.mono tl1).now (fun _ h => h) hS) q9x q9l q9r ?_; intro b10 hb10
   refine ⟨_, rd_get ((hq1.mono tl1).now (fun _ h => h) hS) hb10 q9x, ?_⟩
   refine drM_s hS ?_; intro w hS
   obtain ⟨t10, ht10, h⟩ := bnd h
   refine hf2 _ _ _ _ _ _ tl1 ht10 hS ?_; rintro z11 w rfl hS
   refine ⟨_, rfl, ?_⟩
   obtain ⟨t11, ht11, h⟩ := bnd h
   obtain ⟨z12, rfl, q13x, q13l, q13r⟩ := atF ht11
   refine idy_s ((Ent.sl mp0).now (fun _ h => h) hS) q13x q13l q13r ?_
   refine drM_s hS ?_; intro w hS
   obtain ⟨t12, ht12, h⟩ := bnd h
   obtain rfl := setF ht12
   refine sto_s hS rfl q13r ?_; intro w hS
   refine drM_s hS ?_; intro w hS
   obtain rfl := some_inj h
   exact hX _ rfl _ _ ⟨_, _, rfl, rfl, hS⟩
  obtain rfl := some_inj h
  have h := congrArg some (hO _ rfl)
  obtain rfl := some_inj h
  exact hJ3 _ _ ⟨_, rfl, rfl, hS⟩
 clear h3 hS
 rintro s w ⟨ws2, rfl, rfl, hS⟩
 have h := c3
 clear c3
 try dsimp only
 cases some_inj h
 exact hK _ _ _ _ _ rfl hS
theorem wk_vector_Add_1 {q0 q1 u0} (hS : Ho w0 w L)  (h : T_vector_Add_1 (nf q0) (nf q1) = some u0) (hK : ∀ (z0 : Nat) (w1 : World), nf z0 = u0 → Ho w0 w1 L → K (.float .f64 z0) w1) : CallsX P N.f_vector_Add_1 #[.float .f64 q0, .float .f64 q1] w K := by
 refine H.vector_Add_1 q0 q1 w _ ?_
 unfold S_vector_Add_1
 unfold T_vector_Add_1 at h
 try dsimp only
 obtain ⟨t1, ht1, h⟩ := bnd h
 refine fadd_s ht1 hS ?_; rintro z1 w rfl hS
 cases some_inj h
 exact hK _ _ rfl hS
theorem wk_vector_Add {q0 q0l q0c ws0 q1 q1l q1c ws1 u0 u1} (hS : Ho w0 w L) (hq0 : EF L ws0 q0 q0l q0c) (hq1 : EF L ws1 q1 q1l q1c) (hx : T_vector_Add (List.map nf ws0) (List.map nf ws1) = some (u0, u1)) (hK : ∀ (a0 : Option Addr) (n0 c0 : Nat) (rws0 : List Nat) (w1 : World), List.map nf rws0 = u0 → Ho w0 w1 ((sl a0 n0 c0 (List.map (Value.float .f64) rws0) N.t_float64) :: L) → K (.tuple #[.slice a0 n0 c0, .int .i64 u1]) w1) : CallsX P N.f_vector_Add #[.slice q0 q0l q0c, .slice q1 q1l q1c] w K := by
 refine H.vector_Add q0 q0l q0c q1 q1l q1c w _ ?_
 unfold S_vector_Add
 unfold T_vector_Add at hx
 have h := hx
 clear hx
 try dsimp only
 obtain ⟨⟨t1, t2⟩, ho1, h⟩ := bnd h
 refine wk_vector_each H hS hq0 hq1 (by intro v0 v1 w L1 r1 K hL hx hS hK; exact wk_vector_Add_1 H hS  hx hK) ho1 ?_; clear hS ho1; rintro a1 m1 c1 ws1 w rfl hS
 refine ⟨_, _, _, _, rfl, ?_⟩
 cases some_inj h
 exact hK _ _ _ _ _ rfl hS
theorem wk_refine_Step {q0_0 q0_1 q0_2 q0_2l q0_2c ws0_2 q1_0 q1_1 q1_1l q1_1c ws1_1 q1_2 q1_2l q1_2c ws1_2 q2 q2l q2c ws2 q3 q3l q3c ws3 u0 u1} (hS : Ho w0 w L) (hq0_2 : EF L ws0_2 q0_2 q0_2l q0_2c) (hq1_1 : EF L ws1_1 q1_1 q1_1l q1_1c) (hq1_2 : EF L ws1_2 q1_2 q1_2l q1_2c) (hq2 : EF L ws2 q2 q2l q2c) (hq3 : EF L ws3 q3 q3l q3c) (hG : Ent L (tab64 N.g_1)) (h : T_refine_Step q0_0 q0_1 (List.map nf ws0_2) q1_0 (List.map nf ws1_1) (List.map nf ws1_2) (List.map nf ws2) (List.map nf ws3) = some (u0, u1)) (hK : ∀ (a0 : Option Addr) (n0 c0 : Nat) (rws0 : List Nat) (w1 : World), List.map nf rws0 = u0 → Ho w0 w1 ((sl a0 n0 c0 (List.map (Value.float .f64) rws0) N.t_float64) :: L) → K (.tuple #[.slice a0 n0 c0, .int .i64 u1]) w1) : CallsX P N.f_refine_Step #[.agg #[.int .i64 q0_0, .int .i64 q0_1, .slice q0_2 q0_2l q0_2c], .agg #[.int .i64 q1_0, .slice q1_1 q1_1l q1_1c, .slice q1_2 q1_2l q1_2c], .slice q2 q2l q2c, .slice q3 q3l q3c] w K := by
 refine H.refine_Step q0_0 q0_1 q0_2 q0_2l q0_2c q1_0 q1_1 q1_1l q1_1c q1_2 q1_2l q1_2c q2 q2l q2c q3 q3l q3c w _ ?_
 unfold S_refine_Step
 unfold T_refine_Step at h
 try dsimp only
 refine newM_s hS ?_; intro r1 w hS
 refine newM_s hS ?_; intro r2 w hS
 obtain ⟨o3, h3, c3⟩ := bnd h
 refine cutM_i (fun s w => ∃ (t1 : Bool), t1 = o3 ∧ s = (t1, ()) ∧ Ho w0 w ((cl r2 [.int .i64 q1_0, .slice q1_1 q1_1l q1_1c, .slice q1_2 q1_2l q1_2c] N.t_Factor) :: (cl r1 [.int .i64 q0_0, .int .i64 q0_1, .slice q0_2 q0_2l q0_2c] N.t_Matrix) :: L)) (fun J3 hJ3 => ?_) ?_
 ·
  have h := h3
  clear h3
  refine ⟨_, (hS.cel mp1 rfl), ?_⟩
  refine ⟨_, (hS.cel mp1 rfl), ?_⟩
  refine ⟨_, _, _, (hS.cel mp1 rfl), ?_⟩
  obtain ⟨t2, ht2, h⟩ := bnd h
  refine wk_refine_fit H hS (hq0_2.mono tl2) (hq2.mono tl2) (hq3.mono tl2) ht2 ?_; rintro w hS
  refine ⟨_, rfl, ?_⟩
  refine cond_s h ?_ ?_ <;> intro hc h
  ·
   refine ⟨_, (hS.cel mp1 rfl), ?_⟩
   refine ⟨_, (hS.cel mp1 rfl), ?_⟩
   refine ⟨_, _, _, (hS.cel mp1 rfl), ?_⟩
   refine ⟨_, (hS.cel mp0 rfl), ?_⟩
   refine ⟨_, _, _, (hS.cel mp0 rfl), ?_⟩
   refine ⟨_, _, _, (hS.cel mp0 rfl), ?_⟩
   obtain ⟨t3, ht3, h⟩ := bnd h
   refine wk_refine_fits H hS (hq0_2.mono tl2) (hq1_1.mono tl2) (hq1_2.mono tl2) ht3 ?_; rintro w hS
   refine ⟨_, rfl, ?_⟩
   obtain rfl := some_inj h
   exact hJ3 _ _ ⟨_, rfl, rfl, hS⟩
  obtain rfl := some_inj h
  exact hJ3 _ _ ⟨_, rfl, rfl, hS⟩
 clear h3 hS
 rintro s w ⟨t1, rfl, rfl, hS⟩
 have h := c3
 clear c3
 try dsimp only
 refine cond_s h ?_ ?_ <;> intro hc h
 ·
  replace hS := hS.none (α := Nat) (enc := (Value.float .f64)) (t := N.t_float64)
  cases some_inj h
  exact hK _ _ _ _ _ rfl (hS.pick (A := [_, _, _]) [0] rfl)
 refine ⟨_, (hS.cel mp1 rfl), ?_⟩
 refine ⟨_, (hS.cel mp1 rfl), ?_⟩
 refine ⟨_, _, _, (hS.cel mp1 rfl), ?_⟩
 obtain ⟨⟨t4, t5⟩, ho4, h⟩ := bnd h
 refine wk_refine_Left H hS (hq0_2.mono tl2) (hq2.mono tl2) (hq3.mono tl2) (hG.mono tl2) ho4 ?_; clear hS ho4; rintro a4 m4 c4 ws4 w rfl hS
 refine ⟨_, _, _, _, rfl, ?_⟩
 refine cond_s h ?_ ?_ <;> intro hc h
 ·
  replace hS := hS.none (α := Nat) (enc := (Value.float .f64)) (t := N.t_float64)
  cases some_inj h
  exact hK _ _ _ _ _ rfl (hS.pick (A := [_, _, _, _]) [0] rfl)
 refine ⟨_, (hS.cel mp1 rfl), ?_⟩
 refine ⟨_, _, _, (hS.cel mp1 rfl), ?_⟩
 refine ⟨_, _, _, (hS.cel mp1 rfl), ?_⟩
 obtain ⟨⟨t6, t7⟩, ho6, h⟩ := bnd h
 refine wk_solve_Solve H hS (hq1_1.mono tl3) (hq1_2.mono tl3) (Ent.sl mp0) ho6 ?_; clear hS ho6; rintro a5 m5 c5 ws5 w rfl hS
 refine ⟨_, _, _, _, rfl, ?_⟩
 refine cond_s h ?_ ?_ <;> intro hc h
 ·
  replace hS := hS.none (α := Nat) (enc := (Value.float .f64)) (t := N.t_float64)
  cases some_inj h
  exact hK _ _ _ _ _ rfl (hS.pick (A := [_, _, _, _, _]) [0] rfl)
 obtain ⟨⟨t8, t9⟩, ho8, h⟩ := bnd h
 refine wk_vector_Add H hS (hq2.mono tl4) (Ent.sl mp0) ho8 ?_; clear hS ho8; rintro a6 m6 c6 ws6 w rfl hS
 refine ⟨_, _, _, _, rfl, ?_⟩
 obtain ⟨t10, ht10, h⟩ := bnd h
 obtain rfl : (List.map (List.map nf) ([ws6] : List (List Nat))) = t10 := some_inj ht10
 refine lit_s (ks := ([(a6, m6, c6)] : List Hd)) (enc := hdV) (m := 1) hS rfl rfl ?_; intro r7 w hS
 obtain ⟨t11, ht11, h⟩ := bnd h
 refine wk_refine_finite H hS (Ent.sl mp0) (.cons (Ent.sl mp1) .nil) ht11 ?_; rintro w hS
 refine ⟨_, rfl, ?_⟩
 refine cond_s h ?_ ?_ <;> intro hc h
 ·
  replace hS := hS.none (α := Nat) (enc := (Value.float .f64)) (t := N.t_float64)
  cases some_inj h
  exact hK _ _ _ _ _ rfl (hS.pick (A := [_, _, _, _, _, _, _]) [0] rfl)
 cases some_inj h
 exact hK _ _ _ _ _ rfl (hS.pick (A := [_, _, _, _, _, _]) [1] rfl)
theorem wk_refine_Until {q0_0 q0_1 q0_2 q0_2l q0_2c ws0_2 q1_0 q1_1 q1_1l q1_1c ws1_1 q1_2 q1_2l q1_2c ws1_2 q2 q2l q2c ws2 q3 u0 u1 u2} (hS : Ho w0 w L) (hq0_2 : EF L ws0_2 q0_2 q0_2l q0_2c) (hq1_1 : EF L ws1_1 q1_1 q1_1l q1_1c) (hq1_2 : EF L ws1_2 q1_2 q1_2l q1_2c) (hq2 : EF L ws2 q2 q2l q2c) (hG : Ent L (tab64 N.g_1)) (h : T_refine_Until q0_0 q0_1 (List.map nf ws0_2) q1_0 (List.map nf ws1_1) (List.map nf ws1_2) (List.map nf ws2) q3 = some (u0, u1, u2)) (hK : ∀ (a0 : Option Addr) (n0 c0 : Nat) (rws0 : List Nat) (w1 : World), List.map nf rws0 = u0 → Ho w0 w1 ((sl a0 n0 c0 (List.map (Value.float .f64) rws0) N.t_float64) :: L) → K (.tuple #[.slice a0 n0 c0, .int .i64 u1, .int .i64 u2]) w1) : CallsX P N.f_refine_Until #[.agg #[.int .i64 q0_0, .int .i64 q0_1, .slice q0_2 q0_2l q0_2c], .agg #[.int .i64 q1_0, .slice q1_1 q1_1l q1_1c, .slice q1_2 q1_2l q1_2c], .slice q2 q2l q2c, .int .i64 q3] w K := by
 refine H.refine_Until q0_0 q0_1 q0_2 q0_2l q0_2c q1_0 q1_1 q1_1l q1_1c q1_2 q1_2l q1_2c q2 q2l q2c q3 w _ ?_
 unfold S_refine_Until
 unfold T_refine_Until at h
 try dsimp only
 refine newM_s hS ?_; intro r1 w hS
 refine newM_s hS ?_; intro r2 w hS
 obtain ⟨o3, h3, c3⟩ := bnd h
 refine cutM_i (fun s w => ∃ (t1 : Bool), t1 = o3 ∧ s = (t1, ()) ∧ Ho w0 w ((cl r2 [.int .i64 q1_0, .slice q1_1 q1_1l q1_1c, .slice q1_2 q1_2l q1_2c] N.t_Factor) :: (cl r1 [.int .i64 q0_0, .int .i64 q0_1, .slice q0_2 q0_2l q0_2c] N.t_Matrix) :: L)) (fun J3 hJ3 => ?_) ?_
 ·
  have h := h3
  clear h3
  refine cond_s h ?_ ?_ <;> intro hc h
  ·
   obtain rfl := some_inj h
   exact hJ3 _ _ ⟨_, rfl, rfl, hS⟩
  obtain rfl := some_inj h
  exact hJ3 _ _ ⟨_, rfl, rfl, hS⟩
 clear h3 hS
 rintro s w ⟨t1, rfl, rfl, hS⟩
 have h := c3
 clear c3
 try dsimp only
 refine cond_s h ?_ ?_ <;> intro hc h
 ·
  replace hS := hS.none (α := Nat) (enc := (Value.float .f64)) (t := N.t_float64)
  cases some_inj h
  exact hK _ _ _ _ _ rfl (hS.pick (A := [_, _, _]) [0] rfl)
 obtain ⟨o4, h4, c4⟩ := bnd h
 refine cutM_i (fun s w => ∃ (t2 : Bool), t2 = o4 ∧ s = (t2, ()) ∧ Ho w0 w ((cl r2 [.int .i64 q1_0, .slice q1_1 q1_1l q1_1c, .slice q1_2 q1_2l q1_2c] N.t_Factor) :: (cl r1 [.int .i64 q0_0, .int .i64 q0_1, .slice q0_2 q0_2l q0_2c] N.t_Matrix) :: L)) (fun J4 hJ4 => ?_) ?_
 ·
  have h := h4
  clear h4
  refine ⟨_, (hS.cel mp1 rfl), ?_⟩
  refine ⟨_, (hS.cel mp1 rfl), ?_⟩
  refine ⟨_, _, _, (hS.cel mp1 rfl), ?_⟩
  refine ⟨_, (hS.cel mp0 rfl), ?_⟩
  refine ⟨_, _, _, (hS.cel mp0 rfl), ?_⟩
  refine ⟨_, _, _, (hS.cel mp0 rfl), ?_⟩
  obtain ⟨t3, ht3, h⟩ := bnd h
  refine wk_refine_fits H hS (hq0_2.mono tl2) (hq1_1.mono tl2) (hq1_2.mono tl2) ht3 ?_; rintro w hS
  refine ⟨_, rfl, ?_⟩
  refine cond_s h ?_ ?_ <;> intro hc h
  ·
   obtain ⟨t4, ht4, h⟩ := bnd h
   obtain rfl := lenF ht4 ((hq2.mono tl2).now (fun _ h => h) hS)
   refine ⟨_, (hS.cel mp1 rfl), ?_⟩
   obtain rfl := some_inj h
   exact hJ4 _ _ ⟨_, rfl, rfl, hS⟩
  obtain rfl := some_inj h
  exact hJ4 _ _ ⟨_, rfl, rfl, hS⟩
 clear h4 hS
 rintro s w ⟨t2, rfl, rfl, hS⟩
 have h := c4
 clear c4
 try dsimp only
 refine cond_s h ?_ ?_ <;> intro hc h
 ·
  replace hS := hS.none (α := Nat) (enc := (Value.float .f64)) (t := N.t_float64)
  cases some_inj h
  exact hK _ _ _ _ _ rfl (hS.pick (A := [_, _, _]) [0] rfl)
 refine ⟨_, _, _, (hS.cel mp1 rfl), ?_⟩
 obtain ⟨t5, ht5, h⟩ := bnd h
 obtain rfl : (List.map (List.map nf) ([ws0_2, ws2] : List (List Nat))) = t5 := some_inj ht5
 refine lit_s (ks := ([(q0_2, q0_2l, q0_2c), (q2, q2l, q2c)] : List Hd)) (enc := hdV) (m := 2) hS rfl rfl ?_; intro r5 w hS
 obtain ⟨t6, ht6, h⟩ := bnd h
 refine wk_refine_finite H hS (Ent.sl mp0) (.cons (hq0_2.mono tl3) (.cons (hq2.mono tl3) .nil)) ht6 ?_; rintro w hS
 refine ⟨_, rfl, ?_⟩
 refine cond_s h ?_ ?_ <;> intro hc h
 ·
  replace hS := hS.none (α := Nat) (enc := (Value.float .f64)) (t := N.t_float64)
  cases some_inj h
  exact hK _ _ _ _ _ rfl (hS.pick (A := [_, _, _, _]) [0] rfl)
 refine ⟨_, (hS.cel mp1 rfl), ?_⟩
 refine ⟨_, _, _, (hS.cel mp1 rfl), ?_⟩
 refine ⟨_, _, _, (hS.cel mp1 rfl), ?_⟩
 obtain ⟨⟨t7, t8⟩, ho7, h⟩ := bnd h
 refine wk_solve_Solve H hS (hq1_1.mono tl3) (hq1_2.mono tl3) (hq2.mono tl3) ho7 ?_; clear hS ho7; rintro a6 m6 c6 ws6 w rfl hS
 refine ⟨_, _, _, _, rfl, ?_⟩
 refine cond_s h ?_ ?_ <;> intro hc h
 ·
  replace hS := hS.none (α := Nat) (enc := (Value.float .f64)) (t := N.t_float64)
  cases some_inj h
  exact hK _ _ _ _ _ rfl (hS.pick (A := [_, _, _, _, _]) [0] rfl)
 obtain ⟨t9, ht9, h⟩ := bnd h
 obtain rfl : (List.map (List.map nf) ([ws6] : List (List Nat))) = t9 := some_inj ht9
 refine lit_s (ks := ([(a6, m6, c6)] : List Hd)) (enc := hdV) (m := 1) hS rfl rfl ?_; intro r7 w hS
 obtain ⟨t10, ht10, h⟩ := bnd h
 refine wk_refine_finite H hS (Ent.sl mp0) (.cons (Ent.sl mp1) .nil) ht10 ?_; rintro w hS
 refine ⟨_, rfl, ?_⟩
 refine cond_s h ?_ ?_ <;> intro hc h
 ·
  replace hS := hS.none (α := Nat) (enc := (Value.float .f64)) (t := N.t_float64)
  cases some_inj h
  exact hK _ _ _ _ _ rfl (hS.pick (A := [_, _, _, _, _, _]) [0] rfl)
 refine ⟨_, (hS.cel mp4 rfl), ?_⟩
 refine ⟨_, (hS.cel mp4 rfl), ?_⟩
 refine ⟨_, _, _, (hS.cel mp4 rfl), ?_⟩
 obtain ⟨⟨t11, t12⟩, ho11, h⟩ := bnd h
 refine wk_refine_Left H hS (hq0_2.mono tl5) (Ent.sl mp1) (hq2.mono tl5) (hG.mono tl5) ho11 ?_; clear hS ho11; rintro a8 m8 c8 ws8 w rfl hS
 refine ⟨_, _, _, _, rfl, ?_⟩
 refine cond_s h ?_ ?_ <;> intro hc h
 ·
  replace hS := hS.none (α := Nat) (enc := (Value.float .f64)) (t := N.t_float64)
  cases some_inj h
  exact hK _ _ _ _ _ rfl (hS.pick (A := [_, _, _, _, _, _, _]) [0] rfl)
 obtain ⟨t13, ht13, h⟩ := bnd h
 refine wk_vector_Norm H hS (Ent.sl mp0) ht13 ?_; rintro z9 w rfl hS
 refine ⟨_, rfl, ?_⟩
 obtain ⟨o14, h14, c14⟩ := bnd h
 refine cutM_i (fun s w => ∃ (a10 : Option Addr) (m11 : Nat) (c12 : Nat) (ws13 : List Nat), .inl (List.map nf ws13) = o14 ∧ s = ((a10, m11, c12), ()) ∧ Ho w0 w ((sl a10 m11 c12 (List.map (Value.float .f64) ws13) N.t_float64) :: L)) (fun J14 hJ14 => ?_) ?_
 ·
  have h := h14
  clear h14
  refine iter_sim (fun s w t => ∃ (z15 : Nat) (t16 : Int) (a16 : Option Addr) (m17 : Nat) (c18 : Nat) (ws19 : List Nat), ((nf z15), t16, (List.map nf ws19)) = t ∧ s = ((a16, m17, c18), z15, t16, ()) ∧ Ho w0 w ((cl r2 [.int .i64 q1_0, .slice q1_1 q1_1l q1_1c, .slice q1_2 q1_2l q1_2c] N.t_Factor) :: (cl r1 [.int .i64 q0_0, .int .i64 q0_1, .slice q0_2 q0_2l q0_2c] N.t_Matrix) :: (sl a16 m17 c18 (List.map (Value.float .f64) ws19) N.t_float64) :: L)) ?_ h ⟨_, _, _, _, _, _, rfl, rfl, (hS.pick (A := [_, _, _, _, _, _]) [4, 4, 2] rfl)⟩
  clear h hS
  rintro s w t X q ⟨z15, t16, a16, m17, c18, ws19, rfl, rfl, hS⟩ h hX hO
  unfold T_refine_Until_b2 at h
  try dsimp only
  refine cond_s h ?_ ?_ <;> intro hc h
  ·
   refine ⟨_, (hS.cel mp1 rfl), ?_⟩
   refine ⟨_, (hS.cel mp1 rfl), ?_⟩
   refine ⟨_, _, _, (hS.cel mp1 rfl), ?_⟩
   refine ⟨_, (hS.cel mp0 rfl), ?_⟩
   refine ⟨_, _, _, (hS.cel mp0 rfl), ?_⟩
   refine ⟨_, _, _, (hS.cel mp0 rfl), ?_⟩
   obtain ⟨⟨t18, t19⟩, ho18, h⟩ := bnd h
   refine wk_refine_Step H hS (hq0_2.mono tl3) (hq1_1.mono tl3) (hq1_2.mono tl3) (Ent.sl mp2) (hq2.mono tl3) (hG.mono tl3) ho18 ?_; clear hS ho18; rintro a20 m20 c20 ws20 w rfl hS
   refine ⟨_, _, _, _, rfl, ?_⟩
   refine cond_s h ?_ ?_ <;> intro hc h
   ·
    obtain rfl := some_inj h
    have h := congrArg some (hO _ rfl)
    obtain rfl := some_inj h
    have h := c14
    cases some_inj h
    exact hK _ _ _ _ _ rfl (hS.pick (A := [_, _, _, _]) [3] rfl)
   refine ⟨_, (hS.cel mp2 rfl), ?_⟩
   refine ⟨_, (hS.cel mp2 rfl), ?_⟩
   refine ⟨_, _, _, (hS.cel mp2 rfl), ?_⟩
   obtain ⟨⟨t20, t21⟩, ho20, h⟩ := bnd h
   refine wk_refine_Left H hS (hq0_2.mono tl4) (Ent.sl mp0) (hq2.mono tl4) (hG.mono tl4) ho20 ?_; clear hS ho20; rintro a21 m21 c21 ws21 w rfl hS
   refine ⟨_, _, _, _, rfl, ?_⟩
   refine cond_s h ?_ ?_ <;> intro hc h
   ·
    obtain ⟨t22, ht22, h⟩ := bnd h
    refine wk_vector_Norm H hS (Ent.sl mp0) ht22 ?_; rintro z22 w rfl hS
    refine ⟨_, rfl, ?_⟩
    obtain ⟨t23, ht23, h⟩ := bnd h
    obtain rfl := fge_s ht23
    refine cond_s h ?_ ?_ <;> intro hc h
    ·
     obtain rfl := some_inj h
     have h := congrArg some (hO _ rfl)
     obtain rfl := some_inj h
     have h := c14
     cases some_inj h
     exact hK _ _ _ _ _ rfl (hS.pick (A := [_, _, _, _, _]) [4] rfl)
    obtain ⟨t24, ht24, h⟩ := bnd h
    refine wk_vector_Norm H hS (Ent.sl mp0) ht24 ?_; rintro z23 w rfl hS
    refine ⟨_, rfl, ?_⟩
    obtain rfl := some_inj h
    exact hX _ rfl _ _ ⟨_, _, _, _, _, _, rfl, rfl, (hS.pick (A := [_, _, _, _, _]) [2, 2, 1] rfl)⟩
   obtain rfl := some_inj h
   have h := congrArg some (hO _ rfl)
   obtain rfl := some_inj h
   have h := c14
   cases some_inj h
   exact hK _ _ _ _ _ rfl (hS.pick (A := [_, _, _, _, _]) [4] rfl)
  obtain rfl := some_inj h
  have h := congrArg some (hO _ rfl)
  obtain rfl := some_inj h
  exact hJ14 _ _ ⟨_, _, _, _, rfl, rfl, (hS.pick (A := [_, _, _]) [2] rfl)⟩
 clear h14 hS
 rintro s w ⟨a10, m11, c12, ws13, rfl, rfl, hS⟩
 have h := c14
 clear c14
 try dsimp only
 cases some_inj h
 exact hK _ _ _ _ _ rfl hS
theorem wk_k_Like {q0 q1 u0} (hS : Ho w0 w L)  (h : T_k_Like (nf q0) (nf q1) = some u0) (hK : ∀ w1, Ho w0 w1 L → K (.bool u0) w1) : CallsX P N.f_k_Like #[.float .f64 q0, .float .f64 q1] w K := by
 refine H.k_Like q0 q1 w _ ?_
 unfold S_k_Like
 unfold T_k_Like at h
 try dsimp only
 obtain ⟨t1, ht1, h⟩ := bnd h
 obtain rfl := feq_s ht1
 refine cond_s h ?_ ?_ <;> intro hc h
 ·
  obtain ⟨t2, ht2, h⟩ := bnd h
  obtain rfl := fne_s ht2
  refine cond_s h ?_ ?_ <;> intro hc h
  ·
   obtain ⟨t3, ht3, h⟩ := bnd h
   obtain rfl := fne_s ht3
   cases some_inj h
   exact hK _ hS
  cases some_inj h
  exact hK _ hS
 cases some_inj h
 exact hK _ hS
theorem wk_k_LikeReals {q0 q0l q0c ws0 q1 q1l q1c ws1 u0} (hS : Ho w0 w L) (hq0 : EF L ws0 q0 q0l q0c) (hq1 : EF L ws1 q1 q1l q1c) (h : T_k_LikeReals (List.map nf ws0) (List.map nf ws1) = some u0) (hK : ∀ w1, Ho w0 w1 L → K (.bool u0) w1) : CallsX P N.f_k_LikeReals #[.slice q0 q0l q0c, .slice q1 q1l q1c] w K := by
 refine H.k_LikeReals q0 q0l q0c q1 q1l q1c w _ ?_
 unfold S_k_LikeReals
 unfold T_k_LikeReals at h
 try dsimp only
 obtain ⟨t1, ht1, h⟩ := bnd h
 obtain rfl := lenF ht1 (hq0.now (fun _ h => h) hS)
 obtain ⟨t2, ht2, h⟩ := bnd h
 obtain rfl := lenF ht2 (hq1.now (fun _ h => h) hS)
 refine cond_s h ?_ ?_ <;> intro hc h
 ·
  cases some_inj h
  exact hK _ hS
 obtain ⟨o1, h1, c1⟩ := bnd h
 refine cutM_i (fun s w =>  .inl () = o1 ∧ s = (()) ∧ Ho w0 w L) (fun J1 hJ1 => ?_) ?_
 ·
  have h := h1
  clear h1
  refine iter_sim (fun s w t => ∃ (t3 : Int), t3 = t ∧ s = (t3, ()) ∧ Ho w0 w L) ?_ h ⟨_, rfl, rfl, hS⟩
  clear h hS
  rintro s w t X q ⟨t3, rfl, rfl, hS⟩ h hX hO
  unfold T_k_LikeReals_b2 at h
  try dsimp only
  obtain ⟨t4, ht4, h⟩ := bnd h
  obtain rfl := lenF ht4 (hq0.now (fun _ h => h) hS)
  refine cond_s h ?_ ?_ <;> intro hc h
  ·
   obtain ⟨t5, ht5, h⟩ := bnd h
   obtain ⟨z2, rfl, q3x, q3l, q3r⟩ := atF ht5
   refine idx_s (hq0.now (fun _ h => h) hS) q3x q3l q3r ?_; intro b4 hb4
   refine ⟨_, rd_get (hq0.now (fun _ h => h) hS) hb4 q3x, ?_⟩
   obtain ⟨t6, ht6, h⟩ := bnd h
   obtain ⟨z5, rfl, q6x, q6l, q6r⟩ := atF ht6
   refine idx_s (hq1.now (fun _ h => h) hS) q6x q6l q6r ?_; intro b7 hb7
   refine ⟨_, rd_get (hq1.now (fun _ h => h) hS) hb7 q6x, ?_⟩
   refine drM_s hS ?_; intro w hS
   obtain ⟨t7, ht7, h⟩ := bnd h
   refine wk_k_Like H hS  ht7 ?_; rintro w hS
   refine ⟨_, rfl, ?_⟩
   refine drM_s hS ?_; intro w hS
   refine cond_s h ?_ ?_ <;> intro hc h
   ·
    obtain rfl := some_inj h
    have h := congrArg some (hO _ rfl)
    obtain rfl := some_inj h
    have h := c1
    cases some_inj h
    exact hK _ hS
   obtain rfl := some_inj h
   exact hX _ rfl _ _ ⟨_, rfl, rfl, hS⟩
  obtain rfl := some_inj h
  have h := congrArg some (hO _ rfl)
  obtain rfl := some_inj h
  exact hJ1 _ _ ⟨rfl, rfl, hS⟩
 clear h1 hS
 rintro s w ⟨rfl, rfl, hS⟩
 have h := c1
 clear c1
 try dsimp only
 cases some_inj h
 exact hK _ hS
theorem wk_w14_awake  {u0} (hS : Ho w0 w L) (hG : Ent L (tab64 N.g_1)) (h : T_w14_awake  = some u0) (hK : ∀ w1, Ho w0 w1 L → K (.bool u0) w1) : CallsX P N.f_w14_awake #[] w K := by
 refine H.w14_awake  w _ ?_
 unfold S_w14_awake
 unfold T_w14_awake at h
 try dsimp only
 obtain ⟨⟨t1, t2, t3, t4, t5, t6⟩, ho1, h⟩ := bnd h
 refine wk_w14_two H hS  ho1 ?_; clear hS ho1; rintro a1 m1 c1 ws1 a2 m2 c2 ws2 a3 m3 c3 ws3 w rfl rfl rfl hS
 refine ⟨_, _, _, _, _, _, _, _, _, _, _, _, rfl, ?_⟩
 refine newM_s hS ?_; intro r4 w hS
 refine newM_s hS ?_; intro r5 w hS
 replace hS := ro1 hS
 refine stc_s hS rfl rfl ?_; intro w hS
 refine stc_s hS rfl rfl ?_; intro w hS
 refine stc_s hS rfl rfl ?_; intro w hS
 replace hS := ro1 hS
 refine stc_s hS rfl rfl ?_; intro w hS
 refine stc_s hS rfl rfl ?_; intro w hS
 refine stc_s hS rfl rfl ?_; intro w hS
 refine ⟨_, (hS.cel mp1 rfl), ?_⟩
 refine ⟨_, (hS.cel mp1 rfl), ?_⟩
 refine ⟨_, _, _, (hS.cel mp1 rfl), ?_⟩
 obtain ⟨t7, ht7, h⟩ := bnd h
 obtain rfl : (List.map nf ([4607182418800017408, 4607182418800017408] : List Nat)) = t7 := some_inj ht7
 refine lit_s (ks := [4607182418800017408, 4607182418800017408]) (enc := (Value.float .f64)) (m := 2) hS rfl rfl ?_; intro r6 w hS
 obtain ⟨t8, ht8, h⟩ := bnd h
 obtain rfl : (List.map nf ([4618441417868443648, 4616189618054758400] : List Nat)) = t8 := some_inj ht8
 refine lit_s (ks := [4618441417868443648, 4616189618054758400]) (enc := (Value.float .f64)) (m := 2) hS rfl rfl ?_; intro r7 w hS
 obtain ⟨⟨t9, t10⟩, ho9, h⟩ := bnd h
 refine wk_refine_Left H hS (Ent.sl mp4) (Ent.sl mp1) (Ent.sl mp0) (hG.mono tl7) ho9 ?_; clear hS ho9; rintro a8 m8 c8 ws8 w rfl hS
 refine ⟨_, _, _, _, rfl, ?_⟩
 refine ⟨_, (hS.cel mp4 rfl), ?_⟩
 refine ⟨_, (hS.cel mp4 rfl), ?_⟩
 refine ⟨_, _, _, (hS.cel mp4 rfl), ?_⟩
 refine ⟨_, (hS.cel mp3 rfl), ?_⟩
 refine ⟨_, _, _, (hS.cel mp3 rfl), ?_⟩
 refine ⟨_, _, _, (hS.cel mp3 rfl), ?_⟩
 obtain ⟨t11, ht11, h⟩ := bnd h
 obtain rfl : (List.map nf ([4617315517961601024, 4616189618054758400] : List Nat)) = t11 := some_inj ht11
 refine lit_s (ks := [4617315517961601024, 4616189618054758400]) (enc := (Value.float .f64)) (m := 2) hS rfl rfl ?_; intro r9 w hS
 obtain ⟨⟨t12, t13, t14⟩, ho12, h⟩ := bnd h
 refine wk_refine_Until H hS (Ent.sl mp6) (Ent.sl mp7) (Ent.sl mp8) (Ent.sl mp0) (hG.mono tl9) ho12 ?_; clear hS ho12; rintro a10 m10 c10 ws10 w rfl hS
 refine ⟨_, _, _, _, _, rfl, ?_⟩
 obtain ⟨t15, ht15, h⟩ := bnd h
 obtain rfl : (List.map nf ([4607182418800017408, 4607182418800017408] : List Nat)) = t15 := some_inj ht15
 refine lit_s (ks := [4607182418800017408, 4607182418800017408]) (enc := (Value.float .f64)) (m := 2) hS rfl rfl ?_; intro r11 w hS
 obtain ⟨t16, ht16, h⟩ := bnd h
 obtain rfl : (List.map nf ([4877398396442247168, 4607182418800017408] : List Nat)) = t16 := some_inj ht16
 refine lit_s (ks := [4877398396442247168, 4607182418800017408]) (enc := (Value.float .f64)) (m := 2) hS rfl rfl ?_; intro r12 w hS
 obtain ⟨t17, ht17, h⟩ := bnd h
 obtain rfl : (List.map nf ([4877398396442247168] : List Nat)) = t17 := some_inj ht17
 refine lit_s (ks := [4877398396442247168]) (enc := (Value.float .f64)) (m := 1) hS rfl rfl ?_; intro r13 w hS
 obtain ⟨⟨t18, t19⟩, ho18, h⟩ := bnd h
 refine wk_refine_Left H hS (Ent.sl mp2) (Ent.sl mp1) (Ent.sl mp0) (hG.mono tl13) ho18 ?_; clear hS ho18; rintro a14 m14 c14 ws14 w rfl hS
 refine ⟨_, _, _, _, rfl, ?_⟩
 refine cond_s h ?_ ?_ <;> intro hc h
 ·
  refine cond_s h ?_ ?_ <;> intro hc h
  ·
   refine cond_s h ?_ ?_ <;> intro hc h
   ·
    obtain ⟨t20, ht20, h⟩ := bnd h
    obtain rfl : (List.map nf ([4607182418800017408, 0] : List Nat)) = t20 := some_inj ht20
    refine lit_s (ks := [4607182418800017408, 0]) (enc := (Value.float .f64)) (m := 2) hS rfl rfl ?_; intro r15 w hS
    obtain ⟨t21, ht21, h⟩ := bnd h
    refine wk_k_LikeReals H hS (Ent.sl mp7) (Ent.sl mp0) ht21 ?_; rintro w hS
    refine ⟨_, rfl, ?_⟩
    refine cond_s h ?_ ?_ <;> intro hc h
    ·
     obtain ⟨t22, ht22, h⟩ := bnd h
     obtain rfl := lenF ht22 ((Ent.sl mp5).now (fun _ h => h) hS)
     refine cond_s h ?_ ?_ <;> intro hc h
     ·
      obtain ⟨t23, ht23, h⟩ := bnd h
      obtain ⟨z16, rfl, q17x, q17l, q17r⟩ := atF ht23
      refine idx_s ((Ent.sl mp5).now (fun _ h => h) hS) q17x q17l q17r ?_; intro b18 hb18
      refine ⟨_, rd_get ((Ent.sl mp5).now (fun _ h => h) hS) hb18 q17x, ?_⟩
      obtain ⟨t24, ht24, h⟩ := bnd h
      obtain rfl := fgt_s ht24
      refine cond_s h ?_ ?_ <;> intro hc h
      ·
       obtain ⟨t25, ht25, h⟩ := bnd h
       obtain ⟨z19, rfl, q20x, q20l, q20r⟩ := atF ht25
       refine idx_s ((Ent.sl mp5).now (fun _ h => h) hS) q20x q20l q20r ?_; intro b21 hb21
       refine ⟨_, rd_get ((Ent.sl mp5).now (fun _ h => h) hS) hb21 q20x, ?_⟩
       obtain ⟨t26, ht26, h⟩ := bnd h
       obtain rfl := flt_s ht26
       refine cond_s h ?_ ?_ <;> intro hc h
       ·
        refine cond_s h ?_ ?_ <;> intro hc h
        ·
         obtain ⟨t27, ht27, h⟩ := bnd h
         obtain rfl : (List.map nf ([13830554455654793216] : List Nat)) = t27 := some_inj ht27
         refine lit_s (ks := [13830554455654793216]) (enc := (Value.float .f64)) (m := 1) hS rfl rfl ?_; intro r22 w hS
         obtain ⟨t28, ht28, h⟩ := bnd h
         refine wk_k_LikeReals H hS (Ent.sl mp2) (Ent.sl mp0) ht28 ?_; rintro w hS
         refine ⟨_, rfl, ?_⟩
         cases some_inj h
         exact hK _ (hS.pick (A := [_, _, _, _, _, _, _, _, _, _, _, _, _, _, _, _]) [] rfl)
        cases some_inj h
        exact hK _ (hS.pick (A := [_, _, _, _, _, _, _, _, _, _, _, _, _, _, _]) [] rfl)
       cases some_inj h
       exact hK _ (hS.pick (A := [_, _, _, _, _, _, _, _, _, _, _, _, _, _, _]) [] rfl)
      cases some_inj h
      exact hK _ (hS.pick (A := [_, _, _, _, _, _, _, _, _, _, _, _, _, _, _]) [] rfl)
     cases some_inj h
     exact hK _ (hS.pick (A := [_, _, _, _, _, _, _, _, _, _, _, _, _, _, _]) [] rfl)
    cases some_inj h
    exact hK _ (hS.pick (A := [_, _, _, _, _, _, _, _, _, _, _, _, _, _, _]) [] rfl)
   cases some_inj h
   exact hK _ (hS.pick (A := [_, _, _, _, _, _, _, _, _, _, _, _, _, _]) [] rfl)
  cases some_inj h
  exact hK _ (hS.pick (A := [_, _, _, _, _, _, _, _, _, _, _, _, _, _]) [] rfl)
 cases some_inj h
 exact hK _ (hS.pick (A := [_, _, _, _, _, _, _, _, _, _, _, _, _, _]) [] rfl)
theorem wk_k_SameFloat {q0 q1 u0} (hS : Ho w0 w L)  (hx : T_k_SameFloat (nf q0) (nf q1) = some u0) (hK : ∀ w1, Ho w0 w1 L → K (.bool u0) w1) : CallsX P N.f_k_SameFloat #[.float .f64 q0, .float .f64 q1] w K := by
 unfold T_k_SameFloat at hx
 have hx := some_inj hx
 subst hx
 refine (sameFloat_c H q0 q1 w).mono ?_
 rintro _ w1 ⟨rfl, h1⟩
 exact hK _ (hS.next h1)
theorem wk_k_SameReals {q0 q0l q0c ws0 q1 q1l q1c ws1 u0} (hS : Ho w0 w L) (hq0 : EF L ws0 q0 q0l q0c) (hq1 : EF L ws1 q1 q1l q1c) (h : T_k_SameReals (List.map nf ws0) (List.map nf ws1) = some u0) (hK : ∀ w1, Ho w0 w1 L → K (.bool u0) w1) : CallsX P N.f_k_SameReals #[.slice q0 q0l q0c, .slice q1 q1l q1c] w K := by
 refine H.k_SameReals q0 q0l q0c q1 q1l q1c w _ ?_
 unfold S_k_SameReals
 unfold T_k_SameReals at h
 try dsimp only
 obtain ⟨t1, ht1, h⟩ := bnd h
 obtain rfl := lenF ht1 (hq0.now (fun _ h => h) hS)
 obtain ⟨t2, ht2, h⟩ := bnd h
 obtain rfl := lenF ht2 (hq1.now (fun _ h => h) hS)
 refine cond_s h ?_ ?_ <;> intro hc h
 ·
  cases some_inj h
  exact hK _ hS
 obtain ⟨o1, h1, c1⟩ := bnd h
 refine cutM_i (fun s w =>  .inl () = o1 ∧ s = (()) ∧ Ho w0 w L) (fun J1 hJ1 => ?_) ?_
 ·
  have h := h1
  clear h1
  refine iter_sim (fun s w t => ∃ (t3 : Int), t3 = t ∧ s = (t3, ()) ∧ Ho w0 w L) ?_ h ⟨_, rfl, rfl, hS⟩
  clear h hS
  rintro s w t X q ⟨t3, rfl, rfl, hS⟩ h hX hO
  unfold T_k_SameReals_b2 at h
  try dsimp only
  obtain ⟨t4, ht4, h⟩ := bnd h
  obtain rfl := lenF ht4 (hq0.now (fun _ h => h) hS)
  refine cond_s h ?_ ?_ <;> intro hc h
  ·
   obtain ⟨t5, ht5, h⟩ := bnd h
   obtain ⟨z2, rfl, q3x, q3l, q3r⟩ := atF ht5
   refine idx_s (hq0.now (fun _ h => h) hS) q3x q3l q3r ?_; intro b4 hb4
   refine ⟨_, rd_get (hq0.now (fun _ h => h) hS) hb4 q3x, ?_⟩
   obtain ⟨t6, ht6, h⟩ := bnd h
   obtain ⟨z5, rfl, q6x, q6l, q6r⟩ := atF ht6
   refine idx_s (hq1.now (fun _ h => h) hS) q6x q6l q6r ?_; intro b7 hb7
   refine ⟨_, rd_get (hq1.now (fun _ h => h) hS) hb7 q6x, ?_⟩
   refine drM_s hS ?_; intro w hS
   obtain ⟨t7, ht7, h⟩ := bnd h
   refine wk_k_SameFloat H hS  ht7 ?_; rintro w hS
   refine ⟨_, rfl, ?_⟩
   refine drM_s hS ?_; intro w hS
   refine cond_s h ?_ ?_ <;> intro hc h
   ·
    obtain rfl := some_inj h
    have h := congrArg some (hO _ rfl)
    obtain rfl := some_inj h
    have h := c1
    cases some_inj h
    exact hK _ hS
   obtain rfl := some_inj h
   exact hX _ rfl _ _ ⟨_, rfl, rfl, hS⟩
  obtain rfl := some_inj h
  have h := congrArg some (hO _ rfl)
  obtain rfl := some_inj h
  exact hJ1 _ _ ⟨rfl, rfl, hS⟩
 clear h1 hS
 rintro s w ⟨rfl, rfl, hS⟩
 have h := c1
 clear c1
 try dsimp only
 cases some_inj h
 exact hK _ hS
theorem wk_k_Pick {q0 q1 u0} (hS : Ho w0 w L)  (h : T_k_Pick q0 q1 = some u0) (hK : ∀ w1, Ho w0 w1 L → K (.int .i64 u0) w1) : CallsX P N.f_k_Pick #[.int .i64 q0, .int .i64 q1] w K := by
 refine H.k_Pick q0 q1 w _ ?_
 unfold S_k_Pick
 unfold T_k_Pick at h
 try dsimp only
 refine cond_s h ?_ ?_ <;> intro hc h
 ·
  cases some_inj h
  exact hK _ hS
 obtain ⟨t2, ht2, h⟩ := bnd h
 refine ⟨nz_s ht2, ?_⟩
 obtain ⟨o1, h1, c1⟩ := bnd h
 refine cutM_i (fun s w => ∃ (t1 : Int), t1 = o1 ∧ s = (t1, ()) ∧ Ho w0 w L) (fun J1 hJ1 => ?_) ?_
 ·
  have h := h1
  clear h1
  refine cond_s h ?_ ?_ <;> intro hc h
  ·
   obtain rfl := some_inj h
   exact hJ1 _ _ ⟨_, rfl, rfl, hS⟩
  obtain rfl := some_inj h
  exact hJ1 _ _ ⟨_, rfl, rfl, hS⟩
 clear h1 hS
 rintro s w ⟨t1, rfl, rfl, hS⟩
 have h := c1
 clear c1
 try dsimp only
 cases some_inj h
 exact hK _ hS
theorem wk_w14_RefineNothing {q0 q0l q0c l0 q1 q1l q1c l1 q2 u0} (hS : Ho w0 w L) (hq0 : Ent L (rdA (List.map (Value.int .i8) l0) q0 q0l q0c)) (hq1 : Ent L (rdA (List.map (Value.int .i8) l1) q1 q1l q1c)) (hG : Ent L (tab64 N.g_1)) (h : T_w14_RefineNothing l0 l1 q2 = some u0) (hK : ∀ w1, Ho w0 w1 L → K (.bool u0) w1) : CallsX P N.f_w14_RefineNothing #[.slice q0 q0l q0c, .slice q1 q1l q1c, .int .i64 q2] w K := by
 refine H.w14_RefineNothing q0 q0l q0c q1 q1l q1c q2 w _ ?_
 unfold S_w14_RefineNothing
 unfold T_w14_RefineNothing at h
 try dsimp only
 obtain ⟨t1, ht1, h⟩ := bnd h
 refine wk_w14_awake H hS hG ht1 ?_; rintro w hS
 refine ⟨_, rfl, ?_⟩
 refine cond_s h ?_ ?_ <;> intro hc h
 ·
  cases some_inj h
  exact hK _ hS
 obtain ⟨t2, ht2, h⟩ := bnd h
 obtain rfl := lenE ht2 (hq1.now (fun _ h => h) hS)
 refine cond_s h ?_ ?_ <;> intro hc h
 ·
  cases some_inj h
  exact hK _ hS
 refine newM_s hS ?_; intro r1 w hS
 refine stc_s hS rfl rfl ?_; intro w hS
 refine stc_s hS rfl rfl ?_; intro w hS
 refine stc_s hS rfl rfl ?_; intro w hS
 obtain ⟨o14, h14, c14⟩ := bnd h
 refine cutM_i (fun s w => ∃ (a2 : Option Addr) (m3 : Nat) (c4 : Nat) (ws5 : List Nat) (a6 : Option Addr) (m7 : Nat) (c8 : Nat) (ws9 : List Nat) (a10 : Option Addr) (m11 : Nat) (c12 : Nat) (ws13 : List Nat), ((List.map nf ws5), (List.map nf ws9), (List.map nf ws13)) = o14 ∧ s = ((a2, m3, c4), (a6, m7, c8), ()) ∧ Ho w0 w ((cl r1 [.int .i64 (if 8 < ((q1l : Nat) : Int) then 8 else ((q1l : Nat) : Int)), .int .i64 (if 8 < ((q1l : Nat) : Int) then 8 else ((q1l : Nat) : Int)), .slice a10 m11 c12] N.t_Matrix) :: (sl a2 m3 c4 (List.map (Value.float .f64) ws5) N.t_float64) :: (sl a6 m7 c8 (List.map (Value.float .f64) ws9) N.t_float64) :: (sl a10 m11 c12 (List.map (Value.float .f64) ws13) N.t_float64) :: L)) (fun J14 hJ14 => ?_) ?_
 ·
  have h := h14
  clear h14
  replace hS := hS.none (α := Nat) (enc := (Value.float .f64)) (t := N.t_float64)
  replace hS := hS.none (α := Nat) (enc := (Value.float .f64)) (t := N.t_float64)
  replace hS := hS.none (α := Nat) (enc := (Value.float .f64)) (t := N.t_float64)
  refine iter_sim (fun s w t => ∃ (t6 : Int) (a15 : Option Addr) (m16 : Nat) (c17 : Nat) (ws18 : List Nat) (a19 : Option Addr) (m20 : Nat) (c21 : Nat) (ws22 : List Nat) (a23 : Option Addr) (m24 : Nat) (c25 : Nat) (ws26 : List Nat), (t6, (List.map nf ws18), (List.map nf ws22), (List.map nf ws26)) = t ∧ s = ((a15, m16, c17), (a19, m20, c21), t6, ()) ∧ Ho w0 w ((cl r1 [.int .i64 (if 8 < ((q1l : Nat) : Int) then 8 else ((q1l : Nat) : Int)), .int .i64 (if 8 < ((q1l : Nat) : Int) then 8 else ((q1l : Nat) : Int)), .slice a23 m24 c25] N.t_Matrix) :: (sl a15 m16 c17 (List.map (Value.float .f64) ws18) N.t_float64) :: (sl a19 m20 c21 (List.map (Value.float .f64) ws22) N.t_float64) :: (sl a23 m24 c25 (List.map (Value.float .f64) ws26) N.t_float64) :: L)) ?_ h ⟨_, _, _, _, _, _, _, _, _, _, _, _, _, rfl, rfl, (hS.pick (A := [_, _, _, _]) [3, 2, 1, 0] rfl)⟩
  clear h hS
  rintro s w t X q ⟨t6, a15, m16, c17, ws18, a19, m20, c21, ws22, a23, m24, c25, ws26, rfl, rfl, hS⟩ h hX hO
  unfold T_w14_RefineNothing_b7 at h
  try dsimp only
  refine cond_s h ?_ ?_ <;> intro hc h
  ·
   obtain ⟨o31, h31, c31⟩ := bnd h
   refine cutM_i (fun s w => ∃ (t10 : Int) (a27 : Option Addr) (m28 : Nat) (c29 : Nat) (ws30 : List Nat), (t10, (List.map nf ws30)) = o31 ∧ s = (t10, ()) ∧ Ho w0 w ((cl r1 [.int .i64 (if 8 < ((q1l : Nat) : Int) then 8 else ((q1l : Nat) : Int)), .int .i64 (if 8 < ((q1l : Nat) : Int) then 8 else ((q1l : Nat) : Int)), .slice a27 m28 c29] N.t_Matrix) :: (sl a15 m16 c17 (List.map (Value.float .f64) ws18) N.t_float64) :: (sl a19 m20 c21 (List.map (Value.float .f64) ws22) N.t_float64) :: (sl a27 m28 c29 (List.map (Value.float .f64) ws30) N.t_float64) :: L)) (fun J31 hJ31 => ?_) ?_
   ·
    have h := h31
    clear h31
    refine iter_sim (fun s w t => ∃ (t12 : Int) (t13 : Int) (a32 : Option Addr) (m33 : Nat) (c34 : Nat) (ws35 : List Nat), (t12, t13, (List.map nf ws35)) = t ∧ s = (t12, t13, ()) ∧ Ho w0 w ((cl r1 [.int .i64 (if 8 < ((q1l : Nat) : Int) then 8 else ((q1l : Nat) : Int)), .int .i64 (if 8 < ((q1l : Nat) : Int) then 8 else ((q1l : Nat) : Int)), .slice a32 m33 c34] N.t_Matrix) :: (sl a15 m16 c17 (List.map (Value.float .f64) ws18) N.t_float64) :: (sl a19 m20 c21 (List.map (Value.float .f64) ws22) N.t_float64) :: (sl a32 m33 c34 (List.map (Value.float .f64) ws35) N.t_float64) :: L)) ?_ h ⟨_, _, _, _, _, _, rfl, rfl, hS⟩
    clear h hS
    rintro s w t X q ⟨t12, t13, a32, m33, c34, ws35, rfl, rfl, hS⟩ h hX hO
    unfold T_w14_RefineNothing_b9 at h
    try dsimp only
    refine cond_s h ?_ ?_ <;> intro hc h
    ·
     obtain ⟨t15, ht15, h⟩ := bnd h
     obtain rfl := lenE ht15 ((hq0.mono tl4).now (fun _ h => h) hS)
     obtain ⟨o36, h36, c36⟩ := bnd h
     refine cutM_i (fun s w => ∃ (t16 : Int), t16 = o36 ∧ s = (t16, ()) ∧ Ho w0 w ((cl r1 [.int .i64 (if 8 < ((q1l : Nat) : Int) then 8 else ((q1l : Nat) : Int)), .int .i64 (if 8 < ((q1l : Nat) : Int) then 8 else ((q1l : Nat) : Int)), .slice a32 m33 c34] N.t_Matrix) :: (sl a15 m16 c17 (List.map (Value.float .f64) ws18) N.t_float64) :: (sl a19 m20 c21 (List.map (Value.float .f64) ws22) N.t_float64) :: (sl a32 m33 c34 (List.map (Value.float .f64) ws35) N.t_float64) :: L)) (fun J36 hJ36 => ?_) ?_
     ·
      have h := h36
      clear h36
      refine cond_s h ?_ ?_ <;> intro hc h
      ·
       obtain ⟨t17, ht17, h⟩ := bnd h
       obtain ⟨q37x, q37l, q37r⟩ := atE ht17
       refine idx_s ((hq0.mono tl4).now (fun _ h => h) hS) q37x q37l q37r ?_; intro b38 hb38
       refine ⟨_, rd_get ((hq0.mono tl4).now (fun _ h => h) hS) hb38 q37x, ?_⟩
       obtain rfl := some_inj h
       exact hJ36 _ _ ⟨_, rfl, rfl, hS⟩
      obtain rfl := some_inj h
      exact hJ36 _ _ ⟨_, rfl, rfl, hS⟩
     clear h36 hS
     rintro s w ⟨t16, rfl, rfl, hS⟩
     have h := c36
     clear c36
     try dsimp only
     refine ⟨_, _, _, (hS.cel mp0 rfl), ?_⟩
     obtain ⟨t18, ht18, h⟩ := bnd h
     obtain rfl : (List.map nf ([(FloatKind.f64.nearest t16)] : List Nat)) = t18 := some_inj ht18
     refine lit_s (ks := [(FloatKind.f64.nearest t16)]) (enc := (Value.float .f64)) (m := 1) hS rfl rfl ?_; intro r39 w hS
     obtain ⟨t19, ht19, h⟩ := bnd h
     obtain ⟨rfl, kt19⟩ := appF ht19
     replace hS := ro4 hS
     refine app_s hS kt19 ((Ent.sl mp1).now (fun _ h => h) hS) (fun _ => rfl) rfl ?_; clear hS kt19; intro a40 c40 w hS
     replace hS := ro2 hS
     refine stc_s hS rfl rfl ?_; intro w hS
     obtain ⟨t20, ht20, h⟩ := bnd h
     obtain ⟨q41x, q41l, q41r⟩ := atE ht20
     refine idx_s ((hq1.mono tl5).now (fun _ h => h) hS) q41x q41l q41r ?_; intro b42 hb42
     refine ⟨_, rd_get ((hq1.mono tl5).now (fun _ h => h) hS) hb42 q41x, ?_⟩
     obtain rfl := some_inj h
     exact hX _ rfl _ _ ⟨_, _, _, _, _, _, rfl, rfl, (hS.pick (A := [_, _, _, _, _]) [0, 2, 2, 0] rfl)⟩
    obtain rfl := some_inj h
    have h := congrArg some (hO _ rfl)
    obtain rfl := some_inj h
    exact hJ31 _ _ ⟨_, _, _, _, _, rfl, rfl, hS⟩
   clear h31 hS
   rintro s w ⟨t10, a27, m28, c29, ws30, rfl, rfl, hS⟩
   have h := c31
   clear c31
   try dsimp only
   obtain ⟨t21, ht21, h⟩ := bnd h
   obtain ⟨q43x, q43l, q43r⟩ := atE ht21
   refine idx_s ((hq1.mono tl4).now (fun _ h => h) hS) q43x q43l q43r ?_; intro b44 hb44
   refine ⟨_, rd_get ((hq1.mono tl4).now (fun _ h => h) hS) hb44 q43x, ?_⟩
   obtain ⟨t22, ht22, h⟩ := bnd h
   obtain rfl : (List.map nf ([(FloatKind.f64.nearest t21)] : List Nat)) = t22 := some_inj ht22
   refine lit_s (ks := [(FloatKind.f64.nearest t21)]) (enc := (Value.float .f64)) (m := 1) hS rfl rfl ?_; intro r45 w hS
   obtain ⟨t23, ht23, h⟩ := bnd h
   obtain ⟨rfl, kt23⟩ := appF ht23
   replace hS := ro2 hS
   refine app_s hS kt23 ((Ent.sl mp1).now (fun _ h => h) hS) (fun _ => rfl) rfl ?_; clear hS kt23; intro a46 c46 w hS
   obtain ⟨t24, ht24, h⟩ := bnd h
   obtain rfl : (List.map nf ([(FloatKind.f64.nearest t10)] : List Nat)) = t24 := some_inj ht24
   refine lit_s (ks := [(FloatKind.f64.nearest t10)]) (enc := (Value.float .f64)) (m := 1) hS rfl rfl ?_; intro r47 w hS
   obtain ⟨t25, ht25, h⟩ := bnd h
   obtain ⟨rfl, kt25⟩ := appF ht25
   replace hS := ro4 hS
   refine app_s hS kt25 ((Ent.sl mp1).now (fun _ h => h) hS) (fun _ => rfl) rfl ?_; clear hS kt25; intro a48 c48 w hS
   obtain rfl := some_inj h
   exact hX _ rfl _ _ ⟨_, _, _, _, _, _, _, _, _, _, _, _, _, rfl, rfl, (hS.pick (A := [_, _, _, _, _, _]) [4, 2, 0, 2] rfl)⟩
  obtain rfl := some_inj h
  have h := congrArg some (hO _ rfl)
  obtain rfl := some_inj h
  exact hJ14 _ _ ⟨_, _, _, _, _, _, _, _, _, _, _, _, rfl, rfl, hS⟩
 clear h14 hS
 rintro s w ⟨a2, m3, c4, ws5, a6, m7, c8, ws9, a10, m11, c12, ws13, rfl, rfl, hS⟩
 have h := c14
 clear c14
 try dsimp only
 refine ⟨by decide, ?_⟩
 obtain ⟨t26, ht26, h⟩ := bnd h
 obtain ⟨rfl, kt26⟩ := mkF ht26
 refine mk_s (enc := (Value.float .f64)) hS kt26 rfl ?_; clear hS kt26; intro r49 w hS
 refine newM_s hS ?_; intro r50 w hS
 refine stc_s hS rfl rfl ?_; intro w hS
 refine stc_s hS rfl rfl ?_; intro w hS
 refine stc_s hS rfl rfl ?_; intro w hS
 obtain ⟨o55, h55, c55⟩ := bnd h
 refine cutM_i (fun s w => ∃ (a51 : Option Addr) (m52 : Nat) (c53 : Nat) (ws54 : List Nat), (List.map nf ws54) = o55 ∧ s = (()) ∧ Ho w0 w ((cl r50 [.int .i64 (if 8 < ((q1l : Nat) : Int) then 8 else ((q1l : Nat) : Int)), .slice (some ⟨r49, 0, none⟩) (((IntKind.i64.wrap ((IntKind.i64.wrap ((if 8 < ((q1l : Nat) : Int) then 8 else ((q1l : Nat) : Int)) * (IntKind.i64.wrap ((if 8 < ((q1l : Nat) : Int) then 8 else ((q1l : Nat) : Int)) - 1)))).tdiv 2))).toNat) (((IntKind.i64.wrap ((IntKind.i64.wrap ((if 8 < ((q1l : Nat) : Int) then 8 else ((q1l : Nat) : Int)) * (IntKind.i64.wrap ((if 8 < ((q1l : Nat) : Int) then 8 else ((q1l : Nat) : Int)) - 1)))).tdiv 2))).toNat), .slice a51 m52 c53] N.t_Factor) :: (sl (some ⟨r49, 0, none⟩) (((IntKind.i64.wrap ((IntKind.i64.wrap ((if 8 < ((q1l : Nat) : Int) then 8 else ((q1l : Nat) : Int)) * (IntKind.i64.wrap ((if 8 < ((q1l : Nat) : Int) then 8 else ((q1l : Nat) : Int)) - 1)))).tdiv 2))).toNat) (((IntKind.i64.wrap ((IntKind.i64.wrap ((if 8 < ((q1l : Nat) : Int) then 8 else ((q1l : Nat) : Int)) * (IntKind.i64.wrap ((if 8 < ((q1l : Nat) : Int) then 8 else ((q1l : Nat) : Int)) - 1)))).tdiv 2))).toNat) (List.map (Value.float .f64) (List.replicate (((IntKind.i64.wrap ((IntKind.i64.wrap ((if 8 < ((q1l : Nat) : Int) then 8 else ((q1l : Nat) : Int)) * (IntKind.i64.wrap ((if 8 < ((q1l : Nat) : Int) then 8 else ((q1l : Nat) : Int)) - 1)))).tdiv 2))).toNat) 0)) N.t_float64) :: (cl r1 [.int .i64 (if 8 < ((q1l : Nat) : Int) then 8 else ((q1l : Nat) : Int)), .int .i64 (if 8 < ((q1l : Nat) : Int) then 8 else ((q1l : Nat) : Int)), .slice a10 m11 c12] N.t_Matrix) :: (sl a2 m3 c4 (List.map (Value.float .f64) ws5) N.t_float64) :: (sl a6 m7 c8 (List.map (Value.float .f64) ws9) N.t_float64) :: (sl a10 m11 c12 (List.map (Value.float .f64) ws13) N.t_float64) :: (sl a51 m52 c53 (List.map (Value.float .f64) ws54) N.t_float64) :: L)) (fun J55 hJ55 => ?_) ?_
 ·
  have h := h55
  clear h55
  replace hS := hS.none (α := Nat) (enc := (Value.float .f64)) (t := N.t_float64)
  refine iter_sim (fun s w t => ∃ (t28 : Int) (a56 : Option Addr) (m57 : Nat) (c58 : Nat) (ws59 : List Nat), (t28, (List.map nf ws59)) = t ∧ s = (t28, ()) ∧ Ho w0 w ((cl r50 [.int .i64 (if 8 < ((q1l : Nat) : Int) then 8 else ((q1l : Nat) : Int)), .slice (some ⟨r49, 0, none⟩) (((IntKind.i64.wrap ((IntKind.i64.wrap ((if 8 < ((q1l : Nat) : Int) then 8 else ((q1l : Nat) : Int)) * (IntKind.i64.wrap ((if 8 < ((q1l : Nat) : Int) then 8 else ((q1l : Nat) : Int)) - 1)))).tdiv 2))).toNat) (((IntKind.i64.wrap ((IntKind.i64.wrap ((if 8 < ((q1l : Nat) : Int) then 8 else ((q1l : Nat) : Int)) * (IntKind.i64.wrap ((if 8 < ((q1l : Nat) : Int) then 8 else ((q1l : Nat) : Int)) - 1)))).tdiv 2))).toNat), .slice a56 m57 c58] N.t_Factor) :: (sl (some ⟨r49, 0, none⟩) (((IntKind.i64.wrap ((IntKind.i64.wrap ((if 8 < ((q1l : Nat) : Int) then 8 else ((q1l : Nat) : Int)) * (IntKind.i64.wrap ((if 8 < ((q1l : Nat) : Int) then 8 else ((q1l : Nat) : Int)) - 1)))).tdiv 2))).toNat) (((IntKind.i64.wrap ((IntKind.i64.wrap ((if 8 < ((q1l : Nat) : Int) then 8 else ((q1l : Nat) : Int)) * (IntKind.i64.wrap ((if 8 < ((q1l : Nat) : Int) then 8 else ((q1l : Nat) : Int)) - 1)))).tdiv 2))).toNat) (List.map (Value.float .f64) (List.replicate (((IntKind.i64.wrap ((IntKind.i64.wrap ((if 8 < ((q1l : Nat) : Int) then 8 else ((q1l : Nat) : Int)) * (IntKind.i64.wrap ((if 8 < ((q1l : Nat) : Int) then 8 else ((q1l : Nat) : Int)) - 1)))).tdiv 2))).toNat) 0)) N.t_float64) :: (cl r1 [.int .i64 (if 8 < ((q1l : Nat) : Int) then 8 else ((q1l : Nat) : Int)), .int .i64 (if 8 < ((q1l : Nat) : Int) then 8 else ((q1l : Nat) : Int)), .slice a10 m11 c12] N.t_Matrix) :: (sl a2 m3 c4 (List.map (Value.float .f64) ws5) N.t_float64) :: (sl a6 m7 c8 (List.map (Value.float .f64) ws9) N.t_float64) :: (sl a10 m11 c12 (List.map (Value.float .f64) ws13) N.t_float64) :: (sl a56 m57 c58 (List.map (Value.float .f64) ws59) N.t_float64) :: L)) ?_ h ⟨_, _, _, _, _, rfl, rfl, (hS.pick (A := [_, _, _, _, _, _, _]) [1, 1, 1, 1, 1, 1, 0] rfl)⟩
  clear h hS
  rintro s w t X q ⟨t28, a56, m57, c58, ws59, rfl, rfl, hS⟩ h hX hO
  unfold T_w14_RefineNothing_b11 at h
  try dsimp only
  refine cond_s h ?_ ?_ <;> intro hc h
  ·
   refine ⟨_, _, _, (hS.cel mp0 rfl), ?_⟩
   obtain ⟨t30, ht30, h⟩ := bnd h
   obtain rfl : (List.map nf ([(FloatKind.f64.nearest (IntKind.i64.wrap (t28 + 1)))] : List Nat)) = t30 := some_inj ht30
   refine lit_s (ks := [(FloatKind.f64.nearest (IntKind.i64.wrap (t28 + 1)))]) (enc := (Value.float .f64)) (m := 1) hS rfl rfl ?_; intro r60 w hS
   obtain ⟨t31, ht31, h⟩ := bnd h
   obtain ⟨rfl, kt31⟩ := appF ht31
   replace hS := ro7 hS
   refine app_s hS kt31 ((Ent.sl mp1).now (fun _ h => h) hS) (fun _ => rfl) rfl ?_; clear hS kt31; intro a61 c61 w hS
   replace hS := ro2 hS
   refine stc_s hS rfl rfl ?_; intro w hS
   obtain rfl := some_inj h
   exact hX _ rfl _ _ ⟨_, _, _, _, _, rfl, rfl, (hS.pick (A := [_, _, _, _, _, _, _, _]) [0, 2, 2, 2, 2, 2, 0] rfl)⟩
  obtain rfl := some_inj h
  have h := congrArg some (hO _ rfl)
  obtain rfl := some_inj h
  exact hJ55 _ _ ⟨_, _, _, _, rfl, rfl, hS⟩
 clear h55 hS
 rintro s w ⟨a51, m52, c53, ws54, rfl, rfl, hS⟩
 have h := c55
 clear c55
 try dsimp only
 refine ⟨_, (hS.cel mp2 rfl), ?_⟩
 refine ⟨_, (hS.cel mp2 rfl), ?_⟩
 refine ⟨_, _, _, (hS.cel mp2 rfl), ?_⟩
 obtain ⟨⟨t32, t33⟩, ho32, h⟩ := bnd h
 refine wk_refine_Left H hS (Ent.sl mp5) (Ent.sl mp3) (Ent.sl mp4) (hG.mono tl7) ho32 ?_; clear hS ho32; rintro a62 m62 c62 ws62 w rfl hS
 refine ⟨_, _, _, _, rfl, ?_⟩
 refine ⟨_, (hS.cel mp3 rfl), ?_⟩
 refine ⟨_, (hS.cel mp3 rfl), ?_⟩
 refine ⟨_, _, _, (hS.cel mp3 rfl), ?_⟩
 refine ⟨_, (hS.cel mp1 rfl), ?_⟩
 refine ⟨_, _, _, (hS.cel mp1 rfl), ?_⟩
 refine ⟨_, _, _, (hS.cel mp1 rfl), ?_⟩
 obtain ⟨⟨t34, t35⟩, ho34, h⟩ := bnd h
 refine wk_refine_Step H hS (Ent.sl mp6) (Ent.sl mp2) (Ent.sl mp7) (Ent.sl mp4) (Ent.sl mp5) (hG.mono tl8) ho34 ?_; clear hS ho34; rintro a63 m63 c63 ws63 w rfl hS
 refine ⟨_, _, _, _, rfl, ?_⟩
 obtain ⟨o64, h64, c64⟩ := bnd h
 refine cutM_i (fun s w => ∃ (t36 : Bool), t36 = o64 ∧ s = (t36, ()) ∧ Ho w0 w ((cl r1 [.int .i64 (if 8 < ((q1l : Nat) : Int) then 8 else ((q1l : Nat) : Int)), .int .i64 (if 8 < ((q1l : Nat) : Int) then 8 else ((q1l : Nat) : Int)), .slice a10 m11 c12] N.t_Matrix) :: (sl a2 m3 c4 (List.map (Value.float .f64) ws5) N.t_float64) :: (sl a6 m7 c8 (List.map (Value.float .f64) ws9) N.t_float64) :: (sl a10 m11 c12 (List.map (Value.float .f64) ws13) N.t_float64) :: L)) (fun J64 hJ64 => ?_) ?_
 ·
  have h := h64
  clear h64
  refine cond_s h ?_ ?_ <;> intro hc h
  ·
   refine cond_s h ?_ ?_ <;> intro hc h
   ·
    obtain ⟨t37, ht37, h⟩ := bnd h
    obtain ⟨rfl, kt37⟩ := mkF ht37
    refine mk_s (enc := (Value.float .f64)) hS kt37 rfl ?_; clear hS kt37; intro r65 w hS
    obtain ⟨t38, ht38, h⟩ := bnd h
    refine wk_k_SameReals H hS (Ent.sl mp2) (Ent.sl mp0) ht38 ?_; rintro w hS
    refine ⟨_, rfl, ?_⟩
    refine cond_s h ?_ ?_ <;> intro hc h
    ·
     obtain ⟨t39, ht39, h⟩ := bnd h
     refine wk_k_LikeReals H hS (Ent.sl mp1) (Ent.sl mp6) ht39 ?_; rintro w hS
     refine ⟨_, rfl, ?_⟩
     obtain rfl := some_inj h
     exact hJ64 _ _ ⟨_, rfl, rfl, (hS.pick (A := [_, _, _, _, _, _, _, _, _, _]) [5, 5, 5, 5] rfl)⟩
    obtain rfl := some_inj h
    exact hJ64 _ _ ⟨_, rfl, rfl, (hS.pick (A := [_, _, _, _, _, _, _, _, _, _]) [5, 5, 5, 5] rfl)⟩
   obtain rfl := some_inj h
   exact hJ64 _ _ ⟨_, rfl, rfl, (hS.pick (A := [_, _, _, _, _, _, _, _, _]) [4, 4, 4, 4] rfl)⟩
  obtain rfl := some_inj h
  exact hJ64 _ _ ⟨_, rfl, rfl, (hS.pick (A := [_, _, _, _, _, _, _, _, _]) [4, 4, 4, 4] rfl)⟩
 clear h64 hS
 rintro s w ⟨t36, rfl, rfl, hS⟩
 have h := c64
 clear c64
 try dsimp only
 refine cond_s h ?_ ?_ <;> intro hc h
 ·
  cases some_inj h
  exact hK _ (hS.pick (A := [_, _, _, _]) [] rfl)
 obtain ⟨t40, ht40, h⟩ := bnd h
 refine wk_k_Pick H hS  ht40 ?_; rintro w hS
 refine ⟨_, rfl, ?_⟩
 obtain ⟨t41, ht41, h⟩ := bnd h
 obtain ⟨z66, rfl, q67x, q67l, q67r⟩ := atF ht41
 refine idx_s ((Ent.sl mp2).now (fun _ h => h) hS) q67x q67l q67r ?_; intro b68 hb68
 refine ⟨_, rd_get ((Ent.sl mp2).now (fun _ h => h) hS) hb68 q67x, ?_⟩
 obtain ⟨t42, ht42, h⟩ := bnd h
 refine fadd_s ht42 hS ?_; rintro z69 w rfl hS
 obtain ⟨t43, ht43, h⟩ := bnd h
 obtain ⟨z70, rfl, q71x, q71l, q71r⟩ := atF ht43
 refine idx_s ((Ent.sl mp2).now (fun _ h => h) hS) q71x q71l q71r ?_; intro b72 hb72
 replace hS := ro2 hS
 obtain ⟨t44, ht44, h⟩ := bnd h
 obtain rfl := setF ht44
 refine sto_s hS hb72 q71r ?_; intro w hS
 obtain ⟨t45, ht45, h⟩ := bnd h
 obtain ⟨rfl, kt45⟩ := mkF ht45
 refine mk_s (enc := (Value.float .f64)) hS kt45 rfl ?_; clear hS kt45; intro r73 w hS
 obtain ⟨t46, ht46, h⟩ := bnd h
 obtain ⟨z74, rfl, q75x, q75l, q75r⟩ := atF ht46
 refine idy_s ((Ent.sl mp0).now (fun _ h => h) hS) q75x q75l q75r ?_
 obtain ⟨t47, ht47, h⟩ := bnd h
 obtain rfl := setF ht47
 refine sto_s hS rfl q75r ?_; intro w hS
 refine ⟨_, (hS.cel mp2 rfl), ?_⟩
 refine ⟨_, (hS.cel mp2 rfl), ?_⟩
 refine ⟨_, _, _, (hS.cel mp2 rfl), ?_⟩
 obtain ⟨⟨t48, t49⟩, ho48, h⟩ := bnd h
 refine wk_refine_Left H hS (Ent.sl mp4) (Ent.sl mp3) (Ent.sl mp1) (hG.mono tl5) ho48 ?_; clear hS ho48; rintro a77 m77 c77 ws77 w rfl hS
 refine ⟨_, _, _, _, rfl, ?_⟩
 refine cond_s h ?_ ?_ <;> intro hc h
 ·
  obtain ⟨t50, ht50, h⟩ := bnd h
  refine wk_k_SameReals H hS (Ent.sl mp0) (Ent.sl mp1) ht50 ?_; rintro w hS
  refine ⟨_, rfl, ?_⟩
  cases some_inj h
  exact hK _ (hS.pick (A := [_, _, _, _, _, _]) [] rfl)
 cases some_inj h
 exact hK _ (hS.pick (A := [_, _, _, _, _, _]) [] rfl)
end Go.Eng
