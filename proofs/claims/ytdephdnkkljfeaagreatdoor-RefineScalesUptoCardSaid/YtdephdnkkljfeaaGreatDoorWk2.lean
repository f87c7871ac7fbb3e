/-
 Each function comes to what its function of plain Lean says, printed by a program of the session. No condition.
-/
import Derived.Test.YtdephdnkkljfeaaGreatDoorWk1
set_option linter.all false
set_option maxRecDepth 100000
set_option maxHeartbeats 4000000
namespace Go.Eng
open Go
variable {N : Nums} {P : Program} (H : AllOk N P) {w0 w : World} {L : List It} {K : Value → World → Prop}
include H
theorem wk_vector_fit {q0 q0l q0c ws0 q1 q1l q1c ws1 u0} (hS : Ho w0 w L) (hq0 : EF L ws0 q0 q0l q0c) (hq1 : EF L ws1 q1 q1l q1c) (h : T_vector_fit (List.map nf ws0) (List.map nf ws1) = some u0) (hK : ∀ w1, Ho w0 w1 L → K (.int .i64 u0) w1) : CallsX P N.f_vector_fit #[.slice q0 q0l q0c, .slice q1 q1l q1c] w K := by
 refine H.vector_fit q0 q0l q0c q1 q1l q1c w _ ?_
 unfold S_vector_fit
 unfold T_vector_fit at h
 try dsimp only
 obtain ⟨t1, ht1, h⟩ := bnd h
 obtain rfl := lenF ht1 (hq0.now (fun _ h => h) hS)
 obtain ⟨t2, ht2, h⟩ := bnd h
 obtain rfl := lenF ht2 (hq1.now (fun _ h => h) hS)
 refine cond_s h ?_ ?_ <;> intro hc h
 ·
  cases some_inj h
  exact hK _ hS
 obtain ⟨t3, ht3, h⟩ := bnd h
 obtain rfl := lenF ht3 (hq0.now (fun _ h => h) hS)
 refine cond_s h ?_ ?_ <;> intro hc h
 ·
  cases some_inj h
  exact hK _ hS
 cases some_inj h
 exact hK _ hS
theorem wk_vector_each {q0 q0l q0c ws0 q1 q1l q1c ws1} {q2 : Value} {f2 : Nat → Nat → Option Nat} {u0 u1} (hS : Ho w0 w L) (hq0 : EF L ws0 q0 q0l q0c) (hq1 : EF L ws1 q1 q1l q1c) (hf2 : ∀ (v0 : Nat) (v1 : Nat) (w : World) (L1 : List It) (r1 : Nat) (K : Value → World → Prop), (∀ e, e ∈ L → e ∈ L1) → f2 (nf v0) (nf v1) = some r1 → Ho w0 w L1 → (∀ (z : Nat) (w1 : World), nf z = r1 → Ho w0 w1 L1 → K (.float .f64 z) w1) → fnM q2 fun g gp gq => CallsX P g (gp.toList ++ (([.float .f64 v0, .float .f64 v1] : List Value) ++ gq.toList)).toArray w K) (h : T_vector_each (List.map nf ws0) (List.map nf ws1) f2 = some (u0, u1)) (hK : ∀ (a0 : Option Addr) (n0 c0 : Nat) (rws0 : List Nat) (w1 : World), List.map nf rws0 = u0 → Ho w0 w1 ((sl a0 n0 c0 (List.map (Value.float .f64) rws0) N.t_float64) :: L) → K (.tuple #[.slice a0 n0 c0, .int .i64 u1]) w1) : CallsX P N.f_vector_each #[.slice q0 q0l q0c, .slice q1 q1l q1c, q2] w K := by
 refine H.vector_each q0 q0l q0c q1 q1l q1c q2 w _ ?_
 unfold S_vector_each
 unfold T_vector_each at h
 try dsimp only
 obtain ⟨t1, ht1, h⟩ := bnd h
 refine wk_vector_fit H hS hq0 hq1 ht1 ?_; rintro w hS
 refine ⟨_, rfl, ?_⟩
 refine cond_s h ?_ ?_ <;> intro hc h
 ·
  replace hS := hS.none (α := Nat) (enc := (Value.float .f64)) (t := N.t_float64)
  cases some_inj h
  exact hK _ _ _ _ _ rfl hS
 obtain ⟨t2, ht2, h⟩ := bnd h
 obtain rfl := lenF ht2 (hq0.now (fun _ h => h) hS)
 obtain ⟨t3, ht3, h⟩ := bnd h
 obtain ⟨rfl, kt3⟩ := mkF ht3
 refine mk_s (enc := (Value.float .f64)) hS kt3 rfl ?_; clear hS kt3; intro r1 w hS
 obtain ⟨t4, ht4, h⟩ := bnd h
 obtain rfl := lenF ht4 ((hq0.mono tl1).now (fun _ h => h) hS)
 obtain ⟨o3, h3, c3⟩ := bnd h
 refine cutM_i (fun s w => ∃ (ws2 : List Nat), (List.map nf ws2) = o3 ∧ s = (()) ∧ Ho w0 w ((sl (some ⟨r1, 0, none⟩) ((((q0l : Nat) : Int)).toNat) ((((q0l : Nat) : Int)).toNat) (List.map (Value.float .f64) ws2) N.t_float64) :: L)) (fun J3 hJ3 => ?_) ?_
 ·
  have h := h3
  clear h3
  refine iter_sim (fun s w t => ∃ (t6 : Int) (ws4 : List Nat), (t6, (List.map nf ws4)) = t ∧ s = (t6, ()) ∧ Ho w0 w ((sl (some ⟨r1, 0, none⟩) ((((q0l : Nat) : Int)).toNat) ((((q0l : Nat) : Int)).toNat) (List.map (Value.float .f64) ws4) N.t_float64) :: L)) ?_ h ⟨_, _, rfl, rfl, hS⟩
  clear h hS
  rintro s w t X q ⟨t6, ws4, rfl, rfl, hS⟩ h hX hO
  unfold T_vector_each_b2 at h
  try dsimp only
  refine cond_s h ?_ ?_ <;> intro hc h
  ·
   obtain ⟨t8, ht8, h⟩ := bnd h
   obtain ⟨z5, rfl, q6x, q6l, q6r⟩ := atF ht8
   refine idx_s ((hq0.mono tl1).now (fun _ h => h) hS) q6x q6l q6r ?_; intro b7 hb7
   refine ⟨_, rd_get ((hq0.mono tl1).now (fun _ h => h) hS) hb7 q6x, ?_⟩
   obtain ⟨t9, ht9, h⟩ := bnd h
   obtain ⟨z8, rfl, q9x, q9l, q9r⟩ := atF ht9
   refine idx_s ((hq1.mono tl1).now (fun _ h => h) hS) q9x q9l q9r ?_; intro b10 hb10
   refine ⟨_, rd_get ((hq1.mono tl1).now (fun _ h => h) hS) hb10 q9x, ?_⟩
   refine drM_s hS ?_; intro w hS
   obtain ⟨t10, ht10, h⟩ := bnd h
   refine hf2 _ _ _ _ _ _ tl1 ht10 hS ?_; rintro z11 w rfl hS
   refine ⟨_, rfl, ?_⟩
   obtain ⟨t11, ht11, h⟩ := bnd h
   obtain ⟨z12, rfl, q13x, q13l, q13r⟩ := atF ht11
   refine idy_s ((Ent.sl mp0).now (fun _ h => h) hS) q13x q13l q13r ?_
   refine drM_s hS ?_; intro w hS
   obtain ⟨t12, ht12, h⟩ := bnd h
   obtain rfl := setF ht12
   refine sto_s hS rfl q13r ?_; intro w hS
   refine drM_s hS ?_; intro w hS
   obtain rfl := some_inj h
   exact hX _ rfl _ _ ⟨_, _, rfl, rfl, hS⟩
  obtain rfl := some_inj h
  have h := congrArg some (hO _ rfl)
  obtain rfl := some_inj h
  exact hJ3 _ _ ⟨_, rfl, rfl, hS⟩
 clear h3 hS
 rintro s w ⟨ws2, rfl, rfl, hS⟩
 have h := c3
 clear c3
 try dsimp only
 cases some_inj h
 exact hK _ _ _ _ _ rfl hS
theorem wk_vector_Add_1 {q0 q1 u0} (hS : Ho w0 w L)  (h : T_vector_Add_1 (nf q0) (nf q1) = some u0) (hK : ∀ (z0 : Nat) (w1 : World), nf z0 = u0 → Ho w0 w1 L → K (.float .f64 z0) w1) : CallsX P N.f_vector_Add_1 #[.float .f64 q0, .float .f64 q1] w K := by
 refine H.vector_Add_1 q0 q1 w _ ?_
 unfold S_vector_Add_1
 unfold T_vector_Add_1 at h
 try dsimp only
 obtain ⟨t1, ht1, h⟩ := bnd h
 refine fadd_s ht1 hS ?_; rintro z1 w rfl hS
 cases some_inj h
 exact hK _ _ rfl hS
theorem wk_vector_Add {q0 q0l q0c ws0 q1 q1l q1c ws1 u0 u1} (hS : Ho w0 w L) (hq0 : EF L ws0 q0 q0l q0c) (hq1 : EF L ws1 q1 q1l q1c) (hx : T_vector_Add (List.map nf ws0) (List.map nf ws1) = some (u0, u1)) (hK : ∀ (a0 : Option Addr) (n0 c0 : Nat) (rws0 : List Nat) (w1 : World), List.map nf rws0 = u0 → Ho w0 w1 ((sl a0 n0 c0 (List.map (Value.float .f64) rws0) N.t_float64) :: L) → K (.tuple #[.slice a0 n0 c0, .int .i64 u1]) w1) : CallsX P N.f_vector_Add #[.slice q0 q0l q0c, .slice q1 q1l q1c] w K := by
 refine H.vector_Add q0 q0l q0c q1 q1l q1c w _ ?_
 unfold S_vector_Add
 unfold T_vector_Add at hx
 have h := hx
 clear hx
 try dsimp only
 obtain ⟨⟨t1, t2⟩, ho1, h⟩ := bnd h
 refine wk_vector_each H hS hq0 hq1 (by intro v0 v1 w L1 r1 K hL hx hS hK; exact wk_vector_Add_1 H hS  hx hK) ho1 ?_; clear hS ho1; rintro a1 m1 c1 ws1 w rfl hS
 refine ⟨_, _, _, _, rfl, ?_⟩
 cases some_inj h
 exact hK _ _ _ _ _ rfl hS
theorem wk_refine_Step {q0_0 q0_1 q0_2 q0_2l q0_2c ws0_2 q1_0 q1_1 q1_1l q1_1c ws1_1 q1_2 q1_2l q1_2c ws1_2 q2 q2l q2c ws2 q3 q3l q3c ws3 u0 u1} (hS : Ho w0 w L) (hq0_2 : EF L ws0_2 q0_2 q0_2l q0_2c) (hq1_1 : EF L ws1_1 q1_1 q1_1l q1_1c) (hq1_2 : EF L ws1_2 q1_2 q1_2l q1_2c) (hq2 : EF L ws2 q2 q2l q2c) (hq3 : EF L ws3 q3 q3l q3c) (hG : Ent L (tab64 N.g_1)) (h : T_refine_Step q0_0 q0_1 (List.map nf ws0_2) q1_0 (List.map nf ws1_1) (List.map nf ws1_2) (List.map nf ws2) (List.map nf ws3) = some (u0, u1)) (hK : ∀ (a0 : Option Addr) (n0 c0 : Nat) (rws0 : List Nat) (w1 : World), List.map nf rws0 = u0 → Ho w0 w1 ((sl a0 n0 c0 (List.map (Value.float .f64) rws0) N.t_float64) :: L) → K (.tuple #[.slice a0 n0 c0, .int .i64 u1]) w1) : CallsX P N.f_refine_Step #[.agg #[.int .i64 q0_0, .int .i64 q0_1, .slice q0_2 q0_2l q0_2c], .agg #[.int .i64 q1_0, .slice q1_1 q1_1l q1_1c, .slice q1_2 q1_2l q1_2c], .slice q2 q2l q2c, .slice q3 q3l q3c] w K := by
 refine H.refine_Step q0_0 q0_1 q0_2 q0_2l q0_2c q1_0 q1_1 q1_1l q1_1c q1_2 q1_2l q1_2c q2 q2l q2c q3 q3l q3c w _ ?_
 unfold S_refine_Step
 unfold T_refine_Step at h
 try dsimp only
 refine newM_s hS ?_; intro r1 w hS
 refine newM_s hS ?_; intro r2 w hS
 obtain ⟨o3, h3, c3⟩ := bnd h
 refine cutM_i (fun s w => ∃ (t1 : Bool), t1 = o3 ∧ s = (t1, ()) ∧ Ho w0 w ((cl r2 [.int .i64 q1_0, .slice q1_1 q1_1l q1_1c, .slice q1_2 q1_2l q1_2c] N.t_Factor) :: (cl r1 [.int .i64 q0_0, .int .i64 q0_1, .slice q0_2 q0_2l q0_2c] N.t_Matrix) :: L)) (fun J3 hJ3 => ?_) ?_
 ·
  have h := h3
  clear h3
  refine ⟨_, (hS.cel mp1 rfl), ?_⟩
  refine ⟨_, (hS.cel mp1 rfl), ?_⟩
  refine ⟨_, _, _, (hS.cel mp1 rfl), ?_⟩
  obtain ⟨t2, ht2, h⟩ := bnd h
  refine wk_refine_fit H hS (hq0_2.mono tl2) (hq2.mono tl2) (hq3.mono tl2) ht2 ?_; rintro w hS
  refine ⟨_, rfl, ?_⟩
  refine cond_s h ?_ ?_ <;> intro hc h
  ·
   refine ⟨_, (hS.cel mp1 rfl), ?_⟩
   refine ⟨_, (hS.cel mp1 rfl), ?_⟩
   refine ⟨_, _, _, (hS.cel mp1 rfl), ?_⟩
   refine ⟨_, (hS.cel mp0 rfl), ?_⟩
   refine ⟨_, _, _, (hS.cel mp0 rfl), ?_⟩
   refine ⟨_, _, _, (hS.cel mp0 rfl), ?_⟩
   obtain ⟨t3, ht3, h⟩ := bnd h
   refine wk_refine_fits H hS (hq0_2.mono tl2) (hq1_1.mono tl2) (hq1_2.mono tl2) ht3 ?_; rintro w hS
   refine ⟨_, rfl, ?_⟩
   obtain rfl := some_inj h
   exact hJ3 _ _ ⟨_, rfl, rfl, hS⟩
  obtain rfl := some_inj h
  exact hJ3 _ _ ⟨_, rfl, rfl, hS⟩
 clear h3 hS
 rintro s w ⟨t1, rfl, rfl, hS⟩
 have h := c3
 clear c3
 try dsimp only
 refine cond_s h ?_ ?_ <;> intro hc h
 ·
  replace hS := hS.none (α := Nat) (enc := (Value.float .f64)) (t := N.t_float64)
  cases some_inj h
  exact hK _ _ _ _ _ rfl (hS.pick (A := [_, _, _]) [0] rfl)
 refine ⟨_, (hS.cel mp1 rfl), ?_⟩
 refine ⟨_, (hS.cel mp1 rfl), ?_⟩
 refine ⟨_, _, _, (hS.cel mp1 rfl), ?_⟩
 obtain ⟨⟨t4, t5⟩, ho4, h⟩ := bnd h
 refine wk_refine_Left H hS (hq0_2.mono tl2) (hq2.mono tl2) (hq3.mono tl2) (hG.mono tl2) ho4 ?_; clear hS ho4; rintro a4 m4 c4 ws4 w rfl hS
 refine ⟨_, _, _, _, rfl, ?_⟩
 refine cond_s h ?_ ?_ <;> intro hc h
 ·
  replace hS := hS.none (α := Nat) (enc := (Value.float .f64)) (t := N.t_float64)
  cases some_inj h
  exact hK _ _ _ _ _ rfl (hS.pick (A := [_, _, _, _]) [0] rfl)
 refine ⟨_, (hS.cel mp1 rfl), ?_⟩
 refine ⟨_, _, _, (hS.cel mp1 rfl), ?_⟩
 refine ⟨_, _, _, (hS.cel mp1 rfl), ?_⟩
 obtain ⟨⟨t6, t7⟩, ho6, h⟩ := bnd h
 refine wk_solve_Solve H hS (hq1_1.mono tl3) (hq1_2.mono tl3) (Ent.sl mp0) ho6 ?_; clear hS ho6; rintro a5 m5 c5 ws5 w rfl hS
 refine ⟨_, _, _, _, rfl, ?_⟩
 refine cond_s h ?_ ?_ <;> intro hc h
 ·
  replace hS := hS.none (α := Nat) (enc := (Value.float .f64)) (t := N.t_float64)
  cases some_inj h
  exact hK _ _ _ _ _ rfl (hS.pick (A := [_, _, _, _, _]) [0] rfl)
 obtain ⟨⟨t8, t9⟩, ho8, h⟩ := bnd h
 refine wk_vector_Add H hS (hq2.mono tl4) (Ent.sl mp0) ho8 ?_; clear hS ho8; rintro a6 m6 c6 ws6 w rfl hS
 refine ⟨_, _, _, _, rfl, ?_⟩
 obtain ⟨t10, ht10, h⟩ := bnd h
 obtain rfl : (List.map (List.map nf) ([ws6] : List (List Nat))) = t10 := some_inj ht10
 refine lit_s (ks := ([(a6, m6, c6)] : List Hd)) (enc := hdV) (m := 1) hS rfl rfl ?_; intro r7 w hS
 obtain ⟨t11, ht11, h⟩ := bnd h
 refine wk_refine_finite H hS (Ent.sl mp0) (.cons (Ent.sl mp1) .nil) ht11 ?_; rintro w hS
 refine ⟨_, rfl, ?_⟩
 refine cond_s h ?_ ?_ <;> intro hc h
 ·
  replace hS := hS.none (α := Nat) (enc := (Value.float .f64)) (t := N.t_float64)
  cases some_inj h
  exact hK _ _ _ _ _ rfl (hS.pick (A := [_, _, _, _, _, _, _]) [0] rfl)
 cases some_inj h
 exact hK _ _ _ _ _ rfl (hS.pick (A := [_, _, _, _, _, _]) [1] rfl)
theorem wk_refine_Until {q0_0 q0_1 q0_2 q0_2l q0_2c ws0_2 q1_0 q1_1 q1_1l q1_1c ws1_1 q1_2 q1_2l q1_2c ws1_2 q2 q2l q2c ws2 q3 u0 u1 u2} (hS : Ho w0 w L) (hq0_2 : EF L ws0_2 q0_2 q0_2l q0_2c) (hq1_1 : EF L ws1_1 q1_1 q1_1l q1_1c) (hq1_2 : EF L ws1_2 q1_2 q1_2l q1_2c) (hq2 : EF L ws2 q2 q2l q2c) (hG : Ent L (tab64 N.g_1)) (h : T_refine_Until q0_0 q0_1 (List.map nf ws0_2) q1_0 (List.map nf ws1_1) (List.map nf ws1_2) (List.map nf ws2) q3 = some (u0, u1, u2)) (hK : ∀ (a0 : Option Addr) (n0 c0 : Nat) (rws0 : List Nat) (w1 : World), List.map nf rws0 = u0 → Ho w0 w1 ((sl a0 n0 c0 (List.map (Value.float .f64) rws0) N.t_float64) :: L) → K (.tuple #[.slice a0 n0 c0, .int .i64 u1, .int .i64 u2]) w1) : CallsX P N.f_refine_Until #[.agg #[.int .i64 q0_0, .int .i64 q0_1, .slice q0_2 q0_2l q0_2c], .agg #[.int .i64 q1_0, .slice q1_1 q1_1l q1_1c, .slice q1_2 q1_2l q1_2c], .slice q2 q2l q2c, .int .i64 q3] w K := by
 refine H.refine_Until q0_0 q0_1 q0_2 q0_2l q0_2c q1_0 q1_1 q1_1l q1_1c q1_2 q1_2l q1_2c q2 q2l q2c q3 w _ ?_
 unfold S_refine_Until
 unfold T_refine_Until at h
 try dsimp only
 refine newM_s hS ?_; intro r1 w hS
 refine newM_s hS ?_; intro r2 w hS
 obtain ⟨o3, h3, c3⟩ := bnd h
 refine cutM_i (fun s w => ∃ (t1 : Bool), t1 = o3 ∧ s = (t1, ()) ∧ Ho w0 w ((cl r2 [.int .i64 q1_0, .slice q1_1 q1_1l q1_1c, .slice q1_2 q1_2l q1_2c] N.t_Factor) :: (cl r1 [.int .i64 q0_0, .int .i64 q0_1, .slice q0_2 q0_2l q0_2c] N.t_Matrix) :: L)) (fun J3 hJ3 => ?_) ?_
 ·
  have h := h3
  clear h3
  refine cond_s h ?_ ?_ <;> intro hc h
  ·
   obtain rfl := some_inj h
   exact hJ3 _ _ ⟨_, rfl, rfl, hS⟩
  obtain rfl := some_inj h
  exact hJ3 _ _ ⟨_, rfl, rfl, hS⟩
 clear h3 hS
 rintro s w ⟨t1, rfl, rfl, hS⟩
 have h := c3
 clear c3
 try dsimp only
 refine cond_s h ?_ ?_ <;> intro hc h
 ·
  replace hS := hS.none (α := Nat) (enc := (Value.float .f64)) (t := N.t_float64)
  cases some_inj h
  exact hK _ _ _ _ _ rfl (hS.pick (A := [_, _, _]) [0] rfl)
 obtain ⟨o4, h4, c4⟩ := bnd h
 refine cutM_i (fun s w => ∃ (t2 : Bool), t2 = o4 ∧ s = (t2, ()) ∧ Ho w0 w ((cl r2 [.int .i64 q1_0, .slice q1_1 q1_1l q1_1c, .slice q1_2 q1_2l q1_2c] N.t_Factor) :: (cl r1 [.int .i64 q0_0, .int .i64 q0_1, .slice q0_2 q0_2l q0_2c] N.t_Matrix) :: L)) (fun J4 hJ4 => ?_) ?_
 ·
  have h := h4
  clear h4
  refine ⟨_, (hS.cel mp1 rfl), ?_⟩
  refine ⟨_, (hS.cel mp1 rfl), ?_⟩
  refine ⟨_, _, _, (hS.cel mp1 rfl), ?_⟩
  refine ⟨_, (hS.cel mp0 rfl), ?_⟩
  refine ⟨_, _, _, (hS.cel mp0 rfl), ?_⟩
  refine ⟨_, _, _, (hS.cel mp0 rfl), ?_⟩
  obtain ⟨t3, ht3, h⟩ := bnd h
  refine wk_refine_fits H hS (hq0_2.mono tl2) (hq1_1.mono tl2) (hq1_2.mono tl2) ht3 ?_; rintro w hS
  refine ⟨_, rfl, ?_⟩
  refine cond_s h ?_ ?_ <;> intro hc h
  ·
   obtain ⟨t4, ht4, h⟩ := bnd h
   obtain rfl := lenF ht4 ((hq2.mono tl2).now (fun _ h => h) hS)
   refine ⟨_, (hS.cel mp1 rfl), ?_⟩
   obtain rfl := some_inj h
   exact hJ4 _ _ ⟨_, rfl, rfl, hS⟩
  obtain rfl := some_inj h
  exact hJ4 _ _ ⟨_, rfl, rfl, hS⟩
 clear h4 hS
 rintro s w ⟨t2, rfl, rfl, hS⟩
 have h := c4
 clear c4
 try dsimp only
 refine cond_s h ?_ ?_ <;> intro hc h
 ·
  replace hS := hS.none (α := Nat) (enc := (Value.float .f64)) (t := N.t_float64)
  cases some_inj h
  exact hK _ _ _ _ _ rfl (hS.pick (A := [_, _, _]) [0] rfl)
 refine ⟨_, _, _, (hS.cel mp1 rfl), ?_⟩
 obtain ⟨t5, ht5, h⟩ := bnd h
 obtain rfl : (List.map (List.map nf) ([ws0_2, ws2] : List (List Nat))) = t5 := some_inj ht5
 refine lit_s (ks := ([(q0_2, q0_2l, q0_2c), (q2, q2l, q2c)] : List Hd)) (enc := hdV) (m := 2) hS rfl rfl ?_; intro r5 w hS
 obtain ⟨t6, ht6, h⟩ := bnd h
 refine wk_refine_finite H hS (Ent.sl mp0) (.cons (hq0_2.mono tl3) (.cons (hq2.mono tl3) .nil)) ht6 ?_; rintro w hS
 refine ⟨_, rfl, ?_⟩
 refine cond_s h ?_ ?_ <;> intro hc h
 ·
  replace hS := hS.none (α := Nat) (enc := (Value.float .f64)) (t := N.t_float64)
  cases some_inj h
  exact hK _ _ _ _ _ rfl (hS.pick (A := [_, _, _, _]) [0] rfl)
 refine ⟨_, (hS.cel mp1 rfl), ?_⟩
 refine ⟨_, _, _, (hS.cel mp1 rfl), ?_⟩
 refine ⟨_, _, _, (hS.cel mp1 rfl), ?_⟩
 obtain ⟨⟨t7, t8⟩, ho7, h⟩ := bnd h
 refine wk_solve_Solve H hS (hq1_1.mono tl3) (hq1_2.mono tl3) (hq2.mono tl3) ho7 ?_; clear hS ho7; rintro a6 m6 c6 ws6 w rfl hS
 refine ⟨_, _, _, _, rfl, ?_⟩
 refine cond_s h ?_ ?_ <;> intro hc h
 ·
  replace hS := hS.none (α := Nat) (enc := (Value.float .f64)) (t := N.t_float64)
  cases some_inj h
  exact hK _ _ _ _ _ rfl (hS.pick (A := [_, _, _, _, _]) [0] rfl)
 obtain ⟨t9, ht9, h⟩ := bnd h
 obtain rfl : (List.map (List.map nf) ([ws6] : List (List Nat))) = t9 := some_inj ht9
 refine lit_s (ks := ([(a6, m6, c6)] : List Hd)) (enc := hdV) (m := 1) hS rfl rfl ?_; intro r7 w hS
 obtain ⟨t10, ht10, h⟩ := bnd h
 refine wk_refine_finite H hS (Ent.sl mp0) (.cons (Ent.sl mp1) .nil) ht10 ?_; rintro w hS
 refine ⟨_, rfl, ?_⟩
 refine cond_s h ?_ ?_ <;> intro hc h
 ·
  replace hS := hS.none (α := Nat) (enc := (Value.float .f64)) (t := N.t_float64)
  cases some_inj h
  exact hK _ _ _ _ _ rfl (hS.pick (A := [_, _, _, _, _, _]) [0] rfl)
 refine ⟨_, (hS.cel mp4 rfl), ?_⟩
 refine ⟨_, (hS.cel mp4 rfl), ?_⟩
 refine ⟨_, _, _, (hS.cel mp4 rfl), ?_⟩
 obtain ⟨⟨t11, t12⟩, ho11, h⟩ := bnd h
 refine wk_refine_Left H hS (hq0_2.mono tl5) (Ent.sl mp1) (hq2.mono tl5) (hG.mono tl5) ho11 ?_; clear hS ho11; rintro a8 m8 c8 ws8 w rfl hS
 refine ⟨_, _, _, _, rfl, ?_⟩
 refine cond_s h ?_ ?_ <;> intro hc h
 ·
  replace hS := hS.none (α := Nat) (enc := (Value.float .f64)) (t := N.t_float64)
  cases some_inj h
  exact hK _ _ _ _ _ rfl (hS.pick (A := [_, _, _, _, _, _, _]) [0] rfl)
 obtain ⟨t13, ht13, h⟩ := bnd h
 refine wk_vector_Norm H hS (Ent.sl mp0) ht13 ?_; rintro z9 w rfl hS
 refine ⟨_, rfl, ?_⟩
 obtain ⟨o14, h14, c14⟩ := bnd h
 refine cutM_i (fun s w => ∃ (a10 : Option Addr) (m11 : Nat) (c12 : Nat) (ws13 : List Nat), .inl (List.map nf ws13) = o14 ∧ s = ((a10, m11, c12), ()) ∧ Ho w0 w ((sl a10 m11 c12 (List.map (Value.float .f64) ws13) N.t_float64) :: L)) (fun J14 hJ14 => ?_) ?_
 ·
  have h := h14
  clear h14
  refine iter_sim (fun s w t => ∃ (z15 : Nat) (t16 : Int) (a16 : Option Addr) (m17 : Nat) (c18 : Nat) (ws19 : List Nat), ((nf z15), t16, (List.map nf ws19)) = t ∧ s = ((a16, m17, c18), z15, t16, ()) ∧ Ho w0 w ((cl r2 [.int .i64 q1_0, .slice q1_1 q1_1l q1_1c, .slice q1_2 q1_2l q1_2c] N.t_Factor) :: (cl r1 [.int .i64 q0_0, .int .i64 q0_1, .slice q0_2 q0_2l q0_2c] N.t_Matrix) :: (sl a16 m17 c18 (List.map (Value.float .f64) ws19) N.t_float64) :: L)) ?_ h ⟨_, _, _, _, _, _, rfl, rfl, (hS.pick (A := [_, _, _, _, _, _]) [4, 4, 2] rfl)⟩
  clear h hS
  rintro s w t X q ⟨z15, t16, a16, m17, c18, ws19, rfl, rfl, hS⟩ h hX hO
  unfold T_refine_Until_b2 at h
  try dsimp only
  refine cond_s h ?_ ?_ <;> intro hc h
  ·
   refine ⟨_, (hS.cel mp1 rfl), ?_⟩
   refine ⟨_, (hS.cel mp1 rfl), ?_⟩
   refine ⟨_, _, _, (hS.cel mp1 rfl), ?_⟩
   refine ⟨_, (hS.cel mp0 rfl), ?_⟩
   refine ⟨_, _, _, (hS.cel mp0 rfl), ?_⟩
   refine ⟨_, _, _, (hS.cel mp0 rfl), ?_⟩
   obtain ⟨⟨t18, t19⟩, ho18, h⟩ := bnd h
   refine wk_refine_Step H hS (hq0_2.mono tl3) (hq1_1.mono tl3) (hq1_2.mono tl3) (Ent.sl mp2) (hq2.mono tl3) (hG.mono tl3) ho18 ?_; clear hS ho18; rintro a20 m20 c20 ws20 w rfl hS
   refine ⟨_, _, _, _, rfl, ?_⟩
   refine cond_s h ?_ ?_ <;> intro hc h
   ·
    obtain rfl := some_inj h
    have h := congrArg some (hO _ rfl)
    obtain rfl := some_inj h
    have h := c14
    cases some_inj h
    exact hK _ _ _ _ _ rfl (hS.pick (A := [_, _, _, _]) [3] rfl)
   refine ⟨_, (hS.cel mp2 rfl), ?_⟩
   refine ⟨_, (hS.cel mp2 rfl), ?_⟩
   refine ⟨_, _, _, (hS.cel mp2 rfl), ?_⟩
   obtain ⟨⟨t20, t21⟩, ho20, h⟩ := bnd h
   refine wk_refine_Left H hS (hq0_2.mono tl4) (Ent.sl mp0) (hq2.mono tl4) (hG.mono tl4) ho20 ?_; clear hS ho20; rintro a21 m21 c21 ws21 w rfl hS
   refine ⟨_, _, _, _, rfl, ?_⟩
   refine cond_s h ?_ ?_ <;> intro hc h
   ·
    obtain ⟨t22, ht22, h⟩ := bnd h
    refine wk_vector_Norm H hS (Ent.sl mp0) ht22 ?_; rintro z22 w rfl hS
    refine ⟨_, rfl, ?_⟩
    obtain ⟨t23, ht23, h⟩ := bnd h
    obtain rfl := fge_s ht23
    refine cond_s h ?_ ?_ <;> intro hc h
    ·
     obtain rfl := some_inj h
     have h := congrArg some (hO _ rfl)
     obtain rfl := some_inj h
     have h := c14
     cases some_inj h
     exact hK _ _ _ _ _ rfl (hS.pick (A := [_, _, _, _, _]) [4] rfl)
    obtain ⟨t24, ht24, h⟩ := bnd h
    refine wk_vector_Norm H hS (Ent.sl mp0) ht24 ?_; rintro z23 w rfl hS
    refine ⟨_, rfl, ?_⟩
    obtain rfl := some_inj h
    exact hX _ rfl _ _ ⟨_, _, _, _, _, _, rfl, rfl, (hS.pick (A := [_, _, _, _, _]) [2, 2, 1] rfl)⟩
   obtain rfl := some_inj h
   have h := congrArg some (hO _ rfl)
   obtain rfl := some_inj h
   have h := c14
   cases some_inj h
   exact hK _ _ _ _ _ rfl (hS.pick (A := [_, _, _, _, _]) [4] rfl)
  obtain rfl := some_inj h
  have h := congrArg some (hO _ rfl)
  obtain rfl := some_inj h
  exact hJ14 _ _ ⟨_, _, _, _, rfl, rfl, (hS.pick (A := [_, _, _]) [2] rfl)⟩
 clear h14 hS
 rintro s w ⟨a10, m11, c12, ws13, rfl, rfl, hS⟩
 have h := c14
 clear c14
 try dsimp only
 cases some_inj h
 exact hK _ _ _ _ _ rfl hS
theorem wk_k_Like {q0 q1 u0} (hS : Ho w0 w L)  (h : T_k_Like (nf q0) (nf q1) = some u0) (hK : ∀ w1, Ho w0 w1 L → K (.bool u0) w1) : CallsX P N.f_k_Like #[.float .f64 q0, .float .f64 q1] w K := by
 refine H.k_Like q0 q1 w _ ?_
 unfold S_k_Like
 unfold T_k_Like at h
 try dsimp only
 obtain ⟨t1, ht1, h⟩ := bnd h
 obtain rfl := feq_s ht1
 refine cond_s h ?_ ?_ <;> intro hc h
 ·
  obtain ⟨t2, ht2, h⟩ := bnd h
  obtain rfl := fne_s ht2
  refine cond_s h ?_ ?_ <;> intro hc h
  ·
   obtain ⟨t3, ht3, h⟩ := bnd h
   obtain rfl := fne_s ht3
   cases some_inj h
   exact hK _ hS
  cases some_inj h
  exact hK _ hS
 cases some_inj h
 exact hK _ hS
theorem wk_k_LikeReals {q0 q0l q0c ws0 q1 q1l q1c ws1 u0} (hS : Ho w0 w L) (hq0 : EF L ws0 q0 q0l q0c) (hq1 : EF L ws1 q1 q1l q1c) (h : T_k_LikeReals (List.map nf ws0) (List.map nf ws1) = some u0) (hK : ∀ w1, Ho w0 w1 L → K (.bool u0) w1) : CallsX P N.f_k_LikeReals #[.slice q0 q0l q0c, .slice q1 q1l q1c] w K := by
 refine H.k_LikeReals q0 q0l q0c q1 q1l q1c w _ ?_
 unfold S_k_LikeReals
 unfold T_k_LikeReals at h
 try dsimp only
 obtain ⟨t1, ht1, h⟩ := bnd h
 obtain rfl := lenF ht1 (hq0.now (fun _ h => h) hS)
 obtain ⟨t2, ht2, h⟩ := bnd h
 obtain rfl := lenF ht2 (hq1.now (fun _ h => h) hS)
 refine cond_s h ?_ ?_ <;> intro hc h
 ·
  cases some_inj h
  exact hK _ hS
 obtain ⟨o1, h1, c1⟩ := bnd h
 refine cutM_i (fun s w =>  .inl () = o1 ∧ s = (()) ∧ Ho w0 w L) (fun J1 hJ1 => ?_) ?_
 ·
  have h := h1
  clear h1
  refine iter_sim (fun s w t => ∃ (t3 : Int), t3 = t ∧ s = (t3, ()) ∧ Ho w0 w L) ?_ h ⟨_, rfl, rfl, hS⟩
  clear h hS
  rintro s w t X q ⟨t3, rfl, rfl, hS⟩ h hX hO
  unfold T_k_LikeReals_b2 at h
  try dsimp only
  obtain ⟨t4, ht4, h⟩ := bnd h
  obtain rfl := lenF ht4 (hq0.now (fun _ h => h) hS)
  refine cond_s h ?_ ?_ <;> intro hc h
  ·
   obtain ⟨t5, ht5, h⟩ := bnd h
   obtain ⟨z2, rfl, q3x, q3l, q3r⟩ := atF ht5
   refine idx_s (hq0.now (fun _ h => h) hS) q3x q3l q3r ?_; intro b4 hb4
   refine ⟨_, rd_get (hq0.now (fun _ h => h) hS) hb4 q3x, ?_⟩
   obtain ⟨t6, ht6, h⟩ := bnd h
   obtain ⟨z5, rfl, q6x, q6l, q6r⟩ := atF ht6
   refine idx_s (hq1.now (fun _ h => h) hS) q6x q6l q6r ?_; intro b7 hb7
   refine ⟨_, rd_get (hq1.now (fun _ h => h) hS) hb7 q6x, ?_⟩
   refine drM_s hS ?_; intro w hS
   obtain ⟨t7, ht7, h⟩ := bnd h
   refine wk_k_Like H hS  ht7 ?_; rintro w hS
   refine ⟨_, rfl, ?_⟩
   refine drM_s hS ?_; intro w hS
   refine cond_s h ?_ ?_ <;> intro hc h
   ·
    obtain rfl := some_inj h
    have h := congrArg some (hO _ rfl)
    obtain rfl := some_inj h
    have h := c1
    cases some_inj h
    exact hK _ hS
   obtain rfl := some_inj h
   exact hX _ rfl _ _ ⟨_, rfl, rfl, hS⟩
  obtain rfl := some_inj h
  have h := congrArg some (hO _ rfl)
  obtain rfl := some_inj h
  exact hJ1 _ _ ⟨rfl, rfl, hS⟩
 clear h1 hS
 rintro s w ⟨rfl, rfl, hS⟩
 have h := c1
 clear c1
 try dsimp only
 cases some_inj h
 exact hK _ hS
theorem wk_w14_awake  {u0} (hS : Ho w0 w L) (hG : Ent L (tab64 N.g_1)) (h : T_w14_awake  = some u0) (hK : ∀ w1, Ho w0 w1 L → K (.bool u0) w1) : CallsX P N.f_w14_awake #[] w K := by
 refine H.w14_awake  w _ ?_
 unfold S_w14_awake
 unfold T_w14_awake at h
 try dsimp only
 obtain ⟨⟨t1, t2, t3, t4, t5, t6⟩, ho1, h⟩ := bnd h
 refine wk_w14_two H hS  ho1 ?_; clear hS ho1; rintro a1 m1 c1 ws1 a2 m2 c2 ws2 a3 m3 c3 ws3 w rfl rfl rfl hS
 refine ⟨_, _, _, _, _, _, _, _, _, _, _, _, rfl, ?_⟩
 refine newM_s hS ?_; intro r4 w hS
 refine newM_s hS ?_; intro r5 w hS
 replace hS := ro1 hS
 refine stc_s hS rfl rfl ?_; intro w hS
 refine stc_s hS rfl rfl ?_; intro w hS
 refine stc_s hS rfl rfl ?_; intro w hS
 replace hS := ro1 hS
 refine stc_s hS rfl rfl ?_; intro w hS
 refine stc_s hS rfl rfl ?_; intro w hS
 refine stc_s hS rfl rfl ?_; intro w hS
 refine ⟨_, (hS.cel mp1 rfl), ?_⟩
 refine ⟨_, (hS.cel mp1 rfl), ?_⟩
 refine ⟨_, _, _, (hS.cel mp1 rfl), ?_⟩
 obtain ⟨t7, ht7, h⟩ := bnd h
 obtain rfl : (List.map nf ([4607182418800017408, 4607182418800017408] : List Nat)) = t7 := some_inj ht7
 refine lit_s (ks := [4607182418800017408, 4607182418800017408]) (enc := (Value.float .f64)) (m := 2) hS rfl rfl ?_; intro r6 w hS
 obtain ⟨t8, ht8, h⟩ := bnd h
 obtain rfl : (List.map nf ([4618441417868443648, 4616189618054758400] : List Nat)) = t8 := some_inj ht8
 refine lit_s (ks := [4618441417868443648, 4616189618054758400]) (enc := (Value.float .f64)) (m := 2) hS rfl rfl ?_; intro r7 w hS
 obtain ⟨⟨t9, t10⟩, ho9, h⟩ := bnd h
 refine wk_refine_Left H hS (Ent.sl mp4) (Ent.sl mp1) (Ent.sl mp0) (hG.mono tl7) ho9 ?_; clear hS ho9; rintro a8 m8 c8 ws8 w rfl hS
 refine ⟨_, _, _, _, rfl, ?_⟩
 refine ⟨_, (hS.cel mp4 rfl), ?_⟩
 refine ⟨_, (hS.cel mp4 rfl), ?_⟩
 refine ⟨_, _, _, (hS.cel mp4 rfl), ?_⟩
 refine ⟨_, (hS.cel mp3 rfl), ?_⟩
 refine ⟨_, _, _, (hS.cel mp3 rfl), ?_⟩
 refine ⟨_, _, _, (hS.cel mp3 rfl), ?_⟩
 obtain ⟨t11, ht11, h⟩ := bnd h
 obtain rfl : (List.map nf ([4617315517961601024, 4616189618054758400] : List Nat)) = t11 := some_inj ht11
 refine lit_s (ks := [4617315517961601024, 4616189618054758400]) (enc := (Value.float .f64)) (m := 2) hS rfl rfl ?_; intro r9 w hS
 obtain ⟨⟨t12, t13, t14⟩, ho12, h⟩ := bnd h
 refine wk_refine_Until H hS (Ent.sl mp6) (Ent.sl mp7) (Ent.sl mp8) (Ent.sl mp0) (hG.mono tl9) ho12 ?_; clear hS ho12; rintro a10 m10 c10 ws10 w rfl hS
 refine ⟨_, _, _, _, _, rfl, ?_⟩
 obtain ⟨t15, ht15, h⟩ := bnd h
 obtain rfl : (List.map nf ([4607182418800017408, 4607182418800017408] : List Nat)) = t15 := some_inj ht15
 refine lit_s (ks := [4607182418800017408, 4607182418800017408]) (enc := (Value.float .f64)) (m := 2) hS rfl rfl ?_; intro r11 w hS
 obtain ⟨t16, ht16, h⟩ := bnd h
 obtain rfl : (List.map nf ([4877398396442247168, 4607182418800017408] : List Nat)) = t16 := some_inj ht16
 refine lit_s (ks := [4877398396442247168, 4607182418800017408]) (enc := (Value.float .f64)) (m := 2) hS rfl rfl ?_; intro r12 w hS
 obtain ⟨t17, ht17, h⟩ := bnd h
 obtain rfl : (List.map nf ([4877398396442247168] : List Nat)) = t17 := some_inj ht17
 refine lit_s (ks := [4877398396442247168]) (enc := (Value.float .f64)) (m := 1) hS rfl rfl ?_; intro r13 w hS
 obtain ⟨⟨t18, t19⟩, ho18, h⟩ := bnd h
 refine wk_refine_Left H hS (Ent.sl mp2) (Ent.sl mp1) (Ent.sl mp0) (hG.mono tl13) ho18 ?_; clear hS ho18; rintro a14 m14 c14 ws14 w rfl hS
 refine ⟨_, _, _, _, rfl, ?_⟩
 refine cond_s h ?_ ?_ <;> intro hc h
 ·
  refine cond_s h ?_ ?_ <;> intro hc h
  ·
   refine cond_s h ?_ ?_ <;> intro hc h
   ·
    obtain ⟨t20, ht20, h⟩ := bnd h
    obtain rfl : (List.map nf ([4607182418800017408, 0] : List Nat)) = t20 := some_inj ht20
    refine lit_s (ks := [4607182418800017408, 0]) (enc := (Value.float .f64)) (m := 2) hS rfl rfl ?_; intro r15 w hS
    obtain ⟨t21, ht21, h⟩ := bnd h
    refine wk_k_LikeReals H hS (Ent.sl mp7) (Ent.sl mp0) ht21 ?_; rintro w hS
    refine ⟨_, rfl, ?_⟩
    refine cond_s h ?_ ?_ <;> intro hc h
    ·
     obtain ⟨t22, ht22, h⟩ := bnd h
     obtain rfl := lenF ht22 ((Ent.sl mp5).now (fun _ h => h) hS)
     refine cond_s h ?_ ?_ <;> intro hc h
     ·
      obtain ⟨t23, ht23, h⟩ := bnd h
      obtain ⟨z16, rfl, q17x, q17l, q17r⟩ := atF ht23
      refine idx_s ((Ent.sl mp5).now (fun _ h => h) hS) q17x q17l q17r ?_; intro b18 hb18
      refine ⟨_, rd_get ((Ent.sl mp5).now (fun _ h => h) hS) hb18 q17x, ?_⟩
      obtain ⟨t24, ht24, h⟩ := bnd h
      obtain rfl := fgt_s ht24
      refine cond_s h ?_ ?_ <;> intro hc h
      ·
       obtain ⟨t25, ht25, h⟩ := bnd h
       obtain ⟨z19, rfl, q20x, q20l, q20r⟩ := atF ht25
       refine idx_s ((Ent.sl mp5).now (fun _ h => h) hS) q20x q20l q20r ?_; intro b21 hb21
       refine ⟨_, rd_get ((Ent.sl mp5).now (fun _ h => h) hS) hb21 q20x, ?_⟩
       obtain ⟨t26, ht26, h⟩ := bnd h
       obtain rfl := flt_s ht26
       refine cond_s h ?_ ?_ <;> intro hc h
       ·
        refine cond_s h ?_ ?_ <;> intro hc h
        ·
         obtain ⟨t27, ht27, h⟩ := bnd h
         obtain rfl : (List.map nf ([13830554455654793216] : List Nat)) = t27 := some_inj ht27
         refine lit_s (ks := [13830554455654793216]) (enc := (Value.float .f64)) (m := 1) hS rfl rfl ?_; intro r22 w hS
         obtain ⟨t28, ht28, h⟩ := bnd h
         refine wk_k_LikeReals H hS (Ent.sl mp2) (Ent.sl mp0) ht28 ?_; rintro w hS
         refine ⟨_, rfl, ?_⟩
         cases some_inj h
         exact hK _ (hS.pick (A := [_, _, _, _, _, _, _, _, _, _, _, _, _, _, _, _]) [] rfl)
        cases some_inj h
        exact hK _ (hS.pick (A := [_, _, _, _, _, _, _, _, _, _, _, _, _, _, _]) [] rfl)
       cases some_inj h
       exact hK _ (hS.pick (A := [_, _, _, _, _, _, _, _, _, _, _, _, _, _, _]) [] rfl)
      cases some_inj h
      exact hK _ (hS.pick (A := [_, _, _, _, _, _, _, _, _, _, _, _, _, _, _]) [] rfl)
     cases some_inj h
     exact hK _ (hS.pick (A := [_, _, _, _, _, _, _, _, _, _, _, _, _, _, _]) [] rfl)
    cases some_inj h
    exact hK _ (hS.pick (A := [_, _, _, _, _, _, _, _, _, _, _, _, _, _, _]) [] rfl)
   cases some_inj h
   exact hK _ (hS.pick (A := [_, _, _, _, _, _, _, _, _, _, _, _, _, _]) [] rfl)
  cases some_inj h
  exact hK _ (hS.pick (A := [_, _, _, _, _, _, _, _, _, _, _, _, _, _]) [] rfl)
 cases some_inj h
 exact hK _ (hS.pick (A := [_, _, _, _, _, _, _, _, _, _, _, _, _, _]) [] rfl)
theorem wk_k_Pick {q0 q1 u0} (hS : Ho w0 w L)  (h : T_k_Pick q0 q1 = some u0) (hK : ∀ w1, Ho w0 w1 L → K (.int .i64 u0) w1) : CallsX P N.f_k_Pick #[.int .i64 q0, .int .i64 q1] w K := by
 refine H.k_Pick q0 q1 w _ ?_
 unfold S_k_Pick
 unfold T_k_Pick at h
 try dsimp only
 refine cond_s h ?_ ?_ <;> intro hc h
 ·
  cases some_inj h
  exact hK _ hS
 obtain ⟨t2, ht2, h⟩ := bnd h
 refine ⟨nz_s ht2, ?_⟩
 obtain ⟨o1, h1, c1⟩ := bnd h
 refine cutM_i (fun s w => ∃ (t1 : Int), t1 = o1 ∧ s = (t1, ()) ∧ Ho w0 w L) (fun J1 hJ1 => ?_) ?_
 ·
  have h := h1
  clear h1
  refine cond_s h ?_ ?_ <;> intro hc h
  ·
   obtain rfl := some_inj h
   exact hJ1 _ _ ⟨_, rfl, rfl, hS⟩
  obtain rfl := some_inj h
  exact hJ1 _ _ ⟨_, rfl, rfl, hS⟩
 clear h1 hS
 rintro s w ⟨t1, rfl, rfl, hS⟩
 have h := c1
 clear c1
 try dsimp only
 cases some_inj h
 exact hK _ hS
theorem wk_vector_Scale {q0 q1 q1l q1c ws1 u0} (hS : Ho w0 w L) (hq1 : EF L ws1 q1 q1l q1c) (h : T_vector_Scale (nf q0) (List.map nf ws1) = some u0) (hK : ∀ (a0 : Option Addr) (n0 c0 : Nat) (rws0 : List Nat) (w1 : World), List.map nf rws0 = u0 → Ho w0 w1 ((sl a0 n0 c0 (List.map (Value.float .f64) rws0) N.t_float64) :: L) → K (.slice a0 n0 c0) w1) : CallsX P N.f_vector_Scale #[.float .f64 q0, .slice q1 q1l q1c] w K := by
 refine H.vector_Scale q0 q1 q1l q1c w _ ?_
 unfold S_vector_Scale
 unfold T_vector_Scale at h
 try dsimp only
 obtain ⟨t1, ht1, h⟩ := bnd h
 obtain rfl := lenF ht1 (hq1.now (fun _ h => h) hS)
 obtain ⟨t2, ht2, h⟩ := bnd h
 obtain ⟨rfl, kt2⟩ := mkF ht2
 refine mk_s (enc := (Value.float .f64)) hS kt2 rfl ?_; clear hS kt2; intro r1 w hS
 obtain ⟨t3, ht3, h⟩ := bnd h
 obtain rfl := lenF ht3 ((hq1.mono tl1).now (fun _ h => h) hS)
 obtain ⟨o6, h6, c6⟩ := bnd h
 refine cutM_i (fun s w => ∃ (a2 : Option Addr) (m3 : Nat) (c4 : Nat) (ws5 : List Nat), (List.map nf ws5) = o6 ∧ s = ((a2, m3, c4), ()) ∧ Ho w0 w ((sl a2 m3 c4 (List.map (Value.float .f64) ws5) N.t_float64) :: L)) (fun J6 hJ6 => ?_) ?_
 ·
  have h := h6
  clear h6
  refine iter_sim (fun s w t => ∃ (t5 : Int) (a7 : Option Addr) (m8 : Nat) (c9 : Nat) (ws10 : List Nat), (t5, (List.map nf ws10)) = t ∧ s = ((a7, m8, c9), t5, ()) ∧ Ho w0 w ((sl a7 m8 c9 (List.map (Value.float .f64) ws10) N.t_float64) :: L)) ?_ h ⟨_, _, _, _, _, rfl, rfl, hS⟩
  clear h hS
  rintro s w t X q ⟨t5, a7, m8, c9, ws10, rfl, rfl, hS⟩ h hX hO
  unfold T_vector_Scale_b2 at h
  try dsimp only
  refine cond_s h ?_ ?_ <;> intro hc h
  ·
   obtain ⟨t7, ht7, h⟩ := bnd h
   obtain ⟨z11, rfl, q12x, q12l, q12r⟩ := atF ht7
   refine idx_s ((hq1.mono tl1).now (fun _ h => h) hS) q12x q12l q12r ?_; intro b13 hb13
   refine ⟨_, rd_get ((hq1.mono tl1).now (fun _ h => h) hS) hb13 q12x, ?_⟩
   obtain ⟨t8, ht8, h⟩ := bnd h
   refine fmul_s ht8 hS ?_; rintro z14 w rfl hS
   obtain ⟨t9, ht9, h⟩ := bnd h
   obtain rfl : (List.map nf ([z14] : List Nat)) = t9 := some_inj ht9
   refine lit_s (ks := [z14]) (enc := (Value.float .f64)) (m := 1) hS rfl rfl ?_; intro r15 w hS
   obtain ⟨t10, ht10, h⟩ := bnd h
   obtain ⟨rfl, kt10⟩ := appF ht10
   replace hS := ro1 hS
   refine app_s hS kt10 ((Ent.sl mp1).now (fun _ h => h) hS) (fun _ => rfl) rfl ?_; clear hS kt10; intro a16 c16 w hS
   obtain rfl := some_inj h
   exact hX _ rfl _ _ ⟨_, _, _, _, _, rfl, rfl, (hS.pick (A := [_, _]) [0] rfl)⟩
  obtain rfl := some_inj h
  have h := congrArg some (hO _ rfl)
  obtain rfl := some_inj h
  exact hJ6 _ _ ⟨_, _, _, _, rfl, rfl, hS⟩
 clear h6 hS
 rintro s w ⟨a2, m3, c4, ws5, rfl, rfl, hS⟩
 have h := c6
 clear c6
 try dsimp only
 cases some_inj h
 exact hK _ _ _ _ _ rfl hS
theorem wk_k_SameFloat {q0 q1 u0} (hS : Ho w0 w L)  (hx : T_k_SameFloat (nf q0) (nf q1) = some u0) (hK : ∀ w1, Ho w0 w1 L → K (.bool u0) w1) : CallsX P N.f_k_SameFloat #[.float .f64 q0, .float .f64 q1] w K := by
 unfold T_k_SameFloat at hx
 have hx := some_inj hx
 subst hx
 refine (sameFloat_c H q0 q1 w).mono ?_
 rintro _ w1 ⟨rfl, h1⟩
 exact hK _ (hS.next h1)
theorem wk_k_SameReals {q0 q0l q0c ws0 q1 q1l q1c ws1 u0} (hS : Ho w0 w L) (hq0 : EF L ws0 q0 q0l q0c) (hq1 : EF L ws1 q1 q1l q1c) (h : T_k_SameReals (List.map nf ws0) (List.map nf ws1) = some u0) (hK : ∀ w1, Ho w0 w1 L → K (.bool u0) w1) : CallsX P N.f_k_SameReals #[.slice q0 q0l q0c, .slice q1 q1l q1c] w K := by
 refine H.k_SameReals q0 q0l q0c q1 q1l q1c w _ ?_
 unfold S_k_SameReals
 unfold T_k_SameReals at h
 try dsimp only
 obtain ⟨t1, ht1, h⟩ := bnd h
 obtain rfl := lenF ht1 (hq0.now (fun _ h => h) hS)
 obtain ⟨t2, ht2, h⟩ := bnd h
 obtain rfl := lenF ht2 (hq1.now (fun _ h => h) hS)
 refine cond_s h ?_ ?_ <;> intro hc h
 ·
  cases some_inj h
  exact hK _ hS
 obtain ⟨o1, h1, c1⟩ := bnd h
 refine cutM_i (fun s w =>  .inl () = o1 ∧ s = (()) ∧ Ho w0 w L) (fun J1 hJ1 => ?_) ?_
 ·
  have h := h1
  clear h1
  refine iter_sim (fun s w t => ∃ (t3 : Int), t3 = t ∧ s = (t3, ()) ∧ Ho w0 w L) ?_ h ⟨_, rfl, rfl, hS⟩
  clear h hS
  rintro s w t X q ⟨t3, rfl, rfl, hS⟩ h hX hO
  unfold T_k_SameReals_b2 at h
  try dsimp only
  obtain ⟨t4, ht4, h⟩ := bnd h
  obtain rfl := lenF ht4 (hq0.now (fun _ h => h) hS)
  refine cond_s h ?_ ?_ <;> intro hc h
  ·
   obtain ⟨t5, ht5, h⟩ := bnd h
   obtain ⟨z2, rfl, q3x, q3l, q3r⟩ := atF ht5
   refine idx_s (hq0.now (fun _ h => h) hS) q3x q3l q3r ?_; intro b4 hb4
   refine ⟨_, rd_get (hq0.now (fun _ h => h) hS) hb4 q3x, ?_⟩
   obtain ⟨t6, ht6, h⟩ := bnd h
   obtain ⟨z5, rfl, q6x, q6l, q6r⟩ := atF ht6
   refine idx_s (hq1.now (fun _ h => h) hS) q6x q6l q6r ?_; intro b7 hb7
   refine ⟨_, rd_get (hq1.now (fun _ h => h) hS) hb7 q6x, ?_⟩
   refine drM_s hS ?_; intro w hS
   obtain ⟨t7, ht7, h⟩ := bnd h
   refine wk_k_SameFloat H hS  ht7 ?_; rintro w hS
   refine ⟨_, rfl, ?_⟩
   refine drM_s hS ?_; intro w hS
   refine cond_s h ?_ ?_ <;> intro hc h
   ·
    obtain rfl := some_inj h
    have h := congrArg some (hO _ rfl)
    obtain rfl := some_inj h
    have h := c1
    cases some_inj h
    exact hK _ hS
   obtain rfl := some_inj h
   exact hX _ rfl _ _ ⟨_, rfl, rfl, hS⟩
  obtain rfl := some_inj h
  have h := congrArg some (hO _ rfl)
  obtain rfl := some_inj h
  exact hJ1 _ _ ⟨rfl, rfl, hS⟩
 clear h1 hS
 rintro s w ⟨rfl, rfl, hS⟩
 have h := c1
 clear c1
 try dsimp only
 cases some_inj h
 exact hK _ hS
theorem wk_w14_RefineScales {q0_0 q0_0l q0_0c l0_0 q0_1 q0_1l q0_1c l0_1 q0_2 q0_2l q0_2c l0_2 q0_3 u0} (hS : Ho w0 w L) (hq0_0 : Ent L (rdA (List.map (Value.int .i32) l0_0) q0_0 q0_0l q0_0c)) (hq0_1 : Ent L (rdA (List.map (Value.int .i32) l0_1) q0_1 q0_1l q0_1c)) (hq0_2 : Ent L (rdA (List.map (Value.int .i32) l0_2) q0_2 q0_2l q0_2c)) (hG : Ent L (tab64 N.g_1)) (h : T_w14_RefineScales l0_0 l0_1 l0_2 q0_3 = some u0) (hK : ∀ w1, Ho w0 w1 L → K (.bool u0) w1) : CallsX P N.f_w14_RefineScales #[.agg #[.slice q0_0 q0_0l q0_0c, .slice q0_1 q0_1l q0_1c, .slice q0_2 q0_2l q0_2c, .int .i64 q0_3]] w K := by
 refine H.w14_RefineScales q0_0 q0_0l q0_0c q0_1 q0_1l q0_1c q0_2 q0_2l q0_2c q0_3 w _ ?_
 unfold S_w14_RefineScales
 unfold T_w14_RefineScales at h
 try dsimp only
 refine newM_s hS ?_; intro r1 w hS
 obtain ⟨t1, ht1, h⟩ := bnd h
 refine wk_w14_awake H hS (hG.mono tl1) ht1 ?_; rintro w hS
 refine ⟨_, rfl, ?_⟩
 refine cond_s h ?_ ?_ <;> intro hc h
 ·
  cases some_inj h
  exact hK _ (hS.pick (A := [_]) [] rfl)
 refine ⟨_, _, _, (hS.cel mp0 rfl), ?_⟩
 refine ⟨_, _, _, (hS.cel mp0 rfl), ?_⟩
 refine ⟨_, _, _, (hS.cel mp0 rfl), ?_⟩
 refine drM_s hS ?_; intro w hS
 obtain ⟨t2, ht2, h⟩ := bnd h
 obtain rfl := lenE ht2 ((hq0_1.mono tl1).now (fun _ h => h) hS)
 obtain ⟨t3, ht3, h⟩ := bnd h
 obtain rfl := lenE ht3 ((hq0_2.mono tl1).now (fun _ h => h) hS)
 refine cond_s h ?_ ?_ <;> intro hc h
 ·
  cases some_inj h
  exact hK _ (hS.pick (A := [_]) [] rfl)
 refine ⟨_, (hS.cel mp0 rfl), ?_⟩
 obtain ⟨t4, ht4, h⟩ := bnd h
 refine wk_k_Pick H hS  ht4 ?_; rintro w hS
 refine ⟨_, rfl, ?_⟩
 obtain ⟨o3, h3, c3⟩ := bnd h
 refine cutM_i (fun s w => ∃ (z2 : Nat), (nf z2) = o3 ∧ s = (z2, ()) ∧ Ho w0 w L) (fun J3 hJ3 => ?_) ?_
 ·
  have h := h3
  clear h3
  refine iter_sim (fun s w t => ∃ (z4 : Nat) (t7 : Int), ((nf z4), t7) = t ∧ s = (z4, t7, ()) ∧ Ho w0 w L) ?_ h ⟨_, _, rfl, rfl, (hS.pick (A := [_]) [] rfl)⟩
  clear h hS
  rintro s w t X q ⟨z4, t7, rfl, rfl, hS⟩ h hX hO
  unfold T_w14_RefineScales_b2 at h
  try dsimp only
  refine cond_s h ?_ ?_ <;> intro hc h
  ·
   obtain ⟨t8, ht8, h⟩ := bnd h
   refine fmul_s ht8 hS ?_; rintro z5 w rfl hS
   obtain rfl := some_inj h
   exact hX _ rfl _ _ ⟨_, _, rfl, rfl, hS⟩
  obtain rfl := some_inj h
  have h := congrArg some (hO _ rfl)
  obtain rfl := some_inj h
  exact hJ3 _ _ ⟨_, rfl, rfl, hS⟩
 clear h3 hS
 rintro s w ⟨z2, rfl, rfl, hS⟩
 have h := c3
 clear c3
 try dsimp only
 obtain ⟨o7, h7, c7⟩ := bnd h
 refine cutM_i (fun s w => ∃ (z6 : Nat), (nf z6) = o7 ∧ s = (z6, ()) ∧ Ho w0 w L) (fun J7 hJ7 => ?_) ?_
 ·
  have h := h7
  clear h7
  refine iter_sim (fun s w t => ∃ (z8 : Nat) (t11 : Int), ((nf z8), t11) = t ∧ s = (z8, t11, ()) ∧ Ho w0 w L) ?_ h ⟨_, _, rfl, rfl, hS⟩
  clear h hS
  rintro s w t X q ⟨z8, t11, rfl, rfl, hS⟩ h hX hO
  unfold T_w14_RefineScales_b4 at h
  try dsimp only
  refine cond_s h ?_ ?_ <;> intro hc h
  ·
   obtain ⟨t12, ht12, h⟩ := bnd h
   refine fdiv_s ht12 hS ?_; rintro z9 w rfl hS
   obtain rfl := some_inj h
   exact hX _ rfl _ _ ⟨_, _, rfl, rfl, hS⟩
  obtain rfl := some_inj h
  have h := congrArg some (hO _ rfl)
  obtain rfl := some_inj h
  exact hJ7 _ _ ⟨_, rfl, rfl, hS⟩
 clear h7 hS
 rintro s w ⟨z6, rfl, rfl, hS⟩
 have h := c7
 clear c7
 try dsimp only
 refine newM_s hS ?_; intro r10 w hS
 refine stc_s hS rfl rfl ?_; intro w hS
 refine stc_s hS rfl rfl ?_; intro w hS
 refine stc_s hS rfl rfl ?_; intro w hS
 refine newM_s hS ?_; intro r11 w hS
 refine stc_s hS rfl rfl ?_; intro w hS
 refine stc_s hS rfl rfl ?_; intro w hS
 refine stc_s hS rfl rfl ?_; intro w hS
 obtain ⟨o40, h40, c40⟩ := bnd h
 refine cutM_i (fun s w => ∃ (a12 : Option Addr) (m13 : Nat) (c14 : Nat) (ws15 : List Nat) (a16 : Option Addr) (m17 : Nat) (c18 : Nat) (ws19 : List Nat) (a20 : Option Addr) (m21 : Nat) (c22 : Nat) (ws23 : List Nat) (a24 : Option Addr) (m25 : Nat) (c26 : Nat) (ws27 : List Nat) (a28 : Option Addr) (m29 : Nat) (c30 : Nat) (ws31 : List Nat) (a32 : Option Addr) (m33 : Nat) (c34 : Nat) (ws35 : List Nat) (a36 : Option Addr) (m37 : Nat) (c38 : Nat) (ws39 : List Nat), ((List.map nf ws15), (List.map nf ws19), (List.map nf ws23), (List.map nf ws27), (List.map nf ws31), (List.map nf ws35), (List.map nf ws39)) = o40 ∧ s = ((a12, m13, c14), (a16, m17, c18), (a20, m21, c22), (a24, m25, c26), ()) ∧ Ho w0 w ((cl r11 [.int .i64 (if 4 < (if ((q0_2l : Nat) : Int) < ((q0_1l : Nat) : Int) then ((q0_2l : Nat) : Int) else ((q0_1l : Nat) : Int)) then 4 else (if ((q0_2l : Nat) : Int) < ((q0_1l : Nat) : Int) then ((q0_2l : Nat) : Int) else ((q0_1l : Nat) : Int))), .slice a28 m29 c30, .slice a32 m33 c34] N.t_Factor) :: (cl r10 [.int .i64 (if 4 < (if ((q0_2l : Nat) : Int) < ((q0_1l : Nat) : Int) then ((q0_2l : Nat) : Int) else ((q0_1l : Nat) : Int)) then 4 else (if ((q0_2l : Nat) : Int) < ((q0_1l : Nat) : Int) then ((q0_2l : Nat) : Int) else ((q0_1l : Nat) : Int))), .int .i64 (if 4 < (if ((q0_2l : Nat) : Int) < ((q0_1l : Nat) : Int) then ((q0_2l : Nat) : Int) else ((q0_1l : Nat) : Int)) then 4 else (if ((q0_2l : Nat) : Int) < ((q0_1l : Nat) : Int) then ((q0_2l : Nat) : Int) else ((q0_1l : Nat) : Int))), .slice a36 m37 c38] N.t_Matrix) :: (sl a12 m13 c14 (List.map (Value.float .f64) ws15) N.t_float64) :: (sl a16 m17 c18 (List.map (Value.float .f64) ws19) N.t_float64) :: (sl a20 m21 c22 (List.map (Value.float .f64) ws23) N.t_float64) :: (sl a24 m25 c26 (List.map (Value.float .f64) ws27) N.t_float64) :: (sl a28 m29 c30 (List.map (Value.float .f64) ws31) N.t_float64) :: (sl a32 m33 c34 (List.map (Value.float .f64) ws35) N.t_float64) :: (sl a36 m37 c38 (List.map (Value.float .f64) ws39) N.t_float64) :: L)) (fun J40 hJ40 => ?_) ?_
 ·
  have h := h40
  clear h40
  replace hS := hS.none (α := Nat) (enc := (Value.float .f64)) (t := N.t_float64)
  replace hS := hS.none (α := Nat) (enc := (Value.float .f64)) (t := N.t_float64)
  replace hS := hS.none (α := Nat) (enc := (Value.float .f64)) (t := N.t_float64)
  replace hS := hS.none (α := Nat) (enc := (Value.float .f64)) (t := N.t_float64)
  replace hS := hS.none (α := Nat) (enc := (Value.float .f64)) (t := N.t_float64)
  replace hS := hS.none (α := Nat) (enc := (Value.float .f64)) (t := N.t_float64)
  replace hS := hS.none (α := Nat) (enc := (Value.float .f64)) (t := N.t_float64)
  refine iter_sim (fun s w t => ∃ (t20 : Int) (a41 : Option Addr) (m42 : Nat) (c43 : Nat) (ws44 : List Nat) (a45 : Option Addr) (m46 : Nat) (c47 : Nat) (ws48 : List Nat) (a49 : Option Addr) (m50 : Nat) (c51 : Nat) (ws52 : List Nat) (a53 : Option Addr) (m54 : Nat) (c55 : Nat) (ws56 : List Nat) (a57 : Option Addr) (m58 : Nat) (c59 : Nat) (ws60 : List Nat) (a61 : Option Addr) (m62 : Nat) (c63 : Nat) (ws64 : List Nat) (a65 : Option Addr) (m66 : Nat) (c67 : Nat) (ws68 : List Nat), (t20, (List.map nf ws44), (List.map nf ws48), (List.map nf ws52), (List.map nf ws56), (List.map nf ws60), (List.map nf ws64), (List.map nf ws68)) = t ∧ s = ((a41, m42, c43), (a45, m46, c47), (a49, m50, c51), (a53, m54, c55), t20, ()) ∧ Ho w0 w ((cl r11 [.int .i64 (if 4 < (if ((q0_2l : Nat) : Int) < ((q0_1l : Nat) : Int) then ((q0_2l : Nat) : Int) else ((q0_1l : Nat) : Int)) then 4 else (if ((q0_2l : Nat) : Int) < ((q0_1l : Nat) : Int) then ((q0_2l : Nat) : Int) else ((q0_1l : Nat) : Int))), .slice a57 m58 c59, .slice a61 m62 c63] N.t_Factor) :: (cl r10 [.int .i64 (if 4 < (if ((q0_2l : Nat) : Int) < ((q0_1l : Nat) : Int) then ((q0_2l : Nat) : Int) else ((q0_1l : Nat) : Int)) then 4 else (if ((q0_2l : Nat) : Int) < ((q0_1l : Nat) : Int) then ((q0_2l : Nat) : Int) else ((q0_1l : Nat) : Int))), .int .i64 (if 4 < (if ((q0_2l : Nat) : Int) < ((q0_1l : Nat) : Int) then ((q0_2l : Nat) : Int) else ((q0_1l : Nat) : Int)) then 4 else (if ((q0_2l : Nat) : Int) < ((q0_1l : Nat) : Int) then ((q0_2l : Nat) : Int) else ((q0_1l : Nat) : Int))), .slice a65 m66 c67] N.t_Matrix) :: (sl a41 m42 c43 (List.map (Value.float .f64) ws44) N.t_float64) :: (sl a45 m46 c47 (List.map (Value.float .f64) ws48) N.t_float64) :: (sl a49 m50 c51 (List.map (Value.float .f64) ws52) N.t_float64) :: (sl a53 m54 c55 (List.map (Value.float .f64) ws56) N.t_float64) :: (sl a57 m58 c59 (List.map (Value.float .f64) ws60) N.t_float64) :: (sl a61 m62 c63 (List.map (Value.float .f64) ws64) N.t_float64) :: (sl a65 m66 c67 (List.map (Value.float .f64) ws68) N.t_float64) :: L)) ?_ h ⟨_, _, _, _, _, _, _, _, _, _, _, _, _, _, _, _, _, _, _, _, _, _, _, _, _, _, _, _, _, rfl, rfl, (hS.pick (A := [_, _, _, _, _, _, _, _, _]) [7, 7, 6, 5, 4, 3, 2, 1, 0] rfl)⟩
  clear h hS
  rintro s w t X q ⟨t20, a41, m42, c43, ws44, a45, m46, c47, ws48, a49, m50, c51, ws52, a53, m54, c55, ws56, a57, m58, c59, ws60, a61, m62, c63, ws64, a65, m66, c67, ws68, rfl, rfl, hS⟩ h hX hO
  unfold T_w14_RefineScales_b11 at h
  try dsimp only
  refine cond_s h ?_ ?_ <;> intro hc h
  ·
   obtain ⟨o77, h77, c77⟩ := bnd h
   refine cutM_i (fun s w => ∃ (a69 : Option Addr) (m70 : Nat) (c71 : Nat) (ws72 : List Nat) (a73 : Option Addr) (m74 : Nat) (c75 : Nat) (ws76 : List Nat), ((List.map nf ws72), (List.map nf ws76)) = o77 ∧ s = (()) ∧ Ho w0 w ((cl r11 [.int .i64 (if 4 < (if ((q0_2l : Nat) : Int) < ((q0_1l : Nat) : Int) then ((q0_2l : Nat) : Int) else ((q0_1l : Nat) : Int)) then 4 else (if ((q0_2l : Nat) : Int) < ((q0_1l : Nat) : Int) then ((q0_2l : Nat) : Int) else ((q0_1l : Nat) : Int))), .slice a69 m70 c71, .slice a61 m62 c63] N.t_Factor) :: (cl r10 [.int .i64 (if 4 < (if ((q0_2l : Nat) : Int) < ((q0_1l : Nat) : Int) then ((q0_2l : Nat) : Int) else ((q0_1l : Nat) : Int)) then 4 else (if ((q0_2l : Nat) : Int) < ((q0_1l : Nat) : Int) then ((q0_2l : Nat) : Int) else ((q0_1l : Nat) : Int))), .int .i64 (if 4 < (if ((q0_2l : Nat) : Int) < ((q0_1l : Nat) : Int) then ((q0_2l : Nat) : Int) else ((q0_1l : Nat) : Int)) then 4 else (if ((q0_2l : Nat) : Int) < ((q0_1l : Nat) : Int) then ((q0_2l : Nat) : Int) else ((q0_1l : Nat) : Int))), .slice a73 m74 c75] N.t_Matrix) :: (sl a41 m42 c43 (List.map (Value.float .f64) ws44) N.t_float64) :: (sl a45 m46 c47 (List.map (Value.float .f64) ws48) N.t_float64) :: (sl a49 m50 c51 (List.map (Value.float .f64) ws52) N.t_float64) :: (sl a53 m54 c55 (List.map (Value.float .f64) ws56) N.t_float64) :: (sl a69 m70 c71 (List.map (Value.float .f64) ws72) N.t_float64) :: (sl a61 m62 c63 (List.map (Value.float .f64) ws64) N.t_float64) :: (sl a73 m74 c75 (List.map (Value.float .f64) ws76) N.t_float64) :: L)) (fun J77 hJ77 => ?_) ?_
   ·
    have h := h77
    clear h77
    refine iter_sim (fun s w t => ∃ (t30 : Int) (a78 : Option Addr) (m79 : Nat) (c80 : Nat) (ws81 : List Nat) (a82 : Option Addr) (m83 : Nat) (c84 : Nat) (ws85 : List Nat), (t30, (List.map nf ws81), (List.map nf ws85)) = t ∧ s = (t30, ()) ∧ Ho w0 w ((cl r11 [.int .i64 (if 4 < (if ((q0_2l : Nat) : Int) < ((q0_1l : Nat) : Int) then ((q0_2l : Nat) : Int) else ((q0_1l : Nat) : Int)) then 4 else (if ((q0_2l : Nat) : Int) < ((q0_1l : Nat) : Int) then ((q0_2l : Nat) : Int) else ((q0_1l : Nat) : Int))), .slice a78 m79 c80, .slice a61 m62 c63] N.t_Factor) :: (cl r10 [.int .i64 (if 4 < (if ((q0_2l : Nat) : Int) < ((q0_1l : Nat) : Int) then ((q0_2l : Nat) : Int) else ((q0_1l : Nat) : Int)) then 4 else (if ((q0_2l : Nat) : Int) < ((q0_1l : Nat) : Int) then ((q0_2l : Nat) : Int) else ((q0_1l : Nat) : Int))), .int .i64 (if 4 < (if ((q0_2l : Nat) : Int) < ((q0_1l : Nat) : Int) then ((q0_2l : Nat) : Int) else ((q0_1l : Nat) : Int)) then 4 else (if ((q0_2l : Nat) : Int) < ((q0_1l : Nat) : Int) then ((q0_2l : Nat) : Int) else ((q0_1l : Nat) : Int))), .slice a82 m83 c84] N.t_Matrix) :: (sl a41 m42 c43 (List.map (Value.float .f64) ws44) N.t_float64) :: (sl a45 m46 c47 (List.map (Value.float .f64) ws48) N.t_float64) :: (sl a49 m50 c51 (List.map (Value.float .f64) ws52) N.t_float64) :: (sl a53 m54 c55 (List.map (Value.float .f64) ws56) N.t_float64) :: (sl a78 m79 c80 (List.map (Value.float .f64) ws81) N.t_float64) :: (sl a61 m62 c63 (List.map (Value.float .f64) ws64) N.t_float64) :: (sl a82 m83 c84 (List.map (Value.float .f64) ws85) N.t_float64) :: L)) ?_ h ⟨_, _, _, _, _, _, _, _, _, rfl, rfl, hS⟩
    clear h hS
    rintro s w t X q ⟨t30, a78, m79, c80, ws81, a82, m83, c84, ws85, rfl, rfl, hS⟩ h hX hO
    unfold T_w14_RefineScales_b13 at h
    try dsimp only
    refine cond_s h ?_ ?_ <;> intro hc h
    ·
     obtain ⟨o93, h93, c93⟩ := bnd h
     refine cutM_i (fun s w => ∃ (a86 : Option Addr) (c87 : Nat) (ws88 : List Nat) (a89 : Option Addr) (m90 : Nat) (c91 : Nat) (ws92 : List Nat), ((List.map nf ws88), (List.map nf ws92)) = o93 ∧ s = (()) ∧ Ho w0 w ((cl r11 [.int .i64 (if 4 < (if ((q0_2l : Nat) : Int) < ((q0_1l : Nat) : Int) then ((q0_2l : Nat) : Int) else ((q0_1l : Nat) : Int)) then 4 else (if ((q0_2l : Nat) : Int) < ((q0_1l : Nat) : Int) then ((q0_2l : Nat) : Int) else ((q0_1l : Nat) : Int))), .slice a89 m90 c91, .slice a61 m62 c63] N.t_Factor) :: (cl r10 [.int .i64 (if 4 < (if ((q0_2l : Nat) : Int) < ((q0_1l : Nat) : Int) then ((q0_2l : Nat) : Int) else ((q0_1l : Nat) : Int)) then 4 else (if ((q0_2l : Nat) : Int) < ((q0_1l : Nat) : Int) then ((q0_2l : Nat) : Int) else ((q0_1l : Nat) : Int))), .int .i64 (if 4 < (if ((q0_2l : Nat) : Int) < ((q0_1l : Nat) : Int) then ((q0_2l : Nat) : Int) else ((q0_1l : Nat) : Int)) then 4 else (if ((q0_2l : Nat) : Int) < ((q0_1l : Nat) : Int) then ((q0_2l : Nat) : Int) else ((q0_1l : Nat) : Int))), .slice a86 (m83 + 1) c87] N.t_Matrix) :: (sl a86 (m83 + 1) c87 (List.map (Value.float .f64) ws88) N.t_float64) :: (sl a41 m42 c43 (List.map (Value.float .f64) ws44) N.t_float64) :: (sl a45 m46 c47 (List.map (Value.float .f64) ws48) N.t_float64) :: (sl a49 m50 c51 (List.map (Value.float .f64) ws52) N.t_float64) :: (sl a53 m54 c55 (List.map (Value.float .f64) ws56) N.t_float64) :: (sl a61 m62 c63 (List.map (Value.float .f64) ws64) N.t_float64) :: (sl a89 m90 c91 (List.map (Value.float .f64) ws92) N.t_float64) :: L)) (fun J93 hJ93 => ?_) ?_
     ·
      have h := h93
      clear h93
      obtain ⟨t35, ht35, h⟩ := bnd h
      obtain rfl := lenE ht35 ((hq0_0.mono tl9).now (fun _ h => h) hS)
      obtain ⟨o94, h94, c94⟩ := bnd h
      refine cutM_i (fun s w => ∃ (t36 : Int), t36 = o94 ∧ s = (t36, ()) ∧ Ho w0 w ((cl r11 [.int .i64 (if 4 < (if ((q0_2l : Nat) : Int) < ((q0_1l : Nat) : Int) then ((q0_2l : Nat) : Int) else ((q0_1l : Nat) : Int)) then 4 else (if ((q0_2l : Nat) : Int) < ((q0_1l : Nat) : Int) then ((q0_2l : Nat) : Int) else ((q0_1l : Nat) : Int))), .slice a78 m79 c80, .slice a61 m62 c63] N.t_Factor) :: (cl r10 [.int .i64 (if 4 < (if ((q0_2l : Nat) : Int) < ((q0_1l : Nat) : Int) then ((q0_2l : Nat) : Int) else ((q0_1l : Nat) : Int)) then 4 else (if ((q0_2l : Nat) : Int) < ((q0_1l : Nat) : Int) then ((q0_2l : Nat) : Int) else ((q0_1l : Nat) : Int))), .int .i64 (if 4 < (if ((q0_2l : Nat) : Int) < ((q0_1l : Nat) : Int) then ((q0_2l : Nat) : Int) else ((q0_1l : Nat) : Int)) then 4 else (if ((q0_2l : Nat) : Int) < ((q0_1l : Nat) : Int) then ((q0_2l : Nat) : Int) else ((q0_1l : Nat) : Int))), .slice a82 m83 c84] N.t_Matrix) :: (sl a41 m42 c43 (List.map (Value.float .f64) ws44) N.t_float64) :: (sl a45 m46 c47 (List.map (Value.float .f64) ws48) N.t_float64) :: (sl a49 m50 c51 (List.map (Value.float .f64) ws52) N.t_float64) :: (sl a53 m54 c55 (List.map (Value.float .f64) ws56) N.t_float64) :: (sl a78 m79 c80 (List.map (Value.float .f64) ws81) N.t_float64) :: (sl a61 m62 c63 (List.map (Value.float .f64) ws64) N.t_float64) :: (sl a82 m83 c84 (List.map (Value.float .f64) ws85) N.t_float64) :: L)) (fun J94 hJ94 => ?_) ?_
      ·
       have h := h94
       clear h94
       refine cond_s h ?_ ?_ <;> intro hc h
       ·
        obtain ⟨t37, ht37, h⟩ := bnd h
        obtain ⟨q95x, q95l, q95r⟩ := atE ht37
        refine idx_s ((hq0_0.mono tl9).now (fun _ h => h) hS) q95x q95l q95r ?_; intro b96 hb96
        refine ⟨_, rd_get ((hq0_0.mono tl9).now (fun _ h => h) hS) hb96 q95x, ?_⟩
        refine ⟨by decide, ?_⟩
        obtain rfl := some_inj h
        exact hJ94 _ _ ⟨_, rfl, rfl, hS⟩
       obtain rfl := some_inj h
       exact hJ94 _ _ ⟨_, rfl, rfl, hS⟩
      clear h94 hS
      rintro s w ⟨t36, rfl, rfl, hS⟩
      have h := c94
      clear c94
      try dsimp only
      refine ⟨_, _, _, (hS.cel mp1 rfl), ?_⟩
      obtain ⟨t38, ht38, h⟩ := bnd h
      obtain rfl : (List.map nf ([(FloatKind.f64.nearest t36)] : List Nat)) = t38 := some_inj ht38
      refine lit_s (ks := [(FloatKind.f64.nearest t36)]) (enc := (Value.float .f64)) (m := 1) hS rfl rfl ?_; intro r97 w hS
      obtain ⟨t39, ht39, h⟩ := bnd h
      obtain ⟨rfl, kt39⟩ := appF ht39
      replace hS := ro9 hS
      refine app_s hS kt39 ((Ent.sl mp1).now (fun _ h => h) hS) (fun _ => rfl) rfl ?_; clear hS kt39; intro a98 c98 w hS
      replace hS := ro3 hS
      refine stc_s hS rfl rfl ?_; intro w hS
      obtain ⟨o103, h103, c103⟩ := bnd h
      refine cutM_i (fun s w => ∃ (a99 : Option Addr) (m100 : Nat) (c101 : Nat) (ws102 : List Nat), (List.map nf ws102) = o103 ∧ s = (()) ∧ Ho w0 w ((cl r11 [.int .i64 (if 4 < (if ((q0_2l : Nat) : Int) < ((q0_1l : Nat) : Int) then ((q0_2l : Nat) : Int) else ((q0_1l : Nat) : Int)) then 4 else (if ((q0_2l : Nat) : Int) < ((q0_1l : Nat) : Int) then ((q0_2l : Nat) : Int) else ((q0_1l : Nat) : Int))), .slice a99 m100 c101, .slice a61 m62 c63] N.t_Factor) :: (cl r10 [.int .i64 (if 4 < (if ((q0_2l : Nat) : Int) < ((q0_1l : Nat) : Int) then ((q0_2l : Nat) : Int) else ((q0_1l : Nat) : Int)) then 4 else (if ((q0_2l : Nat) : Int) < ((q0_1l : Nat) : Int) then ((q0_2l : Nat) : Int) else ((q0_1l : Nat) : Int))), .int .i64 (if 4 < (if ((q0_2l : Nat) : Int) < ((q0_1l : Nat) : Int) then ((q0_2l : Nat) : Int) else ((q0_1l : Nat) : Int)) then 4 else (if ((q0_2l : Nat) : Int) < ((q0_1l : Nat) : Int) then ((q0_2l : Nat) : Int) else ((q0_1l : Nat) : Int))), .slice a98 (m83 + 1) c98] N.t_Matrix) :: (sl a98 (m83 + 1) c98 (List.map (Value.float .f64) (ws85 ++ [(FloatKind.f64.nearest t36)])) N.t_float64) :: (sl a41 m42 c43 (List.map (Value.float .f64) ws44) N.t_float64) :: (sl a45 m46 c47 (List.map (Value.float .f64) ws48) N.t_float64) :: (sl a49 m50 c51 (List.map (Value.float .f64) ws52) N.t_float64) :: (sl a53 m54 c55 (List.map (Value.float .f64) ws56) N.t_float64) :: (sl a61 m62 c63 (List.map (Value.float .f64) ws64) N.t_float64) :: (sl a99 m100 c101 (List.map (Value.float .f64) ws102) N.t_float64) :: L)) (fun J103 hJ103 => ?_) ?_
      ·
       have h := h103
       clear h103
       refine cond_s h ?_ ?_ <;> intro hc h
       ·
        refine ⟨_, _, _, (hS.cel mp3 rfl), ?_⟩
        refine ⟨by decide, ?_⟩
        obtain ⟨t41, ht41, h⟩ := bnd h
        refine fdiv_s ht41 hS ?_; rintro z104 w rfl hS
        obtain ⟨t42, ht42, h⟩ := bnd h
        obtain rfl : (List.map nf ([z104] : List Nat)) = t42 := some_inj ht42
        refine lit_s (ks := [z104]) (enc := (Value.float .f64)) (m := 1) hS rfl rfl ?_; intro r105 w hS
        obtain ⟨t43, ht43, h⟩ := bnd h
        obtain ⟨rfl, kt43⟩ := appF ht43
        replace hS := ro9 hS
        refine app_s hS kt43 ((Ent.sl mp1).now (fun _ h => h) hS) (fun _ => rfl) rfl ?_; clear hS kt43; intro a106 c106 w hS
        replace hS := ro5 hS
        refine stc_s hS rfl rfl ?_; intro w hS
        obtain rfl := some_inj h
        exact hJ103 _ _ ⟨_, _, _, _, rfl, rfl, (hS.pick (A := [_, _, _, _, _, _, _, _, _, _, _]) [0, 2, 2, 3, 3, 3, 3, 3, 0] rfl)⟩
       obtain rfl := some_inj h
       exact hJ103 _ _ ⟨_, _, _, _, rfl, rfl, (hS.pick (A := [_, _, _, _, _, _, _, _, _, _]) [3, 0, 0, 1, 1, 1, 1, 2, 1] rfl)⟩
      clear h103 hS
      rintro s w ⟨a99, m100, c101, ws102, rfl, rfl, hS⟩
      have h := c103
      clear c103
      try dsimp only
      obtain rfl := some_inj h
      exact hJ93 _ _ ⟨_, _, _, _, _, _, _, rfl, rfl, hS⟩
     clear h93 hS
     rintro s w ⟨a86, c87, ws88, a89, m90, c91, ws92, rfl, rfl, hS⟩
     have h := c93
     clear c93
     try dsimp only
     obtain rfl := some_inj h
     exact hX _ rfl _ _ ⟨_, _, _, _, _, _, _, _, _, rfl, rfl, (hS.pick (A := [_, _, _, _, _, _, _, _, _]) [0, 0, 1, 1, 1, 1, 2, 1, 0] rfl)⟩
    obtain rfl := some_inj h
    have h := congrArg some (hO _ rfl)
    obtain rfl := some_inj h
    exact hJ77 _ _ ⟨_, _, _, _, _, _, _, _, rfl, rfl, hS⟩
   clear h77 hS
   rintro s w ⟨a69, m70, c71, ws72, a73, m74, c75, ws76, rfl, rfl, hS⟩
   have h := c77
   clear c77
   try dsimp only
   refine ⟨_, _, _, (hS.cel mp0 rfl), ?_⟩
   refine ⟨_, _, _, (hS.cel mp1 rfl), ?_⟩
   obtain ⟨t44, ht44, h⟩ := bnd h
   obtain ⟨z107, rfl, q108x, q108l, q108r⟩ := atF ht44
   refine idx_s ((Ent.sl mp8).now (fun _ h => h) hS) q108x q108l q108r ?_; intro b109 hb109
   refine ⟨_, rd_get ((Ent.sl mp8).now (fun _ h => h) hS) hb109 q108x, ?_⟩
   refine ⟨_, _, _, (hS.cel mp1 rfl), ?_⟩
   obtain ⟨t45, ht45, h⟩ := bnd h
   obtain ⟨z110, rfl, q111x, q111l, q111r⟩ := atF ht45
   refine idx_s ((Ent.sl mp8).now (fun _ h => h) hS) q111x q111l q111r ?_; intro b112 hb112
   refine ⟨_, rd_get ((Ent.sl mp8).now (fun _ h => h) hS) hb112 q111x, ?_⟩
   obtain ⟨t46, ht46, h⟩ := bnd h
   refine fmul_s ht46 hS ?_; clear ht46; rintro z113 _ rfl _
   obtain ⟨t47, ht47, h⟩ := bnd h
   refine fadd_s ht47 hS ?_; clear ht47; rintro z114 _ rfl _
   refine drM_s hS ?_; intro w hS
   obtain ⟨t48, ht48, h⟩ := bnd h
   obtain rfl : (List.map nf ([z114] : List Nat)) = t48 := some_inj ht48
   refine lit_s (ks := [z114]) (enc := (Value.float .f64)) (m := 1) hS rfl rfl ?_; intro r115 w hS
   refine ⟨(hS.cel mp1 rfl), ?_⟩
   refine drM_s hS ?_; intro w hS
   obtain ⟨t49, ht49, h⟩ := bnd h
   obtain ⟨rfl, kt49⟩ := appF ht49
   replace hS := ro8 hS
   refine app_s hS kt49 ((Ent.sl mp1).now (fun _ h => h) hS) (fun _ => rfl) rfl ?_; clear hS kt49; intro a116 c116 w hS
   refine drM_s hS ?_; intro w hS
   replace hS := ro2 hS
   refine stc_s hS rfl rfl ?_; intro w hS
   refine drM_s hS ?_; intro w hS
   obtain ⟨t50, ht50, h⟩ := bnd h
   obtain ⟨q117x, q117l, q117r⟩ := atE ht50
   refine idx_s ((hq0_1.mono tl10).now (fun _ h => h) hS) q117x q117l q117r ?_; intro b118 hb118
   refine ⟨_, rd_get ((hq0_1.mono tl10).now (fun _ h => h) hS) hb118 q117x, ?_⟩
   refine ⟨by decide, ?_⟩
   obtain ⟨t51, ht51, h⟩ := bnd h
   obtain ⟨q119x, q119l, q119r⟩ := atE ht51
   refine idx_s ((hq0_2.mono tl10).now (fun _ h => h) hS) q119x q119l q119r ?_; intro b120 hb120
   refine ⟨_, rd_get ((hq0_2.mono tl10).now (fun _ h => h) hS) hb120 q119x, ?_⟩
   refine ⟨by decide, ?_⟩
   refine drM_s hS ?_; intro w hS
   obtain ⟨t52, ht52, h⟩ := bnd h
   obtain rfl : (List.map nf ([(FloatKind.f64.nearest ((IntKind.i64.wrap t50).tmod 1048576))] : List Nat)) = t52 := some_inj ht52
   refine lit_s (ks := [(FloatKind.f64.nearest ((IntKind.i64.wrap t50).tmod 1048576))]) (enc := (Value.float .f64)) (m := 1) hS rfl rfl ?_; intro r121 w hS
   obtain ⟨t53, ht53, h⟩ := bnd h
   obtain ⟨rfl, kt53⟩ := appF ht53
   replace hS := ro5 hS
   refine app_s hS kt53 ((Ent.sl mp1).now (fun _ h => h) hS) (fun _ => rfl) rfl ?_; clear hS kt53; intro a122 c122 w hS
   obtain ⟨t54, ht54, h⟩ := bnd h
   obtain rfl : (List.map nf ([(FloatKind.f64.nearest ((IntKind.i64.wrap t51).tmod 1048576))] : List Nat)) = t54 := some_inj ht54
   refine lit_s (ks := [(FloatKind.f64.nearest ((IntKind.i64.wrap t51).tmod 1048576))]) (enc := (Value.float .f64)) (m := 1) hS rfl rfl ?_; intro r123 w hS
   obtain ⟨t55, ht55, h⟩ := bnd h
   obtain ⟨rfl, kt55⟩ := appF ht55
   replace hS := ro7 hS
   refine app_s hS kt55 ((Ent.sl mp1).now (fun _ h => h) hS) (fun _ => rfl) rfl ?_; clear hS kt55; intro a124 c124 w hS
   obtain ⟨t56, ht56, h⟩ := bnd h
   refine fmul_s ht56 hS ?_; rintro z125 w rfl hS
   obtain ⟨t57, ht57, h⟩ := bnd h
   obtain rfl : (List.map nf ([z125] : List Nat)) = t57 := some_inj ht57
   refine lit_s (ks := [z125]) (enc := (Value.float .f64)) (m := 1) hS rfl rfl ?_; intro r126 w hS
   obtain ⟨t58, ht58, h⟩ := bnd h
   obtain ⟨rfl, kt58⟩ := appF ht58
   replace hS := ro9 hS
   refine app_s hS kt58 ((Ent.sl mp1).now (fun _ h => h) hS) (fun _ => rfl) rfl ?_; clear hS kt58; intro a127 c127 w hS
   obtain ⟨t59, ht59, h⟩ := bnd h
   refine fmul_s ht59 hS ?_; rintro z128 w rfl hS
   obtain ⟨t60, ht60, h⟩ := bnd h
   obtain rfl : (List.map nf ([z128] : List Nat)) = t60 := some_inj ht60
   refine lit_s (ks := [z128]) (enc := (Value.float .f64)) (m := 1) hS rfl rfl ?_; intro r129 w hS
   obtain ⟨t61, ht61, h⟩ := bnd h
   obtain ⟨rfl, kt61⟩ := appF ht61
   replace hS := ro11 hS
   refine app_s hS kt61 ((Ent.sl mp1).now (fun _ h => h) hS) (fun _ => rfl) rfl ?_; clear hS kt61; intro a130 c130 w hS
   obtain rfl := some_inj h
   exact hX _ rfl _ _ ⟨_, _, _, _, _, _, _, _, _, _, _, _, _, _, _, _, _, _, _, _, _, _, _, _, _, _, _, _, _, rfl, rfl, (hS.pick (A := [_, _, _, _, _, _, _, _, _, _, _, _, _, _]) [8, 10, 6, 4, 2, 0, 6, 4, 5] rfl)⟩
  obtain rfl := some_inj h
  have h := congrArg some (hO _ rfl)
  obtain rfl := some_inj h
  exact hJ40 _ _ ⟨_, _, _, _, _, _, _, _, _, _, _, _, _, _, _, _, _, _, _, _, _, _, _, _, _, _, _, _, rfl, rfl, hS⟩
 clear h40 hS
 rintro s w ⟨a12, m13, c14, ws15, a16, m17, c18, ws19, a20, m21, c22, ws23, a24, m25, c26, ws27, a28, m29, c30, ws31, a32, m33, c34, ws35, a36, m37, c38, ws39, rfl, rfl, hS⟩
 have h := c40
 clear c40
 try dsimp only
 refine ⟨_, (hS.cel mp1 rfl), ?_⟩
 refine ⟨_, (hS.cel mp1 rfl), ?_⟩
 refine ⟨_, _, _, (hS.cel mp1 rfl), ?_⟩
 obtain ⟨⟨t62, t63⟩, ho62, h⟩ := bnd h
 refine wk_refine_Left H hS (Ent.sl mp8) (Ent.sl mp2) (Ent.sl mp3) (hG.mono tl9) ho62 ?_; clear hS ho62; rintro a131 m131 c131 ws131 w rfl hS
 refine ⟨_, _, _, _, rfl, ?_⟩
 refine ⟨_, (hS.cel mp2 rfl), ?_⟩
 refine ⟨_, (hS.cel mp2 rfl), ?_⟩
 refine ⟨_, _, _, (hS.cel mp2 rfl), ?_⟩
 obtain ⟨⟨t64, t65⟩, ho64, h⟩ := bnd h
 refine wk_refine_Left H hS (Ent.sl mp9) (Ent.sl mp5) (Ent.sl mp6) (hG.mono tl10) ho64 ?_; clear hS ho64; rintro a132 m132 c132 ws132 w rfl hS
 refine ⟨_, _, _, _, rfl, ?_⟩
 refine ⟨_, (hS.cel mp3 rfl), ?_⟩
 refine ⟨_, (hS.cel mp3 rfl), ?_⟩
 refine ⟨_, _, _, (hS.cel mp3 rfl), ?_⟩
 refine ⟨_, (hS.cel mp2 rfl), ?_⟩
 refine ⟨_, _, _, (hS.cel mp2 rfl), ?_⟩
 refine ⟨_, _, _, (hS.cel mp2 rfl), ?_⟩
 obtain ⟨⟨t66, t67⟩, ho66, h⟩ := bnd h
 refine wk_refine_Step H hS (Ent.sl mp10) (Ent.sl mp8) (Ent.sl mp9) (Ent.sl mp4) (Ent.sl mp5) (hG.mono tl11) ho66 ?_; clear hS ho66; rintro a133 m133 c133 ws133 w rfl hS
 refine ⟨_, _, _, _, rfl, ?_⟩
 refine ⟨_, (hS.cel mp4 rfl), ?_⟩
 refine ⟨_, (hS.cel mp4 rfl), ?_⟩
 refine ⟨_, _, _, (hS.cel mp4 rfl), ?_⟩
 refine ⟨_, (hS.cel mp3 rfl), ?_⟩
 refine ⟨_, _, _, (hS.cel mp3 rfl), ?_⟩
 refine ⟨_, _, _, (hS.cel mp3 rfl), ?_⟩
 obtain ⟨⟨t68, t69⟩, ho68, h⟩ := bnd h
 refine wk_refine_Step H hS (Ent.sl mp11) (Ent.sl mp9) (Ent.sl mp10) (Ent.sl mp7) (Ent.sl mp8) (hG.mono tl12) ho68 ?_; clear hS ho68; rintro a134 m134 c134 ws134 w rfl hS
 refine ⟨_, _, _, _, rfl, ?_⟩
 obtain ⟨o135, h135, c135⟩ := bnd h
 refine cutM_i (fun s w => ∃ (t70 : Bool), t70 = o135 ∧ s = (t70, ()) ∧ Ho w0 w ((sl a134 m134 c134 (List.map (Value.float .f64) ws134) N.t_float64) :: (sl a133 m133 c133 (List.map (Value.float .f64) ws133) N.t_float64) :: (sl a132 m132 c132 (List.map (Value.float .f64) ws132) N.t_float64) :: (sl a131 m131 c131 (List.map (Value.float .f64) ws131) N.t_float64) :: L)) (fun J135 hJ135 => ?_) ?_
 ·
  have h := h135
  clear h135
  refine cond_s h ?_ ?_ <;> intro hc h
  ·
   refine cond_s h ?_ ?_ <;> intro hc h
   ·
    refine cond_s h ?_ ?_ <;> intro hc h
    ·
     obtain rfl := some_inj h
     exact hJ135 _ _ ⟨_, rfl, rfl, (hS.pick (A := [_, _, _, _, _, _, _, _, _, _, _, _, _]) [0, 0, 0, 0] rfl)⟩
    obtain rfl := some_inj h
    exact hJ135 _ _ ⟨_, rfl, rfl, (hS.pick (A := [_, _, _, _, _, _, _, _, _, _, _, _, _]) [0, 0, 0, 0] rfl)⟩
   obtain rfl := some_inj h
   exact hJ135 _ _ ⟨_, rfl, rfl, (hS.pick (A := [_, _, _, _, _, _, _, _, _, _, _, _, _]) [0, 0, 0, 0] rfl)⟩
  obtain rfl := some_inj h
  exact hJ135 _ _ ⟨_, rfl, rfl, (hS.pick (A := [_, _, _, _, _, _, _, _, _, _, _, _, _]) [0, 0, 0, 0] rfl)⟩
 clear h135 hS
 rintro s w ⟨t70, rfl, rfl, hS⟩
 have h := c135
 clear c135
 try dsimp only
 refine cond_s h ?_ ?_ <;> intro hc h
 ·
  cases some_inj h
  exact hK _ (hS.pick (A := [_, _, _, _]) [] rfl)
 obtain ⟨t71, ht71, h⟩ := bnd h
 refine wk_vector_Scale H hS (Ent.sl mp3) ht71 ?_; rintro a136 m136 c136 ws136 w rfl hS
 refine ⟨_, _, _, rfl, ?_⟩
 obtain ⟨t72, ht72, h⟩ := bnd h
 refine wk_k_SameReals H hS (Ent.sl mp0) (Ent.sl mp3) ht72 ?_; rintro w hS
 refine ⟨_, rfl, ?_⟩
 refine cond_s h ?_ ?_ <;> intro hc h
 ·
  obtain ⟨t73, ht73, h⟩ := bnd h
  refine wk_vector_Scale H hS (Ent.sl mp2) ht73 ?_; rintro a137 m137 c137 ws137 w rfl hS
  refine ⟨_, _, _, rfl, ?_⟩
  obtain ⟨t74, ht74, h⟩ := bnd h
  refine wk_k_SameReals H hS (Ent.sl mp0) (Ent.sl mp2) ht74 ?_; rintro w hS
  refine ⟨_, rfl, ?_⟩
  cases some_inj h
  exact hK _ (hS.pick (A := [_, _, _, _, _, _]) [] rfl)
 cases some_inj h
 exact hK _ (hS.pick (A := [_, _, _, _, _]) [] rfl)
end Go.Eng
