/-
 Each function comes to what its function of plain Lean says, printed by a program of the session. No condition.
-/
import Derived.Test.YtdephdnkkljfeaaGreatDoorWk2
set_option linter.all false
set_option maxRecDepth 100000
set_option maxHeartbeats 4000000
namespace Go.Eng
open Go
variable {N : Nums} {P : Program} (H : AllOk N P) {w0 w : World} {L : List It} {K : Value → World → Prop}
include H
theorem wk_r14_Left {q0_0 q0_1 q0_2 q0_2l q0_2c ws0_2 q1 q1l q1c ws1 q2 q2l q2c ws2 u0 u1} (hS : Ho w0 w L) (hq0_2 : EF L ws0_2 q0_2 q0_2l q0_2c) (hq1 : EF L ws1 q1 q1l q1c) (hq2 : EF L ws2 q2 q2l q2c) (h : T_r14_Left q0_0 q0_1 (List.map nf ws0_2) (List.map nf ws1) (List.map nf ws2) = some (u0, u1)) (hK : ∀ (a0 : Option Addr) (n0 c0 : Nat) (rws0 : List Nat) (w1 : World), List.map nf rws0 = u0 → Ho w0 w1 ((sl a0 n0 c0 (List.map (Value.float .f64) rws0) N.t_float64) :: L) → K (.tuple #[.slice a0 n0 c0, .int .i64 u1]) w1) : CallsX P N.f_r14_Left #[.agg #[.int .i64 q0_0, .int .i64 q0_1, .slice q0_2 q0_2l q0_2c], .slice q1 q1l q1c, .slice q2 q2l q2c] w K := by
 refine H.r14_Left q0_0 q0_1 q0_2 q0_2l q0_2c q1 q1l q1c q2 q2l q2c w _ ?_
 unfold S_r14_Left
 unfold T_r14_Left at h
 try dsimp only
 refine newM_s hS ?_; intro r1 w hS
 refine ⟨_, (hS.cel mp0 rfl), ?_⟩
 refine ⟨_, (hS.cel mp0 rfl), ?_⟩
 refine ⟨_, _, _, (hS.cel mp0 rfl), ?_⟩
 obtain ⟨t1, ht1, h⟩ := bnd h
 refine wk_r14_fit H hS (hq0_2.mono tl1) (hq1.mono tl1) (hq2.mono tl1) ht1 ?_; rintro w hS
 refine ⟨_, rfl, ?_⟩
 refine cond_s h ?_ ?_ <;> intro hc h
 ·
  replace hS := hS.none (α := Nat) (enc := (Value.float .f64)) (t := N.t_float64)
  cases some_inj h
  exact hK _ _ _ _ _ rfl (hS.pick (A := [_, _]) [0] rfl)
 obtain ⟨o2, h2, c2⟩ := bnd h
 refine cutM_i (fun s w => ∃ (t2 : Bool), t2 = o2 ∧ s = (t2, ()) ∧ Ho w0 w ((cl r1 [.int .i64 q0_0, .int .i64 q0_1, .slice q0_2 q0_2l q0_2c] N.t_Matrix) :: L)) (fun J2 hJ2 => ?_) ?_
 ·
  have h := h2
  clear h2
  refine ⟨_, _, _, (hS.cel mp0 rfl), ?_⟩
  obtain ⟨t3, ht3, h⟩ := bnd h
  refine wk_r14_finite H hS (hq0_2.mono tl1) ht3 ?_; rintro w hS
  refine ⟨_, rfl, ?_⟩
  refine cond_s h ?_ ?_ <;> intro hc h
  ·
   obtain ⟨t4, ht4, h⟩ := bnd h
   refine wk_r14_finite H hS (hq1.mono tl1) ht4 ?_; rintro w hS
   refine ⟨_, rfl, ?_⟩
   refine cond_s h ?_ ?_ <;> intro hc h
   ·
    obtain ⟨t5, ht5, h⟩ := bnd h
    refine wk_r14_finite H hS (hq2.mono tl1) ht5 ?_; rintro w hS
    refine ⟨_, rfl, ?_⟩
    obtain rfl := some_inj h
    exact hJ2 _ _ ⟨_, rfl, rfl, hS⟩
   obtain rfl := some_inj h
   exact hJ2 _ _ ⟨_, rfl, rfl, hS⟩
  obtain rfl := some_inj h
  exact hJ2 _ _ ⟨_, rfl, rfl, hS⟩
 clear h2 hS
 rintro s w ⟨t2, rfl, rfl, hS⟩
 have h := c2
 clear c2
 try dsimp only
 refine cond_s h ?_ ?_ <;> intro hc h
 ·
  replace hS := hS.none (α := Nat) (enc := (Value.float .f64)) (t := N.t_float64)
  cases some_inj h
  exact hK _ _ _ _ _ rfl (hS.pick (A := [_, _]) [0] rfl)
 obtain ⟨o7, h7, c7⟩ := bnd h
 refine cutM_i (fun s w => ∃ (a3 : Option Addr) (m4 : Nat) (c5 : Nat) (ws6 : List Nat), (List.map nf ws6) = o7 ∧ s = ((a3, m4, c5), ()) ∧ Ho w0 w ((sl a3 m4 c5 (List.map (Value.float .f64) ws6) N.t_float64) :: L)) (fun J7 hJ7 => ?_) ?_
 ·
  have h := h7
  clear h7
  replace hS := hS.none (α := Nat) (enc := (Value.float .f64)) (t := N.t_float64)
  refine iter_sim (fun s w t => ∃ (t7 : Int) (a8 : Option Addr) (m9 : Nat) (c10 : Nat) (ws11 : List Nat), (t7, (List.map nf ws11)) = t ∧ s = ((a8, m9, c10), t7, ()) ∧ Ho w0 w ((cl r1 [.int .i64 q0_0, .int .i64 q0_1, .slice q0_2 q0_2l q0_2c] N.t_Matrix) :: (sl a8 m9 c10 (List.map (Value.float .f64) ws11) N.t_float64) :: L)) ?_ h ⟨_, _, _, _, _, rfl, rfl, (hS.pick (A := [_, _]) [1, 0] rfl)⟩
  clear h hS
  rintro s w t X q ⟨t7, a8, m9, c10, ws11, rfl, rfl, hS⟩ h hX hO
  unfold T_r14_Left_b7 at h
  try dsimp only
  refine ⟨_, (hS.cel mp0 rfl), ?_⟩
  refine cond_s h ?_ ?_ <;> intro hc h
  ·
   obtain ⟨t9, ht9, h⟩ := bnd h
   obtain ⟨z12, rfl, q13x, q13l, q13r⟩ := atF ht9
   refine idx_s ((hq2.mono tl2).now (fun _ h => h) hS) q13x q13l q13r ?_; intro b14 hb14
   refine ⟨_, rd_get ((hq2.mono tl2).now (fun _ h => h) hS) hb14 q13x, ?_⟩
   obtain ⟨⟨t10, t11, t12⟩, ho10, h⟩ := bnd h
   refine wk_r02_Float H hS  ho10 ?_; clear hS ho10; rintro a15 m15 c15 w hS
   refine ⟨_, _, _, _, _, rfl, ?_⟩
   refine newM_s hS ?_; intro r16 w hS
   refine stc_s hS rfl rfl ?_; intro w hS
   refine stc_s hS rfl rfl ?_; intro w hS
   refine stc_s hS rfl rfl ?_; intro w hS
   obtain ⟨o22, h22, c22⟩ := bnd h
   refine cutM_i (fun s w => ∃ (t13 : Bool) (t14 : Int) (a17 : Option Addr) (m18 : Nat) (c19 : Nat) (t15 : List Int) (it20 : It), (t13, t14, t15) = o22 ∧ s = (()) ∧ Ent (it20 :: L) (rdA (List.map (Value.int .u64) t15) a17 m18 c19) ∧ Ho w0 w ((cl r16 [.bool t13, .slice a17 m18 c19, .int .i64 t14] N.t_r02_Num) :: (cl r1 [.int .i64 q0_0, .int .i64 q0_1, .slice q0_2 q0_2l q0_2c] N.t_Matrix) :: (sl a8 m9 c10 (List.map (Value.float .f64) ws11) N.t_float64) :: it20 :: L)) (fun J22 hJ22 => ?_) ?_
   ·
    have h := h22
    clear h22
    refine iter_sim (fun s w t => ∃ (t16 : Int) (t17 : Bool) (t18 : Int) (a23 : Option Addr) (m24 : Nat) (c25 : Nat) (t19 : List Int) (it26 : It), (t16, t17, t18, t19) = t ∧ s = (t16, ()) ∧ Ent (it26 :: L) (rdA (List.map (Value.int .u64) t19) a23 m24 c25) ∧ Ho w0 w ((cl r16 [.bool t17, .slice a23 m24 c25, .int .i64 t18] N.t_r02_Num) :: (cl r1 [.int .i64 q0_0, .int .i64 q0_1, .slice q0_2 q0_2l q0_2c] N.t_Matrix) :: (sl a8 m9 c10 (List.map (Value.float .f64) ws11) N.t_float64) :: it26 :: L)) ?_ h ⟨_, _, _, _, _, _, _, _, rfl, rfl, (Ent.sl mp0), (hS.pick (A := [_, _, _, _]) [0, 1, 1, 0] rfl)⟩
    clear h hS
    rintro s w t X q ⟨t16, t17, t18, a23, m24, c25, t19, it26, rfl, rfl, e27, hS⟩ h hX hO
    unfold T_r14_Left_b9 at h
    try dsimp only
    refine ⟨_, (hS.cel mp1 rfl), ?_⟩
    refine cond_s h ?_ ?_ <;> intro hc h
    ·
     obtain ⟨o32, h32, c32⟩ := bnd h
     refine cutM_i (fun s w => ∃ (r28 : Nat) (t20 : Bool) (t21 : Int) (a29 : Option Addr) (m30 : Nat) (c31 : Nat) (t22 : List Int), (t20, t21, t22) = o32 ∧ s = ((some ⟨r28, 0, none⟩), ()) ∧ Ho w0 w ((cl r28 [.bool t20, .slice a29 m30 c31, .int .i64 t21] N.t_r02_Num) :: (sl a29 m30 c31 (List.map (Value.int .u64) t22) N.t_uint64) :: (cl r16 [.bool t17, .slice a23 m24 c25, .int .i64 t18] N.t_r02_Num) :: (cl r1 [.int .i64 q0_0, .int .i64 q0_1, .slice q0_2 q0_2l q0_2c] N.t_Matrix) :: (sl a8 m9 c10 (List.map (Value.float .f64) ws11) N.t_float64) :: it26 :: L)) (fun J32 hJ32 => ?_) ?_
     ·
      have h := h32
      clear h32
      refine ⟨_, _, _, (hS.cel mp1 rfl), ?_⟩
      refine ⟨_, (hS.cel mp1 rfl), ?_⟩
      obtain ⟨t23, ht23, h⟩ := bnd h
      obtain ⟨z33, rfl, q34x, q34l, q34r⟩ := atF ht23
      refine idx_s ((hq0_2.mono tl4).now (fun _ h => h) hS) q34x q34l q34r ?_; intro b35 hb35
      refine ⟨_, rd_get ((hq0_2.mono tl4).now (fun _ h => h) hS) hb35 q34x, ?_⟩
      obtain ⟨t24, ht24, h⟩ := bnd h
      obtain ⟨z36, rfl, q37x, q37l, q37r⟩ := atF ht24
      refine idx_s ((hq1.mono tl4).now (fun _ h => h) hS) q37x q37l q37r ?_; intro b38 hb38
      refine ⟨_, rd_get ((hq1.mono tl4).now (fun _ h => h) hS) hb38 q37x, ?_⟩
      refine ⟨?_, ?_⟩
      ·
       refine drM_s hS ?_; intro w hS
       obtain ⟨⟨t25, t26, t27⟩, ho25, h⟩ := bnd h
       refine wk_r02_Float H hS  ho25 ?_; clear hS ho25; rintro a39 m39 c39 w hS
       refine ⟨_, _, _, _, _, rfl, ?_⟩
       refine ⟨rd_get ((hq1.mono tl5).now (fun _ h => h) hS) hb38 q37x, ?_⟩
       refine ⟨?_, ?_⟩
       ·
        refine drM_s hS ?_; intro w hS
        obtain ⟨⟨t28, t29, t30⟩, ho28, h⟩ := bnd h
        refine wk_r02_Float H hS  ho28 ?_; clear hS ho28; rintro a40 m40 c40 w hS
        refine ⟨_, _, _, _, _, rfl, ?_⟩
        refine ⟨?_, ?_⟩
        ·
         refine drM_s hS ?_; intro w hS
         obtain ⟨⟨t31, t32, t33⟩, ho31, h⟩ := bnd h
         refine wk_r02_Times H hS (Ent.sl mp1) (Ent.sl mp0) ho31 ?_; clear hS ho31; rintro a41 m41 c41 w hS
         refine ⟨_, _, _, _, _, rfl, ?_⟩
         refine drM_s hS ?_; intro w hS
         refine newM_s hS ?_; intro r42 w hS
         refine drM_s hS ?_; intro w hS
         refine stc_s hS rfl rfl ?_; intro w hS
         refine stc_s hS rfl rfl ?_; intro w hS
         refine stc_s hS rfl rfl ?_; intro w hS
         refine drM_s hS ?_; intro w hS
         obtain rfl := some_inj h
         exact hJ32 _ _ ⟨_, _, _, _, _, _, _, rfl, rfl, (hS.pick (A := [_, _, _, _, _, _, _, _]) [0, 0, 2, 2, 2, 2] rfl)⟩
        refine drM_s hS ?_; intro w hS
        refine newM_s hS ?_; intro r43 w hS
        refine drM_s hS ?_; intro w hS
        obtain ⟨⟨t31, t32, t33⟩, ho31, h⟩ := bnd h
        refine wk_r02_Times H hS (Ent.sl mp2) (Ent.sl mp1) ho31 ?_; clear hS ho31; rintro a44 m44 c44 w hS
        refine ⟨_, _, _, _, _, rfl, ?_⟩
        refine drM_s hS ?_; intro w hS
        replace hS := ro1 hS
        refine stc_s hS rfl rfl ?_; intro w hS
        refine stc_s hS rfl rfl ?_; intro w hS
        refine stc_s hS rfl rfl ?_; intro w hS
        refine drM_s hS ?_; intro w hS
        obtain rfl := some_inj h
        exact hJ32 _ _ ⟨_, _, _, _, _, _, _, rfl, rfl, (hS.pick (A := [_, _, _, _, _, _, _, _]) [0, 0, 2, 2, 2, 2] rfl)⟩
       refine drM_s hS ?_; intro w hS
       refine newM_s hS ?_; intro r45 w hS
       refine ⟨rd_get ((hq1.mono tl6).now (fun _ h => h) hS) hb38 q37x, ?_⟩
       refine drM_s hS ?_; intro w hS
       obtain ⟨⟨t28, t29, t30⟩, ho28, h⟩ := bnd h
       refine wk_r02_Float H hS  ho28 ?_; clear hS ho28; rintro a46 m46 c46 w hS
       refine ⟨_, _, _, _, _, rfl, ?_⟩
       refine drM_s hS ?_; intro w hS
       obtain ⟨⟨t31, t32, t33⟩, ho31, h⟩ := bnd h
       refine wk_r02_Times H hS (Ent.sl mp2) (Ent.sl mp0) ho31 ?_; clear hS ho31; rintro a47 m47 c47 w hS
       refine ⟨_, _, _, _, _, rfl, ?_⟩
       refine drM_s hS ?_; intro w hS
       replace hS := ro2 hS
       refine stc_s hS rfl rfl ?_; intro w hS
       refine stc_s hS rfl rfl ?_; intro w hS
       refine stc_s hS rfl rfl ?_; intro w hS
       refine drM_s hS ?_; intro w hS
       obtain rfl := some_inj h
       exact hJ32 _ _ ⟨_, _, _, _, _, _, _, rfl, rfl, (hS.pick (A := [_, _, _, _, _, _, _, _]) [0, 0, 2, 2, 2, 2] rfl)⟩
      refine drM_s hS ?_; intro w hS
      refine newM_s hS ?_; intro r48 w hS
      refine ⟨rd_get ((hq1.mono tl5).now (fun _ h => h) hS) hb38 q37x, ?_⟩
      refine ⟨rd_get ((hq0_2.mono tl5).now (fun _ h => h) hS) hb35 q34x, ?_⟩
      refine ⟨(hS.cel mp2 rfl), ?_⟩
      refine ⟨(hS.cel mp2 rfl), ?_⟩
      refine drM_s hS ?_; intro w hS
      obtain ⟨⟨t25, t26, t27⟩, ho25, h⟩ := bnd h
      refine wk_r02_Float H hS  ho25 ?_; clear hS ho25; rintro a49 m49 c49 w hS
      refine ⟨_, _, _, _, _, rfl, ?_⟩
      refine ⟨rd_get ((hq1.mono tl6).now (fun _ h => h) hS) hb38 q37x, ?_⟩
      refine drM_s hS ?_; intro w hS
      obtain ⟨⟨t28, t29, t30⟩, ho28, h⟩ := bnd h
      refine wk_r02_Float H hS  ho28 ?_; clear hS ho28; rintro a50 m50 c50 w hS
      refine ⟨_, _, _, _, _, rfl, ?_⟩
      refine drM_s hS ?_; intro w hS
      obtain ⟨⟨t31, t32, t33⟩, ho31, h⟩ := bnd h
      refine wk_r02_Times H hS (Ent.sl mp1) (Ent.sl mp0) ho31 ?_; clear hS ho31; rintro a51 m51 c51 w hS
      refine ⟨_, _, _, _, _, rfl, ?_⟩
      refine drM_s hS ?_; intro w hS
      replace hS := ro3 hS
      refine stc_s hS rfl rfl ?_; intro w hS
      refine stc_s hS rfl rfl ?_; intro w hS
      refine stc_s hS rfl rfl ?_; intro w hS
      refine drM_s hS ?_; intro w hS
      obtain rfl := some_inj h
      exact hJ32 _ _ ⟨_, _, _, _, _, _, _, rfl, rfl, (hS.pick (A := [_, _, _, _, _, _, _, _]) [0, 0, 2, 2, 2, 2] rfl)⟩
     clear h32 hS
     rintro s w ⟨r28, t20, t21, a29, m30, c31, t22, rfl, rfl, hS⟩
     have h := c32
     clear c32
     try dsimp only
     refine ⟨_, (hS.cel mp2 rfl), ?_⟩
     refine ⟨_, _, _, (hS.cel mp2 rfl), ?_⟩
     refine ⟨_, (hS.cel mp2 rfl), ?_⟩
     refine optM_s ?_
     refine ⟨_, (hS.cel mp0 rfl), ?_⟩
     refine ⟨_, _, _, (hS.cel mp0 rfl), ?_⟩
     refine ⟨_, (hS.cel mp0 rfl), ?_⟩
     refine drM_s hS ?_; intro w hS
     obtain ⟨⟨t34, t35, t36⟩, ho34, h⟩ := bnd h
     refine wk_r02_Minus H hS (Ent.sl mp1) ho34 ?_; clear hS ho34; rintro w rfl hS
     refine ⟨_, _, _, _, _, rfl, ?_⟩
     refine ⟨(hS.cel mp2 rfl), ?_⟩
     refine ⟨(hS.cel mp2 rfl), ?_⟩
     refine ⟨(hS.cel mp2 rfl), ?_⟩
     refine drM_s hS ?_; intro w hS
     obtain ⟨⟨t37, t38, t39⟩, ho37, h⟩ := bnd h
     refine wk_r02_Plus H hS (e27.mono (incl_cons mp5 tl6)) (Ent.sl mp1) ho37 ?_; clear hS ho37; rintro it53 a53 m53 c53 w e53 hS
     refine ⟨_, _, _, _, _, rfl, ?_⟩
     refine drM_s hS ?_; intro w hS
     replace hS := ro3 hS
     refine stc_s hS rfl rfl ?_; intro w hS
     refine stc_s hS rfl rfl ?_; intro w hS
     refine stc_s hS rfl rfl ?_; intro w hS
     refine drM_s hS ?_; intro w hS
     replace hS := ro3 hS
     replace hS := ro6 hS
     replace hS := ro3 hS
     replace hS := hS.both
     replace hS := hS.both
     obtain rfl := some_inj h
     exact hX _ rfl _ _ ⟨_, _, _, _, _, _, _, _, rfl, rfl, (e53 _ mp0 (e27.mono (incl_cons mp1 tl3)) (Ent.sl mp2)).both.both, (hS.pick (A := [_, _, _, _, _]) [1, 2, 2, 0] rfl)⟩
    obtain rfl := some_inj h
    have h := congrArg some (hO _ rfl)
    obtain rfl := some_inj h
    exact hJ22 _ _ ⟨_, _, _, _, _, _, _, rfl, rfl, e27, hS⟩
   clear h22 hS
   rintro s w ⟨t13, t14, a17, m18, c19, t15, it20, rfl, rfl, e21, hS⟩
   have h := c22
   clear c22
   try dsimp only
   refine ⟨_, (hS.cel mp0 rfl), ?_⟩
   refine ⟨_, _, _, (hS.cel mp0 rfl), ?_⟩
   refine ⟨_, (hS.cel mp0 rfl), ?_⟩
   obtain ⟨t40, ht40, h⟩ := bnd h
   refine wk_r02_Rounded H hS (e21.mono (incl_cons mp3 tl4)) ht40 ?_; rintro z54 w rfl hS
   refine ⟨_, rfl, ?_⟩
   obtain ⟨t41, ht41, h⟩ := bnd h
   obtain rfl : (List.map nf ([z54] : List Nat)) = t41 := some_inj ht41
   refine lit_s (ks := [z54]) (enc := (Value.float .f64)) (m := 1) hS rfl rfl ?_; intro r55 w hS
   obtain ⟨t42, ht42, h⟩ := bnd h
   obtain ⟨rfl, kt42⟩ := appF ht42
   replace hS := ro3 hS
   refine app_s hS kt42 ((Ent.sl mp1).now (fun _ h => h) hS) (fun _ => rfl) rfl ?_; clear hS kt42; intro a56 c56 w hS
   obtain rfl := some_inj h
   exact hX _ rfl _ _ ⟨_, _, _, _, _, rfl, rfl, (hS.pick (A := [_, _, _, _, _]) [3, 0] rfl)⟩
  obtain rfl := some_inj h
  have h := congrArg some (hO _ rfl)
  obtain rfl := some_inj h
  exact hJ7 _ _ ⟨_, _, _, _, rfl, rfl, (hS.pick (A := [_, _]) [1] rfl)⟩
 clear h7 hS
 rintro s w ⟨a3, m4, c5, ws6, rfl, rfl, hS⟩
 have h := c7
 clear c7
 try dsimp only
 obtain ⟨t43, ht43, h⟩ := bnd h
 refine wk_r14_finite H hS (Ent.sl mp0) ht43 ?_; rintro w hS
 refine ⟨_, rfl, ?_⟩
 refine cond_s h ?_ ?_ <;> intro hc h
 ·
  replace hS := hS.none (α := Nat) (enc := (Value.float .f64)) (t := N.t_float64)
  cases some_inj h
  exact hK _ _ _ _ _ rfl (hS.pick (A := [_, _]) [0] rfl)
 cases some_inj h
 exact hK _ _ _ _ _ rfl hS
theorem wk_k_SameFloat {q0 q1 u0} (hS : Ho w0 w L)  (hx : T_k_SameFloat (nf q0) (nf q1) = some u0) (hK : ∀ w1, Ho w0 w1 L → K (.bool u0) w1) : CallsX P N.f_k_SameFloat #[.float .f64 q0, .float .f64 q1] w K := by
 unfold T_k_SameFloat at hx
 have hx := some_inj hx
 subst hx
 refine (sameFloat_c H q0 q1 w).mono ?_
 rintro _ w1 ⟨rfl, h1⟩
 exact hK _ (hS.next h1)
theorem wk_k_SameReals {q0 q0l q0c ws0 q1 q1l q1c ws1 u0} (hS : Ho w0 w L) (hq0 : EF L ws0 q0 q0l q0c) (hq1 : EF L ws1 q1 q1l q1c) (h : T_k_SameReals (List.map nf ws0) (List.map nf ws1) = some u0) (hK : ∀ w1, Ho w0 w1 L → K (.bool u0) w1) : CallsX P N.f_k_SameReals #[.slice q0 q0l q0c, .slice q1 q1l q1c] w K := by
 refine H.k_SameReals q0 q0l q0c q1 q1l q1c w _ ?_
 unfold S_k_SameReals
 unfold T_k_SameReals at h
 try dsimp only
 obtain ⟨t1, ht1, h⟩ := bnd h
 obtain rfl := lenF ht1 (hq0.now (fun _ h => h) hS)
 obtain ⟨t2, ht2, h⟩ := bnd h
 obtain rfl := lenF ht2 (hq1.now (fun _ h => h) hS)
 refine cond_s h ?_ ?_ <;> intro hc h
 ·
  cases some_inj h
  exact hK _ hS
 obtain ⟨o1, h1, c1⟩ := bnd h
 refine cutM_i (fun s w =>  .inl () = o1 ∧ s = (()) ∧ Ho w0 w L) (fun J1 hJ1 => ?_) ?_
 ·
  have h := h1
  clear h1
  refine iter_sim (fun s w t => ∃ (t3 : Int), t3 = t ∧ s = (t3, ()) ∧ Ho w0 w L) ?_ h ⟨_, rfl, rfl, hS⟩
  clear h hS
  rintro s w t X q ⟨t3, rfl, rfl, hS⟩ h hX hO
  unfold T_k_SameReals_b2 at h
  try dsimp only
  obtain ⟨t4, ht4, h⟩ := bnd h
  obtain rfl := lenF ht4 (hq0.now (fun _ h => h) hS)
  refine cond_s h ?_ ?_ <;> intro hc h
  ·
   obtain ⟨t5, ht5, h⟩ := bnd h
   obtain ⟨z2, rfl, q3x, q3l, q3r⟩ := atF ht5
   refine idx_s (hq0.now (fun _ h => h) hS) q3x q3l q3r ?_; intro b4 hb4
   refine ⟨_, rd_get (hq0.now (fun _ h => h) hS) hb4 q3x, ?_⟩
   obtain ⟨t6, ht6, h⟩ := bnd h
   obtain ⟨z5, rfl, q6x, q6l, q6r⟩ := atF ht6
   refine idx_s (hq1.now (fun _ h => h) hS) q6x q6l q6r ?_; intro b7 hb7
   refine ⟨_, rd_get (hq1.now (fun _ h => h) hS) hb7 q6x, ?_⟩
   refine drM_s hS ?_; intro w hS
   obtain ⟨t7, ht7, h⟩ := bnd h
   refine wk_k_SameFloat H hS  ht7 ?_; rintro w hS
   refine ⟨_, rfl, ?_⟩
   refine drM_s hS ?_; intro w hS
   refine cond_s h ?_ ?_ <;> intro hc h
   ·
    obtain rfl := some_inj h
    have h := congrArg some (hO _ rfl)
    obtain rfl := some_inj h
    have h := c1
    cases some_inj h
    exact hK _ hS
   obtain rfl := some_inj h
   exact hX _ rfl _ _ ⟨_, rfl, rfl, hS⟩
  obtain rfl := some_inj h
  have h := congrArg some (hO _ rfl)
  obtain rfl := some_inj h
  exact hJ1 _ _ ⟨rfl, rfl, hS⟩
 clear h1 hS
 rintro s w ⟨rfl, rfl, hS⟩
 have h := c1
 clear c1
 try dsimp only
 cases some_inj h
 exact hK _ hS
theorem wk_k_SameMatrix {q0_0 q0_1 q0_2 q0_2l q0_2c ws0_2 q1_0 q1_1 q1_2 q1_2l q1_2c ws1_2 u0} (hS : Ho w0 w L) (hq0_2 : EF L ws0_2 q0_2 q0_2l q0_2c) (hq1_2 : EF L ws1_2 q1_2 q1_2l q1_2c) (h : T_k_SameMatrix q0_0 q0_1 (List.map nf ws0_2) q1_0 q1_1 (List.map nf ws1_2) = some u0) (hK : ∀ w1, Ho w0 w1 L → K (.bool u0) w1) : CallsX P N.f_k_SameMatrix #[.agg #[.int .i64 q0_0, .int .i64 q0_1, .slice q0_2 q0_2l q0_2c], .agg #[.int .i64 q1_0, .int .i64 q1_1, .slice q1_2 q1_2l q1_2c]] w K := by
 refine H.k_SameMatrix q0_0 q0_1 q0_2 q0_2l q0_2c q1_0 q1_1 q1_2 q1_2l q1_2c w _ ?_
 unfold S_k_SameMatrix
 unfold T_k_SameMatrix at h
 try dsimp only
 refine newM_s hS ?_; intro r1 w hS
 refine newM_s hS ?_; intro r2 w hS
 refine ⟨_, (hS.cel mp1 rfl), ?_⟩
 refine ⟨_, (hS.cel mp0 rfl), ?_⟩
 refine cond_s h ?_ ?_ <;> intro hc h
 ·
  refine ⟨_, (hS.cel mp1 rfl), ?_⟩
  refine ⟨_, (hS.cel mp0 rfl), ?_⟩
  refine cond_s h ?_ ?_ <;> intro hc h
  ·
   refine ⟨_, _, _, (hS.cel mp1 rfl), ?_⟩
   refine ⟨_, _, _, (hS.cel mp0 rfl), ?_⟩
   obtain ⟨t1, ht1, h⟩ := bnd h
   refine wk_k_SameReals H hS (hq0_2.mono tl2) (hq1_2.mono tl2) ht1 ?_; rintro w hS
   refine ⟨_, rfl, ?_⟩
   cases some_inj h
   exact hK _ (hS.pick (A := [_, _]) [] rfl)
  cases some_inj h
  exact hK _ (hS.pick (A := [_, _]) [] rfl)
 cases some_inj h
 exact hK _ (hS.pick (A := [_, _]) [] rfl)
theorem wk_k_KeptReals {q0 q0l q1 q1l q1c ws1 u0} (hS : Ho w0 w L) (hq0 : Ent L (rdA (List.map (Value.float .f64) (ws1 ++ marks)) q0 (q0l + 12) (q0l + 12))) (hq1 : EF L ws1 q1 q1l q1c) (hx : T_k_KeptReals (List.map nf ws1) (List.map nf ws1) = some u0) (hK : ∀ w1, Ho w0 w1 L → K (.bool u0) w1) : CallsX P N.f_k_KeptReals #[.slice q0 q0l (q0l + 12), .slice q1 q1l q1c] w K := by
 unfold T_k_KeptReals at hx
 have hd : (List.map nf ws1).length ≤ 4294967000 := by
  rcases Nat.lt_or_ge 4294967000 (List.map nf ws1).length with h | h
  ·
   rw [decide_eq_false (by omega)] at hx; cases hx
  exact h
 rw [decide_eq_true hd] at hx
 have hx := some_inj hx
 subst hx
 have r1 := (hq1.now (fun _ h => h) hS).reals
 have r0 := (hq0.now (fun _ h => h) hS).reals
 have e : q0l = q1l := by have := r1.len; have := r0.len; simp [marks] at this; omega
 subst e
 refine (keptReals_c H r0 r1 (by have := r1.len; simp at hd; omega)).mono ?_
 rintro _ w1 ⟨rfl, h1⟩
 exact hK _ (hS.next h1)
theorem wk_k_KeptMatrix {q0_0 q0_1 q0_2 q0_2l q1_0 q1_1 q1_2 q1_2l q1_2c ws1_2 u0} (hS : Ho w0 w L) (hq0_2 : Ent L (rdA (List.map (Value.float .f64) (ws1_2 ++ marks)) q0_2 (q0_2l + 12) (q0_2l + 12))) (hq1_2 : EF L ws1_2 q1_2 q1_2l q1_2c) (h : T_k_KeptMatrix q0_0 q0_1 (List.map nf ws1_2) q1_0 q1_1 (List.map nf ws1_2) = some u0) (hK : ∀ w1, Ho w0 w1 L → K (.bool u0) w1) : CallsX P N.f_k_KeptMatrix #[.agg #[.int .i64 q0_0, .int .i64 q0_1, .slice q0_2 q0_2l (q0_2l + 12)], .agg #[.int .i64 q1_0, .int .i64 q1_1, .slice q1_2 q1_2l q1_2c]] w K := by
 refine H.k_KeptMatrix q0_0 q0_1 q0_2 q0_2l (q0_2l + 12) q1_0 q1_1 q1_2 q1_2l q1_2c w _ ?_
 unfold S_k_KeptMatrix
 unfold T_k_KeptMatrix at h
 try dsimp only
 refine newM_s hS ?_; intro r1 w hS
 refine newM_s hS ?_; intro r2 w hS
 refine ⟨_, (hS.cel mp1 rfl), ?_⟩
 refine ⟨_, (hS.cel mp1 rfl), ?_⟩
 refine ⟨_, _, _, (hS.cel mp1 rfl), ?_⟩
 refine ⟨_, (hS.cel mp0 rfl), ?_⟩
 refine ⟨_, (hS.cel mp0 rfl), ?_⟩
 refine ⟨_, _, _, (hS.cel mp0 rfl), ?_⟩
 obtain ⟨t1, ht1, h⟩ := bnd h
 refine wk_k_SameMatrix H hS (Ent.lent (hq0_2.mono tl2) rfl rfl) (hq1_2.mono tl2) ht1 ?_; rintro w hS
 refine ⟨_, rfl, ?_⟩
 refine cond_s h ?_ ?_ <;> intro hc h
 ·
  refine ⟨_, _, _, (hS.cel mp1 rfl), ?_⟩
  refine ⟨_, _, _, (hS.cel mp0 rfl), ?_⟩
  obtain ⟨t2, ht2, h⟩ := bnd h
  refine wk_k_KeptReals H hS (hq0_2.mono tl2) (hq1_2.mono tl2) ht2 ?_; rintro w hS
  refine ⟨_, rfl, ?_⟩
  cases some_inj h
  exact hK _ (hS.pick (A := [_, _]) [] rfl)
 cases some_inj h
 exact hK _ (hS.pick (A := [_, _]) [] rfl)
theorem wk_w14_RefineLefts {q0_0 q0_1 q0_2 q0_2l q0_2c ws0_2 q1 q1l q1c ws1 q2 q2l q2c ws2 u0} (hS : Ho w0 w L) (hq0_2 : EF L ws0_2 q0_2 q0_2l q0_2c) (hq1 : EF L ws1 q1 q1l q1c) (hq2 : EF L ws2 q2 q2l q2c) (hG : Ent L (tab64 N.g_1)) (h : T_w14_RefineLefts q0_0 q0_1 (List.map nf ws0_2) (List.map nf ws1) (List.map nf ws2) = some u0) (hK : ∀ w1, Ho w0 w1 L → K (.bool u0) w1) : CallsX P N.f_w14_RefineLefts #[.agg #[.int .i64 q0_0, .int .i64 q0_1, .slice q0_2 q0_2l q0_2c], .slice q1 q1l q1c, .slice q2 q2l q2c] w K := by
 refine H.w14_RefineLefts q0_0 q0_1 q0_2 q0_2l q0_2c q1 q1l q1c q2 q2l q2c w _ ?_
 unfold S_w14_RefineLefts
 unfold T_w14_RefineLefts at h
 try dsimp only
 refine newM_s hS ?_; intro r1 w hS
 obtain ⟨t1, ht1, h⟩ := bnd h
 refine wk_w14_awake H hS (hG.mono tl1) ht1 ?_; rintro w hS
 refine ⟨_, rfl, ?_⟩
 refine cond_s h ?_ ?_ <;> intro hc h
 ·
  cases some_inj h
  exact hK _ (hS.pick (A := [_]) [] rfl)
 obtain ⟨o2, h2, c2⟩ := bnd h
 refine cutM_i (fun s w => ∃ (t2 : Bool), t2 = o2 ∧ s = (t2, ()) ∧ Ho w0 w ((cl r1 [.int .i64 q0_0, .int .i64 q0_1, .slice q0_2 q0_2l q0_2c] N.t_Matrix) :: L)) (fun J2 hJ2 => ?_) ?_
 ·
  have h := h2
  clear h2
  refine ⟨_, (hS.cel mp0 rfl), ?_⟩
  refine ⟨_, (hS.cel mp0 rfl), ?_⟩
  refine ⟨_, _, _, (hS.cel mp0 rfl), ?_⟩
  obtain ⟨t3, ht3, h⟩ := bnd h
  refine wk_w14_great H hS (hq0_2.mono tl1) ht3 ?_; rintro w hS
  refine ⟨_, rfl, ?_⟩
  refine cond_s h ?_ ?_ <;> intro hc h
  ·
   obtain ⟨t4, ht4, h⟩ := bnd h
   obtain rfl := lenF ht4 ((hq1.mono tl1).now (fun _ h => h) hS)
   refine cond_s h ?_ ?_ <;> intro hc h
   ·
    obtain ⟨t5, ht5, h⟩ := bnd h
    obtain rfl := lenF ht5 ((hq2.mono tl1).now (fun _ h => h) hS)
    obtain rfl := some_inj h
    exact hJ2 _ _ ⟨_, rfl, rfl, hS⟩
   obtain rfl := some_inj h
   exact hJ2 _ _ ⟨_, rfl, rfl, hS⟩
  obtain rfl := some_inj h
  exact hJ2 _ _ ⟨_, rfl, rfl, hS⟩
 clear h2 hS
 rintro s w ⟨t2, rfl, rfl, hS⟩
 have h := c2
 clear c2
 try dsimp only
 refine cond_s h ?_ ?_ <;> intro hc h
 ·
  cases some_inj h
  exact hK _ (hS.pick (A := [_]) [] rfl)
 refine ⟨_, (hS.cel mp0 rfl), ?_⟩
 refine ⟨_, (hS.cel mp0 rfl), ?_⟩
 refine ⟨_, _, _, (hS.cel mp0 rfl), ?_⟩
 obtain ⟨⟨t6, t7, t8⟩, ho6, h⟩ := bnd h
 refine wk_k_LentMatrix H hS (hq0_2.mono tl1) ho6 ?_; clear hS ho6; rintro r3 w rfl hS
 refine ⟨_, _, _, _, _, rfl, ?_⟩
 obtain ⟨t9, ht9, h⟩ := bnd h
 refine wk_k_LentReals H hS (hq1.mono tl2) ht9 ?_; rintro r4 w rfl hS
 refine ⟨_, _, _, rfl, ?_⟩
 obtain ⟨t10, ht10, h⟩ := bnd h
 refine wk_k_LentReals H hS (hq2.mono tl3) ht10 ?_; rintro r5 w rfl hS
 refine ⟨_, _, _, rfl, ?_⟩
 refine newM_s hS ?_; intro r6 w hS
 refine stc_s hS rfl rfl ?_; intro w hS
 refine stc_s hS rfl rfl ?_; intro w hS
 refine stc_s hS rfl rfl ?_; intro w hS
 refine ⟨_, (hS.cel mp0 rfl), ?_⟩
 refine ⟨_, (hS.cel mp0 rfl), ?_⟩
 refine ⟨_, _, _, (hS.cel mp0 rfl), ?_⟩
 obtain ⟨⟨t11, t12⟩, ho11, h⟩ := bnd h
 refine wk_refine_Left H hS (Ent.lent (Ent.sl mp3) rfl rfl) (Ent.lent (Ent.sl mp2) rfl rfl) (Ent.lent (Ent.sl mp1) rfl rfl) (hG.mono tl5) ho11 ?_; clear hS ho11; rintro a7 m7 c7 ws7 w rfl hS
 refine ⟨_, _, _, _, rfl, ?_⟩
 refine ⟨_, (hS.cel mp5 rfl), ?_⟩
 refine ⟨_, (hS.cel mp5 rfl), ?_⟩
 refine ⟨_, _, _, (hS.cel mp5 rfl), ?_⟩
 obtain ⟨⟨t13, t14⟩, ho13, h⟩ := bnd h
 refine wk_r14_Left H hS (hq0_2.mono tl6) (hq1.mono tl6) (hq2.mono tl6) ho13 ?_; clear hS ho13; rintro a8 m8 c8 ws8 w rfl hS
 refine ⟨_, _, _, _, rfl, ?_⟩
 refine cond_s h ?_ ?_ <;> intro hc h
 ·
  obtain ⟨t15, ht15, h⟩ := bnd h
  refine wk_k_SameReals H hS (Ent.sl mp1) (Ent.sl mp0) ht15 ?_; rintro w hS
  refine ⟨_, rfl, ?_⟩
  refine cond_s h ?_ ?_ <;> intro hc h
  ·
   refine ⟨_, (hS.cel mp2 rfl), ?_⟩
   refine ⟨_, (hS.cel mp2 rfl), ?_⟩
   refine ⟨_, _, _, (hS.cel mp2 rfl), ?_⟩
   refine ⟨_, (hS.cel mp6 rfl), ?_⟩
   refine ⟨_, (hS.cel mp6 rfl), ?_⟩
   refine ⟨_, _, _, (hS.cel mp6 rfl), ?_⟩
   obtain ⟨t16, ht16, h⟩ := bnd h
   refine wk_k_KeptMatrix H hS (Ent.sl mp5) (hq0_2.mono tl7) ht16 ?_; rintro w hS
   refine ⟨_, rfl, ?_⟩
   refine cond_s h ?_ ?_ <;> intro hc h
   ·
    obtain ⟨t17, ht17, h⟩ := bnd h
    refine wk_k_KeptReals H hS (Ent.sl mp4) (hq1.mono tl7) ht17 ?_; rintro w hS
    refine ⟨_, rfl, ?_⟩
    refine cond_s h ?_ ?_ <;> intro hc h
    ·
     obtain ⟨t18, ht18, h⟩ := bnd h
     refine wk_k_KeptReals H hS (Ent.sl mp3) (hq2.mono tl7) ht18 ?_; rintro w hS
     refine ⟨_, rfl, ?_⟩
     cases some_inj h
     exact hK _ (hS.pick (A := [_, _, _, _, _, _, _]) [] rfl)
    cases some_inj h
    exact hK _ (hS.pick (A := [_, _, _, _, _, _, _]) [] rfl)
   cases some_inj h
   exact hK _ (hS.pick (A := [_, _, _, _, _, _, _]) [] rfl)
  cases some_inj h
  exact hK _ (hS.pick (A := [_, _, _, _, _, _, _]) [] rfl)
 cases some_inj h
 exact hK _ (hS.pick (A := [_, _, _, _, _, _, _]) [] rfl)
end Go.Eng
