/-
 Each function comes to what its function of plain Lean says, printed by a program of the session. No condition.
-/
import Derived.Test.YtmecjaojkegamaaGreatDoorTpA
import Derived.Test.YtmecjaojkegamaaGreatDoorSh
import Derived.Test.YtmecjaojkegamaaGreatDoorBgC
set_option linter.unusedSimpArgs false
set_option linter.unnecessarySimpa false
set_option linter.unusedSectionVars false
set_option linter.unusedVariables false
set_option maxRecDepth 100000
set_option maxHeartbeats 4000000
namespace Go.Eng
open Go

theorem wk_bignum_trim {N : Nums} {P : Program} (H : AllOk N P) {w0 w : World} {L : List It} {q0 : Option Addr} {q0l q0c : Nat} {l0 : List Int} {u0b : Int} (hS : Ho w0 w (L)) (hq0 : Ent L (rdA (List.map (Value.int .u32) l0) q0 q0l q0c)) (hx : T_bignum_trim l0 = some u0b) {K : Value → World → Prop} (hK : ∀  (w1 : World), Ho w0 w1 (L) → K (.slice (slBase q0 0 q0c 1) u0b.toNat q0c) w1) : CallsX P N.f_bignum_trim #[.slice q0 q0l q0c] w K := by
 refine H.bignum_trim q0 q0l q0c w _ ?_
 unfold S_bignum_trim
 unfold T_bignum_trim at hx
 have h := hx
 clear hx
 try dsimp only
 obtain ⟨t1, ht1, h⟩ := bnd h
 obtain rfl := lenE ht1 (hq0.now (fun _ h => h) hS)
 clear ht1
 obtain ⟨o1, h1, c1⟩ := bnd h
 refine cutM_i (fun s w => ∃ (t2 : Int), t2 = o1 ∧ s = (t2, ()) ∧ Ho w0 w (L)) (fun J1 hJ1 => ?_) ?_
 ·
  have h := h1
  clear h1
  refine iter_sim (fun s w t => ∃ (t3 : Int), t3 = t ∧ s = (t3, ()) ∧ Ho w0 w (L)) ?_ h ⟨_, rfl, rfl, hS⟩
  clear h hS
  rintro s w t X q ⟨t3, rfl, rfl, hS⟩ h hX hO
  unfold T_bignum_trim_b2 at h
  try dsimp only
  refine cond_s h ?_ ?_ <;> clear h <;> intro hc h
  ·
   obtain ⟨t4, ht4, h⟩ := bnd h
   obtain ⟨q2x, q2l, q2r⟩ := atE ht4
   clear ht4
   refine idx_s (hq0.now (fun _ h => h) hS) q2x q2l q2r ?_; intro b3 hb3
   refine ⟨_, rd_get (hq0.now (fun _ h => h) hS) hb3 q2x, ?_⟩
   refine cond_s h ?_ ?_ <;> clear h <;> intro hc h
   ·
    obtain rfl := some_inj h
    exact hX _ rfl _ _ ⟨_, rfl, rfl, hS⟩
   ·
    obtain rfl := some_inj h
    have h := congrArg some (hO _ rfl)
    obtain rfl := some_inj h
    exact hJ1 _ _ ⟨_, rfl, rfl, hS⟩
  ·
   obtain rfl := some_inj h
   have h := congrArg some (hO _ rfl)
   obtain rfl := some_inj h
   exact hJ1 _ _ ⟨_, rfl, rfl, hS⟩
 ·
  clear h1 hS
  rintro s w ⟨t2, rfl, rfl, hS⟩
  have h := c1
  clear c1
  try dsimp only
  obtain ⟨t5, ht5, h⟩ := bnd h
  obtain ⟨rfl, q40, q41, q42⟩ := subE ht5
  clear ht5
  have q43 := (hq0.now (fun _ h => h) hS).hiCap q42
  refine ⟨q41, q43, ?_⟩
  have h := some_inj h
  cases h
  exact hK _ hS

theorem wk_bignum_words {N : Nums} {P : Program} (H : AllOk N P) {w0 w : World} {L : List It} {q0 : Int} {u0 : List Int} (hS : Ho w0 w (L))  (hx : T_bignum_words q0 = some u0) {K : Value → World → Prop} (hK : ∀ (a0 : Option Addr) (n0 c0 : Nat) (w1 : World), Ho w0 w1 ((sl a0 n0 c0 (List.map (Value.int .u32) u0) N.t_uint32) :: L) → K (.slice a0 n0 c0) w1) : CallsX P N.f_bignum_words #[.int .u64 q0] w K := by
 refine H.bignum_words q0 w _ ?_
 unfold S_bignum_words
 unfold T_bignum_words at hx
 have h := hx
 clear hx
 try dsimp only
 refine ⟨by decide, ?_⟩
 obtain ⟨t1, ht1, h⟩ := bnd h
 obtain rfl : ([(IntKind.u32.wrap q0), (IntKind.u32.wrap (q0.fdiv (2 ^ (min (32 : Int).toNat IntKind.u64.bits))))] : List Int) = t1 := some_inj ht1
 clear ht1
 refine lit_s (ks := [(IntKind.u32.wrap q0), (IntKind.u32.wrap (q0.fdiv (2 ^ (min (32 : Int).toNat IntKind.u64.bits))))]) (enc := (Value.int .u32)) (m := 2) hS rfl rfl ?_; clear hS; intro r1 w hS
 obtain ⟨t2, ht2, h⟩ := bnd h
 refine wk_bignum_trim H hS (Ent.sl mp0) ht2 ?_; clear hS ht2; rintro w hS
 refine ⟨_, _, _, rfl, ?_⟩
 obtain ⟨t3, ht3, h⟩ := bnd h
 obtain ⟨rfl, q30, q31, q32⟩ := subE ht3
 clear ht3
 have q33 := ((Ent.sl mp0).now (fun _ h => h) hS).hiCap q32
 replace hS := Ho.cut hS q32
 have h := some_inj h
 cases h
 exact hK _ _ _ _ hS

theorem wk_p_bignum_Int_SetInt64_z {N : Nums} {P : Program} (H : AllOk N P) {w0 w : World} {L : List It} {r_0 : Nat} {b_0 s_0 : Value} {q1 : Int} {u0a : Bool} {u0b : List Int} (hS : Ho w0 w ((cl r_0 [b_0, s_0] N.t_bignum_Int) :: L))  (hx : T_p_bignum_Int_SetInt64 q1 = some (u0a, u0b)) {K : Value → World → Prop} (hK : ∀ (a0 : Option Addr) (n0 c0 : Nat) (w1 : World), Ho w0 w1 ((cl r_0 [.bool u0a, .slice a0 n0 c0] N.t_bignum_Int) :: (sl a0 n0 c0 (List.map (Value.int .u32) u0b) N.t_uint32) :: L) → K (.pointer (some ⟨r_0, 0, none⟩)) w1) : CallsX P N.f_p_bignum_Int_SetInt64 #[.pointer (some ⟨r_0, 0, none⟩), .int .i64 q1] w K := by
 refine H.p_bignum_Int_SetInt64 (some ⟨r_0, 0, none⟩) q1 w _ ?_
 unfold S_p_bignum_Int_SetInt64
 unfold T_p_bignum_Int_SetInt64 at hx
 have h := hx
 clear hx
 try dsimp only
 obtain ⟨o1, h1, c1⟩ := bnd h
 refine cutM_i (fun s w => ∃ (t1 : Int), t1 = o1 ∧ s = (t1, ()) ∧ Ho w0 w ((cl r_0 [b_0, s_0] N.t_bignum_Int) :: L)) (fun J1 hJ1 => ?_) ?_
 ·
  have h := h1
  clear h1
  refine cond_s h ?_ ?_ <;> clear h <;> intro hc h
  ·
   obtain rfl := some_inj h
   exact hJ1 _ _ ⟨_, rfl, rfl, hS⟩
  ·
   obtain rfl := some_inj h
   exact hJ1 _ _ ⟨_, rfl, rfl, hS⟩
 ·
  clear h1 hS
  rintro s w ⟨t1, rfl, rfl, hS⟩
  have h := c1
  clear c1
  try dsimp only
  obtain ⟨t2, ht2, h⟩ := bnd h
  refine wk_bignum_words H hS  ht2 ?_; clear hS ht2; rintro a2 m2 c2 w hS
  refine ⟨_, _, _, rfl, ?_⟩
  obtain ⟨t3, ht3, h⟩ := bnd h
  replace hS := ro1 hS
  obtain rfl := some_inj ht3
  clear ht3
  refine give_c H hS (Ent.sl mp1) ?_; clear hS; intro w hS
  refine ⟨_, rfl, ?_⟩
  have h := some_inj h
  cases h
  exact hK _ _ _ _ hS

theorem wk_p_bignum_Int_Sign_x {N : Nums} {P : Program} (H : AllOk N P) {w0 w : World} {L : List It} {r_0 : Nat} {q0_0 : Bool} {q0_1 : Option Addr} {q0_1l q0_1c : Nat} {l0_1 : List Int} {u0 : Int} (hS : Ho w0 w (L)) (eq0 : Ent L (cl r_0 [.bool q0_0, .slice q0_1 q0_1l q0_1c] N.t_bignum_Int).A) (hq0_1 : Ent L (rdA (List.map (Value.int .u32) l0_1) q0_1 q0_1l q0_1c)) (hx : T_p_bignum_Int_Sign q0_0 l0_1 = some u0) {K : Value → World → Prop} (hK : ∀  (w1 : World), Ho w0 w1 (L) → K (.int .i64 u0) w1) : CallsX P N.f_p_bignum_Int_Sign #[.pointer (some ⟨r_0, 0, none⟩)] w K := by
 refine H.p_bignum_Int_Sign (some ⟨r_0, 0, none⟩) w _ ?_
 unfold S_p_bignum_Int_Sign
 unfold T_p_bignum_Int_Sign at hx
 have h := hx
 clear hx
 try dsimp only
 refine optM_s ?_
 refine ⟨_, _, _, (eq0.cel (fun _ h => h) hS rfl), ?_⟩
 obtain ⟨t1, ht1, h⟩ := bnd h
 obtain rfl := lenE ht1 (hq0_1.now (fun _ h => h) hS)
 clear ht1
 refine cond_s h ?_ ?_ <;> clear h <;> intro hc h
 ·
  have h := some_inj h
  cases h
  exact hK _ hS
 ·
  refine optM_s ?_
  refine ⟨_, (eq0.cel (fun _ h => h) hS rfl), ?_⟩
  refine cond_s h ?_ ?_ <;> clear h <;> intro hc h
  ·
   have h := some_inj h
   cases h
   exact hK _ hS
  ·
   have h := some_inj h
   cases h
   exact hK _ hS

theorem wk_bignum_bit {N : Nums} {P : Program} (H : AllOk N P) {w0 w : World} {L : List It} {q0 : Option Addr} {q0l q0c : Nat} {l0 : List Int} {q1 : Int} {u0 : Int} (hS : Ho w0 w (L)) (hq0 : Ent L (rdA (List.map (Value.int .u32) l0) q0 q0l q0c)) (hx : T_bignum_bit l0 q1 = some u0) {K : Value → World → Prop} (hK : ∀  (w1 : World), Ho w0 w1 (L) → K (.int .u64 u0) w1) : CallsX P N.f_bignum_bit #[.slice q0 q0l q0c, .int .i64 q1] w K := by
 refine H.bignum_bit q0 q0l q0c q1 w _ ?_
 unfold S_bignum_bit
 unfold T_bignum_bit at hx
 have h := hx
 clear hx
 try dsimp only
 refine cond_s h ?_ ?_ <;> clear h <;> intro hc h
 ·
  refine ⟨by decide, ?_⟩
  obtain ⟨t1, ht1, h⟩ := bnd h
  obtain rfl := lenE ht1 (hq0.now (fun _ h => h) hS)
  clear ht1
  refine cond_s h ?_ ?_ <;> clear h <;> intro hc h
  ·
   have h := some_inj h
   cases h
   exact hK _ hS
  ·
   refine ⟨by decide, ?_⟩
   obtain ⟨t2, ht2, h⟩ := bnd h
   obtain ⟨q1x, q1l, q1r⟩ := atE ht2
   clear ht2
   refine idx_s (hq0.now (fun _ h => h) hS) q1x q1l q1r ?_; intro b2 hb2
   refine ⟨_, rd_get (hq0.now (fun _ h => h) hS) hb2 q1x, ?_⟩
   refine ⟨by decide, ?_⟩
   obtain ⟨t3, ht3, h⟩ := bnd h
   refine ⟨nn_s ht3, ?_⟩
   clear ht3
   have h := some_inj h
   cases h
   exact hK _ hS
 ·
  have h := some_inj h
  cases h
  exact hK _ hS

theorem wk_p_bignum_Int_TrailingZeroBits_x {N : Nums} {P : Program} (H : AllOk N P) {w0 w : World} {L : List It} {r_0 : Nat} {q0_0 : Bool} {q0_1 : Option Addr} {q0_1l q0_1c : Nat} {l0_1 : List Int} {u0 : Int} (hS : Ho w0 w (L)) (eq0 : Ent L (cl r_0 [.bool q0_0, .slice q0_1 q0_1l q0_1c] N.t_bignum_Int).A) (hq0_1 : Ent L (rdA (List.map (Value.int .u32) l0_1) q0_1 q0_1l q0_1c)) (hx : T_p_bignum_Int_TrailingZeroBits q0_0 l0_1 = some u0) {K : Value → World → Prop} (hK : ∀  (w1 : World), Ho w0 w1 (L) → K (.int .u64 u0) w1) : CallsX P N.f_p_bignum_Int_TrailingZeroBits #[.pointer (some ⟨r_0, 0, none⟩)] w K := by
 refine H.p_bignum_Int_TrailingZeroBits (some ⟨r_0, 0, none⟩) w _ ?_
 unfold S_p_bignum_Int_TrailingZeroBits
 unfold T_p_bignum_Int_TrailingZeroBits at hx
 have h := hx
 clear hx
 try dsimp only
 refine optM_s ?_
 refine ⟨_, _, _, (eq0.cel (fun _ h => h) hS rfl), ?_⟩
 obtain ⟨t1, ht1, h⟩ := bnd h
 obtain rfl := lenE ht1 (hq0_1.now (fun _ h => h) hS)
 clear ht1
 refine cond_s h ?_ ?_ <;> clear h <;> intro hc h
 ·
  have h := some_inj h
  cases h
  exact hK _ hS
 ·
  obtain ⟨o1, h1, c1⟩ := bnd h
  refine cutM_i (fun s w => ∃ (t2 : Int), t2 = o1 ∧ s = (t2, ()) ∧ Ho w0 w (L)) (fun J1 hJ1 => ?_) ?_
  ·
   have h := h1
   clear h1
   refine iter_sim (fun s w t => ∃ (t3 : Int), t3 = t ∧ s = (t3, ()) ∧ Ho w0 w (L)) ?_ h ⟨_, rfl, rfl, hS⟩
   clear h hS
   rintro s w t X q ⟨t3, rfl, rfl, hS⟩ h hX hO
   unfold T_p_bignum_Int_TrailingZeroBits_b2 at h
   try dsimp only
   refine optM_s ?_
   refine ⟨_, _, _, (eq0.cel (fun _ h => h) hS rfl), ?_⟩
   obtain ⟨t4, ht4, h⟩ := bnd h
   refine wk_bignum_bit H hS hq0_1 ht4 ?_; clear hS ht4; rintro w hS
   refine ⟨_, rfl, ?_⟩
   refine cond_s h ?_ ?_ <;> clear h <;> intro hc h
   ·
    obtain rfl := some_inj h
    exact hX _ rfl _ _ ⟨_, rfl, rfl, hS⟩
   ·
    obtain rfl := some_inj h
    have h := congrArg some (hO _ rfl)
    obtain rfl := some_inj h
    exact hJ1 _ _ ⟨_, rfl, rfl, hS⟩
  ·
   clear h1 hS
   rintro s w ⟨t2, rfl, rfl, hS⟩
   have h := c1
   clear c1
   try dsimp only
   have h := some_inj h
   cases h
   exact hK _ hS

theorem wk_bignum_length {N : Nums} {P : Program} (H : AllOk N P) {w0 w : World} {L : List It} {q0 : Option Addr} {q0l q0c : Nat} {l0 : List Int} {u0 : Int} (hS : Ho w0 w (L)) (hq0 : Ent L (rdA (List.map (Value.int .u32) l0) q0 q0l q0c)) (hx : T_bignum_length l0 = some u0) {K : Value → World → Prop} (hK : ∀  (w1 : World), Ho w0 w1 (L) → K (.int .i64 u0) w1) : CallsX P N.f_bignum_length #[.slice q0 q0l q0c] w K := by
 refine H.bignum_length q0 q0l q0c w _ ?_
 unfold S_bignum_length
 unfold T_bignum_length at hx
 have h := hx
 clear hx
 try dsimp only
 obtain ⟨t1, ht1, h⟩ := bnd h
 obtain rfl := lenE ht1 (hq0.now (fun _ h => h) hS)
 clear ht1
 refine cond_s h ?_ ?_ <;> clear h <;> intro hc h
 ·
  have h := some_inj h
  cases h
  exact hK _ hS
 ·
  obtain ⟨t2, ht2, h⟩ := bnd h
  obtain rfl := lenE ht2 (hq0.now (fun _ h => h) hS)
  clear ht2
  obtain ⟨t3, ht3, h⟩ := bnd h
  obtain ⟨q1x, q1l, q1r⟩ := atE ht3
  clear ht3
  refine idx_s (hq0.now (fun _ h => h) hS) q1x q1l q1r ?_; intro b2 hb2
  refine ⟨_, rd_get (hq0.now (fun _ h => h) hS) hb2 q1x, ?_⟩
  obtain ⟨o3, h3, c3⟩ := bnd h
  refine cutM_i (fun s w => ∃ (t4 : Int), t4 = o3 ∧ s = (t4, ()) ∧ Ho w0 w (L)) (fun J3 hJ3 => ?_) ?_
  ·
   have h := h3
   clear h3
   refine iter_sim (fun s w t => ∃ (t5 : Int) (t6 : Int), (t5, t6) = t ∧ s = (t5, t6, ()) ∧ Ho w0 w (L)) ?_ h ⟨_, _, rfl, rfl, hS⟩
   clear h hS
   rintro s w t X q ⟨t5, t6, rfl, rfl, hS⟩ h hX hO
   unfold T_bignum_length_b2 at h
   try dsimp only
   refine cond_s h ?_ ?_ <;> clear h <;> intro hc h
   ·
    refine ⟨by decide, ?_⟩
    obtain rfl := some_inj h
    exact hX _ rfl _ _ ⟨_, _, rfl, rfl, hS⟩
   ·
    obtain rfl := some_inj h
    have h := congrArg some (hO _ rfl)
    obtain rfl := some_inj h
    exact hJ3 _ _ ⟨_, rfl, rfl, hS⟩
  ·
   clear h3 hS
   rintro s w ⟨t4, rfl, rfl, hS⟩
   have h := c3
   clear c3
   try dsimp only
   obtain ⟨t7, ht7, h⟩ := bnd h
   obtain rfl := lenE ht7 (hq0.now (fun _ h => h) hS)
   clear ht7
   have h := some_inj h
   cases h
   exact hK _ hS

theorem wk_p_bignum_Int_BitLen_x {N : Nums} {P : Program} (H : AllOk N P) {w0 w : World} {L : List It} {r_0 : Nat} {q0_0 : Bool} {q0_1 : Option Addr} {q0_1l q0_1c : Nat} {l0_1 : List Int} {u0 : Int} (hS : Ho w0 w (L)) (eq0 : Ent L (cl r_0 [.bool q0_0, .slice q0_1 q0_1l q0_1c] N.t_bignum_Int).A) (hq0_1 : Ent L (rdA (List.map (Value.int .u32) l0_1) q0_1 q0_1l q0_1c)) (hx : T_p_bignum_Int_BitLen q0_0 l0_1 = some u0) {K : Value → World → Prop} (hK : ∀  (w1 : World), Ho w0 w1 (L) → K (.int .i64 u0) w1) : CallsX P N.f_p_bignum_Int_BitLen #[.pointer (some ⟨r_0, 0, none⟩)] w K := by
 refine H.p_bignum_Int_BitLen (some ⟨r_0, 0, none⟩) w _ ?_
 unfold S_p_bignum_Int_BitLen
 unfold T_p_bignum_Int_BitLen at hx
 have h := hx
 clear hx
 try dsimp only
 refine optM_s ?_
 refine ⟨_, _, _, (eq0.cel (fun _ h => h) hS rfl), ?_⟩
 obtain ⟨t1, ht1, h⟩ := bnd h
 refine wk_bignum_length H hS hq0_1 ht1 ?_; clear hS ht1; rintro w hS
 refine ⟨_, rfl, ?_⟩
 have h := some_inj h
 cases h
 exact hK _ hS

theorem wk_bignum_twin {N : Nums} {P : Program} (H : AllOk N P) {w0 w : World} {L : List It} {q0 : Option Addr} {q0l q0c : Nat} {l0 : List Int} {u0 : List Int} (hS : Ho w0 w (L)) (hq0 : Ent L (rdA (List.map (Value.int .u32) l0) q0 q0l q0c)) (hx : T_bignum_twin l0 = some u0) {K : Value → World → Prop} (hK : ∀ (a0 : Option Addr) (n0 c0 : Nat) (w1 : World), Ho w0 w1 ((sl a0 n0 c0 (List.map (Value.int .u32) u0) N.t_uint32) :: L) → K (.slice a0 n0 c0) w1) : CallsX P N.f_bignum_twin #[.slice q0 q0l q0c] w K := by
 refine H.bignum_twin q0 q0l q0c w _ ?_
 unfold S_bignum_twin
 unfold T_bignum_twin at hx
 have h := hx
 clear hx
 try dsimp only
 obtain ⟨t1, ht1, h⟩ := bnd h
 obtain ⟨rfl, kt1⟩ := appE ht1
 clear ht1
 replace hS := hS.none (α := Int) (enc := (Value.int .u32)) (t := N.t_uint32)
 refine app_s hS kt1 ((hq0.mono tl1).now (fun _ h => h) hS) (fun _ => rfl) rfl ?_; clear hS kt1; intro a1 c1 w hS
 have h := some_inj h
 cases h
 exact hK _ _ _ _ hS

theorem wk_p_bignum_Int_Abs_zx {N : Nums} {P : Program} (H : AllOk N P) {w0 w : World} {L : List It} {r_0 : Nat} {b_0 s_0 : Value} {r_1 : Nat} {q1_0 : Bool} {q1_1 : Option Addr} {q1_1l q1_1c : Nat} {l1_1 : List Int} {u0a : Bool} {u0b : List Int} (hS : Ho w0 w ((cl r_0 [b_0, s_0] N.t_bignum_Int) :: L)) (eq1 : Ent L (cl r_1 [.bool q1_0, .slice q1_1 q1_1l q1_1c] N.t_bignum_Int).A) (hq1_1 : Ent L (rdA (List.map (Value.int .u32) l1_1) q1_1 q1_1l q1_1c)) (hx : T_p_bignum_Int_Abs q1_0 l1_1 = some (u0a, u0b)) {K : Value → World → Prop} (hK : ∀ (a0 : Option Addr) (n0 c0 : Nat) (w1 : World), Ho w0 w1 ((cl r_0 [.bool u0a, .slice a0 n0 c0] N.t_bignum_Int) :: (sl a0 n0 c0 (List.map (Value.int .u32) u0b) N.t_uint32) :: L) → K (.pointer (some ⟨r_0, 0, none⟩)) w1) : CallsX P N.f_p_bignum_Int_Abs #[.pointer (some ⟨r_0, 0, none⟩), .pointer (some ⟨r_1, 0, none⟩)] w K := by
 refine H.p_bignum_Int_Abs (some ⟨r_0, 0, none⟩) (some ⟨r_1, 0, none⟩) w _ ?_
 unfold S_p_bignum_Int_Abs
 unfold T_p_bignum_Int_Abs at hx
 have h := hx
 clear hx
 try dsimp only
 refine optM_s ?_
 refine ⟨_, _, _, (eq1.cel tl1 hS rfl), ?_⟩
 obtain ⟨t1, ht1, h⟩ := bnd h
 refine wk_bignum_twin H hS (hq1_1.mono tl1) ht1 ?_; clear hS ht1; rintro a1 m1 c1 w hS
 refine ⟨_, _, _, rfl, ?_⟩
 obtain ⟨t2, ht2, h⟩ := bnd h
 replace hS := ro1 hS
 obtain rfl := some_inj ht2
 clear ht2
 refine give_c H hS (Ent.sl mp1) ?_; clear hS; intro w hS
 refine ⟨_, rfl, ?_⟩
 have h := some_inj h
 cases h
 exact hK _ _ _ _ hS

theorem wk_p_bignum_Int_Abs_zz {N : Nums} {P : Program} (H : AllOk N P) {w0 w : World} {L : List It} {r_0 : Nat} {q1_0 : Bool} {q1_1 : Option Addr} {q1_1l q1_1c : Nat} {l1_1 : List Int} {u0a : Bool} {u0b : List Int} (hS : Ho w0 w ((cl r_0 [.bool q1_0, .slice q1_1 q1_1l q1_1c] N.t_bignum_Int) :: L)) (hq1_1 : Ent L (rdA (List.map (Value.int .u32) l1_1) q1_1 q1_1l q1_1c)) (hx : T_p_bignum_Int_Abs q1_0 l1_1 = some (u0a, u0b)) {K : Value → World → Prop} (hK : ∀ (a0 : Option Addr) (n0 c0 : Nat) (w1 : World), Ho w0 w1 ((cl r_0 [.bool u0a, .slice a0 n0 c0] N.t_bignum_Int) :: (sl a0 n0 c0 (List.map (Value.int .u32) u0b) N.t_uint32) :: L) → K (.pointer (some ⟨r_0, 0, none⟩)) w1) : CallsX P N.f_p_bignum_Int_Abs #[.pointer (some ⟨r_0, 0, none⟩), .pointer (some ⟨r_0, 0, none⟩)] w K := by
 refine H.p_bignum_Int_Abs (some ⟨r_0, 0, none⟩) (some ⟨r_0, 0, none⟩) w _ ?_
 unfold S_p_bignum_Int_Abs
 unfold T_p_bignum_Int_Abs at hx
 have h := hx
 clear hx
 try dsimp only
 refine optM_s ?_
 refine ⟨_, _, _, (hS.cel mp0 rfl), ?_⟩
 obtain ⟨t1, ht1, h⟩ := bnd h
 refine wk_bignum_twin H hS (hq1_1.mono tl1) ht1 ?_; clear hS ht1; rintro a1 m1 c1 w hS
 refine ⟨_, _, _, rfl, ?_⟩
 obtain ⟨t2, ht2, h⟩ := bnd h
 replace hS := ro1 hS
 obtain rfl := some_inj ht2
 clear ht2
 refine give_c H hS (Ent.sl mp1) ?_; clear hS; intro w hS
 refine ⟨_, rfl, ?_⟩
 have h := some_inj h
 cases h
 exact hK _ _ _ _ hS

theorem wk_bignum_sub {N : Nums} {P : Program} (H : AllOk N P) {w0 w : World} {L : List It} {q0 : Option Addr} {q0l q0c : Nat} {l0 : List Int} {q1 : Option Addr} {q1l q1c : Nat} {l1 : List Int} {u0 : List Int} (hS : Ho w0 w (L)) (hq0 : Ent L (rdA (List.map (Value.int .u32) l0) q0 q0l q0c)) (hq1 : Ent L (rdA (List.map (Value.int .u32) l1) q1 q1l q1c)) (hx : T_bignum_sub l0 l1 = some u0) {K : Value → World → Prop} (hK : ∀ (a0 : Option Addr) (n0 c0 : Nat) (w1 : World), Ho w0 w1 ((sl a0 n0 c0 (List.map (Value.int .u32) u0) N.t_uint32) :: L) → K (.slice a0 n0 c0) w1) : CallsX P N.f_bignum_sub #[.slice q0 q0l q0c, .slice q1 q1l q1c] w K := by
 refine H.bignum_sub q0 q0l q0c q1 q1l q1c w _ ?_
 unfold S_bignum_sub
 unfold T_bignum_sub at hx
 have h := hx
 clear hx
 try dsimp only
 obtain ⟨t1, ht1, h⟩ := bnd h
 obtain rfl := lenE ht1 (hq0.now (fun _ h => h) hS)
 clear ht1
 obtain ⟨t2, ht2, h⟩ := bnd h
 obtain ⟨rfl, kt2⟩ := mkE ht2
 clear ht2
 refine mk_s (enc := (Value.int .u32)) hS kt2 rfl ?_; clear hS kt2; intro r1 w hS
 obtain ⟨o2, h2, c2⟩ := bnd h
 refine cutM_i (fun s w => ∃ (t3 : List Int), t3 = o2 ∧ s = (()) ∧ Ho w0 w ((sl (some ⟨r1, 0, none⟩) ((((q0l : Nat) : Int)).toNat) ((((q0l : Nat) : Int)).toNat) (List.map (Value.int .u32) t3) N.t_uint32) :: L)) (fun J2 hJ2 => ?_) ?_
 ·
  have h := h2
  clear h2
  refine iter_sim (fun s w t => ∃ (t4 : Int) (t5 : Int) (t6 : List Int), (t4, t5, t6) = t ∧ s = (t4, t5, ()) ∧ Ho w0 w ((sl (some ⟨r1, 0, none⟩) ((((q0l : Nat) : Int)).toNat) ((((q0l : Nat) : Int)).toNat) (List.map (Value.int .u32) t6) N.t_uint32) :: L)) ?_ h ⟨_, _, _, rfl, rfl, hS⟩
  clear h hS
  rintro s w t X q ⟨t4, t5, t6, rfl, rfl, hS⟩ h hX hO
  unfold T_bignum_sub_b2 at h
  try dsimp only
  obtain ⟨t7, ht7, h⟩ := bnd h
  obtain rfl := lenE ht7 ((hq0.mono tl1).now (fun _ h => h) hS)
  clear ht7
  refine cond_s h ?_ ?_ <;> clear h <;> intro hc h
  ·
   obtain ⟨t8, ht8, h⟩ := bnd h
   obtain ⟨q3x, q3l, q3r⟩ := atE ht8
   clear ht8
   refine idx_s ((hq0.mono tl1).now (fun _ h => h) hS) q3x q3l q3r ?_; intro b4 hb4
   refine ⟨_, rd_get ((hq0.mono tl1).now (fun _ h => h) hS) hb4 q3x, ?_⟩
   obtain ⟨t9, ht9, h⟩ := bnd h
   obtain rfl := lenE ht9 ((hq1.mono tl1).now (fun _ h => h) hS)
   clear ht9
   obtain ⟨o5, h5, c5⟩ := bnd h
   refine cutM_i (fun s w => ∃ (t10 : Int), t10 = o5 ∧ s = (t10, ()) ∧ Ho w0 w ((sl (some ⟨r1, 0, none⟩) ((((q0l : Nat) : Int)).toNat) ((((q0l : Nat) : Int)).toNat) (List.map (Value.int .u32) t6) N.t_uint32) :: L)) (fun J5 hJ5 => ?_) ?_
   ·
    have h := h5
    clear h5
    refine cond_s h ?_ ?_ <;> clear h <;> intro hc h
    ·
     obtain ⟨t11, ht11, h⟩ := bnd h
     obtain ⟨q6x, q6l, q6r⟩ := atE ht11
     clear ht11
     refine idx_s ((hq1.mono tl1).now (fun _ h => h) hS) q6x q6l q6r ?_; intro b7 hb7
     refine ⟨_, rd_get ((hq1.mono tl1).now (fun _ h => h) hS) hb7 q6x, ?_⟩
     obtain rfl := some_inj h
     exact hJ5 _ _ ⟨_, rfl, rfl, hS⟩
    ·
     obtain rfl := some_inj h
     exact hJ5 _ _ ⟨_, rfl, rfl, hS⟩
   ·
    clear h5 hS
    rintro s w ⟨t10, rfl, rfl, hS⟩
    have h := c5
    clear c5
    try dsimp only
    obtain ⟨t12, ht12, h⟩ := bnd h
    obtain ⟨q8x, q8l, q8r⟩ := atE ht12
    clear ht12
    refine idy_s ((Ent.sl mp0).now (fun _ h => h) hS) q8x q8l q8r ?_
    obtain ⟨t13, ht13, h⟩ := bnd h
    obtain rfl := some_inj ht13
    clear ht13
    refine sto_s hS rfl q8r ?_; clear hS; intro w hS
    refine ⟨by decide, ?_⟩
    obtain rfl := some_inj h
    exact hX _ rfl _ _ ⟨_, _, _, rfl, rfl, hS⟩
  ·
   obtain rfl := some_inj h
   have h := congrArg some (hO _ rfl)
   obtain rfl := some_inj h
   exact hJ2 _ _ ⟨_, rfl, rfl, hS⟩
 ·
  clear h2 hS
  rintro s w ⟨t3, rfl, rfl, hS⟩
  have h := c2
  clear c2
  try dsimp only
  obtain ⟨t14, ht14, h⟩ := bnd h
  refine wk_bignum_trim H hS (Ent.sl mp0) ht14 ?_; clear hS ht14; rintro w hS
  refine ⟨_, _, _, rfl, ?_⟩
  obtain ⟨t15, ht15, h⟩ := bnd h
  obtain ⟨rfl, q110, q111, q112⟩ := subE ht15
  clear ht15
  have q113 := ((Ent.sl mp0).now (fun _ h => h) hS).hiCap q112
  replace hS := Ho.cut hS q112
  have h := some_inj h
  cases h
  exact hK _ _ _ _ hS

theorem wk_bignum_right {N : Nums} {P : Program} (H : AllOk N P) {w0 w : World} {L : List It} {q0 : Option Addr} {q0l q0c : Nat} {l0 : List Int} {q1 : Int} {u0 : List Int} (hS : Ho w0 w (L)) (hq0 : Ent L (rdA (List.map (Value.int .u32) l0) q0 q0l q0c)) (hx : T_bignum_right l0 q1 = some u0) {K : Value → World → Prop} (hK : ∀ (a0 : Option Addr) (n0 c0 : Nat) (w1 : World), Ho w0 w1 ((sl a0 n0 c0 (List.map (Value.int .u32) u0) N.t_uint32) :: L) → K (.slice a0 n0 c0) w1) : CallsX P N.f_bignum_right #[.slice q0 q0l q0c, .int .u64 q1] w K := by
 refine H.bignum_right q0 q0l q0c q1 w _ ?_
 unfold S_bignum_right
 unfold T_bignum_right at hx
 have h := hx
 clear hx
 try dsimp only
 refine ⟨by decide, ?_⟩
 refine ⟨by decide, ?_⟩
 obtain ⟨t1, ht1, h⟩ := bnd h
 obtain rfl := lenE ht1 (hq0.now (fun _ h => h) hS)
 clear ht1
 refine cond_s h ?_ ?_ <;> clear h <;> intro hc h
 ·
  replace hS := hS.none (α := Int) (enc := (Value.int .u32)) (t := N.t_uint32)
  have h := some_inj h
  cases h
  exact hK _ _ _ _ hS
 ·
  obtain ⟨t2, ht2, h⟩ := bnd h
  obtain rfl := lenE ht2 (hq0.now (fun _ h => h) hS)
  clear ht2
  obtain ⟨t3, ht3, h⟩ := bnd h
  obtain ⟨rfl, kt3⟩ := mkE ht3
  clear ht3
  refine mk_s (enc := (Value.int .u32)) hS kt3 rfl ?_; clear hS kt3; intro r1 w hS
  obtain ⟨o2, h2, c2⟩ := bnd h
  refine cutM_i (fun s w => ∃ (t4 : List Int), t4 = o2 ∧ s = (()) ∧ Ho w0 w ((sl (some ⟨r1, 0, none⟩) (((IntKind.i64.wrap (((q0l : Nat) : Int) - (IntKind.i64.wrap (IntKind.u64.wrap (q1.tdiv 32)))))).toNat) (((IntKind.i64.wrap (((q0l : Nat) : Int) - (IntKind.i64.wrap (IntKind.u64.wrap (q1.tdiv 32)))))).toNat) (List.map (Value.int .u32) t4) N.t_uint32) :: L)) (fun J2 hJ2 => ?_) ?_
  ·
   have h := h2
   clear h2
   refine iter_sim (fun s w t => ∃ (t5 : Int) (t6 : List Int), (t5, t6) = t ∧ s = (t5, ()) ∧ Ho w0 w ((sl (some ⟨r1, 0, none⟩) (((IntKind.i64.wrap (((q0l : Nat) : Int) - (IntKind.i64.wrap (IntKind.u64.wrap (q1.tdiv 32)))))).toNat) (((IntKind.i64.wrap (((q0l : Nat) : Int) - (IntKind.i64.wrap (IntKind.u64.wrap (q1.tdiv 32)))))).toNat) (List.map (Value.int .u32) t6) N.t_uint32) :: L)) ?_ h ⟨_, _, rfl, rfl, hS⟩
   clear h hS
   rintro s w t X q ⟨t5, t6, rfl, rfl, hS⟩ h hX hO
   unfold T_bignum_right_b2 at h
   try dsimp only
   obtain ⟨t7, ht7, h⟩ := bnd h
   obtain rfl := lenE ht7 ((Ent.sl mp0).now (fun _ h => h) hS)
   clear ht7
   refine cond_s h ?_ ?_ <;> clear h <;> intro hc h
   ·
    obtain ⟨t8, ht8, h⟩ := bnd h
    obtain ⟨q3x, q3l, q3r⟩ := atE ht8
    clear ht8
    refine idx_s ((hq0.mono tl1).now (fun _ h => h) hS) q3x q3l q3r ?_; intro b4 hb4
    refine ⟨_, rd_get ((hq0.mono tl1).now (fun _ h => h) hS) hb4 q3x, ?_⟩
    obtain ⟨t9, ht9, h⟩ := bnd h
    obtain rfl := lenE ht9 ((hq0.mono tl1).now (fun _ h => h) hS)
    clear ht9
    obtain ⟨o5, h5, c5⟩ := bnd h
    refine cutM_i (fun s w => ∃ (t10 : Int), t10 = o5 ∧ s = (t10, ()) ∧ Ho w0 w ((sl (some ⟨r1, 0, none⟩) (((IntKind.i64.wrap (((q0l : Nat) : Int) - (IntKind.i64.wrap (IntKind.u64.wrap (q1.tdiv 32)))))).toNat) (((IntKind.i64.wrap (((q0l : Nat) : Int) - (IntKind.i64.wrap (IntKind.u64.wrap (q1.tdiv 32)))))).toNat) (List.map (Value.int .u32) t6) N.t_uint32) :: L)) (fun J5 hJ5 => ?_) ?_
    ·
     have h := h5
     clear h5
     refine cond_s h ?_ ?_ <;> clear h <;> intro hc h
     ·
      obtain ⟨t11, ht11, h⟩ := bnd h
      obtain ⟨q6x, q6l, q6r⟩ := atE ht11
      clear ht11
      refine idx_s ((hq0.mono tl1).now (fun _ h => h) hS) q6x q6l q6r ?_; intro b7 hb7
      refine ⟨_, rd_get ((hq0.mono tl1).now (fun _ h => h) hS) hb7 q6x, ?_⟩
      refine ⟨by decide, ?_⟩
      obtain rfl := some_inj h
      exact hJ5 _ _ ⟨_, rfl, rfl, hS⟩
     ·
      obtain rfl := some_inj h
      exact hJ5 _ _ ⟨_, rfl, rfl, hS⟩
    ·
     clear h5 hS
     rintro s w ⟨t10, rfl, rfl, hS⟩
     have h := c5
     clear c5
     try dsimp only
     obtain ⟨t14, ht14, h⟩ := bnd h
     refine ⟨nn_s ht14, ?_⟩
     clear ht14
     obtain ⟨t12, ht12, h⟩ := bnd h
     obtain ⟨q8x, q8l, q8r⟩ := atE ht12
     clear ht12
     refine idy_s ((Ent.sl mp0).now (fun _ h => h) hS) q8x q8l q8r ?_
     obtain ⟨t13, ht13, h⟩ := bnd h
     obtain rfl := some_inj ht13
     clear ht13
     refine sto_s hS rfl q8r ?_; clear hS; intro w hS
     obtain rfl := some_inj h
     exact hX _ rfl _ _ ⟨_, _, rfl, rfl, hS⟩
   ·
    obtain rfl := some_inj h
    have h := congrArg some (hO _ rfl)
    obtain rfl := some_inj h
    exact hJ2 _ _ ⟨_, rfl, rfl, hS⟩
  ·
   clear h2 hS
   rintro s w ⟨t4, rfl, rfl, hS⟩
   have h := c2
   clear c2
   try dsimp only
   obtain ⟨t15, ht15, h⟩ := bnd h
   refine wk_bignum_trim H hS (Ent.sl mp0) ht15 ?_; clear hS ht15; rintro w hS
   refine ⟨_, _, _, rfl, ?_⟩
   obtain ⟨t16, ht16, h⟩ := bnd h
   obtain ⟨rfl, q110, q111, q112⟩ := subE ht16
   clear ht16
   have q113 := ((Ent.sl mp0).now (fun _ h => h) hS).hiCap q112
   replace hS := Ho.cut hS q112
   have h := some_inj h
   cases h
   exact hK _ _ _ _ hS

theorem wk_bignum_add {N : Nums} {P : Program} (H : AllOk N P) {w0 w : World} {L : List It} {q0 : Option Addr} {q0l q0c : Nat} {l0 : List Int} {q1 : Option Addr} {q1l q1c : Nat} {l1 : List Int} {u0 : List Int} (hS : Ho w0 w (L)) (hq0 : Ent L (rdA (List.map (Value.int .u32) l0) q0 q0l q0c)) (hq1 : Ent L (rdA (List.map (Value.int .u32) l1) q1 q1l q1c)) (hx : T_bignum_add l0 l1 = some u0) {K : Value → World → Prop} (hK : ∀ (a0 : Option Addr) (n0 c0 : Nat) (w1 : World), Ho w0 w1 ((sl a0 n0 c0 (List.map (Value.int .u32) u0) N.t_uint32) :: L) → K (.slice a0 n0 c0) w1) : CallsX P N.f_bignum_add #[.slice q0 q0l q0c, .slice q1 q1l q1c] w K := by
 refine H.bignum_add q0 q0l q0c q1 q1l q1c w _ ?_
 unfold S_bignum_add
 unfold T_bignum_add at hx
 have h := hx
 clear hx
 try dsimp only
 obtain ⟨t1, ht1, h⟩ := bnd h
 obtain rfl := lenE ht1 (hq0.now (fun _ h => h) hS)
 clear ht1
 obtain ⟨t2, ht2, h⟩ := bnd h
 obtain rfl := lenE ht2 (hq1.now (fun _ h => h) hS)
 clear ht2
 obtain ⟨o11, h11, c11⟩ := bnd h
 refine cutM_i (fun s w => ∃ (a1 : Option Addr) (m2 : Nat) (c3 : Nat) (t3 : List Int) (it4 : It) (a6 : Option Addr) (m7 : Nat) (c8 : Nat) (t4 : List Int) (it9 : It), (t3, t4) = o11 ∧ s = ((a1, m2, c3), (a6, m7, c8), ()) ∧ Ent (it4 :: L) (rdA (List.map (Value.int .u32) t3) a1 m2 c3) ∧ Ent (it9 :: L) (rdA (List.map (Value.int .u32) t4) a6 m7 c8) ∧ Ho w0 w (it4 :: it9 :: L)) (fun J11 hJ11 => ?_) ?_
 ·
  have h := h11
  clear h11
  refine cond_s h ?_ ?_ <;> clear h <;> intro hc h
  ·
   replace hS := hS.voidItem
   replace hS := hS.voidItem
   obtain rfl := some_inj h
   exact hJ11 _ _ ⟨_, _, _, _, _, _, _, _, _, _, rfl, rfl, (hq1.mono tl1), (hq0.mono tl1), (hS.pick (A := [_, _]) [1, 0] rfl)⟩
  ·
   replace hS := hS.voidItem
   replace hS := hS.voidItem
   obtain rfl := some_inj h
   exact hJ11 _ _ ⟨_, _, _, _, _, _, _, _, _, _, rfl, rfl, (hq0.mono tl1), (hq1.mono tl1), (hS.pick (A := [_, _]) [1, 0] rfl)⟩
 ·
  clear h11 hS
  rintro s w ⟨a1, m2, c3, t3, it4, a6, m7, c8, t4, it9, rfl, rfl, e5, e10, hS⟩
  have h := c11
  clear c11
  try dsimp only
  obtain ⟨t5, ht5, h⟩ := bnd h
  obtain rfl := lenE ht5 ((e5.mono (incl_cons mp0 tl2)).now (fun _ h => h) hS)
  clear ht5
  obtain ⟨t6, ht6, h⟩ := bnd h
  obtain ⟨rfl, kt6⟩ := mkE ht6
  clear ht6
  refine mk_s (enc := (Value.int .u32)) hS kt6 rfl ?_; clear hS kt6; intro r12 w hS
  obtain ⟨o13, h13, c13⟩ := bnd h
  refine cutM_i (fun s w => ∃ (t7 : Int) (t8 : List Int), (t7, t8) = o13 ∧ s = (t7, ()) ∧ Ho w0 w ((sl (some ⟨r12, 0, none⟩) (((IntKind.i64.wrap (((m2 : Nat) : Int) + 1))).toNat) (((IntKind.i64.wrap (((m2 : Nat) : Int) + 1))).toNat) (List.map (Value.int .u32) t8) N.t_uint32) :: it4 :: L)) (fun J13 hJ13 => ?_) ?_
  ·
   have h := h13
   clear h13
   refine iter_sim (fun s w t => ∃ (t9 : Int) (t10 : Int) (t11 : List Int), (t9, t10, t11) = t ∧ s = (t9, t10, ()) ∧ Ho w0 w ((sl (some ⟨r12, 0, none⟩) (((IntKind.i64.wrap (((m2 : Nat) : Int) + 1))).toNat) (((IntKind.i64.wrap (((m2 : Nat) : Int) + 1))).toNat) (List.map (Value.int .u32) t11) N.t_uint32) :: it4 :: it9 :: L)) ?_ h ⟨_, _, _, rfl, rfl, hS⟩
   clear h hS
   rintro s w t X q ⟨t9, t10, t11, rfl, rfl, hS⟩ h hX hO
   unfold T_bignum_add_b2 at h
   try dsimp only
   obtain ⟨t12, ht12, h⟩ := bnd h
   obtain rfl := lenE ht12 ((e5.mono (incl_cons mp1 tl3)).now (fun _ h => h) hS)
   clear ht12
   refine cond_s h ?_ ?_ <;> clear h <;> intro hc h
   ·
    obtain ⟨t13, ht13, h⟩ := bnd h
    obtain ⟨q14x, q14l, q14r⟩ := atE ht13
    clear ht13
    refine idx_s ((e5.mono (incl_cons mp1 tl3)).now (fun _ h => h) hS) q14x q14l q14r ?_; intro b15 hb15
    refine ⟨_, rd_get ((e5.mono (incl_cons mp1 tl3)).now (fun _ h => h) hS) hb15 q14x, ?_⟩
    obtain ⟨t14, ht14, h⟩ := bnd h
    obtain rfl := lenE ht14 ((e10.mono (incl_cons mp2 tl3)).now (fun _ h => h) hS)
    clear ht14
    obtain ⟨o16, h16, c16⟩ := bnd h
    refine cutM_i (fun s w => ∃ (t15 : Int), t15 = o16 ∧ s = (t15, ()) ∧ Ho w0 w ((sl (some ⟨r12, 0, none⟩) (((IntKind.i64.wrap (((m2 : Nat) : Int) + 1))).toNat) (((IntKind.i64.wrap (((m2 : Nat) : Int) + 1))).toNat) (List.map (Value.int .u32) t11) N.t_uint32) :: it4 :: it9 :: L)) (fun J16 hJ16 => ?_) ?_
    ·
     have h := h16
     clear h16
     refine cond_s h ?_ ?_ <;> clear h <;> intro hc h
     ·
      obtain ⟨t16, ht16, h⟩ := bnd h
      obtain ⟨q17x, q17l, q17r⟩ := atE ht16
      clear ht16
      refine idx_s ((e10.mono (incl_cons mp2 tl3)).now (fun _ h => h) hS) q17x q17l q17r ?_; intro b18 hb18
      refine ⟨_, rd_get ((e10.mono (incl_cons mp2 tl3)).now (fun _ h => h) hS) hb18 q17x, ?_⟩
      obtain rfl := some_inj h
      exact hJ16 _ _ ⟨_, rfl, rfl, hS⟩
     ·
      obtain rfl := some_inj h
      exact hJ16 _ _ ⟨_, rfl, rfl, hS⟩
    ·
     clear h16 hS
     rintro s w ⟨t15, rfl, rfl, hS⟩
     have h := c16
     clear c16
     try dsimp only
     obtain ⟨t17, ht17, h⟩ := bnd h
     obtain ⟨q19x, q19l, q19r⟩ := atE ht17
     clear ht17
     refine idy_s ((Ent.sl mp0).now (fun _ h => h) hS) q19x q19l q19r ?_
     obtain ⟨t18, ht18, h⟩ := bnd h
     obtain rfl := some_inj ht18
     clear ht18
     refine sto_s hS rfl q19r ?_; clear hS; intro w hS
     refine ⟨by decide, ?_⟩
     obtain rfl := some_inj h
     exact hX _ rfl _ _ ⟨_, _, _, rfl, rfl, hS⟩
   ·
    obtain rfl := some_inj h
    have h := congrArg some (hO _ rfl)
    obtain rfl := some_inj h
    exact hJ13 _ _ ⟨_, _, rfl, rfl, (hS.pick (A := [_, _, _]) [0, 0] rfl)⟩
  ·
   clear h13 hS
   rintro s w ⟨t7, t8, rfl, rfl, hS⟩
   have h := c13
   clear c13
   try dsimp only
   obtain ⟨t19, ht19, h⟩ := bnd h
   obtain rfl := lenE ht19 ((e5.mono (incl_cons mp1 tl2)).now (fun _ h => h) hS)
   clear ht19
   obtain ⟨t20, ht20, h⟩ := bnd h
   obtain ⟨q21x, q21l, q21r⟩ := atE ht20
   clear ht20
   refine idy_s ((Ent.sl mp0).now (fun _ h => h) hS) q21x q21l q21r ?_
   obtain ⟨t21, ht21, h⟩ := bnd h
   obtain rfl := some_inj ht21
   clear ht21
   refine sto_s hS rfl q21r ?_; clear hS; intro w hS
   obtain ⟨t22, ht22, h⟩ := bnd h
   refine wk_bignum_trim H hS (Ent.sl mp0) ht22 ?_; clear hS ht22; rintro w hS
   refine ⟨_, _, _, rfl, ?_⟩
   obtain ⟨t23, ht23, h⟩ := bnd h
   obtain ⟨rfl, q240, q241, q242⟩ := subE ht23
   clear ht23
   have q243 := ((Ent.sl mp0).now (fun _ h => h) hS).hiCap q242
   replace hS := Ho.cut hS q242
   have h := some_inj h
   cases h
   exact hK _ _ _ _ (hS.pick (A := [_, _]) [0] rfl)

theorem wk_p_bignum_Int_Rsh_zx {N : Nums} {P : Program} (H : AllOk N P) {w0 w : World} {L : List It} {r_0 : Nat} {b_0 s_0 : Value} {r_1 : Nat} {q1_0 : Bool} {q1_1 : Option Addr} {q1_1l q1_1c : Nat} {l1_1 : List Int} {q2 : Int} {u0a : Bool} {u0b : List Int} (hS : Ho w0 w ((cl r_0 [b_0, s_0] N.t_bignum_Int) :: L)) (eq1 : Ent L (cl r_1 [.bool q1_0, .slice q1_1 q1_1l q1_1c] N.t_bignum_Int).A) (hq1_1 : Ent L (rdA (List.map (Value.int .u32) l1_1) q1_1 q1_1l q1_1c)) (hx : T_p_bignum_Int_Rsh q1_0 l1_1 q2 = some (u0a, u0b)) {K : Value → World → Prop} (hK : ∀ (a0 : Option Addr) (n0 c0 : Nat) (w1 : World), Ho w0 w1 ((cl r_0 [.bool u0a, .slice a0 n0 c0] N.t_bignum_Int) :: (sl a0 n0 c0 (List.map (Value.int .u32) u0b) N.t_uint32) :: L) → K (.pointer (some ⟨r_0, 0, none⟩)) w1) : CallsX P N.f_p_bignum_Int_Rsh #[.pointer (some ⟨r_0, 0, none⟩), .pointer (some ⟨r_1, 0, none⟩), .int .u64 q2] w K := by
 refine H.p_bignum_Int_Rsh (some ⟨r_0, 0, none⟩) (some ⟨r_1, 0, none⟩) q2 w _ ?_
 unfold S_p_bignum_Int_Rsh
 unfold T_p_bignum_Int_Rsh at hx
 have h := hx
 clear hx
 try dsimp only
 refine optM_s ?_
 refine ⟨_, (eq1.cel tl1 hS rfl), ?_⟩
 refine cond_s h ?_ ?_ <;> clear h <;> intro hc h
 ·
  refine optM_s ?_
  refine ⟨_, _, _, (eq1.cel tl1 hS rfl), ?_⟩
  obtain ⟨t1, ht1, h⟩ := bnd h
  obtain rfl : ([1] : List Int) = t1 := some_inj ht1
  clear ht1
  refine lit_s (ks := [1]) (enc := (Value.int .u32)) (m := 1) hS rfl rfl ?_; clear hS; intro r1 w hS
  obtain ⟨t2, ht2, h⟩ := bnd h
  refine wk_bignum_sub H hS (hq1_1.mono tl2) (Ent.sl mp0) ht2 ?_; clear hS ht2; rintro a2 m2 c2 w hS
  refine ⟨_, _, _, rfl, ?_⟩
  obtain ⟨t3, ht3, h⟩ := bnd h
  refine wk_bignum_right H hS (Ent.sl mp0) ht3 ?_; clear hS ht3; rintro a3 m3 c3 w hS
  refine ⟨_, _, _, rfl, ?_⟩
  obtain ⟨t4, ht4, h⟩ := bnd h
  obtain rfl : ([1] : List Int) = t4 := some_inj ht4
  clear ht4
  refine lit_s (ks := [1]) (enc := (Value.int .u32)) (m := 1) hS rfl rfl ?_; clear hS; intro r4 w hS
  obtain ⟨t5, ht5, h⟩ := bnd h
  refine wk_bignum_add H hS (Ent.sl mp1) (Ent.sl mp0) ht5 ?_; clear hS ht5; rintro a5 m5 c5 w hS
  refine ⟨_, _, _, rfl, ?_⟩
  obtain ⟨t6, ht6, h⟩ := bnd h
  replace hS := ro5 hS
  obtain rfl := some_inj ht6
  clear ht6
  refine give_c H hS (Ent.sl mp1) ?_; clear hS; intro w hS
  refine ⟨_, rfl, ?_⟩
  have h := some_inj h
  cases h
  exact hK _ _ _ _ (hS.pick (A := [_, _, _, _, _, _]) [0, 0] rfl)
 ·
  refine optM_s ?_
  refine ⟨_, _, _, (eq1.cel tl1 hS rfl), ?_⟩
  obtain ⟨t7, ht7, h⟩ := bnd h
  refine wk_bignum_right H hS (hq1_1.mono tl1) ht7 ?_; clear hS ht7; rintro a6 m6 c6 w hS
  refine ⟨_, _, _, rfl, ?_⟩
  obtain ⟨t8, ht8, h⟩ := bnd h
  replace hS := ro1 hS
  obtain rfl := some_inj ht8
  clear ht8
  refine give_c H hS (Ent.sl mp1) ?_; clear hS; intro w hS
  refine ⟨_, rfl, ?_⟩
  have h := some_inj h
  cases h
  exact hK _ _ _ _ hS

theorem wk_p_bignum_Int_Rsh_zz {N : Nums} {P : Program} (H : AllOk N P) {w0 w : World} {L : List It} {r_0 : Nat} {q1_0 : Bool} {q1_1 : Option Addr} {q1_1l q1_1c : Nat} {l1_1 : List Int} {q2 : Int} {u0a : Bool} {u0b : List Int} (hS : Ho w0 w ((cl r_0 [.bool q1_0, .slice q1_1 q1_1l q1_1c] N.t_bignum_Int) :: L)) (hq1_1 : Ent L (rdA (List.map (Value.int .u32) l1_1) q1_1 q1_1l q1_1c)) (hx : T_p_bignum_Int_Rsh q1_0 l1_1 q2 = some (u0a, u0b)) {K : Value → World → Prop} (hK : ∀ (a0 : Option Addr) (n0 c0 : Nat) (w1 : World), Ho w0 w1 ((cl r_0 [.bool u0a, .slice a0 n0 c0] N.t_bignum_Int) :: (sl a0 n0 c0 (List.map (Value.int .u32) u0b) N.t_uint32) :: L) → K (.pointer (some ⟨r_0, 0, none⟩)) w1) : CallsX P N.f_p_bignum_Int_Rsh #[.pointer (some ⟨r_0, 0, none⟩), .pointer (some ⟨r_0, 0, none⟩), .int .u64 q2] w K := by
 refine H.p_bignum_Int_Rsh (some ⟨r_0, 0, none⟩) (some ⟨r_0, 0, none⟩) q2 w _ ?_
 unfold S_p_bignum_Int_Rsh
 unfold T_p_bignum_Int_Rsh at hx
 have h := hx
 clear hx
 try dsimp only
 refine optM_s ?_
 refine ⟨_, (hS.cel mp0 rfl), ?_⟩
 refine cond_s h ?_ ?_ <;> clear h <;> intro hc h
 ·
  refine optM_s ?_
  refine ⟨_, _, _, (hS.cel mp0 rfl), ?_⟩
  obtain ⟨t1, ht1, h⟩ := bnd h
  obtain rfl : ([1] : List Int) = t1 := some_inj ht1
  clear ht1
  refine lit_s (ks := [1]) (enc := (Value.int .u32)) (m := 1) hS rfl rfl ?_; clear hS; intro r1 w hS
  obtain ⟨t2, ht2, h⟩ := bnd h
  refine wk_bignum_sub H hS (hq1_1.mono tl2) (Ent.sl mp0) ht2 ?_; clear hS ht2; rintro a2 m2 c2 w hS
  refine ⟨_, _, _, rfl, ?_⟩
  obtain ⟨t3, ht3, h⟩ := bnd h
  refine wk_bignum_right H hS (Ent.sl mp0) ht3 ?_; clear hS ht3; rintro a3 m3 c3 w hS
  refine ⟨_, _, _, rfl, ?_⟩
  obtain ⟨t4, ht4, h⟩ := bnd h
  obtain rfl : ([1] : List Int) = t4 := some_inj ht4
  clear ht4
  refine lit_s (ks := [1]) (enc := (Value.int .u32)) (m := 1) hS rfl rfl ?_; clear hS; intro r4 w hS
  obtain ⟨t5, ht5, h⟩ := bnd h
  refine wk_bignum_add H hS (Ent.sl mp1) (Ent.sl mp0) ht5 ?_; clear hS ht5; rintro a5 m5 c5 w hS
  refine ⟨_, _, _, rfl, ?_⟩
  obtain ⟨t6, ht6, h⟩ := bnd h
  replace hS := ro5 hS
  obtain rfl := some_inj ht6
  clear ht6
  refine give_c H hS (Ent.sl mp1) ?_; clear hS; intro w hS
  refine ⟨_, rfl, ?_⟩
  have h := some_inj h
  cases h
  exact hK _ _ _ _ (hS.pick (A := [_, _, _, _, _, _]) [0, 0] rfl)
 ·
  refine optM_s ?_
  refine ⟨_, _, _, (hS.cel mp0 rfl), ?_⟩
  obtain ⟨t7, ht7, h⟩ := bnd h
  refine wk_bignum_right H hS (hq1_1.mono tl1) ht7 ?_; clear hS ht7; rintro a6 m6 c6 w hS
  refine ⟨_, _, _, rfl, ?_⟩
  obtain ⟨t8, ht8, h⟩ := bnd h
  replace hS := ro1 hS
  obtain rfl := some_inj ht8
  clear ht8
  refine give_c H hS (Ent.sl mp1) ?_; clear hS; intro w hS
  refine ⟨_, rfl, ?_⟩
  have h := some_inj h
  cases h
  exact hK _ _ _ _ hS

theorem wk_p_bignum_Int_SetUint64_z {N : Nums} {P : Program} (H : AllOk N P) {w0 w : World} {L : List It} {r_0 : Nat} {b_0 s_0 : Value} {q1 : Int} {u0a : Bool} {u0b : List Int} (hS : Ho w0 w ((cl r_0 [b_0, s_0] N.t_bignum_Int) :: L))  (hx : T_p_bignum_Int_SetUint64 q1 = some (u0a, u0b)) {K : Value → World → Prop} (hK : ∀ (a0 : Option Addr) (n0 c0 : Nat) (w1 : World), Ho w0 w1 ((cl r_0 [.bool u0a, .slice a0 n0 c0] N.t_bignum_Int) :: (sl a0 n0 c0 (List.map (Value.int .u32) u0b) N.t_uint32) :: L) → K (.pointer (some ⟨r_0, 0, none⟩)) w1) : CallsX P N.f_p_bignum_Int_SetUint64 #[.pointer (some ⟨r_0, 0, none⟩), .int .u64 q1] w K := by
 refine H.p_bignum_Int_SetUint64 (some ⟨r_0, 0, none⟩) q1 w _ ?_
 unfold S_p_bignum_Int_SetUint64
 unfold T_p_bignum_Int_SetUint64 at hx
 have h := hx
 clear hx
 try dsimp only
 obtain ⟨t1, ht1, h⟩ := bnd h
 refine wk_bignum_words H hS  ht1 ?_; clear hS ht1; rintro a1 m1 c1 w hS
 refine ⟨_, _, _, rfl, ?_⟩
 obtain ⟨t2, ht2, h⟩ := bnd h
 replace hS := ro1 hS
 obtain rfl := some_inj ht2
 clear ht2
 refine give_c H hS (Ent.sl mp1) ?_; clear hS; intro w hS
 refine ⟨_, rfl, ?_⟩
 have h := some_inj h
 cases h
 exact hK _ _ _ _ hS

theorem wk_p_bignum_Int_low_x {N : Nums} {P : Program} (H : AllOk N P) {w0 w : World} {L : List It} {r_0 : Nat} {q0_0 : Bool} {q0_1 : Option Addr} {q0_1l q0_1c : Nat} {l0_1 : List Int} {q1 : Int} {u0 : List Int} (hS : Ho w0 w (L)) (eq0 : Ent L (cl r_0 [.bool q0_0, .slice q0_1 q0_1l q0_1c] N.t_bignum_Int).A) (hq0_1 : Ent L (rdA (List.map (Value.int .u32) l0_1) q0_1 q0_1l q0_1c)) (hx : T_p_bignum_Int_low q0_0 l0_1 q1 = some u0) {K : Value → World → Prop} (hK : ∀ (a0 : Option Addr) (n0 c0 : Nat) (w1 : World), Ho w0 w1 ((sl a0 n0 c0 (List.map (Value.int .u32) u0) N.t_uint32) :: L) → K (.slice a0 n0 c0) w1) : CallsX P N.f_p_bignum_Int_low #[.pointer (some ⟨r_0, 0, none⟩), .int .i64 q1] w K := by
 refine H.p_bignum_Int_low (some ⟨r_0, 0, none⟩) q1 w _ ?_
 unfold S_p_bignum_Int_low
 unfold T_p_bignum_Int_low at hx
 have h := hx
 clear hx
 try dsimp only
 obtain ⟨t1, ht1, h⟩ := bnd h
 obtain ⟨rfl, kt1⟩ := mkE ht1
 clear ht1
 refine mk_s (enc := (Value.int .u32)) hS kt1 rfl ?_; clear hS kt1; intro r1 w hS
 refine optM_s ?_
 refine ⟨_, _, _, (eq0.cel tl1 hS rfl), ?_⟩
 obtain ⟨t2, ht2, h⟩ := bnd h
 obtain rfl := some_inj ht2
 clear ht2
 refine cop_s hS ((hq0_1.mono tl1).now (fun _ h => h) hS) (fun _ => rfl) ?_; clear hS; intro w hS
 refine optM_s ?_
 refine ⟨_, (eq0.cel tl1 hS rfl), ?_⟩
 obtain ⟨o2, h2, c2⟩ := bnd h
 refine cutM_i (fun s w => ∃ (t3 : List Int), t3 = o2 ∧ s = (()) ∧ Ho w0 w ((sl (some ⟨r1, 0, none⟩) ((q1).toNat) ((q1).toNat) (List.map (Value.int .u32) t3) N.t_uint32) :: L)) (fun J2 hJ2 => ?_) ?_
 ·
  have h := h2
  clear h2
  refine cond_s h ?_ ?_ <;> clear h <;> intro hc h
  ·
   obtain ⟨o3, h3, c3⟩ := bnd h
   refine cutM_i (fun s w => ∃ (t4 : List Int), t4 = o3 ∧ s = (()) ∧ Ho w0 w ((sl (some ⟨r1, 0, none⟩) ((q1).toNat) ((q1).toNat) (List.map (Value.int .u32) t4) N.t_uint32) :: L)) (fun J3 hJ3 => ?_) ?_
   ·
    have h := h3
    clear h3
    refine iter_sim (fun s w t => ∃ (t5 : Int) (t6 : Int) (t7 : List Int), (t5, t6, t7) = t ∧ s = (t5, t6, ()) ∧ Ho w0 w ((sl (some ⟨r1, 0, none⟩) ((q1).toNat) ((q1).toNat) (List.map (Value.int .u32) t7) N.t_uint32) :: L)) ?_ h ⟨_, _, _, rfl, rfl, hS⟩
    clear h hS
    rintro s w t X q ⟨t5, t6, t7, rfl, rfl, hS⟩ h hX hO
    unfold T_p_bignum_Int_low_b3 at h
    try dsimp only
    refine cond_s h ?_ ?_ <;> clear h <;> intro hc h
    ·
     obtain ⟨t8, ht8, h⟩ := bnd h
     obtain ⟨q4x, q4l, q4r⟩ := atE ht8
     clear ht8
     refine idy_s ((Ent.sl mp0).now (fun _ h => h) hS) q4x q4l q4r ?_
     refine ⟨_, rd_get ((Ent.sl mp0).now (fun _ h => h) hS) rfl q4x, ?_⟩
     obtain ⟨t9, ht9, h⟩ := bnd h
     obtain ⟨q6x, q6l, q6r⟩ := atE ht9
     clear ht9
     refine idy_s ((Ent.sl mp0).now (fun _ h => h) hS) q6x q6l q6r ?_
     obtain ⟨t10, ht10, h⟩ := bnd h
     obtain rfl := some_inj ht10
     clear ht10
     refine sto_s hS rfl q6r ?_; clear hS; intro w hS
     refine ⟨by decide, ?_⟩
     obtain rfl := some_inj h
     exact hX _ rfl _ _ ⟨_, _, _, rfl, rfl, hS⟩
    ·
     obtain rfl := some_inj h
     have h := congrArg some (hO _ rfl)
     obtain rfl := some_inj h
     exact hJ3 _ _ ⟨_, rfl, rfl, hS⟩
   ·
    clear h3 hS
    rintro s w ⟨t4, rfl, rfl, hS⟩
    have h := c3
    clear c3
    try dsimp only
    obtain rfl := some_inj h
    exact hJ2 _ _ ⟨_, rfl, rfl, hS⟩
  ·
   obtain rfl := some_inj h
   exact hJ2 _ _ ⟨_, rfl, rfl, hS⟩
 ·
  clear h2 hS
  rintro s w ⟨t3, rfl, rfl, hS⟩
  have h := c2
  clear c2
  try dsimp only
  have h := some_inj h
  cases h
  exact hK _ _ _ _ hS

theorem wk_p_bignum_Int_of_z {N : Nums} {P : Program} (H : AllOk N P) {w0 w : World} {L : List It} {r_0 : Nat} {b_0 s_0 : Value} {q1 : Option Addr} {q1l q1c : Nat} {l1 : List Int} {u0a : Bool} {u0b : List Int} (hS : Ho w0 w ((cl r_0 [b_0, s_0] N.t_bignum_Int) :: (sl q1 q1l q1c (List.map (Value.int .u32) l1) N.t_uint32) :: L))  (hx : T_p_bignum_Int_of l1 = some (u0a, u0b)) {K : Value → World → Prop} (hK : ∀ (a0 : Option Addr) (n0 c0 : Nat) (w1 : World), Ho w0 w1 ((cl r_0 [.bool u0a, .slice a0 n0 c0] N.t_bignum_Int) :: (sl a0 n0 c0 (List.map (Value.int .u32) u0b) N.t_uint32) :: L) → K (.pointer (some ⟨r_0, 0, none⟩)) w1) : CallsX P N.f_p_bignum_Int_of #[.pointer (some ⟨r_0, 0, none⟩), .slice q1 q1l q1c] w K := by
 refine H.p_bignum_Int_of (some ⟨r_0, 0, none⟩) q1 q1l q1c w _ ?_
 unfold S_p_bignum_Int_of
 unfold T_p_bignum_Int_of at hx
 have h := hx
 clear hx
 try dsimp only
 obtain ⟨o1, h1, c1⟩ := bnd h
 refine cutM_i (fun s w => ∃ (t1 : Bool), t1 = o1 ∧ s = (t1, ()) ∧ Ho w0 w ((cl r_0 [b_0, s_0] N.t_bignum_Int) :: (sl q1 q1l q1c (List.map (Value.int .u32) l1) N.t_uint32) :: L)) (fun J1 hJ1 => ?_) ?_
 ·
  have h := h1
  clear h1
  obtain ⟨t2, ht2, h⟩ := bnd h
  obtain rfl := lenE ht2 ((Ent.sl mp1).now (fun _ h => h) hS)
  clear ht2
  refine cond_s h ?_ ?_ <;> clear h <;> intro hc h
  ·
   obtain ⟨t3, ht3, h⟩ := bnd h
   obtain rfl := lenE ht3 ((Ent.sl mp1).now (fun _ h => h) hS)
   clear ht3
   obtain ⟨t4, ht4, h⟩ := bnd h
   obtain ⟨q2x, q2l, q2r⟩ := atE ht4
   clear ht4
   refine idx_s ((Ent.sl mp1).now (fun _ h => h) hS) q2x q2l q2r ?_; intro b3 hb3
   refine ⟨_, rd_get ((Ent.sl mp1).now (fun _ h => h) hS) hb3 q2x, ?_⟩
   refine ⟨by decide, ?_⟩
   obtain rfl := some_inj h
   exact hJ1 _ _ ⟨_, rfl, rfl, hS⟩
  ·
   obtain rfl := some_inj h
   exact hJ1 _ _ ⟨_, rfl, rfl, hS⟩
 ·
  clear h1 hS
  rintro s w ⟨t1, rfl, rfl, hS⟩
  have h := c1
  clear c1
  try dsimp only
  refine cond_s h ?_ ?_ <;> clear h <;> intro hc h
  ·
   obtain ⟨o4, h4, c4⟩ := bnd h
   refine cutM_i (fun s w => ∃ (t5 : List Int), t5 = o4 ∧ s = (()) ∧ Ho w0 w ((cl r_0 [b_0, s_0] N.t_bignum_Int) :: (sl q1 q1l q1c (List.map (Value.int .u32) t5) N.t_uint32) :: L)) (fun J4 hJ4 => ?_) ?_
   ·
    have h := h4
    clear h4
    refine iter_sim (fun s w t => ∃ (t6 : Int) (t7 : Int) (t8 : List Int), (t6, t7, t8) = t ∧ s = (t6, t7, ()) ∧ Ho w0 w ((cl r_0 [b_0, s_0] N.t_bignum_Int) :: (sl q1 q1l q1c (List.map (Value.int .u32) t8) N.t_uint32) :: L)) ?_ h ⟨_, _, _, rfl, rfl, hS⟩
    clear h hS
    rintro s w t X q ⟨t6, t7, t8, rfl, rfl, hS⟩ h hX hO
    unfold T_p_bignum_Int_of_b2 at h
    try dsimp only
    obtain ⟨t9, ht9, h⟩ := bnd h
    obtain rfl := lenE ht9 ((Ent.sl mp1).now (fun _ h => h) hS)
    clear ht9
    refine cond_s h ?_ ?_ <;> clear h <;> intro hc h
    ·
     obtain ⟨t10, ht10, h⟩ := bnd h
     obtain ⟨q5x, q5l, q5r⟩ := atE ht10
     clear ht10
     refine idx_s ((Ent.sl mp1).now (fun _ h => h) hS) q5x q5l q5r ?_; intro b6 hb6
     refine ⟨_, rd_get ((Ent.sl mp1).now (fun _ h => h) hS) hb6 q5x, ?_⟩
     obtain ⟨t11, ht11, h⟩ := bnd h
     obtain ⟨q7x, q7l, q7r⟩ := atE ht11
     clear ht11
     refine idx_s ((Ent.sl mp1).now (fun _ h => h) hS) q7x q7l q7r ?_; intro b8 hb8
     replace hS := ro1 hS
     obtain ⟨t12, ht12, h⟩ := bnd h
     obtain rfl := some_inj ht12
     clear ht12
     refine sto_s hS hb8 q7r ?_; clear hS; intro w hS
     refine ⟨by decide, ?_⟩
     obtain rfl := some_inj h
     exact hX _ rfl _ _ ⟨_, _, _, rfl, rfl, (hS.pick (A := [_, _]) [1, 0] rfl)⟩
    ·
     obtain rfl := some_inj h
     have h := congrArg some (hO _ rfl)
     obtain rfl := some_inj h
     exact hJ4 _ _ ⟨_, rfl, rfl, hS⟩
   ·
    clear h4 hS
    rintro s w ⟨t5, rfl, rfl, hS⟩
    have h := c4
    clear c4
    try dsimp only
    obtain ⟨t13, ht13, h⟩ := bnd h
    refine wk_bignum_trim H hS (Ent.sl mp1) ht13 ?_; clear hS ht13; rintro w hS
    refine ⟨_, _, _, rfl, ?_⟩
    obtain ⟨t14, ht14, h⟩ := bnd h
    obtain ⟨rfl, q100, q101, q102⟩ := subE ht14
    clear ht14
    have q103 := ((Ent.sl mp1).now (fun _ h => h) hS).hiCap q102
    obtain ⟨t15, ht15, h⟩ := bnd h
    obtain rfl := some_inj ht15
    clear ht15
    refine give_c H hS (Ent.upto (Ent.sl mp1) q101 q102) ?_; clear hS; intro w hS
    refine ⟨_, rfl, ?_⟩
    replace hS := ro1 hS
    replace hS := Ho.cut hS q102
    have h := some_inj h
    cases h
    exact hK _ _ _ _ (hS.pick (A := [_, _]) [1, 0] rfl)
  ·
   obtain ⟨t16, ht16, h⟩ := bnd h
   refine wk_bignum_trim H hS (Ent.sl mp1) ht16 ?_; clear hS ht16; rintro w hS
   refine ⟨_, _, _, rfl, ?_⟩
   obtain ⟨t17, ht17, h⟩ := bnd h
   obtain ⟨rfl, q120, q121, q122⟩ := subE ht17
   clear ht17
   have q123 := ((Ent.sl mp1).now (fun _ h => h) hS).hiCap q122
   obtain ⟨t18, ht18, h⟩ := bnd h
   obtain rfl := some_inj ht18
   clear ht18
   refine give_c H hS (Ent.upto (Ent.sl mp1) q121 q122) ?_; clear hS; intro w hS
   refine ⟨_, rfl, ?_⟩
   replace hS := ro1 hS
   replace hS := Ho.cut hS q122
   have h := some_inj h
   cases h
   exact hK _ _ _ _ (hS.pick (A := [_, _]) [1, 0] rfl)

theorem wk_p_bignum_Int_And_zxy {N : Nums} {P : Program} (H : AllOk N P) {w0 w : World} {L : List It} {r_0 : Nat} {b_0 s_0 : Value} {r_1 : Nat} {q1_0 : Bool} {q1_1 : Option Addr} {q1_1l q1_1c : Nat} {l1_1 : List Int} {r_2 : Nat} {q2_0 : Bool} {q2_1 : Option Addr} {q2_1l q2_1c : Nat} {l2_1 : List Int} {u0a : Bool} {u0b : List Int} (hS : Ho w0 w ((cl r_0 [b_0, s_0] N.t_bignum_Int) :: L)) (eq1 : Ent L (cl r_1 [.bool q1_0, .slice q1_1 q1_1l q1_1c] N.t_bignum_Int).A) (hq1_1 : Ent L (rdA (List.map (Value.int .u32) l1_1) q1_1 q1_1l q1_1c)) (eq2 : Ent L (cl r_2 [.bool q2_0, .slice q2_1 q2_1l q2_1c] N.t_bignum_Int).A) (hq2_1 : Ent L (rdA (List.map (Value.int .u32) l2_1) q2_1 q2_1l q2_1c)) (hx : T_p_bignum_Int_And q1_0 l1_1 q2_0 l2_1 = some (u0a, u0b)) {K : Value → World → Prop} (hK : ∀ (a0 : Option Addr) (n0 c0 : Nat) (w1 : World), Ho w0 w1 ((cl r_0 [.bool u0a, .slice a0 n0 c0] N.t_bignum_Int) :: (sl a0 n0 c0 (List.map (Value.int .u32) u0b) N.t_uint32) :: L) → K (.pointer (some ⟨r_0, 0, none⟩)) w1) : CallsX P N.f_p_bignum_Int_And #[.pointer (some ⟨r_0, 0, none⟩), .pointer (some ⟨r_1, 0, none⟩), .pointer (some ⟨r_2, 0, none⟩)] w K := by
 refine H.p_bignum_Int_And (some ⟨r_0, 0, none⟩) (some ⟨r_1, 0, none⟩) (some ⟨r_2, 0, none⟩) w _ ?_
 unfold S_p_bignum_Int_And
 unfold T_p_bignum_Int_And at hx
 have h := hx
 clear hx
 try dsimp only
 refine optM_s ?_
 refine ⟨_, _, _, (eq1.cel tl1 hS rfl), ?_⟩
 obtain ⟨t1, ht1, h⟩ := bnd h
 obtain rfl := lenE ht1 ((hq1_1.mono tl1).now (fun _ h => h) hS)
 clear ht1
 refine optM_s ?_
 refine ⟨_, _, _, (eq2.cel tl1 hS rfl), ?_⟩
 obtain ⟨t2, ht2, h⟩ := bnd h
 obtain rfl := lenE ht2 ((hq2_1.mono tl1).now (fun _ h => h) hS)
 clear ht2
 refine drM_s hS ?_; clear hS; intro w hS
 obtain ⟨t3, ht3, h⟩ := bnd h
 refine wk_p_bignum_Int_low_x H hS (eq1.mono tl1) (hq1_1.mono tl1) ht3 ?_; clear hS ht3; rintro a1 m1 c1 w hS
 refine ⟨_, _, _, rfl, ?_⟩
 obtain ⟨t4, ht4, h⟩ := bnd h
 refine wk_p_bignum_Int_low_x H hS (eq2.mono tl2) (hq2_1.mono tl2) ht4 ?_; clear hS ht4; rintro a2 m2 c2 w hS
 refine ⟨_, _, _, rfl, ?_⟩
 obtain ⟨o3, h3, c3⟩ := bnd h
 refine cutM_i (fun s w => ∃ (t5 : List Int), t5 = o3 ∧ s = (()) ∧ Ho w0 w ((sl a1 m1 c1 (List.map (Value.int .u32) t5) N.t_uint32) :: (cl r_0 [b_0, s_0] N.t_bignum_Int) :: L)) (fun J3 hJ3 => ?_) ?_
 ·
  have h := h3
  clear h3
  refine iter_sim (fun s w t => ∃ (t6 : Int) (t7 : List Int), (t6, t7) = t ∧ s = (t6, ()) ∧ Ho w0 w ((sl a2 m2 c2 (List.map (Value.int .u32) t4) N.t_uint32) :: (sl a1 m1 c1 (List.map (Value.int .u32) t7) N.t_uint32) :: (cl r_0 [b_0, s_0] N.t_bignum_Int) :: L)) ?_ h ⟨_, _, rfl, rfl, hS⟩
  clear h hS
  rintro s w t X q ⟨t6, t7, rfl, rfl, hS⟩ h hX hO
  unfold T_p_bignum_Int_And_b2 at h
  try dsimp only
  refine cond_s h ?_ ?_ <;> clear h <;> intro hc h
  ·
   obtain ⟨t8, ht8, h⟩ := bnd h
   obtain ⟨q4x, q4l, q4r⟩ := atE ht8
   clear ht8
   refine idx_s ((Ent.sl mp1).now (fun _ h => h) hS) q4x q4l q4r ?_; intro b5 hb5
   refine ⟨_, rd_get ((Ent.sl mp1).now (fun _ h => h) hS) hb5 q4x, ?_⟩
   obtain ⟨t9, ht9, h⟩ := bnd h
   obtain ⟨q6x, q6l, q6r⟩ := atE ht9
   clear ht9
   refine idx_s ((Ent.sl mp0).now (fun _ h => h) hS) q6x q6l q6r ?_; intro b7 hb7
   refine ⟨_, rd_get ((Ent.sl mp0).now (fun _ h => h) hS) hb7 q6x, ?_⟩
   obtain ⟨t10, ht10, h⟩ := bnd h
   obtain ⟨q8x, q8l, q8r⟩ := atE ht10
   clear ht10
   refine idx_s ((Ent.sl mp1).now (fun _ h => h) hS) q8x q8l q8r ?_; intro b9 hb9
   refine drM_s hS ?_; clear hS; intro w hS
   replace hS := ro1 hS
   obtain ⟨t11, ht11, h⟩ := bnd h
   obtain rfl := some_inj ht11
   clear ht11
   refine sto_s hS hb9 q8r ?_; clear hS; intro w hS
   refine drM_s hS ?_; clear hS; intro w hS
   obtain rfl := some_inj h
   exact hX _ rfl _ _ ⟨_, _, rfl, rfl, (hS.pick (A := [_, _, _]) [1, 0, 0] rfl)⟩
  ·
   obtain rfl := some_inj h
   have h := congrArg some (hO _ rfl)
   obtain rfl := some_inj h
   exact hJ3 _ _ ⟨_, rfl, rfl, (hS.pick (A := [_, _, _]) [1, 1] rfl)⟩
 ·
  clear h3 hS
  rintro s w ⟨t5, rfl, rfl, hS⟩
  have h := c3
  clear c3
  try dsimp only
  replace hS := ro1 hS
  obtain ⟨⟨t12, t13⟩, ho12, h⟩ := bnd h
  refine wk_p_bignum_Int_of_z H hS ho12 ?_; clear hS ho12; rintro a10 m10 c10 w hS
  refine ⟨_, rfl, ?_⟩
  have h := some_inj h
  cases h
  exact hK _ _ _ _ hS

theorem wk_p_bignum_Int_And_zzy {N : Nums} {P : Program} (H : AllOk N P) {w0 w : World} {L : List It} {r_0 : Nat} {q1_0 : Bool} {q1_1 : Option Addr} {q1_1l q1_1c : Nat} {l1_1 : List Int} {r_2 : Nat} {q2_0 : Bool} {q2_1 : Option Addr} {q2_1l q2_1c : Nat} {l2_1 : List Int} {u0a : Bool} {u0b : List Int} (hS : Ho w0 w ((cl r_0 [.bool q1_0, .slice q1_1 q1_1l q1_1c] N.t_bignum_Int) :: L)) (hq1_1 : Ent L (rdA (List.map (Value.int .u32) l1_1) q1_1 q1_1l q1_1c)) (eq2 : Ent L (cl r_2 [.bool q2_0, .slice q2_1 q2_1l q2_1c] N.t_bignum_Int).A) (hq2_1 : Ent L (rdA (List.map (Value.int .u32) l2_1) q2_1 q2_1l q2_1c)) (hx : T_p_bignum_Int_And q1_0 l1_1 q2_0 l2_1 = some (u0a, u0b)) {K : Value → World → Prop} (hK : ∀ (a0 : Option Addr) (n0 c0 : Nat) (w1 : World), Ho w0 w1 ((cl r_0 [.bool u0a, .slice a0 n0 c0] N.t_bignum_Int) :: (sl a0 n0 c0 (List.map (Value.int .u32) u0b) N.t_uint32) :: L) → K (.pointer (some ⟨r_0, 0, none⟩)) w1) : CallsX P N.f_p_bignum_Int_And #[.pointer (some ⟨r_0, 0, none⟩), .pointer (some ⟨r_0, 0, none⟩), .pointer (some ⟨r_2, 0, none⟩)] w K := by
 refine H.p_bignum_Int_And (some ⟨r_0, 0, none⟩) (some ⟨r_0, 0, none⟩) (some ⟨r_2, 0, none⟩) w _ ?_
 unfold S_p_bignum_Int_And
 unfold T_p_bignum_Int_And at hx
 have h := hx
 clear hx
 try dsimp only
 refine optM_s ?_
 refine ⟨_, _, _, (hS.cel mp0 rfl), ?_⟩
 obtain ⟨t1, ht1, h⟩ := bnd h
 obtain rfl := lenE ht1 ((hq1_1.mono tl1).now (fun _ h => h) hS)
 clear ht1
 refine optM_s ?_
 refine ⟨_, _, _, (eq2.cel tl1 hS rfl), ?_⟩
 obtain ⟨t2, ht2, h⟩ := bnd h
 obtain rfl := lenE ht2 ((hq2_1.mono tl1).now (fun _ h => h) hS)
 clear ht2
 refine drM_s hS ?_; clear hS; intro w hS
 obtain ⟨t3, ht3, h⟩ := bnd h
 refine wk_p_bignum_Int_low_x H hS (Ent.of mp0) (hq1_1.mono tl1) ht3 ?_; clear hS ht3; rintro a1 m1 c1 w hS
 refine ⟨_, _, _, rfl, ?_⟩
 obtain ⟨t4, ht4, h⟩ := bnd h
 refine wk_p_bignum_Int_low_x H hS (eq2.mono tl2) (hq2_1.mono tl2) ht4 ?_; clear hS ht4; rintro a2 m2 c2 w hS
 refine ⟨_, _, _, rfl, ?_⟩
 obtain ⟨o3, h3, c3⟩ := bnd h
 refine cutM_i (fun s w => ∃ (t5 : List Int), t5 = o3 ∧ s = (()) ∧ Ho w0 w ((sl a1 m1 c1 (List.map (Value.int .u32) t5) N.t_uint32) :: (cl r_0 [.bool q1_0, .slice q1_1 q1_1l q1_1c] N.t_bignum_Int) :: L)) (fun J3 hJ3 => ?_) ?_
 ·
  have h := h3
  clear h3
  refine iter_sim (fun s w t => ∃ (t6 : Int) (t7 : List Int), (t6, t7) = t ∧ s = (t6, ()) ∧ Ho w0 w ((sl a2 m2 c2 (List.map (Value.int .u32) t4) N.t_uint32) :: (sl a1 m1 c1 (List.map (Value.int .u32) t7) N.t_uint32) :: (cl r_0 [.bool q1_0, .slice q1_1 q1_1l q1_1c] N.t_bignum_Int) :: L)) ?_ h ⟨_, _, rfl, rfl, hS⟩
  clear h hS
  rintro s w t X q ⟨t6, t7, rfl, rfl, hS⟩ h hX hO
  unfold T_p_bignum_Int_And_b2 at h
  try dsimp only
  refine cond_s h ?_ ?_ <;> clear h <;> intro hc h
  ·
   obtain ⟨t8, ht8, h⟩ := bnd h
   obtain ⟨q4x, q4l, q4r⟩ := atE ht8
   clear ht8
   refine idx_s ((Ent.sl mp1).now (fun _ h => h) hS) q4x q4l q4r ?_; intro b5 hb5
   refine ⟨_, rd_get ((Ent.sl mp1).now (fun _ h => h) hS) hb5 q4x, ?_⟩
   obtain ⟨t9, ht9, h⟩ := bnd h
   obtain ⟨q6x, q6l, q6r⟩ := atE ht9
   clear ht9
   refine idx_s ((Ent.sl mp0).now (fun _ h => h) hS) q6x q6l q6r ?_; intro b7 hb7
   refine ⟨_, rd_get ((Ent.sl mp0).now (fun _ h => h) hS) hb7 q6x, ?_⟩
   obtain ⟨t10, ht10, h⟩ := bnd h
   obtain ⟨q8x, q8l, q8r⟩ := atE ht10
   clear ht10
   refine idx_s ((Ent.sl mp1).now (fun _ h => h) hS) q8x q8l q8r ?_; intro b9 hb9
   refine drM_s hS ?_; clear hS; intro w hS
   replace hS := ro1 hS
   obtain ⟨t11, ht11, h⟩ := bnd h
   obtain rfl := some_inj ht11
   clear ht11
   refine sto_s hS hb9 q8r ?_; clear hS; intro w hS
   refine drM_s hS ?_; clear hS; intro w hS
   obtain rfl := some_inj h
   exact hX _ rfl _ _ ⟨_, _, rfl, rfl, (hS.pick (A := [_, _, _]) [1, 0, 0] rfl)⟩
  ·
   obtain rfl := some_inj h
   have h := congrArg some (hO _ rfl)
   obtain rfl := some_inj h
   exact hJ3 _ _ ⟨_, rfl, rfl, (hS.pick (A := [_, _, _]) [1, 1] rfl)⟩
 ·
  clear h3 hS
  rintro s w ⟨t5, rfl, rfl, hS⟩
  have h := c3
  clear c3
  try dsimp only
  replace hS := ro1 hS
  obtain ⟨⟨t12, t13⟩, ho12, h⟩ := bnd h
  refine wk_p_bignum_Int_of_z H hS ho12 ?_; clear hS ho12; rintro a10 m10 c10 w hS
  refine ⟨_, rfl, ?_⟩
  have h := some_inj h
  cases h
  exact hK _ _ _ _ hS

theorem wk_p_bignum_Int_Uint64_x {N : Nums} {P : Program} (H : AllOk N P) {w0 w : World} {L : List It} {r_0 : Nat} {q0_0 : Bool} {q0_1 : Option Addr} {q0_1l q0_1c : Nat} {l0_1 : List Int} {u0 : Int} (hS : Ho w0 w (L)) (eq0 : Ent L (cl r_0 [.bool q0_0, .slice q0_1 q0_1l q0_1c] N.t_bignum_Int).A) (hq0_1 : Ent L (rdA (List.map (Value.int .u32) l0_1) q0_1 q0_1l q0_1c)) (hx : T_p_bignum_Int_Uint64 q0_0 l0_1 = some u0) {K : Value → World → Prop} (hK : ∀  (w1 : World), Ho w0 w1 (L) → K (.int .u64 u0) w1) : CallsX P N.f_p_bignum_Int_Uint64 #[.pointer (some ⟨r_0, 0, none⟩)] w K := by
 refine H.p_bignum_Int_Uint64 (some ⟨r_0, 0, none⟩) w _ ?_
 unfold S_p_bignum_Int_Uint64
 unfold T_p_bignum_Int_Uint64 at hx
 have h := hx
 clear hx
 try dsimp only
 refine optM_s ?_
 refine ⟨_, _, _, (eq0.cel (fun _ h => h) hS rfl), ?_⟩
 obtain ⟨t1, ht1, h⟩ := bnd h
 obtain rfl := lenE ht1 (hq0_1.now (fun _ h => h) hS)
 clear ht1
 obtain ⟨o1, h1, c1⟩ := bnd h
 refine cutM_i (fun s w => ∃ (t2 : Int), t2 = o1 ∧ s = (t2, ()) ∧ Ho w0 w (L)) (fun J1 hJ1 => ?_) ?_
 ·
  have h := h1
  clear h1
  refine cond_s h ?_ ?_ <;> clear h <;> intro hc h
  ·
   refine optM_s ?_
   refine ⟨_, _, _, (eq0.cel (fun _ h => h) hS rfl), ?_⟩
   obtain ⟨t3, ht3, h⟩ := bnd h
   obtain ⟨q2x, q2l, q2r⟩ := atE ht3
   clear ht3
   refine idx_s (hq0_1.now (fun _ h => h) hS) q2x q2l q2r ?_; intro b3 hb3
   refine ⟨_, rd_get (hq0_1.now (fun _ h => h) hS) hb3 q2x, ?_⟩
   obtain rfl := some_inj h
   exact hJ1 _ _ ⟨_, rfl, rfl, hS⟩
  ·
   obtain rfl := some_inj h
   exact hJ1 _ _ ⟨_, rfl, rfl, hS⟩
 ·
  clear h1 hS
  rintro s w ⟨t2, rfl, rfl, hS⟩
  have h := c1
  clear c1
  try dsimp only
  refine optM_s ?_
  refine ⟨_, _, _, (eq0.cel (fun _ h => h) hS rfl), ?_⟩
  obtain ⟨t4, ht4, h⟩ := bnd h
  obtain rfl := lenE ht4 (hq0_1.now (fun _ h => h) hS)
  clear ht4
  obtain ⟨o4, h4, c4⟩ := bnd h
  refine cutM_i (fun s w => ∃ (t5 : Int), t5 = o4 ∧ s = (t5, ()) ∧ Ho w0 w (L)) (fun J4 hJ4 => ?_) ?_
  ·
   have h := h4
   clear h4
   refine cond_s h ?_ ?_ <;> clear h <;> intro hc h
   ·
    refine optM_s ?_
    refine ⟨_, _, _, (eq0.cel (fun _ h => h) hS rfl), ?_⟩
    obtain ⟨t6, ht6, h⟩ := bnd h
    obtain ⟨q5x, q5l, q5r⟩ := atE ht6
    clear ht6
    refine idx_s (hq0_1.now (fun _ h => h) hS) q5x q5l q5r ?_; intro b6 hb6
    refine ⟨_, rd_get (hq0_1.now (fun _ h => h) hS) hb6 q5x, ?_⟩
    refine ⟨by decide, ?_⟩
    obtain rfl := some_inj h
    exact hJ4 _ _ ⟨_, rfl, rfl, hS⟩
   ·
    obtain rfl := some_inj h
    exact hJ4 _ _ ⟨_, rfl, rfl, hS⟩
  ·
   clear h4 hS
   rintro s w ⟨t5, rfl, rfl, hS⟩
   have h := c4
   clear c4
   try dsimp only
   have h := some_inj h
   cases h
   exact hK _ hS

theorem wk_bignum_left {N : Nums} {P : Program} (H : AllOk N P) {w0 w : World} {L : List It} {q0 : Option Addr} {q0l q0c : Nat} {l0 : List Int} {q1 : Int} {u0 : List Int} (hS : Ho w0 w (L)) (hq0 : Ent L (rdA (List.map (Value.int .u32) l0) q0 q0l q0c)) (hx : T_bignum_left l0 q1 = some u0) {K : Value → World → Prop} (hK : ∀ (a0 : Option Addr) (n0 c0 : Nat) (w1 : World), Ho w0 w1 ((sl a0 n0 c0 (List.map (Value.int .u32) u0) N.t_uint32) :: L) → K (.slice a0 n0 c0) w1) : CallsX P N.f_bignum_left #[.slice q0 q0l q0c, .int .u64 q1] w K := by
 refine H.bignum_left q0 q0l q0c q1 w _ ?_
 unfold S_bignum_left
 unfold T_bignum_left at hx
 have h := hx
 clear hx
 try dsimp only
 obtain ⟨t1, ht1, h⟩ := bnd h
 obtain rfl := lenE ht1 (hq0.now (fun _ h => h) hS)
 clear ht1
 refine cond_s h ?_ ?_ <;> clear h <;> intro hc h
 ·
  replace hS := hS.none (α := Int) (enc := (Value.int .u32)) (t := N.t_uint32)
  have h := some_inj h
  cases h
  exact hK _ _ _ _ hS
 ·
  refine ⟨by decide, ?_⟩
  refine ⟨by decide, ?_⟩
  obtain ⟨t2, ht2, h⟩ := bnd h
  obtain rfl := lenE ht2 (hq0.now (fun _ h => h) hS)
  clear ht2
  obtain ⟨t3, ht3, h⟩ := bnd h
  obtain ⟨rfl, kt3⟩ := mkE ht3
  clear ht3
  refine mk_s (enc := (Value.int .u32)) hS kt3 rfl ?_; clear hS kt3; intro r1 w hS
  obtain ⟨o2, h2, c2⟩ := bnd h
  refine cutM_i (fun s w => ∃ (t4 : List Int), t4 = o2 ∧ s = (()) ∧ Ho w0 w ((sl (some ⟨r1, 0, none⟩) (((IntKind.i64.wrap ((IntKind.i64.wrap (((q0l : Nat) : Int) + (IntKind.i64.wrap (IntKind.u64.wrap (q1.tdiv 32))))) + 1))).toNat) (((IntKind.i64.wrap ((IntKind.i64.wrap (((q0l : Nat) : Int) + (IntKind.i64.wrap (IntKind.u64.wrap (q1.tdiv 32))))) + 1))).toNat) (List.map (Value.int .u32) t4) N.t_uint32) :: L)) (fun J2 hJ2 => ?_) ?_
  ·
   have h := h2
   clear h2
   refine iter_sim (fun s w t => ∃ (t5 : Int) (t6 : List Int), (t5, t6) = t ∧ s = (t5, ()) ∧ Ho w0 w ((sl (some ⟨r1, 0, none⟩) (((IntKind.i64.wrap ((IntKind.i64.wrap (((q0l : Nat) : Int) + (IntKind.i64.wrap (IntKind.u64.wrap (q1.tdiv 32))))) + 1))).toNat) (((IntKind.i64.wrap ((IntKind.i64.wrap (((q0l : Nat) : Int) + (IntKind.i64.wrap (IntKind.u64.wrap (q1.tdiv 32))))) + 1))).toNat) (List.map (Value.int .u32) t6) N.t_uint32) :: L)) ?_ h ⟨_, _, rfl, rfl, hS⟩
   clear h hS
   rintro s w t X q ⟨t5, t6, rfl, rfl, hS⟩ h hX hO
   unfold T_bignum_left_b2 at h
   try dsimp only
   obtain ⟨t7, ht7, h⟩ := bnd h
   obtain rfl := lenE ht7 ((hq0.mono tl1).now (fun _ h => h) hS)
   clear ht7
   refine cond_s h ?_ ?_ <;> clear h <;> intro hc h
   ·
    obtain ⟨t8, ht8, h⟩ := bnd h
    obtain ⟨q3x, q3l, q3r⟩ := atE ht8
    clear ht8
    refine idx_s ((hq0.mono tl1).now (fun _ h => h) hS) q3x q3l q3r ?_; intro b4 hb4
    refine ⟨_, rd_get ((hq0.mono tl1).now (fun _ h => h) hS) hb4 q3x, ?_⟩
    obtain ⟨t15, ht15, h⟩ := bnd h
    refine ⟨nn_s ht15, ?_⟩
    clear ht15
    obtain ⟨t9, ht9, h⟩ := bnd h
    obtain ⟨q5x, q5l, q5r⟩ := atE ht9
    clear ht9
    refine idy_s ((Ent.sl mp0).now (fun _ h => h) hS) q5x q5l q5r ?_
    refine ⟨_, rd_get ((Ent.sl mp0).now (fun _ h => h) hS) rfl q5x, ?_⟩
    obtain ⟨t10, ht10, h⟩ := bnd h
    obtain ⟨q7x, q7l, q7r⟩ := atE ht10
    clear ht10
    refine idy_s ((Ent.sl mp0).now (fun _ h => h) hS) q7x q7l q7r ?_
    obtain ⟨t11, ht11, h⟩ := bnd h
    obtain rfl := some_inj ht11
    clear ht11
    refine sto_s hS rfl q7r ?_; clear hS; intro w hS
    obtain ⟨t12, ht12, h⟩ := bnd h
    obtain ⟨q9x, q9l, q9r⟩ := atE ht12
    clear ht12
    refine idy_s ((Ent.sl mp0).now (fun _ h => h) hS) q9x q9l q9r ?_
    refine ⟨_, rd_get ((Ent.sl mp0).now (fun _ h => h) hS) rfl q9x, ?_⟩
    refine ⟨by decide, ?_⟩
    obtain ⟨t13, ht13, h⟩ := bnd h
    obtain ⟨q11x, q11l, q11r⟩ := atE ht13
    clear ht13
    refine idy_s ((Ent.sl mp0).now (fun _ h => h) hS) q11x q11l q11r ?_
    obtain ⟨t14, ht14, h⟩ := bnd h
    obtain rfl := some_inj ht14
    clear ht14
    refine sto_s hS rfl q11r ?_; clear hS; intro w hS
    obtain rfl := some_inj h
    exact hX _ rfl _ _ ⟨_, _, rfl, rfl, hS⟩
   ·
    obtain rfl := some_inj h
    have h := congrArg some (hO _ rfl)
    obtain rfl := some_inj h
    exact hJ2 _ _ ⟨_, rfl, rfl, hS⟩
  ·
   clear h2 hS
   rintro s w ⟨t4, rfl, rfl, hS⟩
   have h := c2
   clear c2
   try dsimp only
   obtain ⟨t16, ht16, h⟩ := bnd h
   refine wk_bignum_trim H hS (Ent.sl mp0) ht16 ?_; clear hS ht16; rintro w hS
   refine ⟨_, _, _, rfl, ?_⟩
   obtain ⟨t17, ht17, h⟩ := bnd h
   obtain ⟨rfl, q140, q141, q142⟩ := subE ht17
   clear ht17
   have q143 := ((Ent.sl mp0).now (fun _ h => h) hS).hiCap q142
   replace hS := Ho.cut hS q142
   have h := some_inj h
   cases h
   exact hK _ _ _ _ hS

theorem wk_p_bignum_Int_Lsh_zx {N : Nums} {P : Program} (H : AllOk N P) {w0 w : World} {L : List It} {r_0 : Nat} {b_0 s_0 : Value} {r_1 : Nat} {q1_0 : Bool} {q1_1 : Option Addr} {q1_1l q1_1c : Nat} {l1_1 : List Int} {q2 : Int} {u0a : Bool} {u0b : List Int} (hS : Ho w0 w ((cl r_0 [b_0, s_0] N.t_bignum_Int) :: L)) (eq1 : Ent L (cl r_1 [.bool q1_0, .slice q1_1 q1_1l q1_1c] N.t_bignum_Int).A) (hq1_1 : Ent L (rdA (List.map (Value.int .u32) l1_1) q1_1 q1_1l q1_1c)) (hx : T_p_bignum_Int_Lsh q1_0 l1_1 q2 = some (u0a, u0b)) {K : Value → World → Prop} (hK : ∀ (a0 : Option Addr) (n0 c0 : Nat) (w1 : World), Ho w0 w1 ((cl r_0 [.bool u0a, .slice a0 n0 c0] N.t_bignum_Int) :: (sl a0 n0 c0 (List.map (Value.int .u32) u0b) N.t_uint32) :: L) → K (.pointer (some ⟨r_0, 0, none⟩)) w1) : CallsX P N.f_p_bignum_Int_Lsh #[.pointer (some ⟨r_0, 0, none⟩), .pointer (some ⟨r_1, 0, none⟩), .int .u64 q2] w K := by
 refine H.p_bignum_Int_Lsh (some ⟨r_0, 0, none⟩) (some ⟨r_1, 0, none⟩) q2 w _ ?_
 unfold S_p_bignum_Int_Lsh
 unfold T_p_bignum_Int_Lsh at hx
 have h := hx
 clear hx
 try dsimp only
 refine optM_s ?_
 refine ⟨_, (eq1.cel tl1 hS rfl), ?_⟩
 refine optM_s ?_
 refine ⟨_, _, _, (eq1.cel tl1 hS rfl), ?_⟩
 refine drM_s hS ?_; clear hS; intro w hS
 obtain ⟨t1, ht1, h⟩ := bnd h
 refine wk_bignum_left H hS (hq1_1.mono tl1) ht1 ?_; clear hS ht1; rintro a1 m1 c1 w hS
 refine ⟨_, _, _, rfl, ?_⟩
 refine ⟨(eq1.cel tl2 hS rfl), ?_⟩
 refine drM_s hS ?_; clear hS; intro w hS
 obtain ⟨t2, ht2, h⟩ := bnd h
 replace hS := ro1 hS
 obtain rfl := some_inj ht2
 clear ht2
 refine give_c H hS (Ent.sl mp1) ?_; clear hS; intro w hS
 refine ⟨_, rfl, ?_⟩
 refine drM_s hS ?_; clear hS; intro w hS
 have h := some_inj h
 cases h
 exact hK _ _ _ _ hS

theorem wk_p_bignum_Int_Lsh_zz {N : Nums} {P : Program} (H : AllOk N P) {w0 w : World} {L : List It} {r_0 : Nat} {q1_0 : Bool} {q1_1 : Option Addr} {q1_1l q1_1c : Nat} {l1_1 : List Int} {q2 : Int} {u0a : Bool} {u0b : List Int} (hS : Ho w0 w ((cl r_0 [.bool q1_0, .slice q1_1 q1_1l q1_1c] N.t_bignum_Int) :: L)) (hq1_1 : Ent L (rdA (List.map (Value.int .u32) l1_1) q1_1 q1_1l q1_1c)) (hx : T_p_bignum_Int_Lsh q1_0 l1_1 q2 = some (u0a, u0b)) {K : Value → World → Prop} (hK : ∀ (a0 : Option Addr) (n0 c0 : Nat) (w1 : World), Ho w0 w1 ((cl r_0 [.bool u0a, .slice a0 n0 c0] N.t_bignum_Int) :: (sl a0 n0 c0 (List.map (Value.int .u32) u0b) N.t_uint32) :: L) → K (.pointer (some ⟨r_0, 0, none⟩)) w1) : CallsX P N.f_p_bignum_Int_Lsh #[.pointer (some ⟨r_0, 0, none⟩), .pointer (some ⟨r_0, 0, none⟩), .int .u64 q2] w K := by
 refine H.p_bignum_Int_Lsh (some ⟨r_0, 0, none⟩) (some ⟨r_0, 0, none⟩) q2 w _ ?_
 unfold S_p_bignum_Int_Lsh
 unfold T_p_bignum_Int_Lsh at hx
 have h := hx
 clear hx
 try dsimp only
 refine optM_s ?_
 refine ⟨_, (hS.cel mp0 rfl), ?_⟩
 refine optM_s ?_
 refine ⟨_, _, _, (hS.cel mp0 rfl), ?_⟩
 refine drM_s hS ?_; clear hS; intro w hS
 obtain ⟨t1, ht1, h⟩ := bnd h
 refine wk_bignum_left H hS (hq1_1.mono tl1) ht1 ?_; clear hS ht1; rintro a1 m1 c1 w hS
 refine ⟨_, _, _, rfl, ?_⟩
 refine ⟨(hS.cel mp1 rfl), ?_⟩
 refine drM_s hS ?_; clear hS; intro w hS
 obtain ⟨t2, ht2, h⟩ := bnd h
 replace hS := ro1 hS
 obtain rfl := some_inj ht2
 clear ht2
 refine give_c H hS (Ent.sl mp1) ?_; clear hS; intro w hS
 refine ⟨_, rfl, ?_⟩
 refine drM_s hS ?_; clear hS; intro w hS
 have h := some_inj h
 cases h
 exact hK _ _ _ _ hS

theorem wk_p_bignum_Int_Or_zxy {N : Nums} {P : Program} (H : AllOk N P) {w0 w : World} {L : List It} {r_0 : Nat} {b_0 s_0 : Value} {r_1 : Nat} {q1_0 : Bool} {q1_1 : Option Addr} {q1_1l q1_1c : Nat} {l1_1 : List Int} {r_2 : Nat} {q2_0 : Bool} {q2_1 : Option Addr} {q2_1l q2_1c : Nat} {l2_1 : List Int} {u0a : Bool} {u0b : List Int} (hS : Ho w0 w ((cl r_0 [b_0, s_0] N.t_bignum_Int) :: L)) (eq1 : Ent L (cl r_1 [.bool q1_0, .slice q1_1 q1_1l q1_1c] N.t_bignum_Int).A) (hq1_1 : Ent L (rdA (List.map (Value.int .u32) l1_1) q1_1 q1_1l q1_1c)) (eq2 : Ent L (cl r_2 [.bool q2_0, .slice q2_1 q2_1l q2_1c] N.t_bignum_Int).A) (hq2_1 : Ent L (rdA (List.map (Value.int .u32) l2_1) q2_1 q2_1l q2_1c)) (hx : T_p_bignum_Int_Or q1_0 l1_1 q2_0 l2_1 = some (u0a, u0b)) {K : Value → World → Prop} (hK : ∀ (a0 : Option Addr) (n0 c0 : Nat) (w1 : World), Ho w0 w1 ((cl r_0 [.bool u0a, .slice a0 n0 c0] N.t_bignum_Int) :: (sl a0 n0 c0 (List.map (Value.int .u32) u0b) N.t_uint32) :: L) → K (.pointer (some ⟨r_0, 0, none⟩)) w1) : CallsX P N.f_p_bignum_Int_Or #[.pointer (some ⟨r_0, 0, none⟩), .pointer (some ⟨r_1, 0, none⟩), .pointer (some ⟨r_2, 0, none⟩)] w K := by
 refine H.p_bignum_Int_Or (some ⟨r_0, 0, none⟩) (some ⟨r_1, 0, none⟩) (some ⟨r_2, 0, none⟩) w _ ?_
 unfold S_p_bignum_Int_Or
 unfold T_p_bignum_Int_Or at hx
 have h := hx
 clear hx
 try dsimp only
 refine optM_s ?_
 refine ⟨_, _, _, (eq1.cel tl1 hS rfl), ?_⟩
 obtain ⟨t1, ht1, h⟩ := bnd h
 obtain rfl := lenE ht1 ((hq1_1.mono tl1).now (fun _ h => h) hS)
 clear ht1
 refine optM_s ?_
 refine ⟨_, _, _, (eq2.cel tl1 hS rfl), ?_⟩
 obtain ⟨t2, ht2, h⟩ := bnd h
 obtain rfl := lenE ht2 ((hq2_1.mono tl1).now (fun _ h => h) hS)
 clear ht2
 refine drM_s hS ?_; clear hS; intro w hS
 obtain ⟨t3, ht3, h⟩ := bnd h
 refine wk_p_bignum_Int_low_x H hS (eq1.mono tl1) (hq1_1.mono tl1) ht3 ?_; clear hS ht3; rintro a1 m1 c1 w hS
 refine ⟨_, _, _, rfl, ?_⟩
 obtain ⟨t4, ht4, h⟩ := bnd h
 refine wk_p_bignum_Int_low_x H hS (eq2.mono tl2) (hq2_1.mono tl2) ht4 ?_; clear hS ht4; rintro a2 m2 c2 w hS
 refine ⟨_, _, _, rfl, ?_⟩
 obtain ⟨o3, h3, c3⟩ := bnd h
 refine cutM_i (fun s w => ∃ (t5 : List Int), t5 = o3 ∧ s = (()) ∧ Ho w0 w ((sl a1 m1 c1 (List.map (Value.int .u32) t5) N.t_uint32) :: (cl r_0 [b_0, s_0] N.t_bignum_Int) :: L)) (fun J3 hJ3 => ?_) ?_
 ·
  have h := h3
  clear h3
  refine iter_sim (fun s w t => ∃ (t6 : Int) (t7 : List Int), (t6, t7) = t ∧ s = (t6, ()) ∧ Ho w0 w ((sl a2 m2 c2 (List.map (Value.int .u32) t4) N.t_uint32) :: (sl a1 m1 c1 (List.map (Value.int .u32) t7) N.t_uint32) :: (cl r_0 [b_0, s_0] N.t_bignum_Int) :: L)) ?_ h ⟨_, _, rfl, rfl, hS⟩
  clear h hS
  rintro s w t X q ⟨t6, t7, rfl, rfl, hS⟩ h hX hO
  unfold T_p_bignum_Int_Or_b2 at h
  try dsimp only
  refine cond_s h ?_ ?_ <;> clear h <;> intro hc h
  ·
   obtain ⟨t8, ht8, h⟩ := bnd h
   obtain ⟨q4x, q4l, q4r⟩ := atE ht8
   clear ht8
   refine idx_s ((Ent.sl mp1).now (fun _ h => h) hS) q4x q4l q4r ?_; intro b5 hb5
   refine ⟨_, rd_get ((Ent.sl mp1).now (fun _ h => h) hS) hb5 q4x, ?_⟩
   obtain ⟨t9, ht9, h⟩ := bnd h
   obtain ⟨q6x, q6l, q6r⟩ := atE ht9
   clear ht9
   refine idx_s ((Ent.sl mp0).now (fun _ h => h) hS) q6x q6l q6r ?_; intro b7 hb7
   refine ⟨_, rd_get ((Ent.sl mp0).now (fun _ h => h) hS) hb7 q6x, ?_⟩
   obtain ⟨t10, ht10, h⟩ := bnd h
   obtain ⟨q8x, q8l, q8r⟩ := atE ht10
   clear ht10
   refine idx_s ((Ent.sl mp1).now (fun _ h => h) hS) q8x q8l q8r ?_; intro b9 hb9
   refine drM_s hS ?_; clear hS; intro w hS
   replace hS := ro1 hS
   obtain ⟨t11, ht11, h⟩ := bnd h
   obtain rfl := some_inj ht11
   clear ht11
   refine sto_s hS hb9 q8r ?_; clear hS; intro w hS
   refine drM_s hS ?_; clear hS; intro w hS
   obtain rfl := some_inj h
   exact hX _ rfl _ _ ⟨_, _, rfl, rfl, (hS.pick (A := [_, _, _]) [1, 0, 0] rfl)⟩
  ·
   obtain rfl := some_inj h
   have h := congrArg some (hO _ rfl)
   obtain rfl := some_inj h
   exact hJ3 _ _ ⟨_, rfl, rfl, (hS.pick (A := [_, _, _]) [1, 1] rfl)⟩
 ·
  clear h3 hS
  rintro s w ⟨t5, rfl, rfl, hS⟩
  have h := c3
  clear c3
  try dsimp only
  replace hS := ro1 hS
  obtain ⟨⟨t12, t13⟩, ho12, h⟩ := bnd h
  refine wk_p_bignum_Int_of_z H hS ho12 ?_; clear hS ho12; rintro a10 m10 c10 w hS
  refine ⟨_, rfl, ?_⟩
  have h := some_inj h
  cases h
  exact hK _ _ _ _ hS

theorem wk_p_bignum_Int_Or_zzy {N : Nums} {P : Program} (H : AllOk N P) {w0 w : World} {L : List It} {r_0 : Nat} {q1_0 : Bool} {q1_1 : Option Addr} {q1_1l q1_1c : Nat} {l1_1 : List Int} {r_2 : Nat} {q2_0 : Bool} {q2_1 : Option Addr} {q2_1l q2_1c : Nat} {l2_1 : List Int} {u0a : Bool} {u0b : List Int} (hS : Ho w0 w ((cl r_0 [.bool q1_0, .slice q1_1 q1_1l q1_1c] N.t_bignum_Int) :: L)) (hq1_1 : Ent L (rdA (List.map (Value.int .u32) l1_1) q1_1 q1_1l q1_1c)) (eq2 : Ent L (cl r_2 [.bool q2_0, .slice q2_1 q2_1l q2_1c] N.t_bignum_Int).A) (hq2_1 : Ent L (rdA (List.map (Value.int .u32) l2_1) q2_1 q2_1l q2_1c)) (hx : T_p_bignum_Int_Or q1_0 l1_1 q2_0 l2_1 = some (u0a, u0b)) {K : Value → World → Prop} (hK : ∀ (a0 : Option Addr) (n0 c0 : Nat) (w1 : World), Ho w0 w1 ((cl r_0 [.bool u0a, .slice a0 n0 c0] N.t_bignum_Int) :: (sl a0 n0 c0 (List.map (Value.int .u32) u0b) N.t_uint32) :: L) → K (.pointer (some ⟨r_0, 0, none⟩)) w1) : CallsX P N.f_p_bignum_Int_Or #[.pointer (some ⟨r_0, 0, none⟩), .pointer (some ⟨r_0, 0, none⟩), .pointer (some ⟨r_2, 0, none⟩)] w K := by
 refine H.p_bignum_Int_Or (some ⟨r_0, 0, none⟩) (some ⟨r_0, 0, none⟩) (some ⟨r_2, 0, none⟩) w _ ?_
 unfold S_p_bignum_Int_Or
 unfold T_p_bignum_Int_Or at hx
 have h := hx
 clear hx
 try dsimp only
 refine optM_s ?_
 refine ⟨_, _, _, (hS.cel mp0 rfl), ?_⟩
 obtain ⟨t1, ht1, h⟩ := bnd h
 obtain rfl := lenE ht1 ((hq1_1.mono tl1).now (fun _ h => h) hS)
 clear ht1
 refine optM_s ?_
 refine ⟨_, _, _, (eq2.cel tl1 hS rfl), ?_⟩
 obtain ⟨t2, ht2, h⟩ := bnd h
 obtain rfl := lenE ht2 ((hq2_1.mono tl1).now (fun _ h => h) hS)
 clear ht2
 refine drM_s hS ?_; clear hS; intro w hS
 obtain ⟨t3, ht3, h⟩ := bnd h
 refine wk_p_bignum_Int_low_x H hS (Ent.of mp0) (hq1_1.mono tl1) ht3 ?_; clear hS ht3; rintro a1 m1 c1 w hS
 refine ⟨_, _, _, rfl, ?_⟩
 obtain ⟨t4, ht4, h⟩ := bnd h
 refine wk_p_bignum_Int_low_x H hS (eq2.mono tl2) (hq2_1.mono tl2) ht4 ?_; clear hS ht4; rintro a2 m2 c2 w hS
 refine ⟨_, _, _, rfl, ?_⟩
 obtain ⟨o3, h3, c3⟩ := bnd h
 refine cutM_i (fun s w => ∃ (t5 : List Int), t5 = o3 ∧ s = (()) ∧ Ho w0 w ((sl a1 m1 c1 (List.map (Value.int .u32) t5) N.t_uint32) :: (cl r_0 [.bool q1_0, .slice q1_1 q1_1l q1_1c] N.t_bignum_Int) :: L)) (fun J3 hJ3 => ?_) ?_
 ·
  have h := h3
  clear h3
  refine iter_sim (fun s w t => ∃ (t6 : Int) (t7 : List Int), (t6, t7) = t ∧ s = (t6, ()) ∧ Ho w0 w ((sl a2 m2 c2 (List.map (Value.int .u32) t4) N.t_uint32) :: (sl a1 m1 c1 (List.map (Value.int .u32) t7) N.t_uint32) :: (cl r_0 [.bool q1_0, .slice q1_1 q1_1l q1_1c] N.t_bignum_Int) :: L)) ?_ h ⟨_, _, rfl, rfl, hS⟩
  clear h hS
  rintro s w t X q ⟨t6, t7, rfl, rfl, hS⟩ h hX hO
  unfold T_p_bignum_Int_Or_b2 at h
  try dsimp only
  refine cond_s h ?_ ?_ <;> clear h <;> intro hc h
  ·
   obtain ⟨t8, ht8, h⟩ := bnd h
   obtain ⟨q4x, q4l, q4r⟩ := atE ht8
   clear ht8
   refine idx_s ((Ent.sl mp1).now (fun _ h => h) hS) q4x q4l q4r ?_; intro b5 hb5
   refine ⟨_, rd_get ((Ent.sl mp1).now (fun _ h => h) hS) hb5 q4x, ?_⟩
   obtain ⟨t9, ht9, h⟩ := bnd h
   obtain ⟨q6x, q6l, q6r⟩ := atE ht9
   clear ht9
   refine idx_s ((Ent.sl mp0).now (fun _ h => h) hS) q6x q6l q6r ?_; intro b7 hb7
   refine ⟨_, rd_get ((Ent.sl mp0).now (fun _ h => h) hS) hb7 q6x, ?_⟩
   obtain ⟨t10, ht10, h⟩ := bnd h
   obtain ⟨q8x, q8l, q8r⟩ := atE ht10
   clear ht10
   refine idx_s ((Ent.sl mp1).now (fun _ h => h) hS) q8x q8l q8r ?_; intro b9 hb9
   refine drM_s hS ?_; clear hS; intro w hS
   replace hS := ro1 hS
   obtain ⟨t11, ht11, h⟩ := bnd h
   obtain rfl := some_inj ht11
   clear ht11
   refine sto_s hS hb9 q8r ?_; clear hS; intro w hS
   refine drM_s hS ?_; clear hS; intro w hS
   obtain rfl := some_inj h
   exact hX _ rfl _ _ ⟨_, _, rfl, rfl, (hS.pick (A := [_, _, _]) [1, 0, 0] rfl)⟩
  ·
   obtain rfl := some_inj h
   have h := congrArg some (hO _ rfl)
   obtain rfl := some_inj h
   exact hJ3 _ _ ⟨_, rfl, rfl, (hS.pick (A := [_, _, _]) [1, 1] rfl)⟩
 ·
  clear h3 hS
  rintro s w ⟨t5, rfl, rfl, hS⟩
  have h := c3
  clear c3
  try dsimp only
  replace hS := ro1 hS
  obtain ⟨⟨t12, t13⟩, ho12, h⟩ := bnd h
  refine wk_p_bignum_Int_of_z H hS ho12 ?_; clear hS ho12; rintro a10 m10 c10 w hS
  refine ⟨_, rfl, ?_⟩
  have h := some_inj h
  cases h
  exact hK _ _ _ _ hS

theorem wk_p_bignum_Int_Neg_zx {N : Nums} {P : Program} (H : AllOk N P) {w0 w : World} {L : List It} {r_0 : Nat} {b_0 s_0 : Value} {r_1 : Nat} {q1_0 : Bool} {q1_1 : Option Addr} {q1_1l q1_1c : Nat} {l1_1 : List Int} {u0a : Bool} {u0b : List Int} (hS : Ho w0 w ((cl r_0 [b_0, s_0] N.t_bignum_Int) :: L)) (eq1 : Ent L (cl r_1 [.bool q1_0, .slice q1_1 q1_1l q1_1c] N.t_bignum_Int).A) (hq1_1 : Ent L (rdA (List.map (Value.int .u32) l1_1) q1_1 q1_1l q1_1c)) (hx : T_p_bignum_Int_Neg q1_0 l1_1 = some (u0a, u0b)) {K : Value → World → Prop} (hK : ∀ (a0 : Option Addr) (n0 c0 : Nat) (w1 : World), Ho w0 w1 ((cl r_0 [.bool u0a, .slice a0 n0 c0] N.t_bignum_Int) :: (sl a0 n0 c0 (List.map (Value.int .u32) u0b) N.t_uint32) :: L) → K (.pointer (some ⟨r_0, 0, none⟩)) w1) : CallsX P N.f_p_bignum_Int_Neg #[.pointer (some ⟨r_0, 0, none⟩), .pointer (some ⟨r_1, 0, none⟩)] w K := by
 refine H.p_bignum_Int_Neg (some ⟨r_0, 0, none⟩) (some ⟨r_1, 0, none⟩) w _ ?_
 unfold S_p_bignum_Int_Neg
 unfold T_p_bignum_Int_Neg at hx
 have h := hx
 clear hx
 try dsimp only
 refine optM_s ?_
 refine ⟨_, (eq1.cel tl1 hS rfl), ?_⟩
 refine optM_s ?_
 refine ⟨_, _, _, (eq1.cel tl1 hS rfl), ?_⟩
 refine drM_s hS ?_; clear hS; intro w hS
 obtain ⟨t1, ht1, h⟩ := bnd h
 refine wk_bignum_twin H hS (hq1_1.mono tl1) ht1 ?_; clear hS ht1; rintro a1 m1 c1 w hS
 refine ⟨_, _, _, rfl, ?_⟩
 refine ⟨(eq1.cel tl2 hS rfl), ?_⟩
 refine drM_s hS ?_; clear hS; intro w hS
 obtain ⟨t2, ht2, h⟩ := bnd h
 replace hS := ro1 hS
 obtain rfl := some_inj ht2
 clear ht2
 refine give_c H hS (Ent.sl mp1) ?_; clear hS; intro w hS
 refine ⟨_, rfl, ?_⟩
 refine drM_s hS ?_; clear hS; intro w hS
 have h := some_inj h
 cases h
 exact hK _ _ _ _ hS

theorem wk_p_bignum_Int_Neg_zz {N : Nums} {P : Program} (H : AllOk N P) {w0 w : World} {L : List It} {r_0 : Nat} {q1_0 : Bool} {q1_1 : Option Addr} {q1_1l q1_1c : Nat} {l1_1 : List Int} {u0a : Bool} {u0b : List Int} (hS : Ho w0 w ((cl r_0 [.bool q1_0, .slice q1_1 q1_1l q1_1c] N.t_bignum_Int) :: L)) (hq1_1 : Ent L (rdA (List.map (Value.int .u32) l1_1) q1_1 q1_1l q1_1c)) (hx : T_p_bignum_Int_Neg q1_0 l1_1 = some (u0a, u0b)) {K : Value → World → Prop} (hK : ∀ (a0 : Option Addr) (n0 c0 : Nat) (w1 : World), Ho w0 w1 ((cl r_0 [.bool u0a, .slice a0 n0 c0] N.t_bignum_Int) :: (sl a0 n0 c0 (List.map (Value.int .u32) u0b) N.t_uint32) :: L) → K (.pointer (some ⟨r_0, 0, none⟩)) w1) : CallsX P N.f_p_bignum_Int_Neg #[.pointer (some ⟨r_0, 0, none⟩), .pointer (some ⟨r_0, 0, none⟩)] w K := by
 refine H.p_bignum_Int_Neg (some ⟨r_0, 0, none⟩) (some ⟨r_0, 0, none⟩) w _ ?_
 unfold S_p_bignum_Int_Neg
 unfold T_p_bignum_Int_Neg at hx
 have h := hx
 clear hx
 try dsimp only
 refine optM_s ?_
 refine ⟨_, (hS.cel mp0 rfl), ?_⟩
 refine optM_s ?_
 refine ⟨_, _, _, (hS.cel mp0 rfl), ?_⟩
 refine drM_s hS ?_; clear hS; intro w hS
 obtain ⟨t1, ht1, h⟩ := bnd h
 refine wk_bignum_twin H hS (hq1_1.mono tl1) ht1 ?_; clear hS ht1; rintro a1 m1 c1 w hS
 refine ⟨_, _, _, rfl, ?_⟩
 refine ⟨(hS.cel mp1 rfl), ?_⟩
 refine drM_s hS ?_; clear hS; intro w hS
 obtain ⟨t2, ht2, h⟩ := bnd h
 replace hS := ro1 hS
 obtain rfl := some_inj ht2
 clear ht2
 refine give_c H hS (Ent.sl mp1) ?_; clear hS; intro w hS
 refine ⟨_, rfl, ?_⟩
 refine drM_s hS ?_; clear hS; intro w hS
 have h := some_inj h
 cases h
 exact hK _ _ _ _ hS

theorem wk_bignum_cmp {N : Nums} {P : Program} (H : AllOk N P) {w0 w : World} {L : List It} {q0 : Option Addr} {q0l q0c : Nat} {l0 : List Int} {q1 : Option Addr} {q1l q1c : Nat} {l1 : List Int} {u0 : Int} (hS : Ho w0 w (L)) (hq0 : Ent L (rdA (List.map (Value.int .u32) l0) q0 q0l q0c)) (hq1 : Ent L (rdA (List.map (Value.int .u32) l1) q1 q1l q1c)) (hx : T_bignum_cmp l0 l1 = some u0) {K : Value → World → Prop} (hK : ∀  (w1 : World), Ho w0 w1 (L) → K (.int .i64 u0) w1) : CallsX P N.f_bignum_cmp #[.slice q0 q0l q0c, .slice q1 q1l q1c] w K := by
 refine H.bignum_cmp q0 q0l q0c q1 q1l q1c w _ ?_
 unfold S_bignum_cmp
 unfold T_bignum_cmp at hx
 have h := hx
 clear hx
 try dsimp only
 obtain ⟨t1, ht1, h⟩ := bnd h
 obtain rfl := lenE ht1 (hq0.now (fun _ h => h) hS)
 clear ht1
 obtain ⟨t2, ht2, h⟩ := bnd h
 obtain rfl := lenE ht2 (hq1.now (fun _ h => h) hS)
 clear ht2
 refine cond_s h ?_ ?_ <;> clear h <;> intro hc h
 ·
  obtain ⟨t3, ht3, h⟩ := bnd h
  obtain rfl := lenE ht3 (hq0.now (fun _ h => h) hS)
  clear ht3
  obtain ⟨t4, ht4, h⟩ := bnd h
  obtain rfl := lenE ht4 (hq1.now (fun _ h => h) hS)
  clear ht4
  refine cond_s h ?_ ?_ <;> clear h <;> intro hc h
  ·
   have h := some_inj h
   cases h
   exact hK _ hS
  ·
   have h := some_inj h
   cases h
   exact hK _ hS
 ·
  obtain ⟨t5, ht5, h⟩ := bnd h
  obtain rfl := lenE ht5 (hq0.now (fun _ h => h) hS)
  clear ht5
  obtain ⟨o1, h1, c1⟩ := bnd h
  refine cutM_i (fun s w =>  .inl () = o1 ∧ s = (()) ∧ Ho w0 w (L)) (fun J1 hJ1 => ?_) ?_
  ·
   have h := h1
   clear h1
   refine iter_sim (fun s w t => ∃ (t6 : Int), t6 = t ∧ s = (t6, ()) ∧ Ho w0 w (L)) ?_ h ⟨_, rfl, rfl, hS⟩
   clear h hS
   rintro s w t X q ⟨t6, rfl, rfl, hS⟩ h hX hO
   unfold T_bignum_cmp_b2 at h
   try dsimp only
   refine cond_s h ?_ ?_ <;> clear h <;> intro hc h
   ·
    obtain ⟨t7, ht7, h⟩ := bnd h
    obtain ⟨q2x, q2l, q2r⟩ := atE ht7
    clear ht7
    refine idx_s (hq0.now (fun _ h => h) hS) q2x q2l q2r ?_; intro b3 hb3
    refine ⟨_, rd_get (hq0.now (fun _ h => h) hS) hb3 q2x, ?_⟩
    obtain ⟨t8, ht8, h⟩ := bnd h
    obtain ⟨q4x, q4l, q4r⟩ := atE ht8
    clear ht8
    refine idx_s (hq1.now (fun _ h => h) hS) q4x q4l q4r ?_; intro b5 hb5
    refine ⟨_, rd_get (hq1.now (fun _ h => h) hS) hb5 q4x, ?_⟩
    refine drM_s hS ?_; clear hS; intro w hS
    refine cond_s h ?_ ?_ <;> clear h <;> intro hc h
    ·
     obtain ⟨t9, ht9, h⟩ := bnd h
     obtain ⟨q6x, q6l, q6r⟩ := atE ht9
     clear ht9
     refine idx_s (hq0.now (fun _ h => h) hS) q6x q6l q6r ?_; intro b7 hb7
     refine ⟨_, rd_get (hq0.now (fun _ h => h) hS) hb7 q6x, ?_⟩
     obtain ⟨t10, ht10, h⟩ := bnd h
     obtain ⟨q8x, q8l, q8r⟩ := atE ht10
     clear ht10
     refine idx_s (hq1.now (fun _ h => h) hS) q8x q8l q8r ?_; intro b9 hb9
     refine ⟨_, rd_get (hq1.now (fun _ h => h) hS) hb9 q8x, ?_⟩
     refine drM_s hS ?_; clear hS; intro w hS
     refine cond_s h ?_ ?_ <;> clear h <;> intro hc h
     ·
      obtain rfl := some_inj h
      have h := congrArg some (hO _ rfl)
      obtain rfl := some_inj h
      have h := c1
      have h := some_inj h
      cases h
      exact hK _ hS
     ·
      obtain rfl := some_inj h
      have h := congrArg some (hO _ rfl)
      obtain rfl := some_inj h
      have h := c1
      have h := some_inj h
      cases h
      exact hK _ hS
    ·
     obtain rfl := some_inj h
     exact hX _ rfl _ _ ⟨_, rfl, rfl, hS⟩
   ·
    obtain rfl := some_inj h
    have h := congrArg some (hO _ rfl)
    obtain rfl := some_inj h
    exact hJ1 _ _ ⟨rfl, rfl, hS⟩
  ·
   clear h1 hS
   rintro s w ⟨rfl, rfl, hS⟩
   have h := c1
   clear c1
   try dsimp only
   have h := some_inj h
   cases h
   exact hK _ hS

theorem wk_bignum_sum {N : Nums} {P : Program} (H : AllOk N P) {w0 w : World} {L : List It} {q0 : Bool} {q1 : Option Addr} {q1l q1c : Nat} {l1 : List Int} {q2 : Bool} {q3 : Option Addr} {q3l q3c : Nat} {l3 : List Int} {u0 : Bool} {u1 : List Int} (hS : Ho w0 w (L)) (hq1 : Ent L (rdA (List.map (Value.int .u32) l1) q1 q1l q1c)) (hq3 : Ent L (rdA (List.map (Value.int .u32) l3) q3 q3l q3c)) (hx : T_bignum_sum q0 l1 q2 l3 = some (u0, u1)) {K : Value → World → Prop} (hK : ∀ (a1 : Option Addr) (n1 c1 : Nat) (w1 : World), Ho w0 w1 ((sl a1 n1 c1 (List.map (Value.int .u32) u1) N.t_uint32) :: L) → K (.tuple #[.bool u0, .slice a1 n1 c1]) w1) : CallsX P N.f_bignum_sum #[.bool q0, .slice q1 q1l q1c, .bool q2, .slice q3 q3l q3c] w K := by
 refine H.bignum_sum q0 q1 q1l q1c q2 q3 q3l q3c w _ ?_
 unfold S_bignum_sum
 unfold T_bignum_sum at hx
 have h := hx
 clear hx
 try dsimp only
 refine cond_s h ?_ ?_ <;> clear h <;> intro hc h
 ·
  obtain ⟨t1, ht1, h⟩ := bnd h
  refine wk_bignum_add H hS hq1 hq3 ht1 ?_; clear hS ht1; rintro a1 m1 c1 w hS
  refine ⟨_, _, _, rfl, ?_⟩
  have h := some_inj h
  cases h
  exact hK _ _ _ _ hS
 ·
  obtain ⟨t2, ht2, h⟩ := bnd h
  refine wk_bignum_cmp H hS hq1 hq3 ht2 ?_; clear hS ht2; rintro w hS
  refine ⟨_, rfl, ?_⟩
  refine cond_s h ?_ ?_ <;> clear h <;> intro hc h
  ·
   obtain ⟨t3, ht3, h⟩ := bnd h
   refine wk_bignum_sub H hS hq1 hq3 ht3 ?_; clear hS ht3; rintro a2 m2 c2 w hS
   refine ⟨_, _, _, rfl, ?_⟩
   have h := some_inj h
   cases h
   exact hK _ _ _ _ hS
  ·
   obtain ⟨t4, ht4, h⟩ := bnd h
   refine wk_bignum_sub H hS hq3 hq1 ht4 ?_; clear hS ht4; rintro a3 m3 c3 w hS
   refine ⟨_, _, _, rfl, ?_⟩
   have h := some_inj h
   cases h
   exact hK _ _ _ _ hS

theorem wk_p_bignum_Int_Add_zxy {N : Nums} {P : Program} (H : AllOk N P) {w0 w : World} {L : List It} {r_0 : Nat} {b_0 s_0 : Value} {r_1 : Nat} {q1_0 : Bool} {q1_1 : Option Addr} {q1_1l q1_1c : Nat} {l1_1 : List Int} {r_2 : Nat} {q2_0 : Bool} {q2_1 : Option Addr} {q2_1l q2_1c : Nat} {l2_1 : List Int} {u0a : Bool} {u0b : List Int} (hS : Ho w0 w ((cl r_0 [b_0, s_0] N.t_bignum_Int) :: L)) (eq1 : Ent L (cl r_1 [.bool q1_0, .slice q1_1 q1_1l q1_1c] N.t_bignum_Int).A) (hq1_1 : Ent L (rdA (List.map (Value.int .u32) l1_1) q1_1 q1_1l q1_1c)) (eq2 : Ent L (cl r_2 [.bool q2_0, .slice q2_1 q2_1l q2_1c] N.t_bignum_Int).A) (hq2_1 : Ent L (rdA (List.map (Value.int .u32) l2_1) q2_1 q2_1l q2_1c)) (hx : T_p_bignum_Int_Add q1_0 l1_1 q2_0 l2_1 = some (u0a, u0b)) {K : Value → World → Prop} (hK : ∀ (a0 : Option Addr) (n0 c0 : Nat) (w1 : World), Ho w0 w1 ((cl r_0 [.bool u0a, .slice a0 n0 c0] N.t_bignum_Int) :: (sl a0 n0 c0 (List.map (Value.int .u32) u0b) N.t_uint32) :: L) → K (.pointer (some ⟨r_0, 0, none⟩)) w1) : CallsX P N.f_p_bignum_Int_Add #[.pointer (some ⟨r_0, 0, none⟩), .pointer (some ⟨r_1, 0, none⟩), .pointer (some ⟨r_2, 0, none⟩)] w K := by
 refine H.p_bignum_Int_Add (some ⟨r_0, 0, none⟩) (some ⟨r_1, 0, none⟩) (some ⟨r_2, 0, none⟩) w _ ?_
 unfold S_p_bignum_Int_Add
 unfold T_p_bignum_Int_Add at hx
 have h := hx
 clear hx
 try dsimp only
 refine optM_s ?_
 refine ⟨_, (eq1.cel tl1 hS rfl), ?_⟩
 refine optM_s ?_
 refine ⟨_, _, _, (eq1.cel tl1 hS rfl), ?_⟩
 refine optM_s ?_
 refine ⟨_, (eq2.cel tl1 hS rfl), ?_⟩
 refine optM_s ?_
 refine ⟨_, _, _, (eq2.cel tl1 hS rfl), ?_⟩
 refine drM_s hS ?_; clear hS; intro w hS
 obtain ⟨⟨t1, t2⟩, ho1, h⟩ := bnd h
 refine wk_bignum_sum H hS (hq1_1.mono tl1) (hq2_1.mono tl1) ho1 ?_; clear hS ho1; rintro a1 m1 c1 w hS
 refine ⟨_, _, _, _, rfl, ?_⟩
 refine drM_s hS ?_; clear hS; intro w hS
 obtain ⟨t3, ht3, h⟩ := bnd h
 replace hS := ro1 hS
 obtain rfl := some_inj ht3
 clear ht3
 refine give_c H hS (Ent.sl mp1) ?_; clear hS; intro w hS
 refine ⟨_, rfl, ?_⟩
 refine drM_s hS ?_; clear hS; intro w hS
 have h := some_inj h
 cases h
 exact hK _ _ _ _ hS

theorem wk_p_bignum_Int_Add_zzy {N : Nums} {P : Program} (H : AllOk N P) {w0 w : World} {L : List It} {r_0 : Nat} {q1_0 : Bool} {q1_1 : Option Addr} {q1_1l q1_1c : Nat} {l1_1 : List Int} {r_2 : Nat} {q2_0 : Bool} {q2_1 : Option Addr} {q2_1l q2_1c : Nat} {l2_1 : List Int} {u0a : Bool} {u0b : List Int} (hS : Ho w0 w ((cl r_0 [.bool q1_0, .slice q1_1 q1_1l q1_1c] N.t_bignum_Int) :: L)) (hq1_1 : Ent L (rdA (List.map (Value.int .u32) l1_1) q1_1 q1_1l q1_1c)) (eq2 : Ent L (cl r_2 [.bool q2_0, .slice q2_1 q2_1l q2_1c] N.t_bignum_Int).A) (hq2_1 : Ent L (rdA (List.map (Value.int .u32) l2_1) q2_1 q2_1l q2_1c)) (hx : T_p_bignum_Int_Add q1_0 l1_1 q2_0 l2_1 = some (u0a, u0b)) {K : Value → World → Prop} (hK : ∀ (a0 : Option Addr) (n0 c0 : Nat) (w1 : World), Ho w0 w1 ((cl r_0 [.bool u0a, .slice a0 n0 c0] N.t_bignum_Int) :: (sl a0 n0 c0 (List.map (Value.int .u32) u0b) N.t_uint32) :: L) → K (.pointer (some ⟨r_0, 0, none⟩)) w1) : CallsX P N.f_p_bignum_Int_Add #[.pointer (some ⟨r_0, 0, none⟩), .pointer (some ⟨r_0, 0, none⟩), .pointer (some ⟨r_2, 0, none⟩)] w K := by
 refine H.p_bignum_Int_Add (some ⟨r_0, 0, none⟩) (some ⟨r_0, 0, none⟩) (some ⟨r_2, 0, none⟩) w _ ?_
 unfold S_p_bignum_Int_Add
 unfold T_p_bignum_Int_Add at hx
 have h := hx
 clear hx
 try dsimp only
 refine optM_s ?_
 refine ⟨_, (hS.cel mp0 rfl), ?_⟩
 refine optM_s ?_
 refine ⟨_, _, _, (hS.cel mp0 rfl), ?_⟩
 refine optM_s ?_
 refine ⟨_, (eq2.cel tl1 hS rfl), ?_⟩
 refine optM_s ?_
 refine ⟨_, _, _, (eq2.cel tl1 hS rfl), ?_⟩
 refine drM_s hS ?_; clear hS; intro w hS
 obtain ⟨⟨t1, t2⟩, ho1, h⟩ := bnd h
 refine wk_bignum_sum H hS (hq1_1.mono tl1) (hq2_1.mono tl1) ho1 ?_; clear hS ho1; rintro a1 m1 c1 w hS
 refine ⟨_, _, _, _, rfl, ?_⟩
 refine drM_s hS ?_; clear hS; intro w hS
 obtain ⟨t3, ht3, h⟩ := bnd h
 replace hS := ro1 hS
 obtain rfl := some_inj ht3
 clear ht3
 refine give_c H hS (Ent.sl mp1) ?_; clear hS; intro w hS
 refine ⟨_, rfl, ?_⟩
 refine drM_s hS ?_; clear hS; intro w hS
 have h := some_inj h
 cases h
 exact hK _ _ _ _ hS

theorem wk_bignum_mul {N : Nums} {P : Program} (H : AllOk N P) {w0 w : World} {L : List It} {q0 : Option Addr} {q0l q0c : Nat} {l0 : List Int} {q1 : Option Addr} {q1l q1c : Nat} {l1 : List Int} {u0 : List Int} (hS : Ho w0 w (L)) (hq0 : Ent L (rdA (List.map (Value.int .u32) l0) q0 q0l q0c)) (hq1 : Ent L (rdA (List.map (Value.int .u32) l1) q1 q1l q1c)) (hx : T_bignum_mul l0 l1 = some u0) {K : Value → World → Prop} (hK : ∀ (a0 : Option Addr) (n0 c0 : Nat) (w1 : World), Ho w0 w1 ((sl a0 n0 c0 (List.map (Value.int .u32) u0) N.t_uint32) :: L) → K (.slice a0 n0 c0) w1) : CallsX P N.f_bignum_mul #[.slice q0 q0l q0c, .slice q1 q1l q1c] w K := by
 refine H.bignum_mul q0 q0l q0c q1 q1l q1c w _ ?_
 unfold S_bignum_mul
 unfold T_bignum_mul at hx
 have h := hx
 clear hx
 try dsimp only
 obtain ⟨o1, h1, c1⟩ := bnd h
 refine cutM_i (fun s w => ∃ (t1 : Bool), t1 = o1 ∧ s = (t1, ()) ∧ Ho w0 w (L)) (fun J1 hJ1 => ?_) ?_
 ·
  have h := h1
  clear h1
  obtain ⟨t2, ht2, h⟩ := bnd h
  obtain rfl := lenE ht2 (hq0.now (fun _ h => h) hS)
  clear ht2
  refine cond_s h ?_ ?_ <;> clear h <;> intro hc h
  ·
   obtain ⟨t3, ht3, h⟩ := bnd h
   obtain rfl := lenE ht3 (hq1.now (fun _ h => h) hS)
   clear ht3
   obtain rfl := some_inj h
   exact hJ1 _ _ ⟨_, rfl, rfl, hS⟩
  ·
   obtain rfl := some_inj h
   exact hJ1 _ _ ⟨_, rfl, rfl, hS⟩
 ·
  clear h1 hS
  rintro s w ⟨t1, rfl, rfl, hS⟩
  have h := c1
  clear c1
  try dsimp only
  refine cond_s h ?_ ?_ <;> clear h <;> intro hc h
  ·
   replace hS := hS.none (α := Int) (enc := (Value.int .u32)) (t := N.t_uint32)
   have h := some_inj h
   cases h
   exact hK _ _ _ _ hS
  ·
   obtain ⟨t4, ht4, h⟩ := bnd h
   obtain rfl := lenE ht4 (hq0.now (fun _ h => h) hS)
   clear ht4
   obtain ⟨t5, ht5, h⟩ := bnd h
   obtain rfl := lenE ht5 (hq1.now (fun _ h => h) hS)
   clear ht5
   obtain ⟨t6, ht6, h⟩ := bnd h
   obtain ⟨rfl, kt6⟩ := mkE ht6
   clear ht6
   refine mk_s (enc := (Value.int .u32)) hS kt6 rfl ?_; clear hS kt6; intro r2 w hS
   obtain ⟨o3, h3, c3⟩ := bnd h
   refine cutM_i (fun s w => ∃ (t7 : List Int), t7 = o3 ∧ s = (()) ∧ Ho w0 w ((sl (some ⟨r2, 0, none⟩) (((IntKind.i64.wrap (((q0l : Nat) : Int) + ((q1l : Nat) : Int)))).toNat) (((IntKind.i64.wrap (((q0l : Nat) : Int) + ((q1l : Nat) : Int)))).toNat) (List.map (Value.int .u32) t7) N.t_uint32) :: L)) (fun J3 hJ3 => ?_) ?_
   ·
    have h := h3
    clear h3
    refine iter_sim (fun s w t => ∃ (t8 : Int) (t9 : List Int), (t8, t9) = t ∧ s = (t8, ()) ∧ Ho w0 w ((sl (some ⟨r2, 0, none⟩) (((IntKind.i64.wrap (((q0l : Nat) : Int) + ((q1l : Nat) : Int)))).toNat) (((IntKind.i64.wrap (((q0l : Nat) : Int) + ((q1l : Nat) : Int)))).toNat) (List.map (Value.int .u32) t9) N.t_uint32) :: L)) ?_ h ⟨_, _, rfl, rfl, hS⟩
    clear h hS
    rintro s w t X q ⟨t8, t9, rfl, rfl, hS⟩ h hX hO
    unfold T_bignum_mul_b7 at h
    try dsimp only
    obtain ⟨t10, ht10, h⟩ := bnd h
    obtain rfl := lenE ht10 ((hq0.mono tl1).now (fun _ h => h) hS)
    clear ht10
    refine cond_s h ?_ ?_ <;> clear h <;> intro hc h
    ·
     obtain ⟨o4, h4, c4⟩ := bnd h
     refine cutM_i (fun s w => ∃ (t11 : Int) (t12 : List Int), (t11, t12) = o4 ∧ s = (t11, ()) ∧ Ho w0 w ((sl (some ⟨r2, 0, none⟩) (((IntKind.i64.wrap (((q0l : Nat) : Int) + ((q1l : Nat) : Int)))).toNat) (((IntKind.i64.wrap (((q0l : Nat) : Int) + ((q1l : Nat) : Int)))).toNat) (List.map (Value.int .u32) t12) N.t_uint32) :: L)) (fun J4 hJ4 => ?_) ?_
     ·
      have h := h4
      clear h4
      refine iter_sim (fun s w t => ∃ (t13 : Int) (t14 : Int) (t15 : List Int), (t13, t14, t15) = t ∧ s = (t13, t14, ()) ∧ Ho w0 w ((sl (some ⟨r2, 0, none⟩) (((IntKind.i64.wrap (((q0l : Nat) : Int) + ((q1l : Nat) : Int)))).toNat) (((IntKind.i64.wrap (((q0l : Nat) : Int) + ((q1l : Nat) : Int)))).toNat) (List.map (Value.int .u32) t15) N.t_uint32) :: L)) ?_ h ⟨_, _, _, rfl, rfl, hS⟩
      clear h hS
      rintro s w t X q ⟨t13, t14, t15, rfl, rfl, hS⟩ h hX hO
      unfold T_bignum_mul_b9 at h
      try dsimp only
      obtain ⟨t16, ht16, h⟩ := bnd h
      obtain rfl := lenE ht16 ((hq1.mono tl1).now (fun _ h => h) hS)
      clear ht16
      refine cond_s h ?_ ?_ <;> clear h <;> intro hc h
      ·
       obtain ⟨t17, ht17, h⟩ := bnd h
       obtain ⟨q5x, q5l, q5r⟩ := atE ht17
       clear ht17
       refine idx_s ((hq0.mono tl1).now (fun _ h => h) hS) q5x q5l q5r ?_; intro b6 hb6
       refine ⟨_, rd_get ((hq0.mono tl1).now (fun _ h => h) hS) hb6 q5x, ?_⟩
       obtain ⟨t18, ht18, h⟩ := bnd h
       obtain ⟨q7x, q7l, q7r⟩ := atE ht18
       clear ht18
       refine idx_s ((hq1.mono tl1).now (fun _ h => h) hS) q7x q7l q7r ?_; intro b8 hb8
       refine ⟨_, rd_get ((hq1.mono tl1).now (fun _ h => h) hS) hb8 q7x, ?_⟩
       obtain ⟨t19, ht19, h⟩ := bnd h
       obtain ⟨q9x, q9l, q9r⟩ := atE ht19
       clear ht19
       refine idy_s ((Ent.sl mp0).now (fun _ h => h) hS) q9x q9l q9r ?_
       refine ⟨_, rd_get ((Ent.sl mp0).now (fun _ h => h) hS) rfl q9x, ?_⟩
       refine drM_s hS ?_; clear hS; intro w hS
       obtain ⟨t20, ht20, h⟩ := bnd h
       obtain ⟨q11x, q11l, q11r⟩ := atE ht20
       clear ht20
       refine idy_s ((Ent.sl mp0).now (fun _ h => h) hS) q11x q11l q11r ?_
       obtain ⟨t21, ht21, h⟩ := bnd h
       obtain rfl := some_inj ht21
       clear ht21
       refine sto_s hS rfl q11r ?_; clear hS; intro w hS
       refine ⟨by decide, ?_⟩
       obtain rfl := some_inj h
       exact hX _ rfl _ _ ⟨_, _, _, rfl, rfl, hS⟩
      ·
       obtain rfl := some_inj h
       have h := congrArg some (hO _ rfl)
       obtain rfl := some_inj h
       exact hJ4 _ _ ⟨_, _, rfl, rfl, hS⟩
     ·
      clear h4 hS
      rintro s w ⟨t11, t12, rfl, rfl, hS⟩
      have h := c4
      clear c4
      try dsimp only
      obtain ⟨t22, ht22, h⟩ := bnd h
      obtain rfl := lenE ht22 ((hq1.mono tl1).now (fun _ h => h) hS)
      clear ht22
      obtain ⟨t23, ht23, h⟩ := bnd h
      obtain ⟨q13x, q13l, q13r⟩ := atE ht23
      clear ht23
      refine idy_s ((Ent.sl mp0).now (fun _ h => h) hS) q13x q13l q13r ?_
      obtain ⟨t24, ht24, h⟩ := bnd h
      obtain rfl := some_inj ht24
      clear ht24
      refine sto_s hS rfl q13r ?_; clear hS; intro w hS
      obtain rfl := some_inj h
      exact hX _ rfl _ _ ⟨_, _, rfl, rfl, hS⟩
    ·
     obtain rfl := some_inj h
     have h := congrArg some (hO _ rfl)
     obtain rfl := some_inj h
     exact hJ3 _ _ ⟨_, rfl, rfl, hS⟩
   ·
    clear h3 hS
    rintro s w ⟨t7, rfl, rfl, hS⟩
    have h := c3
    clear c3
    try dsimp only
    obtain ⟨t25, ht25, h⟩ := bnd h
    refine wk_bignum_trim H hS (Ent.sl mp0) ht25 ?_; clear hS ht25; rintro w hS
    refine ⟨_, _, _, rfl, ?_⟩
    obtain ⟨t26, ht26, h⟩ := bnd h
    obtain ⟨rfl, q160, q161, q162⟩ := subE ht26
    clear ht26
    have q163 := ((Ent.sl mp0).now (fun _ h => h) hS).hiCap q162
    replace hS := Ho.cut hS q162
    have h := some_inj h
    cases h
    exact hK _ _ _ _ hS

theorem wk_p_bignum_Int_Mul_zxy {N : Nums} {P : Program} (H : AllOk N P) {w0 w : World} {L : List It} {r_0 : Nat} {b_0 s_0 : Value} {r_1 : Nat} {q1_0 : Bool} {q1_1 : Option Addr} {q1_1l q1_1c : Nat} {l1_1 : List Int} {r_2 : Nat} {q2_0 : Bool} {q2_1 : Option Addr} {q2_1l q2_1c : Nat} {l2_1 : List Int} {u0a : Bool} {u0b : List Int} (hS : Ho w0 w ((cl r_0 [b_0, s_0] N.t_bignum_Int) :: L)) (eq1 : Ent L (cl r_1 [.bool q1_0, .slice q1_1 q1_1l q1_1c] N.t_bignum_Int).A) (hq1_1 : Ent L (rdA (List.map (Value.int .u32) l1_1) q1_1 q1_1l q1_1c)) (eq2 : Ent L (cl r_2 [.bool q2_0, .slice q2_1 q2_1l q2_1c] N.t_bignum_Int).A) (hq2_1 : Ent L (rdA (List.map (Value.int .u32) l2_1) q2_1 q2_1l q2_1c)) (hx : T_p_bignum_Int_Mul q1_0 l1_1 q2_0 l2_1 = some (u0a, u0b)) {K : Value → World → Prop} (hK : ∀ (a0 : Option Addr) (n0 c0 : Nat) (w1 : World), Ho w0 w1 ((cl r_0 [.bool u0a, .slice a0 n0 c0] N.t_bignum_Int) :: (sl a0 n0 c0 (List.map (Value.int .u32) u0b) N.t_uint32) :: L) → K (.pointer (some ⟨r_0, 0, none⟩)) w1) : CallsX P N.f_p_bignum_Int_Mul #[.pointer (some ⟨r_0, 0, none⟩), .pointer (some ⟨r_1, 0, none⟩), .pointer (some ⟨r_2, 0, none⟩)] w K := by
 refine H.p_bignum_Int_Mul (some ⟨r_0, 0, none⟩) (some ⟨r_1, 0, none⟩) (some ⟨r_2, 0, none⟩) w _ ?_
 unfold S_p_bignum_Int_Mul
 unfold T_p_bignum_Int_Mul at hx
 have h := hx
 clear hx
 try dsimp only
 refine optM_s ?_
 refine ⟨_, (eq1.cel tl1 hS rfl), ?_⟩
 refine optM_s ?_
 refine ⟨_, (eq2.cel tl1 hS rfl), ?_⟩
 refine optM_s ?_
 refine ⟨_, _, _, (eq1.cel tl1 hS rfl), ?_⟩
 refine optM_s ?_
 refine ⟨_, _, _, (eq2.cel tl1 hS rfl), ?_⟩
 refine drM_s hS ?_; clear hS; intro w hS
 obtain ⟨t1, ht1, h⟩ := bnd h
 refine wk_bignum_mul H hS (hq1_1.mono tl1) (hq2_1.mono tl1) ht1 ?_; clear hS ht1; rintro a1 m1 c1 w hS
 refine ⟨_, _, _, rfl, ?_⟩
 refine ⟨(eq2.cel tl2 hS rfl), ?_⟩
 refine ⟨(eq1.cel tl2 hS rfl), ?_⟩
 refine drM_s hS ?_; clear hS; intro w hS
 obtain ⟨t2, ht2, h⟩ := bnd h
 replace hS := ro1 hS
 obtain rfl := some_inj ht2
 clear ht2
 refine give_c H hS (Ent.sl mp1) ?_; clear hS; intro w hS
 refine ⟨_, rfl, ?_⟩
 refine drM_s hS ?_; clear hS; intro w hS
 have h := some_inj h
 cases h
 exact hK _ _ _ _ hS

theorem wk_p_bignum_Int_Mul_zzy {N : Nums} {P : Program} (H : AllOk N P) {w0 w : World} {L : List It} {r_0 : Nat} {q1_0 : Bool} {q1_1 : Option Addr} {q1_1l q1_1c : Nat} {l1_1 : List Int} {r_2 : Nat} {q2_0 : Bool} {q2_1 : Option Addr} {q2_1l q2_1c : Nat} {l2_1 : List Int} {u0a : Bool} {u0b : List Int} (hS : Ho w0 w ((cl r_0 [.bool q1_0, .slice q1_1 q1_1l q1_1c] N.t_bignum_Int) :: L)) (hq1_1 : Ent L (rdA (List.map (Value.int .u32) l1_1) q1_1 q1_1l q1_1c)) (eq2 : Ent L (cl r_2 [.bool q2_0, .slice q2_1 q2_1l q2_1c] N.t_bignum_Int).A) (hq2_1 : Ent L (rdA (List.map (Value.int .u32) l2_1) q2_1 q2_1l q2_1c)) (hx : T_p_bignum_Int_Mul q1_0 l1_1 q2_0 l2_1 = some (u0a, u0b)) {K : Value → World → Prop} (hK : ∀ (a0 : Option Addr) (n0 c0 : Nat) (w1 : World), Ho w0 w1 ((cl r_0 [.bool u0a, .slice a0 n0 c0] N.t_bignum_Int) :: (sl a0 n0 c0 (List.map (Value.int .u32) u0b) N.t_uint32) :: L) → K (.pointer (some ⟨r_0, 0, none⟩)) w1) : CallsX P N.f_p_bignum_Int_Mul #[.pointer (some ⟨r_0, 0, none⟩), .pointer (some ⟨r_0, 0, none⟩), .pointer (some ⟨r_2, 0, none⟩)] w K := by
 refine H.p_bignum_Int_Mul (some ⟨r_0, 0, none⟩) (some ⟨r_0, 0, none⟩) (some ⟨r_2, 0, none⟩) w _ ?_
 unfold S_p_bignum_Int_Mul
 unfold T_p_bignum_Int_Mul at hx
 have h := hx
 clear hx
 try dsimp only
 refine optM_s ?_
 refine ⟨_, (hS.cel mp0 rfl), ?_⟩
 refine optM_s ?_
 refine ⟨_, (eq2.cel tl1 hS rfl), ?_⟩
 refine optM_s ?_
 refine ⟨_, _, _, (hS.cel mp0 rfl), ?_⟩
 refine optM_s ?_
 refine ⟨_, _, _, (eq2.cel tl1 hS rfl), ?_⟩
 refine drM_s hS ?_; clear hS; intro w hS
 obtain ⟨t1, ht1, h⟩ := bnd h
 refine wk_bignum_mul H hS (hq1_1.mono tl1) (hq2_1.mono tl1) ht1 ?_; clear hS ht1; rintro a1 m1 c1 w hS
 refine ⟨_, _, _, rfl, ?_⟩
 refine ⟨(eq2.cel tl2 hS rfl), ?_⟩
 refine ⟨(hS.cel mp1 rfl), ?_⟩
 refine drM_s hS ?_; clear hS; intro w hS
 obtain ⟨t2, ht2, h⟩ := bnd h
 replace hS := ro1 hS
 obtain rfl := some_inj ht2
 clear ht2
 refine give_c H hS (Ent.sl mp1) ?_; clear hS; intro w hS
 refine ⟨_, rfl, ?_⟩
 refine drM_s hS ?_; clear hS; intro w hS
 have h := some_inj h
 cases h
 exact hK _ _ _ _ hS

theorem wk_p_bignum_Int_Sub_zxy {N : Nums} {P : Program} (H : AllOk N P) {w0 w : World} {L : List It} {r_0 : Nat} {b_0 s_0 : Value} {r_1 : Nat} {q1_0 : Bool} {q1_1 : Option Addr} {q1_1l q1_1c : Nat} {l1_1 : List Int} {r_2 : Nat} {q2_0 : Bool} {q2_1 : Option Addr} {q2_1l q2_1c : Nat} {l2_1 : List Int} {u0a : Bool} {u0b : List Int} (hS : Ho w0 w ((cl r_0 [b_0, s_0] N.t_bignum_Int) :: L)) (eq1 : Ent L (cl r_1 [.bool q1_0, .slice q1_1 q1_1l q1_1c] N.t_bignum_Int).A) (hq1_1 : Ent L (rdA (List.map (Value.int .u32) l1_1) q1_1 q1_1l q1_1c)) (eq2 : Ent L (cl r_2 [.bool q2_0, .slice q2_1 q2_1l q2_1c] N.t_bignum_Int).A) (hq2_1 : Ent L (rdA (List.map (Value.int .u32) l2_1) q2_1 q2_1l q2_1c)) (hx : T_p_bignum_Int_Sub q1_0 l1_1 q2_0 l2_1 = some (u0a, u0b)) {K : Value → World → Prop} (hK : ∀ (a0 : Option Addr) (n0 c0 : Nat) (w1 : World), Ho w0 w1 ((cl r_0 [.bool u0a, .slice a0 n0 c0] N.t_bignum_Int) :: (sl a0 n0 c0 (List.map (Value.int .u32) u0b) N.t_uint32) :: L) → K (.pointer (some ⟨r_0, 0, none⟩)) w1) : CallsX P N.f_p_bignum_Int_Sub #[.pointer (some ⟨r_0, 0, none⟩), .pointer (some ⟨r_1, 0, none⟩), .pointer (some ⟨r_2, 0, none⟩)] w K := by
 refine H.p_bignum_Int_Sub (some ⟨r_0, 0, none⟩) (some ⟨r_1, 0, none⟩) (some ⟨r_2, 0, none⟩) w _ ?_
 unfold S_p_bignum_Int_Sub
 unfold T_p_bignum_Int_Sub at hx
 have h := hx
 clear hx
 try dsimp only
 refine optM_s ?_
 refine ⟨_, (eq1.cel tl1 hS rfl), ?_⟩
 refine optM_s ?_
 refine ⟨_, _, _, (eq1.cel tl1 hS rfl), ?_⟩
 refine optM_s ?_
 refine ⟨_, (eq2.cel tl1 hS rfl), ?_⟩
 refine optM_s ?_
 refine ⟨_, _, _, (eq2.cel tl1 hS rfl), ?_⟩
 refine drM_s hS ?_; clear hS; intro w hS
 obtain ⟨⟨t1, t2⟩, ho1, h⟩ := bnd h
 refine wk_bignum_sum H hS (hq1_1.mono tl1) (hq2_1.mono tl1) ho1 ?_; clear hS ho1; rintro a1 m1 c1 w hS
 refine ⟨_, _, _, _, rfl, ?_⟩
 refine drM_s hS ?_; clear hS; intro w hS
 obtain ⟨t3, ht3, h⟩ := bnd h
 replace hS := ro1 hS
 obtain rfl := some_inj ht3
 clear ht3
 refine give_c H hS (Ent.sl mp1) ?_; clear hS; intro w hS
 refine ⟨_, rfl, ?_⟩
 refine drM_s hS ?_; clear hS; intro w hS
 have h := some_inj h
 cases h
 exact hK _ _ _ _ hS

theorem wk_p_bignum_Int_Sub_zzy {N : Nums} {P : Program} (H : AllOk N P) {w0 w : World} {L : List It} {r_0 : Nat} {q1_0 : Bool} {q1_1 : Option Addr} {q1_1l q1_1c : Nat} {l1_1 : List Int} {r_2 : Nat} {q2_0 : Bool} {q2_1 : Option Addr} {q2_1l q2_1c : Nat} {l2_1 : List Int} {u0a : Bool} {u0b : List Int} (hS : Ho w0 w ((cl r_0 [.bool q1_0, .slice q1_1 q1_1l q1_1c] N.t_bignum_Int) :: L)) (hq1_1 : Ent L (rdA (List.map (Value.int .u32) l1_1) q1_1 q1_1l q1_1c)) (eq2 : Ent L (cl r_2 [.bool q2_0, .slice q2_1 q2_1l q2_1c] N.t_bignum_Int).A) (hq2_1 : Ent L (rdA (List.map (Value.int .u32) l2_1) q2_1 q2_1l q2_1c)) (hx : T_p_bignum_Int_Sub q1_0 l1_1 q2_0 l2_1 = some (u0a, u0b)) {K : Value → World → Prop} (hK : ∀ (a0 : Option Addr) (n0 c0 : Nat) (w1 : World), Ho w0 w1 ((cl r_0 [.bool u0a, .slice a0 n0 c0] N.t_bignum_Int) :: (sl a0 n0 c0 (List.map (Value.int .u32) u0b) N.t_uint32) :: L) → K (.pointer (some ⟨r_0, 0, none⟩)) w1) : CallsX P N.f_p_bignum_Int_Sub #[.pointer (some ⟨r_0, 0, none⟩), .pointer (some ⟨r_0, 0, none⟩), .pointer (some ⟨r_2, 0, none⟩)] w K := by
 refine H.p_bignum_Int_Sub (some ⟨r_0, 0, none⟩) (some ⟨r_0, 0, none⟩) (some ⟨r_2, 0, none⟩) w _ ?_
 unfold S_p_bignum_Int_Sub
 unfold T_p_bignum_Int_Sub at hx
 have h := hx
 clear hx
 try dsimp only
 refine optM_s ?_
 refine ⟨_, (hS.cel mp0 rfl), ?_⟩
 refine optM_s ?_
 refine ⟨_, _, _, (hS.cel mp0 rfl), ?_⟩
 refine optM_s ?_
 refine ⟨_, (eq2.cel tl1 hS rfl), ?_⟩
 refine optM_s ?_
 refine ⟨_, _, _, (eq2.cel tl1 hS rfl), ?_⟩
 refine drM_s hS ?_; clear hS; intro w hS
 obtain ⟨⟨t1, t2⟩, ho1, h⟩ := bnd h
 refine wk_bignum_sum H hS (hq1_1.mono tl1) (hq2_1.mono tl1) ho1 ?_; clear hS ho1; rintro a1 m1 c1 w hS
 refine ⟨_, _, _, _, rfl, ?_⟩
 refine drM_s hS ?_; clear hS; intro w hS
 obtain ⟨t3, ht3, h⟩ := bnd h
 replace hS := ro1 hS
 obtain rfl := some_inj ht3
 clear ht3
 refine give_c H hS (Ent.sl mp1) ?_; clear hS; intro w hS
 refine ⟨_, rfl, ?_⟩
 refine drM_s hS ?_; clear hS; intro w hS
 have h := some_inj h
 cases h
 exact hK _ _ _ _ hS

theorem wk_p_bignum_Int_Cmp_xy {N : Nums} {P : Program} (H : AllOk N P) {w0 w : World} {L : List It} {r_0 : Nat} {q0_0 : Bool} {q0_1 : Option Addr} {q0_1l q0_1c : Nat} {l0_1 : List Int} {r_1 : Nat} {q1_0 : Bool} {q1_1 : Option Addr} {q1_1l q1_1c : Nat} {l1_1 : List Int} {u0 : Int} (hS : Ho w0 w (L)) (eq0 : Ent L (cl r_0 [.bool q0_0, .slice q0_1 q0_1l q0_1c] N.t_bignum_Int).A) (hq0_1 : Ent L (rdA (List.map (Value.int .u32) l0_1) q0_1 q0_1l q0_1c)) (eq1 : Ent L (cl r_1 [.bool q1_0, .slice q1_1 q1_1l q1_1c] N.t_bignum_Int).A) (hq1_1 : Ent L (rdA (List.map (Value.int .u32) l1_1) q1_1 q1_1l q1_1c)) (hx : T_p_bignum_Int_Cmp q0_0 l0_1 q1_0 l1_1 = some u0) {K : Value → World → Prop} (hK : ∀  (w1 : World), Ho w0 w1 (L) → K (.int .i64 u0) w1) : CallsX P N.f_p_bignum_Int_Cmp #[.pointer (some ⟨r_0, 0, none⟩), .pointer (some ⟨r_1, 0, none⟩)] w K := by
 refine H.p_bignum_Int_Cmp (some ⟨r_0, 0, none⟩) (some ⟨r_1, 0, none⟩) w _ ?_
 unfold S_p_bignum_Int_Cmp
 unfold T_p_bignum_Int_Cmp at hx
 have h := hx
 clear hx
 try dsimp only
 refine optM_s ?_
 refine ⟨_, (eq0.cel (fun _ h => h) hS rfl), ?_⟩
 refine optM_s ?_
 refine ⟨_, (eq1.cel (fun _ h => h) hS rfl), ?_⟩
 refine drM_s hS ?_; clear hS; intro w hS
 refine cond_s h ?_ ?_ <;> clear h <;> intro hc h
 ·
  refine optM_s ?_
  refine ⟨_, (eq0.cel (fun _ h => h) hS rfl), ?_⟩
  refine cond_s h ?_ ?_ <;> clear h <;> intro hc h
  ·
   have h := some_inj h
   cases h
   exact hK _ hS
  ·
   have h := some_inj h
   cases h
   exact hK _ hS
 ·
  refine optM_s ?_
  refine ⟨_, _, _, (eq0.cel (fun _ h => h) hS rfl), ?_⟩
  refine optM_s ?_
  refine ⟨_, _, _, (eq1.cel (fun _ h => h) hS rfl), ?_⟩
  refine drM_s hS ?_; clear hS; intro w hS
  obtain ⟨t1, ht1, h⟩ := bnd h
  refine wk_bignum_cmp H hS hq0_1 hq1_1 ht1 ?_; clear hS ht1; rintro w hS
  refine ⟨_, rfl, ?_⟩
  refine drM_s hS ?_; clear hS; intro w hS
  refine optM_s ?_
  refine ⟨_, (eq0.cel (fun _ h => h) hS rfl), ?_⟩
  refine cond_s h ?_ ?_ <;> clear h <;> intro hc h
  ·
   have h := some_inj h
   cases h
   exact hK _ hS
  ·
   have h := some_inj h
   cases h
   exact hK _ hS

end Go.Eng
