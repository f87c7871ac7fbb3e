/-
 Each function comes to what its function of plain Lean says, printed by a program of the session; with contracts written by hand at the head. No condition.
-/
import Derived.Test.YtmecjaojkegamaaDoorTp
import Derived.Test.YtmecjaojkegamaaDoorSh
import Derived.Test.YtmecjaojkegamaaDoorBgW
import Derived.Test.YtmecjaojkegamaaDoorLentU
import Derived.Test.YtmecjaojkegamaaDoorBitC
set_option linter.unusedSimpArgs false
set_option linter.unnecessarySimpa false
set_option linter.unusedSectionVars false
set_option linter.unusedVariables false
set_option maxRecDepth 100000
set_option maxHeartbeats 4000000
namespace Go.Eng
open Go

section
variable {N : Nums} {P : Program} (H : AllOk N P)
include H

theorem bits_c (x : Nat) (w : World) : CallsX P N.f_math_Float64bits #[.float .f64 x] w fun v w' => v = .int .u64 x ∧ St w w' [] :=
 H.math_Float64bits x w _ ⟨rfl, St.refl _⟩

theorem abs_c (x : Nat) (w : World) : CallsX P N.f_math_Abs #[.float .f64 x] w fun v w' => v = .float .f64 (magF x) ∧ St w w' [] := by
 refine H.math_Abs x w _ ?_
 unfold S_math_Abs
 refine (bits_c H x w).mono ?_
 rintro _ w1 ⟨rfl, h1⟩
 refine ⟨_, rfl, ?_⟩
 refine H.math_Float64frombits _ w1 _ ?_
 rw [abs_bits]
 exact ⟨_, rfl, rfl, h1⟩

theorem signbit_c (x : Nat) (w : World) : CallsX P N.f_math_Signbit #[.float .f64 x] w fun v w' => v = .bool (negF x) ∧ St w w' [] := by
 refine H.math_Signbit x w _ ?_
 unfold S_math_Signbit
 refine (bits_c H x w).mono ?_
 rintro _ w1 ⟨rfl, h1⟩
 exact ⟨_, rfl, by rw [sign_bits], h1⟩

theorem copysign_c (x y : Nat) (w : World) : CallsX P N.f_math_Copysign #[.float .f64 x, .float .f64 y] w fun v w' => v = .float .f64 ((if negF y then 9223372036854775808 else 0) + magF x) ∧ St w w' [] := by
 refine H.math_Copysign x y w _ ?_
 unfold S_math_Copysign
 refine (bits_c H x w).mono ?_
 rintro _ w1 ⟨rfl, h1⟩
 refine ⟨_, rfl, ?_⟩
 refine (bits_c H y w1).mono ?_
 rintro _ w2 ⟨rfl, h2⟩
 refine ⟨_, rfl, ?_⟩
 refine H.math_Float64frombits _ w2 _ ?_
 rw [copy_bits]
 exact ⟨_, rfl, rfl, h1.next h2⟩

theorem sameFloat_c (x y : Nat) (w : World) : CallsX P N.f_girderkit_SameFloat #[.float .f64 x, .float .f64 y] w fun v w' => v = .bool (nf x == nf y) ∧ St w w' [] := by
 refine H.girderkit_SameFloat x y w _ ?_
 unfold S_girderkit_SameFloat
 refine (bits_c H x w).mono ?_
 rintro _ w1 ⟨rfl, h1⟩
 refine ⟨_, rfl, ?_⟩
 refine (bits_c H y w1).mono ?_
 rintro _ w2 ⟨rfl, h2⟩
 refine ⟨_, rfl, ?_⟩
 have hS := h1.next h2
 have hxy : (((x : Nat) : Int) == ((y : Nat) : Int)) = (x == y) := by rw [Bool.eq_iff_iff]; simp; omega
 rw [same_bits, hxy, feq_self, feq_self]
 cases x == y <;> cases isNaN x <;> exact ⟨by simp, hS⟩

end

theorem wk_math_Float64bits {N : Nums} {P : Program} (H : AllOk N P) {w0 w : World} {L : List It} {q0 : Nat} {u0 : Int} (hS : Ho w0 w (L))  (hx : T_math_Float64bits (nf q0) = some u0) {K : Value → World → Prop} (hK : ∀  (w1 : World), Ho w0 w1 (L) → K (.int .u64 u0) w1) : CallsX P N.f_math_Float64bits #[.float .f64 q0] w K := by
 unfold T_math_Float64bits at hx
 have hn : isNaN q0 = false := by
  cases e : isNaN q0 with
  | false => rfl
  | true => rw [isNaN_nf, e] at hx; cases hx
 rw [isNaN_nf, hn, nf_of_not hn] at hx
 have hx := some_inj hx
 subst hx
 exact H.math_Float64bits q0 w _ (hK _ hS)

theorem wk_math_Float64frombits {N : Nums} {P : Program} (H : AllOk N P) {w0 w : World} {L : List It} {q0 : Int} {u0 : Nat} (hS : Ho w0 w (L))  (hx : T_math_Float64frombits q0 = some u0) {K : Value → World → Prop} (hK : ∀ (z0 : Nat) (w1 : World), nf z0 = u0 → Ho w0 w1 (L) → K (.float .f64 z0) w1) : CallsX P N.f_math_Float64frombits #[.int .u64 q0] w K := by
 unfold T_math_Float64frombits at hx
 have hx := some_inj hx
 exact H.math_Float64frombits q0 w _ (hK _ _ hx hS)

theorem wk_math_Abs {N : Nums} {P : Program} (H : AllOk N P) {w0 w : World} {L : List It} {q0 : Nat} {u0 : Nat} (hS : Ho w0 w (L))  (hx : T_math_Abs (nf q0) = some u0) {K : Value → World → Prop} (hK : ∀ (z0 : Nat) (w1 : World), nf z0 = u0 → Ho w0 w1 (L) → K (.float .f64 z0) w1) : CallsX P N.f_math_Abs #[.float .f64 q0] w K := by
 unfold T_math_Abs at hx
 have hx := some_inj hx
 refine (abs_c H q0 w).mono ?_
 rintro _ w1 ⟨rfl, h1⟩
 exact hK _ _ ((nf_magF q0).symm.trans hx) (hS.next h1)

theorem wk_math_IsInf {N : Nums} {P : Program} (H : AllOk N P) {w0 w : World} {L : List It} {q0 : Nat} {q1 : Int} {u0 : Bool} (hS : Ho w0 w (L))  (hx : T_math_IsInf (nf q0) q1 = some u0) {K : Value → World → Prop} (hK : ∀  (w1 : World), Ho w0 w1 (L) → K (.bool u0) w1) : CallsX P N.f_math_IsInf #[.float .f64 q0, .int .i64 q1] w K := by
 refine H.math_IsInf q0 q1 w _ ?_
 unfold S_math_IsInf
 unfold T_math_IsInf at hx
 have h := hx
 clear hx
 try dsimp only
 obtain ⟨o2, h2, c2⟩ := bnd h
 refine cutM_i (fun s w => ∃ (z1 : Nat), (nf z1) = o2 ∧ s = (z1, ()) ∧ Ho w0 w (L)) (fun J2 hJ2 => ?_) ?_
 ·
  have h := h2
  clear h2
  refine cond_s h ?_ ?_ <;> clear h <;> intro hc h
  ·
   obtain ⟨t2, ht2, h⟩ := bnd h
   refine wk_math_Abs H hS  ht2 ?_; clear hS ht2; rintro z3 w rfl hS
   refine ⟨_, rfl, ?_⟩
   obtain rfl := some_inj h
   exact hJ2 _ _ ⟨_, rfl, rfl, hS⟩
  ·
   obtain ⟨o5, h5, c5⟩ := bnd h
   refine cutM_i (fun s w => ∃ (z4 : Nat), (nf z4) = o5 ∧ s = (z4, ()) ∧ Ho w0 w (L)) (fun J5 hJ5 => ?_) ?_
   ·
    have h := h5
    clear h5
    refine cond_s h ?_ ?_ <;> clear h <;> intro hc h
    ·
     obtain ⟨t4, ht4, h⟩ := bnd h
     obtain rfl := fneg_s ht4
     clear ht4
     obtain rfl := some_inj h
     exact hJ5 _ _ ⟨_, rfl, rfl, hS⟩
    ·
     obtain rfl := some_inj h
     exact hJ5 _ _ ⟨_, rfl, rfl, hS⟩
   ·
    clear h5 hS
    rintro s w ⟨z4, rfl, rfl, hS⟩
    have h := c5
    clear c5
    try dsimp only
    obtain rfl := some_inj h
    exact hJ2 _ _ ⟨_, rfl, rfl, hS⟩
 ·
  clear h2 hS
  rintro s w ⟨z1, rfl, rfl, hS⟩
  have h := c2
  clear c2
  try dsimp only
  obtain ⟨t5, ht5, h⟩ := bnd h
  obtain rfl := fgt_s ht5
  clear ht5
  have h := some_inj h
  cases h
  exact hK _ hS

theorem wk_bits_Kind {N : Nums} {P : Program} (H : AllOk N P) {w0 w : World} {L : List It} {q0 : Nat} {u0 : Int} (hS : Ho w0 w (L))  (hx : T_bits_Kind (nf q0) = some u0) {K : Value → World → Prop} (hK : ∀  (w1 : World), Ho w0 w1 (L) → K (.int .i64 u0) w1) : CallsX P N.f_bits_Kind #[.float .f64 q0] w K := by
 refine H.bits_Kind q0 w _ ?_
 unfold S_bits_Kind
 unfold T_bits_Kind at hx
 have h := hx
 clear hx
 try dsimp only
 obtain ⟨t1, ht1, h⟩ := bnd h
 refine wk_math_Abs H hS  ht1 ?_; clear hS ht1; rintro z1 w rfl hS
 refine ⟨_, rfl, ?_⟩
 obtain ⟨t2, ht2, h⟩ := bnd h
 obtain rfl := fne_s ht2
 clear ht2
 refine cond_s h ?_ ?_ <;> clear h <;> intro hc h
 ·
  have h := some_inj h
  cases h
  exact hK _ hS
 ·
  obtain ⟨t3, ht3, h⟩ := bnd h
  refine wk_math_IsInf H hS  ht3 ?_; clear hS ht3; rintro w hS
  refine ⟨_, rfl, ?_⟩
  refine cond_s h ?_ ?_ <;> clear h <;> intro hc h
  ·
   have h := some_inj h
   cases h
   exact hK _ hS
  ·
   obtain ⟨t4, ht4, h⟩ := bnd h
   obtain rfl := fge_s ht4
   clear ht4
   refine cond_s h ?_ ?_ <;> clear h <;> intro hc h
   ·
    have h := some_inj h
    cases h
    exact hK _ hS
   ·
    obtain ⟨t5, ht5, h⟩ := bnd h
    obtain rfl := fgt_s ht5
    clear ht5
    refine cond_s h ?_ ?_ <;> clear h <;> intro hc h
    ·
     have h := some_inj h
     cases h
     exact hK _ hS
    ·
     have h := some_inj h
     cases h
     exact hK _ hS

theorem wk_math_Signbit {N : Nums} {P : Program} (H : AllOk N P) {w0 w : World} {L : List It} {q0 : Nat} {u0 : Bool} (hS : Ho w0 w (L))  (hx : T_math_Signbit (nf q0) = some u0) {K : Value → World → Prop} (hK : ∀  (w1 : World), Ho w0 w1 (L) → K (.bool u0) w1) : CallsX P N.f_math_Signbit #[.float .f64 q0] w K := by
 unfold T_math_Signbit at hx
 have hn : isNaN q0 = false := by
  cases e : isNaN q0 with
  | false => rfl
  | true => rw [isNaN_nf, e] at hx; cases hx
 rw [isNaN_nf, hn, nf_of_not hn] at hx
 have hx := some_inj hx
 subst hx
 refine (signbit_c H q0 w).mono ?_
 rintro _ w1 ⟨rfl, h1⟩
 exact hK _ (hS.next h1)

theorem wk_math_IsNaN {N : Nums} {P : Program} (H : AllOk N P) {w0 w : World} {L : List It} {q0 : Nat} {u0 : Bool} (hS : Ho w0 w (L))  (hx : T_math_IsNaN (nf q0) = some u0) {K : Value → World → Prop} (hK : ∀  (w1 : World), Ho w0 w1 (L) → K (.bool u0) w1) : CallsX P N.f_math_IsNaN #[.float .f64 q0] w K := by
 refine H.math_IsNaN q0 w _ ?_
 unfold S_math_IsNaN
 unfold T_math_IsNaN at hx
 have h := hx
 clear hx
 try dsimp only
 obtain ⟨t1, ht1, h⟩ := bnd h
 obtain rfl := fne_s ht1
 clear ht1
 have h := some_inj h
 cases h
 exact hK _ hS

theorem wk_math_normalize {N : Nums} {P : Program} (H : AllOk N P) {w0 w : World} {L : List It} {q0 : Nat} {u0 : Nat} {u1 : Int} (hS : Ho w0 w (L))  (hx : T_math_normalize (nf q0) = some (u0, u1)) {K : Value → World → Prop} (hK : ∀ (z0 : Nat) (w1 : World), nf z0 = u0 → Ho w0 w1 (L) → K (.tuple #[.float .f64 z0, .int .i64 u1]) w1) : CallsX P N.f_math_normalize #[.float .f64 q0] w K := by
 refine H.math_normalize q0 w _ ?_
 unfold S_math_normalize
 unfold T_math_normalize at hx
 have h := hx
 clear hx
 try dsimp only
 obtain ⟨t1, ht1, h⟩ := bnd h
 refine wk_math_Abs H hS  ht1 ?_; clear hS ht1; rintro z1 w rfl hS
 refine ⟨_, rfl, ?_⟩
 obtain ⟨t2, ht2, h⟩ := bnd h
 obtain rfl := flt_s ht2
 clear ht2
 refine cond_s h ?_ ?_ <;> clear h <;> intro hc h
 ·
  obtain ⟨t3, ht3, h⟩ := bnd h
  refine fmul_s ht3 hS ?_; clear hS ht3; rintro z2 w rfl hS
  have h := some_inj h
  cases h
  exact hK _ _ rfl hS
 ·
  have h := some_inj h
  cases h
  exact hK _ _ rfl hS

theorem wk_math_frexp {N : Nums} {P : Program} (H : AllOk N P) {w0 w : World} {L : List It} {q0 : Nat} {u0 : Nat} {u1 : Int} (hS : Ho w0 w (L))  (hx : T_math_frexp (nf q0) = some (u0, u1)) {K : Value → World → Prop} (hK : ∀ (z0 : Nat) (w1 : World), nf z0 = u0 → Ho w0 w1 (L) → K (.tuple #[.float .f64 z0, .int .i64 u1]) w1) : CallsX P N.f_math_frexp #[.float .f64 q0] w K := by
 refine H.math_frexp q0 w _ ?_
 unfold S_math_frexp
 unfold T_math_frexp at hx
 have h := hx
 clear hx
 try dsimp only
 obtain ⟨t1, ht1, h⟩ := bnd h
 obtain rfl := feq_s ht1
 clear ht1
 refine cond_s h ?_ ?_ <;> clear h <;> intro hc h
 ·
  have h := some_inj h
  cases h
  exact hK _ _ rfl hS
 ·
  obtain ⟨t2, ht2, h⟩ := bnd h
  refine wk_math_IsInf H hS  ht2 ?_; clear hS ht2; rintro w hS
  refine ⟨_, rfl, ?_⟩
  refine cond_s h ?_ ?_ <;> clear h <;> intro hc h
  ·
   obtain ⟨t3, ht3, h⟩ := bnd h
   refine wk_math_IsNaN H hS  ht3 ?_; clear hS ht3; rintro w hS
   refine ⟨_, rfl, ?_⟩
   refine cond_s h ?_ ?_ <;> clear h <;> intro hc h
   ·
    have h := some_inj h
    cases h
    exact hK _ _ rfl hS
   ·
    obtain ⟨⟨t4, t5⟩, ho4, h⟩ := bnd h
    refine wk_math_normalize H hS  ho4 ?_; clear hS ho4; rintro z1 w rfl hS
    refine ⟨_, _, rfl, ?_⟩
    obtain ⟨t6, ht6, h⟩ := bnd h
    refine wk_math_Float64bits H hS  ht6 ?_; clear hS ht6; rintro w hS
    refine ⟨_, rfl, ?_⟩
    refine ⟨by decide, ?_⟩
    obtain ⟨t7, ht7, h⟩ := bnd h
    refine wk_math_Float64frombits H hS  ht7 ?_; clear hS ht7; rintro z2 w rfl hS
    refine ⟨_, rfl, ?_⟩
    have h := some_inj h
    cases h
    exact hK _ _ rfl hS
  ·
   have h := some_inj h
   cases h
   exact hK _ _ rfl hS

theorem wk_math_Frexp {N : Nums} {P : Program} (H : AllOk N P) {w0 w : World} {L : List It} {q0 : Nat} {u0 : Nat} {u1 : Int} (hS : Ho w0 w (L))  (hx : T_math_Frexp (nf q0) = some (u0, u1)) {K : Value → World → Prop} (hK : ∀ (z0 : Nat) (w1 : World), nf z0 = u0 → Ho w0 w1 (L) → K (.tuple #[.float .f64 z0, .int .i64 u1]) w1) : CallsX P N.f_math_Frexp #[.float .f64 q0] w K := by
 refine H.math_Frexp q0 w _ ?_
 unfold S_math_Frexp
 unfold T_math_Frexp at hx
 have h := hx
 clear hx
 try dsimp only
 obtain ⟨⟨t1, t2⟩, ho1, h⟩ := bnd h
 refine wk_math_frexp H hS  ho1 ?_; clear hS ho1; rintro z1 w rfl hS
 refine ⟨_, _, rfl, ?_⟩
 have h := some_inj h
 cases h
 exact hK _ _ rfl hS

theorem wk_math_Copysign {N : Nums} {P : Program} (H : AllOk N P) {w0 w : World} {L : List It} {q0 : Nat} {q1 : Nat} {u0 : Nat} (hS : Ho w0 w (L))  (hx : T_math_Copysign (nf q0) (nf q1) = some u0) {K : Value → World → Prop} (hK : ∀ (z0 : Nat) (w1 : World), nf z0 = u0 → Ho w0 w1 (L) → K (.float .f64 z0) w1) : CallsX P N.f_math_Copysign #[.float .f64 q0, .float .f64 q1] w K := by
 unfold T_math_Copysign at hx
 have hn : isNaN q1 = false := by
  cases e : isNaN q1 with
  | false => rfl
  | true => rw [isNaN_nf, e] at hx; cases hx
 rw [isNaN_nf, hn, nf_of_not hn] at hx
 have hx := some_inj hx
 refine (copysign_c H q0 q1 w).mono ?_
 rintro _ w1 ⟨rfl, h1⟩
 exact hK _ _ ((nf_copy _ _).symm.trans hx) (hS.next h1)

theorem wk_math_Inf {N : Nums} {P : Program} (H : AllOk N P) {w0 w : World} {L : List It} {q0 : Int} {u0 : Nat} (hS : Ho w0 w (L))  (hx : T_math_Inf q0 = some u0) {K : Value → World → Prop} (hK : ∀ (z0 : Nat) (w1 : World), nf z0 = u0 → Ho w0 w1 (L) → K (.float .f64 z0) w1) : CallsX P N.f_math_Inf #[.int .i64 q0] w K := by
 refine H.math_Inf q0 w _ ?_
 unfold S_math_Inf
 unfold T_math_Inf at hx
 have h := hx
 clear hx
 try dsimp only
 obtain ⟨o1, h1, c1⟩ := bnd h
 refine cutM_i (fun s w => ∃ (t1 : Int), t1 = o1 ∧ s = (t1, ()) ∧ Ho w0 w (L)) (fun J1 hJ1 => ?_) ?_
 ·
  have h := h1
  clear h1
  refine cond_s h ?_ ?_ <;> clear h <;> intro hc h
  ·
   obtain rfl := some_inj h
   exact hJ1 _ _ ⟨_, rfl, rfl, hS⟩
  ·
   obtain rfl := some_inj h
   exact hJ1 _ _ ⟨_, rfl, rfl, hS⟩
 ·
  clear h1 hS
  rintro s w ⟨t1, rfl, rfl, hS⟩
  have h := c1
  clear c1
  try dsimp only
  obtain ⟨t2, ht2, h⟩ := bnd h
  refine wk_math_Float64frombits H hS  ht2 ?_; clear hS ht2; rintro z2 w rfl hS
  refine ⟨_, rfl, ?_⟩
  have h := some_inj h
  cases h
  exact hK _ _ rfl hS

theorem wk_math_ldexp {N : Nums} {P : Program} (H : AllOk N P) {w0 w : World} {L : List It} {q0 : Nat} {q1 : Int} {u0 : Nat} (hS : Ho w0 w (L))  (hx : T_math_ldexp (nf q0) q1 = some u0) {K : Value → World → Prop} (hK : ∀ (z0 : Nat) (w1 : World), nf z0 = u0 → Ho w0 w1 (L) → K (.float .f64 z0) w1) : CallsX P N.f_math_ldexp #[.float .f64 q0, .int .i64 q1] w K := by
 refine H.math_ldexp q0 q1 w _ ?_
 unfold S_math_ldexp
 unfold T_math_ldexp at hx
 have h := hx
 clear hx
 try dsimp only
 obtain ⟨t1, ht1, h⟩ := bnd h
 obtain rfl := feq_s ht1
 clear ht1
 refine cond_s h ?_ ?_ <;> clear h <;> intro hc h
 ·
  have h := some_inj h
  cases h
  exact hK _ _ rfl hS
 ·
  obtain ⟨o1, h1, c1⟩ := bnd h
  refine cutM_i (fun s w => ∃ (t2 : Bool), t2 = o1 ∧ s = (t2, ()) ∧ Ho w0 w (L)) (fun J1 hJ1 => ?_) ?_
  ·
   have h := h1
   clear h1
   obtain ⟨t3, ht3, h⟩ := bnd h
   refine wk_math_IsInf H hS  ht3 ?_; clear hS ht3; rintro w hS
   refine ⟨_, rfl, ?_⟩
   refine cond_s h ?_ ?_ <;> clear h <;> intro hc h
   ·
    obtain ⟨t4, ht4, h⟩ := bnd h
    refine wk_math_IsNaN H hS  ht4 ?_; clear hS ht4; rintro w hS
    refine ⟨_, rfl, ?_⟩
    obtain rfl := some_inj h
    exact hJ1 _ _ ⟨_, rfl, rfl, hS⟩
   ·
    obtain rfl := some_inj h
    exact hJ1 _ _ ⟨_, rfl, rfl, hS⟩
  ·
   clear h1 hS
   rintro s w ⟨t2, rfl, rfl, hS⟩
   have h := c1
   clear c1
   try dsimp only
   refine cond_s h ?_ ?_ <;> clear h <;> intro hc h
   ·
    have h := some_inj h
    cases h
    exact hK _ _ rfl hS
   ·
    obtain ⟨⟨t5, t6⟩, ho5, h⟩ := bnd h
    refine wk_math_normalize H hS  ho5 ?_; clear hS ho5; rintro z2 w rfl hS
    refine ⟨_, _, rfl, ?_⟩
    obtain ⟨t7, ht7, h⟩ := bnd h
    refine wk_math_Float64bits H hS  ht7 ?_; clear hS ht7; rintro w hS
    refine ⟨_, rfl, ?_⟩
    refine ⟨by decide, ?_⟩
    refine cond_s h ?_ ?_ <;> clear h <;> intro hc h
    ·
     obtain ⟨t8, ht8, h⟩ := bnd h
     refine wk_math_Copysign H hS  ht8 ?_; clear hS ht8; rintro z3 w rfl hS
     refine ⟨_, rfl, ?_⟩
     have h := some_inj h
     cases h
     exact hK _ _ rfl hS
    ·
     refine cond_s h ?_ ?_ <;> clear h <;> intro hc h
     ·
      obtain ⟨t9, ht9, h⟩ := bnd h
      obtain rfl := flt_s ht9
      clear ht9
      refine cond_s h ?_ ?_ <;> clear h <;> intro hc h
      ·
       obtain ⟨t10, ht10, h⟩ := bnd h
       refine wk_math_Inf H hS  ht10 ?_; clear hS ht10; rintro z4 w rfl hS
       refine ⟨_, rfl, ?_⟩
       have h := some_inj h
       cases h
       exact hK _ _ rfl hS
      ·
       obtain ⟨t11, ht11, h⟩ := bnd h
       refine wk_math_Inf H hS  ht11 ?_; clear hS ht11; rintro z5 w rfl hS
       refine ⟨_, rfl, ?_⟩
       have h := some_inj h
       cases h
       exact hK _ _ rfl hS
     ·
      obtain ⟨o7, h7, c7⟩ := bnd h
      refine cutM_i (fun s w => ∃ (t12 : Int) (z6 : Nat), (t12, (nf z6)) = o7 ∧ s = (t12, z6, ()) ∧ Ho w0 w (L)) (fun J7 hJ7 => ?_) ?_
      ·
       have h := h7
       clear h7
       refine cond_s h ?_ ?_ <;> clear h <;> intro hc h
       ·
        obtain rfl := some_inj h
        exact hJ7 _ _ ⟨_, _, rfl, rfl, hS⟩
       ·
        obtain rfl := some_inj h
        exact hJ7 _ _ ⟨_, _, rfl, rfl, hS⟩
      ·
       clear h7 hS
       rintro s w ⟨t12, z6, rfl, rfl, hS⟩
       have h := c7
       clear c7
       try dsimp only
       refine ⟨by decide, ?_⟩
       obtain ⟨t14, ht14, h⟩ := bnd h
       refine wk_math_Float64frombits H hS  ht14 ?_; clear hS ht14; rintro z8 w rfl hS
       refine ⟨_, rfl, ?_⟩
       obtain ⟨t15, ht15, h⟩ := bnd h
       refine fmul_s ht15 hS ?_; clear hS ht15; rintro z9 w rfl hS
       have h := some_inj h
       cases h
       exact hK _ _ rfl hS

theorem wk_math_Ldexp {N : Nums} {P : Program} (H : AllOk N P) {w0 w : World} {L : List It} {q0 : Nat} {q1 : Int} {u0 : Nat} (hS : Ho w0 w (L))  (hx : T_math_Ldexp (nf q0) q1 = some u0) {K : Value → World → Prop} (hK : ∀ (z0 : Nat) (w1 : World), nf z0 = u0 → Ho w0 w1 (L) → K (.float .f64 z0) w1) : CallsX P N.f_math_Ldexp #[.float .f64 q0, .int .i64 q1] w K := by
 refine H.math_Ldexp q0 q1 w _ ?_
 unfold S_math_Ldexp
 unfold T_math_Ldexp at hx
 have h := hx
 clear hx
 try dsimp only
 obtain ⟨t1, ht1, h⟩ := bnd h
 refine wk_math_ldexp H hS  ht1 ?_; clear hS ht1; rintro z1 w rfl hS
 refine ⟨_, rfl, ?_⟩
 have h := some_inj h
 cases h
 exact hK _ _ rfl hS

theorem wk_math_bits_TrailingZeros64 {N : Nums} {P : Program} (H : AllOk N P) {w0 w : World} {L : List It} {q0 : Int} {u0 : Int} (hS : Ho w0 w (L)) (hG : Ent L (tab64 N.g_1)) (hx : T_math_bits_TrailingZeros64 q0 = some u0) {K : Value → World → Prop} (hK : ∀  (w1 : World), Ho w0 w1 (L) → K (.int .i64 u0) w1) : CallsX P N.f_math_bits_TrailingZeros64 #[.int .u64 q0] w K := by
 unfold T_math_bits_TrailingZeros64 at hx
 have hx := some_inj hx
 subst hx
 exact tz64_c H hS hG hK

theorem wk_bits_Split {N : Nums} {P : Program} (H : AllOk N P) {w0 w : World} {L : List It} {q0 : Nat} {u0 : Bool} {u1 : Int} {u2 : Int} {u3 : Bool} (hS : Ho w0 w (L)) (hG : Ent L (tab64 N.g_1)) (hx : T_bits_Split (nf q0) = some (u0, u1, u2, u3)) {K : Value → World → Prop} (hK : ∀  (w1 : World), Ho w0 w1 (L) → K (.tuple #[.agg #[.bool u0, .int .u64 u1, .int .i64 u2], .bool u3]) w1) : CallsX P N.f_bits_Split #[.float .f64 q0] w K := by
 refine H.bits_Split q0 w _ ?_
 unfold S_bits_Split
 unfold T_bits_Split at hx
 have h := hx
 clear hx
 try dsimp only
 refine newM_s hS ?_; clear hS; intro r1 w hS
 obtain ⟨t1, ht1, h⟩ := bnd h
 refine wk_bits_Kind H hS  ht1 ?_; clear hS ht1; rintro w hS
 refine ⟨_, rfl, ?_⟩
 refine cond_s h ?_ ?_ <;> clear h <;> intro hc h
 ·
  refine stc_s hS rfl rfl ?_; clear hS; intro w hS
  refine stc_s hS rfl rfl ?_; clear hS; intro w hS
  refine stc_s hS rfl rfl ?_; clear hS; intro w hS
  refine ⟨_, (hS.cel mp0 rfl), ?_⟩
  refine ⟨_, (hS.cel mp0 rfl), ?_⟩
  refine ⟨_, (hS.cel mp0 rfl), ?_⟩
  have h := some_inj h
  cases h
  exact hK _ (hS.pick (A := [_]) [] rfl)
 ·
  obtain ⟨t2, ht2, h⟩ := bnd h
  refine wk_math_Signbit H hS  ht2 ?_; clear hS ht2; rintro w hS
  refine ⟨_, rfl, ?_⟩
  refine newM_s hS ?_; clear hS; intro r2 w hS
  refine stc_s hS rfl rfl ?_; clear hS; intro w hS
  refine stc_s hS rfl rfl ?_; clear hS; intro w hS
  refine stc_s hS rfl rfl ?_; clear hS; intro w hS
  obtain ⟨t3, ht3, h⟩ := bnd h
  obtain rfl := feq_s ht3
  clear ht3
  refine cond_s h ?_ ?_ <;> clear h <;> intro hc h
  ·
   refine ⟨_, (hS.cel mp0 rfl), ?_⟩
   refine ⟨_, (hS.cel mp0 rfl), ?_⟩
   refine ⟨_, (hS.cel mp0 rfl), ?_⟩
   replace hS := ro1 hS
   refine stc_s hS rfl rfl ?_; clear hS; intro w hS
   refine stc_s hS rfl rfl ?_; clear hS; intro w hS
   refine stc_s hS rfl rfl ?_; clear hS; intro w hS
   refine ⟨_, (hS.cel mp0 rfl), ?_⟩
   refine ⟨_, (hS.cel mp0 rfl), ?_⟩
   refine ⟨_, (hS.cel mp0 rfl), ?_⟩
   have h := some_inj h
   cases h
   exact hK _ (hS.pick (A := [_, _]) [] rfl)
  ·
   obtain ⟨t4, ht4, h⟩ := bnd h
   refine wk_math_Abs H hS  ht4 ?_; clear hS ht4; rintro z3 w rfl hS
   refine ⟨_, rfl, ?_⟩
   obtain ⟨⟨t5, t6⟩, ho5, h⟩ := bnd h
   refine wk_math_Frexp H hS  ho5 ?_; clear hS ho5; rintro z4 w rfl hS
   refine ⟨_, _, rfl, ?_⟩
   obtain ⟨t7, ht7, h⟩ := bnd h
   refine wk_math_Ldexp H hS  ht7 ?_; clear hS ht7; rintro z5 w rfl hS
   refine ⟨_, rfl, ?_⟩
   obtain ⟨t8, ht8, h⟩ := bnd h
   refine f2i_s ht8 hS ?_; clear hS ht8; intro w hS
   refine stc_s hS rfl rfl ?_; clear hS; intro w hS
   refine ⟨_, (hS.cel mp0 rfl), ?_⟩
   obtain ⟨t9, ht9, h⟩ := bnd h
   refine wk_math_bits_TrailingZeros64 H hS (hG.mono tl2) ht9 ?_; clear hS ht9; rintro w hS
   refine ⟨_, rfl, ?_⟩
   refine ⟨_, (hS.cel mp0 rfl), ?_⟩
   obtain ⟨t10, ht10, h⟩ := bnd h
   refine ⟨nn_s ht10, ?_⟩
   clear ht10
   refine stc_s hS rfl rfl ?_; clear hS; intro w hS
   refine stc_s hS rfl rfl ?_; clear hS; intro w hS
   refine ⟨_, (hS.cel mp0 rfl), ?_⟩
   refine ⟨_, (hS.cel mp0 rfl), ?_⟩
   refine ⟨_, (hS.cel mp0 rfl), ?_⟩
   replace hS := ro1 hS
   refine stc_s hS rfl rfl ?_; clear hS; intro w hS
   refine stc_s hS rfl rfl ?_; clear hS; intro w hS
   refine stc_s hS rfl rfl ?_; clear hS; intro w hS
   refine ⟨_, (hS.cel mp0 rfl), ?_⟩
   refine ⟨_, (hS.cel mp0 rfl), ?_⟩
   refine ⟨_, (hS.cel mp0 rfl), ?_⟩
   have h := some_inj h
   cases h
   exact hK _ (hS.pick (A := [_, _]) [] rfl)

theorem wk_dyad_Of {N : Nums} {P : Program} (H : AllOk N P) {w0 w : World} {L : List It} {q0 : Nat} {u0 : Bool} {u1 : List Int} {u2 : Int} {u3 : Int} (hS : Ho w0 w (L)) (hG : Ent L (tab64 N.g_1)) (hx : T_dyad_Of (nf q0) = some (u0, u1, u2, u3)) {K : Value → World → Prop} (hK : ∀ (a1 : Option Addr) (n1 c1 : Nat) (w1 : World), Ho w0 w1 ((sl a1 n1 c1 (List.map (Value.int .u64) u1) N.t_uint64) :: L) → K (.tuple #[.agg #[.bool u0, .slice a1 n1 c1, .int .i64 u2], .int .i64 u3]) w1) : CallsX P N.f_dyad_Of #[.float .f64 q0] w K := by
 refine H.dyad_Of q0 w _ ?_
 unfold S_dyad_Of
 unfold T_dyad_Of at hx
 have h := hx
 clear hx
 try dsimp only
 refine newM_s hS ?_; clear hS; intro r1 w hS
 obtain ⟨⟨t1, t2, t3, t4⟩, ho1, h⟩ := bnd h
 refine wk_bits_Split H hS (hG.mono tl1) ho1 ?_; clear hS ho1; rintro w hS
 refine ⟨_, _, _, _, rfl, ?_⟩
 refine newM_s hS ?_; clear hS; intro r2 w hS
 refine stc_s hS rfl rfl ?_; clear hS; intro w hS
 refine stc_s hS rfl rfl ?_; clear hS; intro w hS
 refine stc_s hS rfl rfl ?_; clear hS; intro w hS
 refine cond_s h ?_ ?_ <;> clear h <;> intro hc h
 ·
  replace hS := ro1 hS
  refine stc_s hS rfl rfl ?_; clear hS; intro w hS
  refine stc_s hS rfl rfl ?_; clear hS; intro w hS
  refine stc_s hS rfl rfl ?_; clear hS; intro w hS
  refine ⟨_, (hS.cel mp0 rfl), ?_⟩
  refine ⟨_, _, _, (hS.cel mp0 rfl), ?_⟩
  refine ⟨_, (hS.cel mp0 rfl), ?_⟩
  replace hS := hS.none (α := Int) (enc := (Value.int .u64)) (t := N.t_uint64)
  have h := some_inj h
  cases h
  exact hK _ _ _ _ (hS.pick (A := [_, _, _]) [0] rfl)
 ·
  refine ⟨_, (hS.cel mp0 rfl), ?_⟩
  refine cond_s h ?_ ?_ <;> clear h <;> intro hc h
  ·
   replace hS := ro1 hS
   refine stc_s hS rfl rfl ?_; clear hS; intro w hS
   refine stc_s hS rfl rfl ?_; clear hS; intro w hS
   refine stc_s hS rfl rfl ?_; clear hS; intro w hS
   refine ⟨_, (hS.cel mp0 rfl), ?_⟩
   refine ⟨_, _, _, (hS.cel mp0 rfl), ?_⟩
   refine ⟨_, (hS.cel mp0 rfl), ?_⟩
   replace hS := hS.none (α := Int) (enc := (Value.int .u64)) (t := N.t_uint64)
   have h := some_inj h
   cases h
   exact hK _ _ _ _ (hS.pick (A := [_, _, _]) [0] rfl)
  ·
   refine ⟨_, (hS.cel mp0 rfl), ?_⟩
   refine ⟨_, (hS.cel mp0 rfl), ?_⟩
   obtain ⟨t5, ht5, h⟩ := bnd h
   obtain rfl : ([t2] : List Int) = t5 := some_inj ht5
   clear ht5
   refine lit_s (ks := [t2]) (enc := (Value.int .u64)) (m := 1) hS rfl rfl ?_; clear hS; intro r3 w hS
   refine ⟨_, (hS.cel mp1 rfl), ?_⟩
   replace hS := ro2 hS
   refine stc_s hS rfl rfl ?_; clear hS; intro w hS
   refine stc_s hS rfl rfl ?_; clear hS; intro w hS
   refine stc_s hS rfl rfl ?_; clear hS; intro w hS
   refine ⟨_, (hS.cel mp0 rfl), ?_⟩
   refine ⟨_, _, _, (hS.cel mp0 rfl), ?_⟩
   refine ⟨_, (hS.cel mp0 rfl), ?_⟩
   have h := some_inj h
   cases h
   exact hK _ _ _ _ (hS.pick (A := [_, _, _]) [1] rfl)

theorem wk_bignum_NewInt {N : Nums} {P : Program} (H : AllOk N P) {w0 w : World} {L : List It} {q0 : Int} {u0 : Int} (hS : Ho w0 w (L))  (hx : T_bignum_NewInt q0 = some u0) {K : Value → World → Prop} (hK : ∀ (r0 : Nat) (a0 : Option Addr) (n0 c0 : Nat) (w1 : World), Ho w0 w1 ((bg N.t_bignum_Int N.t_uint32 r0 a0 n0 c0 u0) :: L) → K (.pointer (some ⟨r0, 0, none⟩)) w1) : CallsX P N.f_bignum_NewInt #[.int .i64 q0] w K := by
 refine H.bignum_NewInt q0 w _ ?_
 unfold S_bignum_NewInt
 unfold T_bignum_NewInt at hx
 have h := hx
 clear hx
 try dsimp only
 refine newM_s hS ?_; clear hS; intro r1 w hS; replace hS := Ho.bgNew (E := N.t_uint32) hS
 obtain ⟨t1, ht1, h⟩ := bnd h
 refine big_SetInt64_z H hS  ht1 ?_; clear hS ht1; intro a2 m2 c2 w hS
 refine ⟨_, rfl, ?_⟩
 have h := some_inj h
 cases h
 exact hK _ _ _ _ _ hS

theorem wk_dyad_limbs {N : Nums} {P : Program} (H : AllOk N P) {w0 w : World} {L : List It} {q0 : Nat} {q0a : Option Addr} {q0l q0c : Nat} {y0 : Int} {u0 : List Int} (hS : Ho w0 w (L)) (hq0 : Ent L (bgR N.t_bignum_Int q0 q0a q0l q0c y0)) (hx : T_dyad_limbs y0 = some u0) {K : Value → World → Prop} (hK : ∀ (a0 : Option Addr) (n0 c0 : Nat) (w1 : World), Ho w0 w1 ((sl a0 n0 c0 (List.map (Value.int .u64) u0) N.t_uint64) :: L) → K (.slice a0 n0 c0) w1) : CallsX P N.f_dyad_limbs #[.pointer (some ⟨q0, 0, none⟩)] w K := by
 refine H.dyad_limbs (some ⟨q0, 0, none⟩) w _ ?_
 unfold S_dyad_limbs
 unfold T_dyad_limbs at hx
 have h := hx
 clear hx
 try dsimp only
 refine newM_s hS ?_; clear hS; intro r1 w hS; replace hS := Ho.bgNew (E := N.t_uint32) hS
 obtain ⟨t1, ht1, h⟩ := bnd h
 refine big_Abs_zx H hS hq0 ht1 ?_; clear hS ht1; intro a2 m2 c2 w hS
 refine ⟨_, rfl, ?_⟩
 refine newM_s hS ?_; clear hS; intro r3 w hS; replace hS := Ho.bgNew (E := N.t_uint32) hS
 refine newM_s hS ?_; clear hS; intro r4 w hS; replace hS := Ho.bgNew (E := N.t_uint32) hS
 obtain ⟨t2, ht2, h⟩ := bnd h
 refine big_SetUint64_z H hS  ht2 ?_; clear hS ht2; intro a5 m5 c5 w hS
 refine ⟨_, rfl, ?_⟩
 obtain ⟨o9, h9, c9⟩ := bnd h
 refine cutM_i (fun s w => ∃ (a6 : Option Addr) (m7 : Nat) (c8 : Nat) (t3 : List Int), t3 = o9 ∧ s = ((a6, m7, c8), ()) ∧ Ho w0 w ((sl a6 m7 c8 (List.map (Value.int .u64) t3) N.t_uint64) :: L)) (fun J9 hJ9 => ?_) ?_
 ·
  have h := h9
  clear h9
  replace hS := hS.none (α := Int) (enc := (Value.int .u64)) (t := N.t_uint64)
  refine iter_sim (fun s w t => ∃ (a10 : Option Addr) (m11 : Nat) (c12 : Nat) (t4 : Int) (a13 : Option Addr) (m14 : Nat) (c15 : Nat) (t5 : Int) (a16 : Option Addr) (m17 : Nat) (c18 : Nat) (t6 : List Int), (t4, t5, t6) = t ∧ s = ((a16, m17, c18), ()) ∧ Ho w0 w ((bg N.t_bignum_Int N.t_uint32 r4 a5 m5 c5 t2) :: (bg N.t_bignum_Int N.t_uint32 r3 a10 m11 c12 t4) :: (bg N.t_bignum_Int N.t_uint32 r1 a13 m14 c15 t5) :: (sl a16 m17 c18 (List.map (Value.int .u64) t6) N.t_uint64) :: L)) ?_ h ⟨_, _, _, _, _, _, _, _, _, _, _, _, rfl, rfl, (hS.pick (A := [_, _, _, _]) [1, 1, 1, 0] rfl)⟩
  clear h hS
  rintro s w t X q ⟨a10, m11, c12, t4, a13, m14, c15, t5, a16, m17, c18, t6, rfl, rfl, hS⟩ h hX hO
  unfold T_dyad_limbs_b2 at h
  try dsimp only
  obtain ⟨t7, ht7, h⟩ := bnd h
  refine big_Sign_x H hS (Ent.bg mp2) ht7 ?_; clear hS ht7; intro w hS
  refine ⟨_, rfl, ?_⟩
  refine cond_s h ?_ ?_ <;> clear h <;> intro hc h
  ·
   obtain ⟨t8, ht8, h⟩ := bnd h
   replace hS := ro1 hS
   refine big_And_zxy H hS (Ent.bg mp1) (Ent.bg mp0) ht8 ?_; clear hS ht8; intro a19 m19 c19 w hS
   refine ⟨_, rfl, ?_⟩
   obtain ⟨t9, ht9, h⟩ := bnd h
   refine big_Uint64_x H hS (Ent.bg mp0) ht9 ?_; clear hS ht9; intro w hS
   refine ⟨_, rfl, ?_⟩
   obtain ⟨t10, ht10, h⟩ := bnd h
   obtain rfl : ([t9] : List Int) = t10 := some_inj ht10
   clear ht10
   refine lit_s (ks := [t9]) (enc := (Value.int .u64)) (m := 1) hS rfl rfl ?_; clear hS; intro r20 w hS
   obtain ⟨t11, ht11, h⟩ := bnd h
   obtain ⟨rfl, kt11⟩ := appE ht11
   clear ht11
   replace hS := ro4 hS
   refine app_s hS kt11 ((Ent.sl mp1).now (fun _ h => h) hS) (fun _ => rfl) rfl ?_; clear hS kt11; intro a21 c21 w hS
   obtain ⟨t12, ht12, h⟩ := bnd h
   replace hS := ro4 hS
   refine big_Rsh_zz H hS  ht12 ?_; clear hS ht12; intro a22 m22 c22 w hS
   refine ⟨_, rfl, ?_⟩
   obtain rfl := some_inj h
   exact hX _ rfl _ _ ⟨_, _, _, _, _, _, _, _, _, _, _, _, rfl, rfl, (hS.pick (A := [_, _, _, _, _]) [4, 3, 0, 0] rfl)⟩
  ·
   obtain rfl := some_inj h
   have h := congrArg some (hO _ rfl)
   obtain rfl := some_inj h
   exact hJ9 _ _ ⟨_, _, _, _, rfl, rfl, (hS.pick (A := [_, _, _, _]) [3] rfl)⟩
 ·
  clear h9 hS
  rintro s w ⟨a6, m7, c8, t3, rfl, rfl, hS⟩
  have h := c9
  clear c9
  try dsimp only
  have h := some_inj h
  cases h
  exact hK _ _ _ _ hS

theorem wk_dyad_made {N : Nums} {P : Program} (H : AllOk N P) {w0 w : World} {L : List It} {q0 : Nat} {q0a : Option Addr} {q0l q0c : Nat} {y0 : Int} {q1 : Int} {u0 : Bool} {u1 : List Int} {u2 : Int} {u3 : Int} (hS : Ho w0 w (L)) (hq0 : Ent L (bgR N.t_bignum_Int q0 q0a q0l q0c y0)) (hx : T_dyad_made y0 q1 = some (u0, u1, u2, u3)) {K : Value → World → Prop} (hK : ∀ (a1 : Option Addr) (n1 c1 : Nat) (w1 : World), Ho w0 w1 ((sl a1 n1 c1 (List.map (Value.int .u64) u1) N.t_uint64) :: L) → K (.tuple #[.agg #[.bool u0, .slice a1 n1 c1, .int .i64 u2], .int .i64 u3]) w1) : CallsX P N.f_dyad_made #[.pointer (some ⟨q0, 0, none⟩), .int .i64 q1] w K := by
 refine H.dyad_made (some ⟨q0, 0, none⟩) q1 w _ ?_
 unfold S_dyad_made
 unfold T_dyad_made at hx
 have h := hx
 clear hx
 try dsimp only
 refine newM_s hS ?_; clear hS; intro r1 w hS
 obtain ⟨t1, ht1, h⟩ := bnd h
 refine big_Sign_x H hS (hq0.mono tl1) ht1 ?_; clear hS ht1; intro w hS
 refine ⟨_, rfl, ?_⟩
 refine cond_s h ?_ ?_ <;> clear h <;> intro hc h
 ·
  refine stc_s hS rfl rfl ?_; clear hS; intro w hS
  refine stc_s hS rfl rfl ?_; clear hS; intro w hS
  refine stc_s hS rfl rfl ?_; clear hS; intro w hS
  refine ⟨_, (hS.cel mp0 rfl), ?_⟩
  refine ⟨_, _, _, (hS.cel mp0 rfl), ?_⟩
  refine ⟨_, (hS.cel mp0 rfl), ?_⟩
  replace hS := hS.none (α := Int) (enc := (Value.int .u64)) (t := N.t_uint64)
  have h := some_inj h
  cases h
  exact hK _ _ _ _ (hS.pick (A := [_, _]) [0] rfl)
 ·
  obtain ⟨t2, ht2, h⟩ := bnd h
  refine big_TrailingZeroBits_x H hS (hq0.mono tl1) ht2 ?_; clear hS ht2; intro w hS
  refine ⟨_, rfl, ?_⟩
  refine cond_s h ?_ ?_ <;> clear h <;> intro hc h
  ·
   refine stc_s hS rfl rfl ?_; clear hS; intro w hS
   refine stc_s hS rfl rfl ?_; clear hS; intro w hS
   refine stc_s hS rfl rfl ?_; clear hS; intro w hS
   refine ⟨_, (hS.cel mp0 rfl), ?_⟩
   refine ⟨_, _, _, (hS.cel mp0 rfl), ?_⟩
   refine ⟨_, (hS.cel mp0 rfl), ?_⟩
   replace hS := hS.none (α := Int) (enc := (Value.int .u64)) (t := N.t_uint64)
   have h := some_inj h
   cases h
   exact hK _ _ _ _ (hS.pick (A := [_, _]) [0] rfl)
  ·
   refine cond_s h ?_ ?_ <;> clear h <;> intro hc h
   ·
    refine stc_s hS rfl rfl ?_; clear hS; intro w hS
    refine stc_s hS rfl rfl ?_; clear hS; intro w hS
    refine stc_s hS rfl rfl ?_; clear hS; intro w hS
    refine ⟨_, (hS.cel mp0 rfl), ?_⟩
    refine ⟨_, _, _, (hS.cel mp0 rfl), ?_⟩
    refine ⟨_, (hS.cel mp0 rfl), ?_⟩
    replace hS := hS.none (α := Int) (enc := (Value.int .u64)) (t := N.t_uint64)
    have h := some_inj h
    cases h
    exact hK _ _ _ _ (hS.pick (A := [_, _]) [0] rfl)
   ·
    refine cond_s h ?_ ?_ <;> clear h <;> intro hc h
    ·
     refine stc_s hS rfl rfl ?_; clear hS; intro w hS
     refine stc_s hS rfl rfl ?_; clear hS; intro w hS
     refine stc_s hS rfl rfl ?_; clear hS; intro w hS
     refine ⟨_, (hS.cel mp0 rfl), ?_⟩
     refine ⟨_, _, _, (hS.cel mp0 rfl), ?_⟩
     refine ⟨_, (hS.cel mp0 rfl), ?_⟩
     replace hS := hS.none (α := Int) (enc := (Value.int .u64)) (t := N.t_uint64)
     have h := some_inj h
     cases h
     exact hK _ _ _ _ (hS.pick (A := [_, _]) [0] rfl)
    ·
     obtain ⟨t3, ht3, h⟩ := bnd h
     refine big_BitLen_x H hS (hq0.mono tl1) ht3 ?_; clear hS ht3; intro w hS
     refine ⟨_, rfl, ?_⟩
     refine cond_s h ?_ ?_ <;> clear h <;> intro hc h
     ·
      refine stc_s hS rfl rfl ?_; clear hS; intro w hS
      refine stc_s hS rfl rfl ?_; clear hS; intro w hS
      refine stc_s hS rfl rfl ?_; clear hS; intro w hS
      refine ⟨_, (hS.cel mp0 rfl), ?_⟩
      refine ⟨_, _, _, (hS.cel mp0 rfl), ?_⟩
      refine ⟨_, (hS.cel mp0 rfl), ?_⟩
      replace hS := hS.none (α := Int) (enc := (Value.int .u64)) (t := N.t_uint64)
      have h := some_inj h
      cases h
      exact hK _ _ _ _ (hS.pick (A := [_, _]) [0] rfl)
     ·
      obtain ⟨t4, ht4, h⟩ := bnd h
      refine big_Sign_x H hS (hq0.mono tl1) ht4 ?_; clear hS ht4; intro w hS
      refine ⟨_, rfl, ?_⟩
      refine newM_s hS ?_; clear hS; intro r2 w hS; replace hS := Ho.bgNew (E := N.t_uint32) hS
      refine newM_s hS ?_; clear hS; intro r3 w hS; replace hS := Ho.bgNew (E := N.t_uint32) hS
      obtain ⟨t5, ht5, h⟩ := bnd h
      refine big_Abs_zx H hS (hq0.mono tl2) ht5 ?_; clear hS ht5; intro a4 m4 c4 w hS
      refine ⟨_, rfl, ?_⟩
      obtain ⟨t6, ht6, h⟩ := bnd h
      replace hS := ro1 hS
      refine big_Rsh_zx H hS (Ent.bg mp0) ht6 ?_; clear hS ht6; intro a5 m5 c5 w hS
      refine ⟨_, rfl, ?_⟩
      obtain ⟨t7, ht7, h⟩ := bnd h
      refine wk_dyad_limbs H hS (Ent.bg mp0) ht7 ?_; clear hS ht7; rintro a6 m6 c6 w hS
      refine ⟨_, _, _, rfl, ?_⟩
      replace hS := ro3 hS
      refine stc_s hS rfl rfl ?_; clear hS; intro w hS
      refine stc_s hS rfl rfl ?_; clear hS; intro w hS
      refine stc_s hS rfl rfl ?_; clear hS; intro w hS
      refine ⟨_, (hS.cel mp0 rfl), ?_⟩
      refine ⟨_, _, _, (hS.cel mp0 rfl), ?_⟩
      refine ⟨_, (hS.cel mp0 rfl), ?_⟩
      have h := some_inj h
      cases h
      exact hK _ _ _ _ (hS.pick (A := [_, _, _, _]) [1] rfl)

theorem wk_dyad_Int {N : Nums} {P : Program} (H : AllOk N P) {w0 w : World} {L : List It} {q0 : Int} {u0 : Bool} {u1 : List Int} {u2 : Int} (hS : Ho w0 w (L))  (hx : T_dyad_Int q0 = some (u0, u1, u2)) {K : Value → World → Prop} (hK : ∀ (a1 : Option Addr) (n1 c1 : Nat) (w1 : World), Ho w0 w1 ((sl a1 n1 c1 (List.map (Value.int .u64) u1) N.t_uint64) :: L) → K (.agg #[.bool u0, .slice a1 n1 c1, .int .i64 u2]) w1) : CallsX P N.f_dyad_Int #[.int .i64 q0] w K := by
 refine H.dyad_Int q0 w _ ?_
 unfold S_dyad_Int
 unfold T_dyad_Int at hx
 have h := hx
 clear hx
 try dsimp only
 refine newM_s hS ?_; clear hS; intro r1 w hS
 obtain ⟨t1, ht1, h⟩ := bnd h
 refine wk_bignum_NewInt H hS  ht1 ?_; clear hS ht1; rintro r2 a2 m2 c2 w hS
 refine ⟨_, rfl, ?_⟩
 obtain ⟨⟨t2, t3, t4, t5⟩, ho2, h⟩ := bnd h
 refine wk_dyad_made H hS (Ent.bg mp0) ho2 ?_; clear hS ho2; rintro a3 m3 c3 w hS
 refine ⟨_, _, _, _, _, _, rfl, ?_⟩
 refine newM_s hS ?_; clear hS; intro r4 w hS
 refine stc_s hS rfl rfl ?_; clear hS; intro w hS
 refine stc_s hS rfl rfl ?_; clear hS; intro w hS
 refine stc_s hS rfl rfl ?_; clear hS; intro w hS
 refine ⟨_, (hS.cel mp0 rfl), ?_⟩
 refine ⟨_, _, _, (hS.cel mp0 rfl), ?_⟩
 refine ⟨_, (hS.cel mp0 rfl), ?_⟩
 replace hS := ro3 hS
 refine stc_s hS rfl rfl ?_; clear hS; intro w hS
 refine stc_s hS rfl rfl ?_; clear hS; intro w hS
 refine stc_s hS rfl rfl ?_; clear hS; intro w hS
 refine ⟨_, (hS.cel mp0 rfl), ?_⟩
 refine ⟨_, _, _, (hS.cel mp0 rfl), ?_⟩
 refine ⟨_, (hS.cel mp0 rfl), ?_⟩
 have h := some_inj h
 cases h
 exact hK _ _ _ _ (hS.pick (A := [_, _, _, _]) [2] rfl)

theorem wk_dyad_Right {N : Nums} {P : Program} (H : AllOk N P) {w0 w : World} {L : List It} {q0_0 : Bool} {q0_1 : Option Addr} {q0_1l q0_1c : Nat} {l0_1 : List Int} {q0_2 : Int} {u0 : Bool} (hS : Ho w0 w (L)) (hq0_1 : Ent L (rdA (List.map (Value.int .u64) l0_1) q0_1 q0_1l q0_1c)) (hx : T_dyad_Right q0_0 l0_1 q0_2 = some u0) {K : Value → World → Prop} (hK : ∀  (w1 : World), Ho w0 w1 (L) → K (.bool u0) w1) : CallsX P N.f_dyad_Right #[.agg #[.bool q0_0, .slice q0_1 q0_1l q0_1c, .int .i64 q0_2]] w K := by
 refine H.dyad_Right q0_0 q0_1 q0_1l q0_1c q0_2 w _ ?_
 unfold S_dyad_Right
 unfold T_dyad_Right at hx
 have h := hx
 clear hx
 try dsimp only
 refine newM_s hS ?_; clear hS; intro r1 w hS
 refine ⟨_, _, _, (hS.cel mp0 rfl), ?_⟩
 obtain ⟨t1, ht1, h⟩ := bnd h
 obtain rfl := lenE ht1 ((hq0_1.mono tl1).now (fun _ h => h) hS)
 clear ht1
 refine cond_s h ?_ ?_ <;> clear h <;> intro hc h
 ·
  refine ⟨_, (hS.cel mp0 rfl), ?_⟩
  refine cond_s h ?_ ?_ <;> clear h <;> intro hc h
  ·
   refine ⟨_, (hS.cel mp0 rfl), ?_⟩
   have h := some_inj h
   cases h
   exact hK _ (hS.pick (A := [_]) [] rfl)
  ·
   have h := some_inj h
   cases h
   exact hK _ (hS.pick (A := [_]) [] rfl)
 ·
  refine cond_s h ?_ ?_ <;> clear h <;> intro hc h
  ·
   refine ⟨_, _, _, (hS.cel mp0 rfl), ?_⟩
   obtain ⟨t2, ht2, h⟩ := bnd h
   obtain ⟨q2x, q2l, q2r⟩ := atE ht2
   clear ht2
   refine idx_s ((hq0_1.mono tl1).now (fun _ h => h) hS) q2x q2l q2r ?_; intro b3 hb3
   refine ⟨_, rd_get ((hq0_1.mono tl1).now (fun _ h => h) hS) hb3 q2x, ?_⟩
   refine cond_s h ?_ ?_ <;> clear h <;> intro hc h
   ·
    refine ⟨_, _, _, (hS.cel mp0 rfl), ?_⟩
    obtain ⟨t3, ht3, h⟩ := bnd h
    obtain ⟨q4x, q4l, q4r⟩ := atE ht3
    clear ht3
    refine idx_s ((hq0_1.mono tl1).now (fun _ h => h) hS) q4x q4l q4r ?_; intro b5 hb5
    refine ⟨_, rd_get ((hq0_1.mono tl1).now (fun _ h => h) hS) hb5 q4x, ?_⟩
    refine cond_s h ?_ ?_ <;> clear h <;> intro hc h
    ·
     refine ⟨_, (hS.cel mp0 rfl), ?_⟩
     refine cond_s h ?_ ?_ <;> clear h <;> intro hc h
     ·
      refine ⟨_, (hS.cel mp0 rfl), ?_⟩
      have h := some_inj h
      cases h
      exact hK _ (hS.pick (A := [_]) [] rfl)
     ·
      have h := some_inj h
      cases h
      exact hK _ (hS.pick (A := [_]) [] rfl)
    ·
     have h := some_inj h
     cases h
     exact hK _ (hS.pick (A := [_]) [] rfl)
   ·
    have h := some_inj h
    cases h
    exact hK _ (hS.pick (A := [_]) [] rfl)
  ·
   have h := some_inj h
   cases h
   exact hK _ (hS.pick (A := [_]) [] rfl)

theorem wk_dyad_both {N : Nums} {P : Program} (H : AllOk N P) {w0 w : World} {L : List It} {q0_0 : Bool} {q0_1 : Option Addr} {q0_1l q0_1c : Nat} {l0_1 : List Int} {q0_2 : Int} {q1_0 : Bool} {q1_1 : Option Addr} {q1_1l q1_1c : Nat} {l1_1 : List Int} {q1_2 : Int} {u0 : Bool} (hS : Ho w0 w (L)) (hq0_1 : Ent L (rdA (List.map (Value.int .u64) l0_1) q0_1 q0_1l q0_1c)) (hq1_1 : Ent L (rdA (List.map (Value.int .u64) l1_1) q1_1 q1_1l q1_1c)) (hx : T_dyad_both q0_0 l0_1 q0_2 q1_0 l1_1 q1_2 = some u0) {K : Value → World → Prop} (hK : ∀  (w1 : World), Ho w0 w1 (L) → K (.bool u0) w1) : CallsX P N.f_dyad_both #[.agg #[.bool q0_0, .slice q0_1 q0_1l q0_1c, .int .i64 q0_2], .agg #[.bool q1_0, .slice q1_1 q1_1l q1_1c, .int .i64 q1_2]] w K := by
 refine H.dyad_both q0_0 q0_1 q0_1l q0_1c q0_2 q1_0 q1_1 q1_1l q1_1c q1_2 w _ ?_
 unfold S_dyad_both
 unfold T_dyad_both at hx
 have h := hx
 clear hx
 try dsimp only
 refine newM_s hS ?_; clear hS; intro r1 w hS
 refine newM_s hS ?_; clear hS; intro r2 w hS
 refine ⟨_, (hS.cel mp1 rfl), ?_⟩
 refine ⟨_, _, _, (hS.cel mp1 rfl), ?_⟩
 refine ⟨_, (hS.cel mp1 rfl), ?_⟩
 obtain ⟨t1, ht1, h⟩ := bnd h
 refine wk_dyad_Right H hS (hq0_1.mono tl2) ht1 ?_; clear hS ht1; rintro w hS
 refine ⟨_, rfl, ?_⟩
 refine cond_s h ?_ ?_ <;> clear h <;> intro hc h
 ·
  refine ⟨_, (hS.cel mp0 rfl), ?_⟩
  refine ⟨_, _, _, (hS.cel mp0 rfl), ?_⟩
  refine ⟨_, (hS.cel mp0 rfl), ?_⟩
  obtain ⟨t2, ht2, h⟩ := bnd h
  refine wk_dyad_Right H hS (hq1_1.mono tl2) ht2 ?_; clear hS ht2; rintro w hS
  refine ⟨_, rfl, ?_⟩
  have h := some_inj h
  cases h
  exact hK _ (hS.pick (A := [_, _]) [] rfl)
 ·
  have h := some_inj h
  cases h
  exact hK _ (hS.pick (A := [_, _]) [] rfl)

theorem wk_dyad_whole {N : Nums} {P : Program} (H : AllOk N P) {w0 w : World} {L : List It} {q0_0 : Bool} {q0_1 : Option Addr} {q0_1l q0_1c : Nat} {l0_1 : List Int} {q0_2 : Int} {u0 : Int} (hS : Ho w0 w (L)) (hq0_1 : Ent L (rdA (List.map (Value.int .u64) l0_1) q0_1 q0_1l q0_1c)) (hx : T_dyad_whole q0_0 l0_1 q0_2 = some u0) {K : Value → World → Prop} (hK : ∀ (r0 : Nat) (a0 : Option Addr) (n0 c0 : Nat) (w1 : World), Ho w0 w1 ((bg N.t_bignum_Int N.t_uint32 r0 a0 n0 c0 u0) :: L) → K (.pointer (some ⟨r0, 0, none⟩)) w1) : CallsX P N.f_dyad_whole #[.agg #[.bool q0_0, .slice q0_1 q0_1l q0_1c, .int .i64 q0_2]] w K := by
 refine H.dyad_whole q0_0 q0_1 q0_1l q0_1c q0_2 w _ ?_
 unfold S_dyad_whole
 unfold T_dyad_whole at hx
 have h := hx
 clear hx
 try dsimp only
 refine newM_s hS ?_; clear hS; intro r1 w hS
 refine newM_s hS ?_; clear hS; intro r2 w hS; replace hS := Ho.bgNew (E := N.t_uint32) hS
 refine ⟨_, _, _, (hS.cel mp1 rfl), ?_⟩
 obtain ⟨t1, ht1, h⟩ := bnd h
 obtain rfl := lenE ht1 ((hq0_1.mono tl2).now (fun _ h => h) hS)
 clear ht1
 obtain ⟨o6, h6, c6⟩ := bnd h
 refine cutM_i (fun s w => ∃ (a3 : Option Addr) (m4 : Nat) (c5 : Nat) (t2 : Int), t2 = o6 ∧ s = (()) ∧ Ho w0 w ((bg N.t_bignum_Int N.t_uint32 r2 a3 m4 c5 t2) :: (cl r1 [.bool q0_0, .slice q0_1 q0_1l q0_1c, .int .i64 q0_2] N.t_Dyad) :: L)) (fun J6 hJ6 => ?_) ?_
 ·
  have h := h6
  clear h6
  refine iter_sim (fun s w t => ∃ (t3 : Int) (a7 : Option Addr) (m8 : Nat) (c9 : Nat) (t4 : Int), (t3, t4) = t ∧ s = (t3, ()) ∧ Ho w0 w ((bg N.t_bignum_Int N.t_uint32 r2 a7 m8 c9 t4) :: (cl r1 [.bool q0_0, .slice q0_1 q0_1l q0_1c, .int .i64 q0_2] N.t_Dyad) :: L)) ?_ h ⟨_, _, _, _, _, rfl, rfl, hS⟩
  clear h hS
  rintro s w t X q ⟨t3, a7, m8, c9, t4, rfl, rfl, hS⟩ h hX hO
  unfold T_dyad_whole_b2 at h
  try dsimp only
  refine cond_s h ?_ ?_ <;> clear h <;> intro hc h
  ·
   obtain ⟨t5, ht5, h⟩ := bnd h
   refine big_Lsh_zz H hS  ht5 ?_; clear hS ht5; intro a10 m10 c10 w hS
   refine ⟨_, rfl, ?_⟩
   refine newM_s hS ?_; clear hS; intro r11 w hS; replace hS := Ho.bgNew (E := N.t_uint32) hS
   refine ⟨_, _, _, (hS.cel mp2 rfl), ?_⟩
   refine ⟨_, _, _, (hS.cel mp2 rfl), ?_⟩
   obtain ⟨t6, ht6, h⟩ := bnd h
   obtain rfl := lenE ht6 ((hq0_1.mono tl3).now (fun _ h => h) hS)
   clear ht6
   obtain ⟨t7, ht7, h⟩ := bnd h
   obtain ⟨q12x, q12l, q12r⟩ := atE ht7
   clear ht7
   refine idx_s ((hq0_1.mono tl3).now (fun _ h => h) hS) q12x q12l q12r ?_; intro b13 hb13
   refine ⟨_, rd_get ((hq0_1.mono tl3).now (fun _ h => h) hS) hb13 q12x, ?_⟩
   obtain ⟨t8, ht8, h⟩ := bnd h
   refine big_SetUint64_z H hS  ht8 ?_; clear hS ht8; intro a14 m14 c14 w hS
   refine ⟨_, rfl, ?_⟩
   obtain ⟨t9, ht9, h⟩ := bnd h
   replace hS := ro1 hS
   refine big_Or_zzy H hS (Ent.bg mp0) ht9 ?_; clear hS ht9; intro a15 m15 c15 w hS
   refine ⟨_, rfl, ?_⟩
   obtain rfl := some_inj h
   exact hX _ rfl _ _ ⟨_, _, _, _, _, rfl, rfl, (hS.pick (A := [_, _, _]) [0, 1] rfl)⟩
  ·
   obtain rfl := some_inj h
   have h := congrArg some (hO _ rfl)
   obtain rfl := some_inj h
   exact hJ6 _ _ ⟨_, _, _, _, rfl, rfl, hS⟩
 ·
  clear h6 hS
  rintro s w ⟨a3, m4, c5, t2, rfl, rfl, hS⟩
  have h := c6
  clear c6
  try dsimp only
  refine ⟨_, (hS.cel mp1 rfl), ?_⟩
  obtain ⟨o19, h19, c19⟩ := bnd h
  refine cutM_i (fun s w => ∃ (a16 : Option Addr) (m17 : Nat) (c18 : Nat) (t10 : Int), t10 = o19 ∧ s = (()) ∧ Ho w0 w ((bg N.t_bignum_Int N.t_uint32 r2 a16 m17 c18 t10) :: L)) (fun J19 hJ19 => ?_) ?_
  ·
   have h := h19
   clear h19
   refine cond_s h ?_ ?_ <;> clear h <;> intro hc h
   ·
    obtain ⟨t11, ht11, h⟩ := bnd h
    refine big_Neg_zz H hS  ht11 ?_; clear hS ht11; intro a20 m20 c20 w hS
    refine ⟨_, rfl, ?_⟩
    obtain rfl := some_inj h
    exact hJ19 _ _ ⟨_, _, _, _, rfl, rfl, (hS.pick (A := [_, _]) [0] rfl)⟩
   ·
    obtain rfl := some_inj h
    exact hJ19 _ _ ⟨_, _, _, _, rfl, rfl, (hS.pick (A := [_, _]) [0] rfl)⟩
  ·
   clear h19 hS
   rintro s w ⟨a16, m17, c18, t10, rfl, rfl, hS⟩
   have h := c19
   clear c19
   try dsimp only
   have h := some_inj h
   cases h
   exact hK _ _ _ _ _ hS

theorem wk_dyad_Add {N : Nums} {P : Program} (H : AllOk N P) {w0 w : World} {L : List It} {q0_0 : Bool} {q0_1 : Option Addr} {q0_1l q0_1c : Nat} {l0_1 : List Int} {q0_2 : Int} {q1_0 : Bool} {q1_1 : Option Addr} {q1_1l q1_1c : Nat} {l1_1 : List Int} {q1_2 : Int} {u0 : Bool} {u1 : List Int} {u2 : Int} {u3 : Int} (hS : Ho w0 w (L)) (hq0_1 : Ent L (rdA (List.map (Value.int .u64) l0_1) q0_1 q0_1l q0_1c)) (hq1_1 : Ent L (rdA (List.map (Value.int .u64) l1_1) q1_1 q1_1l q1_1c)) (hx : T_dyad_Add q0_0 l0_1 q0_2 q1_0 l1_1 q1_2 = some (u0, u1, u2, u3)) {K : Value → World → Prop} (hK : ∀ (a1 : Option Addr) (n1 c1 : Nat) (w1 : World), Ho w0 w1 ((sl a1 n1 c1 (List.map (Value.int .u64) u1) N.t_uint64) :: L) → K (.tuple #[.agg #[.bool u0, .slice a1 n1 c1, .int .i64 u2], .int .i64 u3]) w1) : CallsX P N.f_dyad_Add #[.agg #[.bool q0_0, .slice q0_1 q0_1l q0_1c, .int .i64 q0_2], .agg #[.bool q1_0, .slice q1_1 q1_1l q1_1c, .int .i64 q1_2]] w K := by
 refine H.dyad_Add q0_0 q0_1 q0_1l q0_1c q0_2 q1_0 q1_1 q1_1l q1_1c q1_2 w _ ?_
 unfold S_dyad_Add
 unfold T_dyad_Add at hx
 have h := hx
 clear hx
 try dsimp only
 refine newM_s hS ?_; clear hS; intro r1 w hS
 refine newM_s hS ?_; clear hS; intro r2 w hS
 refine newM_s hS ?_; clear hS; intro r3 w hS
 refine ⟨_, (hS.cel mp2 rfl), ?_⟩
 refine ⟨_, _, _, (hS.cel mp2 rfl), ?_⟩
 refine ⟨_, (hS.cel mp2 rfl), ?_⟩
 refine ⟨_, (hS.cel mp1 rfl), ?_⟩
 refine ⟨_, _, _, (hS.cel mp1 rfl), ?_⟩
 refine ⟨_, (hS.cel mp1 rfl), ?_⟩
 obtain ⟨t1, ht1, h⟩ := bnd h
 refine wk_dyad_both H hS (hq0_1.mono tl3) (hq1_1.mono tl3) ht1 ?_; clear hS ht1; rintro w hS
 refine ⟨_, rfl, ?_⟩
 refine cond_s h ?_ ?_ <;> clear h <;> intro hc h
 ·
  refine stc_s hS rfl rfl ?_; clear hS; intro w hS
  refine stc_s hS rfl rfl ?_; clear hS; intro w hS
  refine stc_s hS rfl rfl ?_; clear hS; intro w hS
  refine ⟨_, (hS.cel mp0 rfl), ?_⟩
  refine ⟨_, _, _, (hS.cel mp0 rfl), ?_⟩
  refine ⟨_, (hS.cel mp0 rfl), ?_⟩
  replace hS := hS.none (α := Int) (enc := (Value.int .u64)) (t := N.t_uint64)
  have h := some_inj h
  cases h
  exact hK _ _ _ _ (hS.pick (A := [_, _, _, _]) [0] rfl)
 ·
  refine ⟨_, (hS.cel mp2 rfl), ?_⟩
  refine ⟨_, _, _, (hS.cel mp2 rfl), ?_⟩
  refine ⟨_, (hS.cel mp2 rfl), ?_⟩
  refine ⟨_, (hS.cel mp1 rfl), ?_⟩
  refine ⟨_, _, _, (hS.cel mp1 rfl), ?_⟩
  refine ⟨_, (hS.cel mp1 rfl), ?_⟩
  refine drM_s hS ?_; clear hS; intro w hS
  obtain ⟨t2, ht2, h⟩ := bnd h
  refine wk_dyad_whole H hS (hq0_1.mono tl3) ht2 ?_; clear hS ht2; rintro r4 a4 m4 c4 w hS
  refine ⟨_, rfl, ?_⟩
  refine ⟨(hS.cel mp2 rfl), ?_⟩
  refine ⟨(hS.cel mp2 rfl), ?_⟩
  refine ⟨(hS.cel mp2 rfl), ?_⟩
  refine drM_s hS ?_; clear hS; intro w hS
  obtain ⟨t3, ht3, h⟩ := bnd h
  refine wk_dyad_whole H hS (hq1_1.mono tl4) ht3 ?_; clear hS ht3; rintro r5 a5 m5 c5 w hS
  refine ⟨_, rfl, ?_⟩
  refine drM_s hS ?_; clear hS; intro w hS
  obtain ⟨o6, h6, c6⟩ := bnd h
  refine cutM_i (fun s w => ∃ (t4 : Bool), t4 = o6 ∧ s = (t4, ()) ∧ Ho w0 w ((bg N.t_bignum_Int N.t_uint32 r5 a5 m5 c5 t3) :: (bg N.t_bignum_Int N.t_uint32 r4 a4 m4 c4 t2) :: (cl r3 [.bool false, .slice none 0 0, .int .i64 0] N.t_Dyad) :: (cl r2 [.bool q1_0, .slice q1_1 q1_1l q1_1c, .int .i64 q1_2] N.t_Dyad) :: (cl r1 [.bool q0_0, .slice q0_1 q0_1l q0_1c, .int .i64 q0_2] N.t_Dyad) :: L)) (fun J6 hJ6 => ?_) ?_
  ·
   have h := h6
   clear h6
   obtain ⟨t5, ht5, h⟩ := bnd h
   refine big_Sign_x H hS (Ent.bg mp1) ht5 ?_; clear hS ht5; intro w hS
   refine ⟨_, rfl, ?_⟩
   refine cond_s h ?_ ?_ <;> clear h <;> intro hc h
   ·
    obtain ⟨t6, ht6, h⟩ := bnd h
    refine big_Sign_x H hS (Ent.bg mp0) ht6 ?_; clear hS ht6; intro w hS
    refine ⟨_, rfl, ?_⟩
    obtain rfl := some_inj h
    exact hJ6 _ _ ⟨_, rfl, rfl, hS⟩
   ·
    obtain rfl := some_inj h
    exact hJ6 _ _ ⟨_, rfl, rfl, hS⟩
  ·
   clear h6 hS
   rintro s w ⟨t4, rfl, rfl, hS⟩
   have h := c6
   clear c6
   try dsimp only
   refine cond_s h ?_ ?_ <;> clear h <;> intro hc h
   ·
    refine ⟨_, (hS.cel mp4 rfl), ?_⟩
    refine ⟨_, (hS.cel mp3 rfl), ?_⟩
    refine drM_s hS ?_; clear hS; intro w hS
    obtain ⟨t7, ht7, h⟩ := bnd h
    replace hS := ro1 hS
    refine big_Add_zzy H hS (Ent.bg mp0) ht7 ?_; clear hS ht7; intro a7 m7 c7 w hS
    refine ⟨_, rfl, ?_⟩
    refine ⟨(hS.cel mp3 rfl), ?_⟩
    refine ⟨(hS.cel mp4 rfl), ?_⟩
    refine drM_s hS ?_; clear hS; intro w hS
    obtain ⟨⟨t8, t9, t10, t11⟩, ho8, h⟩ := bnd h
    refine wk_dyad_made H hS (Ent.bg mp0) ho8 ?_; clear hS ho8; rintro a8 m8 c8 w hS
    refine ⟨_, _, _, _, _, _, rfl, ?_⟩
    refine drM_s hS ?_; clear hS; intro w hS
    replace hS := ro3 hS
    refine stc_s hS rfl rfl ?_; clear hS; intro w hS
    refine stc_s hS rfl rfl ?_; clear hS; intro w hS
    refine stc_s hS rfl rfl ?_; clear hS; intro w hS
    refine drM_s hS ?_; clear hS; intro w hS
    refine ⟨_, (hS.cel mp0 rfl), ?_⟩
    refine ⟨_, _, _, (hS.cel mp0 rfl), ?_⟩
    refine ⟨_, (hS.cel mp0 rfl), ?_⟩
    have h := some_inj h
    cases h
    exact hK _ _ _ _ (hS.pick (A := [_, _, _, _, _, _]) [1] rfl)
   ·
    refine ⟨_, (hS.cel mp4 rfl), ?_⟩
    refine ⟨_, (hS.cel mp3 rfl), ?_⟩
    obtain ⟨o27, h27, c27⟩ := bnd h
    refine cutM_i (fun s w => ∃ (t12 : Bool) (t13 : Int) (t14 : Bool) (t15 : Int) (r9 : Nat) (a10 : Option Addr) (m11 : Nat) (c12 : Nat) (t16 : Int) (r13 : Nat) (a14 : Option Addr) (m15 : Nat) (c16 : Nat) (t17 : Int) (a17 : Option Addr) (m18 : Nat) (c19 : Nat) (t18 : List Int) (it20 : It) (a22 : Option Addr) (m23 : Nat) (c24 : Nat) (t19 : List Int) (it25 : It), (t12, t13, t14, t15, t16, t17, t18, t19) = o27 ∧ s = ((some ⟨r9, 0, none⟩), (some ⟨r13, 0, none⟩), ()) ∧ Ent (it20 :: L) (rdA (List.map (Value.int .u64) t18) a17 m18 c19) ∧ Ent (it25 :: L) (rdA (List.map (Value.int .u64) t19) a22 m23 c24) ∧ Ho w0 w ((cl r2 [.bool t12, .slice a17 m18 c19, .int .i64 t13] N.t_Dyad) :: (cl r1 [.bool t14, .slice a22 m23 c24, .int .i64 t15] N.t_Dyad) :: (cl r3 [.bool false, .slice none 0 0, .int .i64 0] N.t_Dyad) :: (bg N.t_bignum_Int N.t_uint32 r9 a10 m11 c12 t16) :: (bg N.t_bignum_Int N.t_uint32 r13 a14 m15 c16 t17) :: it20 :: it25 :: L)) (fun J27 hJ27 => ?_) ?_
    ·
     have h := h27
     clear h27
     refine cond_s h ?_ ?_ <;> clear h <;> intro hc h
     ·
      refine ⟨_, (hS.cel mp3 rfl), ?_⟩
      refine ⟨_, _, _, (hS.cel mp3 rfl), ?_⟩
      refine ⟨_, (hS.cel mp3 rfl), ?_⟩
      refine ⟨_, (hS.cel mp4 rfl), ?_⟩
      refine ⟨_, _, _, (hS.cel mp4 rfl), ?_⟩
      refine ⟨_, (hS.cel mp4 rfl), ?_⟩
      replace hS := ro4 hS
      refine stc_s hS rfl rfl ?_; clear hS; intro w hS
      refine stc_s hS rfl rfl ?_; clear hS; intro w hS
      refine stc_s hS rfl rfl ?_; clear hS; intro w hS
      replace hS := ro4 hS
      refine stc_s hS rfl rfl ?_; clear hS; intro w hS
      refine stc_s hS rfl rfl ?_; clear hS; intro w hS
      refine stc_s hS rfl rfl ?_; clear hS; intro w hS
      replace hS := hS.voidItem
      replace hS := hS.voidItem
      obtain rfl := some_inj h
      exact hJ27 _ _ ⟨_, _, _, _, _, _, _, _, _, _, _, _, _, _, _, _, _, _, _, _, _, _, _, _, rfl, rfl, (hq0_1.mono tl1), (hq1_1.mono tl1), (hS.pick (A := [_, _, _, _, _, _, _]) [2, 2, 4, 2, 2, 1, 0] rfl)⟩
     ·
      replace hS := hS.voidItem
      replace hS := hS.voidItem
      obtain rfl := some_inj h
      exact hJ27 _ _ ⟨_, _, _, _, _, _, _, _, _, _, _, _, _, _, _, _, _, _, _, _, _, _, _, _, rfl, rfl, (hq1_1.mono tl1), (hq0_1.mono tl1), (hS.pick (A := [_, _, _, _, _, _, _]) [5, 5, 4, 3, 2, 1, 0] rfl)⟩
    ·
     clear h27 hS
     rintro s w ⟨t12, t13, t14, t15, r9, a10, m11, c12, t16, r13, a14, m15, c16, t17, a17, m18, c19, t18, it20, a22, m23, c24, t19, it25, rfl, rfl, e21, e26, hS⟩
     have h := c27
     clear c27
     try dsimp only
     refine ⟨_, (hS.cel mp1 rfl), ?_⟩
     refine ⟨_, (hS.cel mp0 rfl), ?_⟩
     refine cond_s h ?_ ?_ <;> clear h <;> intro hc h
     ·
      replace hS := ro2 hS
      refine stc_s hS rfl rfl ?_; clear hS; intro w hS
      refine stc_s hS rfl rfl ?_; clear hS; intro w hS
      refine stc_s hS rfl rfl ?_; clear hS; intro w hS
      refine ⟨_, (hS.cel mp0 rfl), ?_⟩
      refine ⟨_, _, _, (hS.cel mp0 rfl), ?_⟩
      refine ⟨_, (hS.cel mp0 rfl), ?_⟩
      replace hS := hS.none (α := Int) (enc := (Value.int .u64)) (t := N.t_uint64)
      have h := some_inj h
      cases h
      exact hK _ _ _ _ (hS.pick (A := [_, _, _, _, _, _, _, _]) [0] rfl)
     ·
      refine ⟨_, (hS.cel mp0 rfl), ?_⟩
      refine drM_s hS ?_; clear hS; intro w hS
      obtain ⟨t20, ht20, h⟩ := bnd h
      replace hS := ro3 hS
      refine big_Lsh_zz H hS  ht20 ?_; clear hS ht20; intro a28 m28 c28 w hS
      refine ⟨_, rfl, ?_⟩
      refine ⟨(hS.cel mp1 rfl), ?_⟩
      refine drM_s hS ?_; clear hS; intro w hS
      obtain ⟨t21, ht21, h⟩ := bnd h
      refine big_Add_zzy H hS (Ent.bg mp3) ht21 ?_; clear hS ht21; intro a29 m29 c29 w hS
      refine ⟨_, rfl, ?_⟩
      refine ⟨(hS.cel mp1 rfl), ?_⟩
      refine drM_s hS ?_; clear hS; intro w hS
      obtain ⟨⟨t22, t23, t24, t25⟩, ho22, h⟩ := bnd h
      refine wk_dyad_made H hS (Ent.bg mp0) ho22 ?_; clear hS ho22; rintro a30 m30 c30 w hS
      refine ⟨_, _, _, _, _, _, rfl, ?_⟩
      refine drM_s hS ?_; clear hS; intro w hS
      replace hS := ro4 hS
      refine stc_s hS rfl rfl ?_; clear hS; intro w hS
      refine stc_s hS rfl rfl ?_; clear hS; intro w hS
      refine stc_s hS rfl rfl ?_; clear hS; intro w hS
      refine drM_s hS ?_; clear hS; intro w hS
      refine ⟨_, (hS.cel mp0 rfl), ?_⟩
      refine ⟨_, _, _, (hS.cel mp0 rfl), ?_⟩
      refine ⟨_, (hS.cel mp0 rfl), ?_⟩
      have h := some_inj h
      cases h
      exact hK _ _ _ _ (hS.pick (A := [_, _, _, _, _, _, _, _]) [1] rfl)

theorem wk_dyad_Mul {N : Nums} {P : Program} (H : AllOk N P) {w0 w : World} {L : List It} {q0_0 : Bool} {q0_1 : Option Addr} {q0_1l q0_1c : Nat} {l0_1 : List Int} {q0_2 : Int} {q1_0 : Bool} {q1_1 : Option Addr} {q1_1l q1_1c : Nat} {l1_1 : List Int} {q1_2 : Int} {u0 : Bool} {u1 : List Int} {u2 : Int} {u3 : Int} (hS : Ho w0 w (L)) (hq0_1 : Ent L (rdA (List.map (Value.int .u64) l0_1) q0_1 q0_1l q0_1c)) (hq1_1 : Ent L (rdA (List.map (Value.int .u64) l1_1) q1_1 q1_1l q1_1c)) (hx : T_dyad_Mul q0_0 l0_1 q0_2 q1_0 l1_1 q1_2 = some (u0, u1, u2, u3)) {K : Value → World → Prop} (hK : ∀ (a1 : Option Addr) (n1 c1 : Nat) (w1 : World), Ho w0 w1 ((sl a1 n1 c1 (List.map (Value.int .u64) u1) N.t_uint64) :: L) → K (.tuple #[.agg #[.bool u0, .slice a1 n1 c1, .int .i64 u2], .int .i64 u3]) w1) : CallsX P N.f_dyad_Mul #[.agg #[.bool q0_0, .slice q0_1 q0_1l q0_1c, .int .i64 q0_2], .agg #[.bool q1_0, .slice q1_1 q1_1l q1_1c, .int .i64 q1_2]] w K := by
 refine H.dyad_Mul q0_0 q0_1 q0_1l q0_1c q0_2 q1_0 q1_1 q1_1l q1_1c q1_2 w _ ?_
 unfold S_dyad_Mul
 unfold T_dyad_Mul at hx
 have h := hx
 clear hx
 try dsimp only
 refine newM_s hS ?_; clear hS; intro r1 w hS
 refine newM_s hS ?_; clear hS; intro r2 w hS
 refine newM_s hS ?_; clear hS; intro r3 w hS
 refine ⟨_, (hS.cel mp2 rfl), ?_⟩
 refine ⟨_, _, _, (hS.cel mp2 rfl), ?_⟩
 refine ⟨_, (hS.cel mp2 rfl), ?_⟩
 refine ⟨_, (hS.cel mp1 rfl), ?_⟩
 refine ⟨_, _, _, (hS.cel mp1 rfl), ?_⟩
 refine ⟨_, (hS.cel mp1 rfl), ?_⟩
 obtain ⟨t1, ht1, h⟩ := bnd h
 refine wk_dyad_both H hS (hq0_1.mono tl3) (hq1_1.mono tl3) ht1 ?_; clear hS ht1; rintro w hS
 refine ⟨_, rfl, ?_⟩
 refine cond_s h ?_ ?_ <;> clear h <;> intro hc h
 ·
  refine stc_s hS rfl rfl ?_; clear hS; intro w hS
  refine stc_s hS rfl rfl ?_; clear hS; intro w hS
  refine stc_s hS rfl rfl ?_; clear hS; intro w hS
  refine ⟨_, (hS.cel mp0 rfl), ?_⟩
  refine ⟨_, _, _, (hS.cel mp0 rfl), ?_⟩
  refine ⟨_, (hS.cel mp0 rfl), ?_⟩
  replace hS := hS.none (α := Int) (enc := (Value.int .u64)) (t := N.t_uint64)
  have h := some_inj h
  cases h
  exact hK _ _ _ _ (hS.pick (A := [_, _, _, _]) [0] rfl)
 ·
  refine ⟨_, (hS.cel mp2 rfl), ?_⟩
  refine ⟨_, _, _, (hS.cel mp2 rfl), ?_⟩
  refine ⟨_, (hS.cel mp2 rfl), ?_⟩
  obtain ⟨t2, ht2, h⟩ := bnd h
  refine wk_dyad_whole H hS (hq0_1.mono tl3) ht2 ?_; clear hS ht2; rintro r4 a4 m4 c4 w hS
  refine ⟨_, rfl, ?_⟩
  refine ⟨_, (hS.cel mp2 rfl), ?_⟩
  refine ⟨_, _, _, (hS.cel mp2 rfl), ?_⟩
  refine ⟨_, (hS.cel mp2 rfl), ?_⟩
  refine ⟨_, (hS.cel mp3 rfl), ?_⟩
  refine ⟨_, (hS.cel mp2 rfl), ?_⟩
  refine drM_s hS ?_; clear hS; intro w hS
  obtain ⟨t3, ht3, h⟩ := bnd h
  refine wk_dyad_whole H hS (hq1_1.mono tl4) ht3 ?_; clear hS ht3; rintro r5 a5 m5 c5 w hS
  refine ⟨_, rfl, ?_⟩
  refine ⟨(hS.cel mp3 rfl), ?_⟩
  refine ⟨(hS.cel mp4 rfl), ?_⟩
  refine drM_s hS ?_; clear hS; intro w hS
  obtain ⟨t4, ht4, h⟩ := bnd h
  replace hS := ro1 hS
  refine big_Mul_zzy H hS (Ent.bg mp0) ht4 ?_; clear hS ht4; intro a6 m6 c6 w hS
  refine ⟨_, rfl, ?_⟩
  refine ⟨(hS.cel mp3 rfl), ?_⟩
  refine ⟨(hS.cel mp4 rfl), ?_⟩
  refine drM_s hS ?_; clear hS; intro w hS
  obtain ⟨⟨t5, t6, t7, t8⟩, ho5, h⟩ := bnd h
  refine wk_dyad_made H hS (Ent.bg mp0) ho5 ?_; clear hS ho5; rintro a7 m7 c7 w hS
  refine ⟨_, _, _, _, _, _, rfl, ?_⟩
  refine drM_s hS ?_; clear hS; intro w hS
  replace hS := ro3 hS
  refine stc_s hS rfl rfl ?_; clear hS; intro w hS
  refine stc_s hS rfl rfl ?_; clear hS; intro w hS
  refine stc_s hS rfl rfl ?_; clear hS; intro w hS
  refine drM_s hS ?_; clear hS; intro w hS
  refine ⟨_, (hS.cel mp0 rfl), ?_⟩
  refine ⟨_, _, _, (hS.cel mp0 rfl), ?_⟩
  refine ⟨_, (hS.cel mp0 rfl), ?_⟩
  have h := some_inj h
  cases h
  exact hK _ _ _ _ (hS.pick (A := [_, _, _, _, _, _]) [1] rfl)

theorem wk_math_bits_Len64 {N : Nums} {P : Program} (H : AllOk N P) {w0 w : World} {L : List It} {q0 : Int} {u0 : Int} (hS : Ho w0 w (L))  (hx : T_math_bits_Len64 q0 = some u0) {K : Value → World → Prop} (hK : ∀  (w1 : World), Ho w0 w1 (L) → K (.int .i64 u0) w1) : CallsX P N.f_math_bits_Len64 #[.int .u64 q0] w K := by
 unfold T_math_bits_Len64 at hx
 by_cases hd : 0 ≤ q0 ∧ q0 ≤ 18446744073709551615
 ·
  rw [decide_eq_true hd] at hx
  have hx := some_inj hx
  subst hx
  exact len64_c H hS hd.1 hd.2 hK
 ·
  rw [decide_eq_false hd] at hx; cases hx

theorem wk_dyad_top {N : Nums} {P : Program} (H : AllOk N P) {w0 w : World} {L : List It} {q0_0 : Bool} {q0_1 : Option Addr} {q0_1l q0_1c : Nat} {l0_1 : List Int} {q0_2 : Int} {u0 : Int} (hS : Ho w0 w (L)) (hq0_1 : Ent L (rdA (List.map (Value.int .u64) l0_1) q0_1 q0_1l q0_1c)) (hx : T_dyad_top q0_0 l0_1 q0_2 = some u0) {K : Value → World → Prop} (hK : ∀  (w1 : World), Ho w0 w1 (L) → K (.int .i64 u0) w1) : CallsX P N.f_dyad_top #[.agg #[.bool q0_0, .slice q0_1 q0_1l q0_1c, .int .i64 q0_2]] w K := by
 refine H.dyad_top q0_0 q0_1 q0_1l q0_1c q0_2 w _ ?_
 unfold S_dyad_top
 unfold T_dyad_top at hx
 have h := hx
 clear hx
 try dsimp only
 refine newM_s hS ?_; clear hS; intro r1 w hS
 refine ⟨_, _, _, (hS.cel mp0 rfl), ?_⟩
 obtain ⟨t1, ht1, h⟩ := bnd h
 obtain rfl := lenE ht1 ((hq0_1.mono tl1).now (fun _ h => h) hS)
 clear ht1
 refine ⟨_, (hS.cel mp0 rfl), ?_⟩
 refine ⟨_, _, _, (hS.cel mp0 rfl), ?_⟩
 obtain ⟨t2, ht2, h⟩ := bnd h
 obtain ⟨q2x, q2l, q2r⟩ := atE ht2
 clear ht2
 refine idx_s ((hq0_1.mono tl1).now (fun _ h => h) hS) q2x q2l q2r ?_; intro b3 hb3
 refine ⟨_, rd_get ((hq0_1.mono tl1).now (fun _ h => h) hS) hb3 q2x, ?_⟩
 refine drM_s hS ?_; clear hS; intro w hS
 obtain ⟨t3, ht3, h⟩ := bnd h
 refine wk_math_bits_Len64 H hS  ht3 ?_; clear hS ht3; rintro w hS
 refine ⟨_, rfl, ?_⟩
 refine ⟨(hS.cel mp0 rfl), ?_⟩
 refine drM_s hS ?_; clear hS; intro w hS
 have h := some_inj h
 cases h
 exact hK _ (hS.pick (A := [_]) [] rfl)

theorem wk_dyad_away {N : Nums} {P : Program} (H : AllOk N P) {w0 w : World} {L : List It} {q0 : Int} {q1 : Bool} {q2 : Int} {q3 : Bool} {u0 : Bool} (hS : Ho w0 w (L))  (hx : T_dyad_away q0 q1 q2 q3 = some u0) {K : Value → World → Prop} (hK : ∀  (w1 : World), Ho w0 w1 (L) → K (.bool u0) w1) : CallsX P N.f_dyad_away #[.int .i8 q0, .bool q1, .int .i64 q2, .bool q3] w K := by
 refine H.dyad_away q0 q1 q2 q3 w _ ?_
 unfold S_dyad_away
 unfold T_dyad_away at hx
 have h := hx
 clear hx
 try dsimp only
 refine cond_s h ?_ ?_ <;> clear h <;> intro hc h
 ·
  have h := some_inj h
  cases h
  exact hK _ hS
 ·
  refine cond_s h ?_ ?_ <;> clear h <;> intro hc h
  ·
   have h := some_inj h
   cases h
   exact hK _ hS
  ·
   refine cond_s h ?_ ?_ <;> clear h <;> intro hc h
   ·
    have h := some_inj h
    cases h
    exact hK _ hS
   ·
    refine cond_s h ?_ ?_ <;> clear h <;> intro hc h
    ·
     refine cond_s h ?_ ?_ <;> clear h <;> intro hc h
     ·
      have h := some_inj h
      cases h
      exact hK _ hS
     ·
      have h := some_inj h
      cases h
      exact hK _ hS
    ·
     have h := some_inj h
     cases h
     exact hK _ hS

theorem wk_bits_Join {N : Nums} {P : Program} (H : AllOk N P) {w0 w : World} {L : List It} {q0_0 : Bool} {q0_1 : Int} {q0_2 : Int} {u0 : Nat} {u1 : Bool} (hS : Ho w0 w (L))  (hx : T_bits_Join q0_0 q0_1 q0_2 = some (u0, u1)) {K : Value → World → Prop} (hK : ∀ (z0 : Nat) (w1 : World), nf z0 = u0 → Ho w0 w1 (L) → K (.tuple #[.float .f64 z0, .bool u1]) w1) : CallsX P N.f_bits_Join #[.agg #[.bool q0_0, .int .u64 q0_1, .int .i64 q0_2]] w K := by
 refine H.bits_Join q0_0 q0_1 q0_2 w _ ?_
 unfold S_bits_Join
 unfold T_bits_Join at hx
 have h := hx
 clear hx
 try dsimp only
 refine newM_s hS ?_; clear hS; intro r1 w hS
 refine ⟨_, (hS.cel mp0 rfl), ?_⟩
 obtain ⟨t1, ht1, h⟩ := bnd h
 refine wk_math_bits_Len64 H hS  ht1 ?_; clear hS ht1; rintro w hS
 refine ⟨_, rfl, ?_⟩
 obtain ⟨o2, h2, c2⟩ := bnd h
 refine cutM_i (fun s w => ∃ (t2 : Bool), t2 = o2 ∧ s = (t2, ()) ∧ Ho w0 w ((cl r1 [.bool q0_0, .int .u64 q0_1, .int .i64 q0_2] N.t_Parts) :: L)) (fun J2 hJ2 => ?_) ?_
 ·
  have h := h2
  clear h2
  refine ⟨_, (hS.cel mp0 rfl), ?_⟩
  refine cond_s h ?_ ?_ <;> clear h <;> intro hc h
  ·
   refine ⟨_, (hS.cel mp0 rfl), ?_⟩
   refine cond_s h ?_ ?_ <;> clear h <;> intro hc h
   ·
    refine ⟨_, (hS.cel mp0 rfl), ?_⟩
    refine cond_s h ?_ ?_ <;> clear h <;> intro hc h
    ·
     refine ⟨_, (hS.cel mp0 rfl), ?_⟩
     refine ⟨by decide, ?_⟩
     obtain rfl := some_inj h
     exact hJ2 _ _ ⟨_, rfl, rfl, hS⟩
    ·
     obtain rfl := some_inj h
     exact hJ2 _ _ ⟨_, rfl, rfl, hS⟩
   ·
    obtain rfl := some_inj h
    exact hJ2 _ _ ⟨_, rfl, rfl, hS⟩
  ·
   refine ⟨_, (hS.cel mp0 rfl), ?_⟩
   refine cond_s h ?_ ?_ <;> clear h <;> intro hc h
   ·
    refine ⟨_, (hS.cel mp0 rfl), ?_⟩
    refine ⟨by decide, ?_⟩
    obtain rfl := some_inj h
    exact hJ2 _ _ ⟨_, rfl, rfl, hS⟩
   ·
    obtain rfl := some_inj h
    exact hJ2 _ _ ⟨_, rfl, rfl, hS⟩
 ·
  clear h2 hS
  rintro s w ⟨t2, rfl, rfl, hS⟩
  have h := c2
  clear c2
  try dsimp only
  refine cond_s h ?_ ?_ <;> clear h <;> intro hc h
  ·
   have h := some_inj h
   cases h
   exact hK _ _ rfl (hS.pick (A := [_]) [] rfl)
  ·
   obtain ⟨o3, h3, c3⟩ := bnd h
   refine cutM_i (fun s w => ∃ (t3 : Bool), t3 = o3 ∧ s = (t3, ()) ∧ Ho w0 w ((cl r1 [.bool q0_0, .int .u64 q0_1, .int .i64 q0_2] N.t_Parts) :: L)) (fun J3 hJ3 => ?_) ?_
   ·
    have h := h3
    clear h3
    refine cond_s h ?_ ?_ <;> clear h <;> intro hc h
    ·
     refine ⟨_, (hS.cel mp0 rfl), ?_⟩
     refine cond_s h ?_ ?_ <;> clear h <;> intro hc h
     ·
      refine ⟨_, (hS.cel mp0 rfl), ?_⟩
      refine cond_s h ?_ ?_ <;> clear h <;> intro hc h
      ·
       refine ⟨_, (hS.cel mp0 rfl), ?_⟩
       refine cond_s h ?_ ?_ <;> clear h <;> intro hc h
       ·
        refine ⟨_, (hS.cel mp0 rfl), ?_⟩
        obtain rfl := some_inj h
        exact hJ3 _ _ ⟨_, rfl, rfl, hS⟩
       ·
        obtain rfl := some_inj h
        exact hJ3 _ _ ⟨_, rfl, rfl, hS⟩
      ·
       obtain rfl := some_inj h
       exact hJ3 _ _ ⟨_, rfl, rfl, hS⟩
     ·
      obtain rfl := some_inj h
      exact hJ3 _ _ ⟨_, rfl, rfl, hS⟩
    ·
     obtain rfl := some_inj h
     exact hJ3 _ _ ⟨_, rfl, rfl, hS⟩
   ·
    clear h3 hS
    rintro s w ⟨t3, rfl, rfl, hS⟩
    have h := c3
    clear c3
    try dsimp only
    refine cond_s h ?_ ?_ <;> clear h <;> intro hc h
    ·
     have h := some_inj h
     cases h
     exact hK _ _ rfl (hS.pick (A := [_]) [] rfl)
    ·
     refine ⟨_, (hS.cel mp0 rfl), ?_⟩
     refine ⟨_, (hS.cel mp0 rfl), ?_⟩
     obtain ⟨t4, ht4, h⟩ := bnd h
     refine wk_math_Ldexp H hS  ht4 ?_; clear hS ht4; rintro z4 w rfl hS
     refine ⟨_, rfl, ?_⟩
     refine ⟨_, (hS.cel mp0 rfl), ?_⟩
     obtain ⟨o6, h6, c6⟩ := bnd h
     refine cutM_i (fun s w => ∃ (z5 : Nat), (nf z5) = o6 ∧ s = (z5, ()) ∧ Ho w0 w (L)) (fun J6 hJ6 => ?_) ?_
     ·
      have h := h6
      clear h6
      refine cond_s h ?_ ?_ <;> clear h <;> intro hc h
      ·
       obtain ⟨t6, ht6, h⟩ := bnd h
       refine wk_math_Copysign H hS  ht6 ?_; clear hS ht6; rintro z7 w rfl hS
       refine ⟨_, rfl, ?_⟩
       obtain rfl := some_inj h
       exact hJ6 _ _ ⟨_, rfl, rfl, (hS.pick (A := [_]) [] rfl)⟩
      ·
       obtain rfl := some_inj h
       exact hJ6 _ _ ⟨_, rfl, rfl, (hS.pick (A := [_]) [] rfl)⟩
     ·
      clear h6 hS
      rintro s w ⟨z5, rfl, rfl, hS⟩
      have h := c6
      clear c6
      try dsimp only
      have h := some_inj h
      cases h
      exact hK _ _ rfl hS

theorem wk_bits_Place {N : Nums} {P : Program} (H : AllOk N P) {w0 w : World} {L : List It} {q0 : Nat} {u0 : Int} {u1 : Bool} (hS : Ho w0 w (L))  (hx : T_bits_Place (nf q0) = some (u0, u1)) {K : Value → World → Prop} (hK : ∀  (w1 : World), Ho w0 w1 (L) → K (.tuple #[.int .i64 u0, .bool u1]) w1) : CallsX P N.f_bits_Place #[.float .f64 q0] w K := by
 refine H.bits_Place q0 w _ ?_
 unfold S_bits_Place
 unfold T_bits_Place at hx
 have h := hx
 clear hx
 try dsimp only
 obtain ⟨t1, ht1, h⟩ := bnd h
 obtain rfl := fne_s ht1
 clear ht1
 refine cond_s h ?_ ?_ <;> clear h <;> intro hc h
 ·
  have h := some_inj h
  cases h
  exact hK _ hS
 ·
  obtain ⟨t2, ht2, h⟩ := bnd h
  refine wk_math_Abs H hS  ht2 ?_; clear hS ht2; rintro z1 w rfl hS
  refine ⟨_, rfl, ?_⟩
  obtain ⟨t3, ht3, h⟩ := bnd h
  refine wk_math_Float64bits H hS  ht3 ?_; clear hS ht3; rintro w hS
  refine ⟨_, rfl, ?_⟩
  obtain ⟨t4, ht4, h⟩ := bnd h
  obtain rfl := flt_s ht4
  clear ht4
  obtain ⟨o2, h2, c2⟩ := bnd h
  refine cutM_i (fun s w => ∃ (t5 : Int), t5 = o2 ∧ s = (t5, ()) ∧ Ho w0 w (L)) (fun J2 hJ2 => ?_) ?_
  ·
   have h := h2
   clear h2
   refine cond_s h ?_ ?_ <;> clear h <;> intro hc h
   ·
    obtain rfl := some_inj h
    exact hJ2 _ _ ⟨_, rfl, rfl, hS⟩
   ·
    obtain rfl := some_inj h
    exact hJ2 _ _ ⟨_, rfl, rfl, hS⟩
  ·
   clear h2 hS
   rintro s w ⟨t5, rfl, rfl, hS⟩
   have h := c2
   clear c2
   try dsimp only
   have h := some_inj h
   cases h
   exact hK _ hS

theorem wk_bits_At {N : Nums} {P : Program} (H : AllOk N P) {w0 w : World} {L : List It} {q0 : Int} {u0 : Nat} {u1 : Bool} (hS : Ho w0 w (L))  (hx : T_bits_At q0 = some (u0, u1)) {K : Value → World → Prop} (hK : ∀ (z0 : Nat) (w1 : World), nf z0 = u0 → Ho w0 w1 (L) → K (.tuple #[.float .f64 z0, .bool u1]) w1) : CallsX P N.f_bits_At #[.int .i64 q0] w K := by
 refine H.bits_At q0 w _ ?_
 unfold S_bits_At
 unfold T_bits_At at hx
 have h := hx
 clear hx
 try dsimp only
 refine cond_s h ?_ ?_ <;> clear h <;> intro hc h
 ·
  refine cond_s h ?_ ?_ <;> clear h <;> intro hc h
  ·
   have h := some_inj h
   cases h
   exact hK _ _ rfl hS
  ·
   refine cond_s h ?_ ?_ <;> clear h <;> intro hc h
   ·
    obtain ⟨t1, ht1, h⟩ := bnd h
    refine wk_math_Float64frombits H hS  ht1 ?_; clear hS ht1; rintro z1 w rfl hS
    refine ⟨_, rfl, ?_⟩
    obtain ⟨t2, ht2, h⟩ := bnd h
    obtain rfl := fneg_s ht2
    clear ht2
    have h := some_inj h
    cases h
    exact hK _ _ rfl hS
   ·
    obtain ⟨t3, ht3, h⟩ := bnd h
    refine wk_math_Float64frombits H hS  ht3 ?_; clear hS ht3; rintro z2 w rfl hS
    refine ⟨_, rfl, ?_⟩
    have h := some_inj h
    cases h
    exact hK _ _ rfl hS
 ·
  have h := some_inj h
  cases h
  exact hK _ _ rfl hS

theorem wk_bits_Next {N : Nums} {P : Program} (H : AllOk N P) {w0 w : World} {L : List It} {q0 : Nat} {q1 : Bool} {u0 : Nat} (hS : Ho w0 w (L))  (hx : T_bits_Next (nf q0) q1 = some u0) {K : Value → World → Prop} (hK : ∀ (z0 : Nat) (w1 : World), nf z0 = u0 → Ho w0 w1 (L) → K (.float .f64 z0) w1) : CallsX P N.f_bits_Next #[.float .f64 q0, .bool q1] w K := by
 refine H.bits_Next q0 q1 w _ ?_
 unfold S_bits_Next
 unfold T_bits_Next at hx
 have h := hx
 clear hx
 try dsimp only
 obtain ⟨⟨t1, t2⟩, ho1, h⟩ := bnd h
 refine wk_bits_Place H hS  ho1 ?_; clear hS ho1; rintro w hS
 refine ⟨_, _, rfl, ?_⟩
 refine cond_s h ?_ ?_ <;> clear h <;> intro hc h
 ·
  have h := some_inj h
  cases h
  exact hK _ _ rfl hS
 ·
  obtain ⟨o1, h1, c1⟩ := bnd h
  refine cutM_i (fun s w => ∃ (t3 : Int), t3 = o1 ∧ s = (t3, ()) ∧ Ho w0 w (L)) (fun J1 hJ1 => ?_) ?_
  ·
   have h := h1
   clear h1
   refine cond_s h ?_ ?_ <;> clear h <;> intro hc h
   ·
    obtain rfl := some_inj h
    exact hJ1 _ _ ⟨_, rfl, rfl, hS⟩
   ·
    obtain rfl := some_inj h
    exact hJ1 _ _ ⟨_, rfl, rfl, hS⟩
  ·
   clear h1 hS
   rintro s w ⟨t3, rfl, rfl, hS⟩
   have h := c1
   clear c1
   try dsimp only
   obtain ⟨⟨t4, t5⟩, ho4, h⟩ := bnd h
   refine wk_bits_At H hS  ho4 ?_; clear hS ho4; rintro z2 w rfl hS
   refine ⟨_, _, rfl, ?_⟩
   have h := some_inj h
   cases h
   exact hK _ _ rfl hS

theorem wk_dyad_float {N : Nums} {P : Program} (H : AllOk N P) {w0 w : World} {L : List It} {q0 : Bool} {q1 : Int} {q2 : Int} {q3 : Int} {u0 : Nat} (hS : Ho w0 w (L)) (hG : Ent L (tab64 N.g_1)) (hx : T_dyad_float q0 q1 q2 q3 = some u0) {K : Value → World → Prop} (hK : ∀ (z0 : Nat) (w1 : World), nf z0 = u0 → Ho w0 w1 (L) → K (.float .f64 z0) w1) : CallsX P N.f_dyad_float #[.bool q0, .int .u64 q1, .int .i64 q2, .int .i8 q3] w K := by
 refine H.dyad_float q0 q1 q2 q3 w _ ?_
 unfold S_dyad_float
 unfold T_dyad_float at hx
 have h := hx
 clear hx
 try dsimp only
 refine newM_s hS ?_; clear hS; intro r1 w hS
 refine stc_s hS rfl rfl ?_; clear hS; intro w hS
 refine stc_s hS rfl rfl ?_; clear hS; intro w hS
 refine stc_s hS rfl rfl ?_; clear hS; intro w hS
 obtain ⟨o2, h2, c2⟩ := bnd h
 refine cutM_i (fun s w => ∃ (t1 : Int) (t2 : Int), (t1, t2) = o2 ∧ s = (()) ∧ Ho w0 w ((cl r1 [.bool q0, .int .u64 t1, .int .i64 t2] N.t_Parts) :: L)) (fun J2 hJ2 => ?_) ?_
 ·
  have h := h2
  clear h2
  refine cond_s h ?_ ?_ <;> clear h <;> intro hc h
  ·
   obtain ⟨t3, ht3, h⟩ := bnd h
   refine wk_math_bits_TrailingZeros64 H hS (hG.mono tl1) ht3 ?_; clear hS ht3; rintro w hS
   refine ⟨_, rfl, ?_⟩
   obtain ⟨t4, ht4, h⟩ := bnd h
   refine ⟨nn_s ht4, ?_⟩
   clear ht4
   refine stc_s hS rfl rfl ?_; clear hS; intro w hS
   refine stc_s hS rfl rfl ?_; clear hS; intro w hS
   obtain rfl := some_inj h
   exact hJ2 _ _ ⟨_, _, rfl, rfl, hS⟩
  ·
   obtain rfl := some_inj h
   exact hJ2 _ _ ⟨_, _, rfl, rfl, hS⟩
 ·
  clear h2 hS
  rintro s w ⟨t1, t2, rfl, rfl, hS⟩
  have h := c2
  clear c2
  try dsimp only
  refine ⟨_, (hS.cel mp0 rfl), ?_⟩
  refine ⟨_, (hS.cel mp0 rfl), ?_⟩
  refine drM_s hS ?_; clear hS; intro w hS
  obtain ⟨t5, ht5, h⟩ := bnd h
  refine wk_math_bits_Len64 H hS  ht5 ?_; clear hS ht5; rintro w hS
  refine ⟨_, rfl, ?_⟩
  refine ⟨(hS.cel mp0 rfl), ?_⟩
  refine drM_s hS ?_; clear hS; intro w hS
  refine cond_s h ?_ ?_ <;> clear h <;> intro hc h
  ·
   refine stc_s hS rfl rfl ?_; clear hS; intro w hS
   refine stc_s hS rfl rfl ?_; clear hS; intro w hS
   refine ⟨_, (hS.cel mp0 rfl), ?_⟩
   refine ⟨_, (hS.cel mp0 rfl), ?_⟩
   refine ⟨_, (hS.cel mp0 rfl), ?_⟩
   obtain ⟨⟨t6, t7⟩, ho6, h⟩ := bnd h
   refine wk_bits_Join H hS  ho6 ?_; clear hS ho6; rintro z3 w rfl hS
   refine ⟨_, _, rfl, ?_⟩
   refine cond_s h ?_ ?_ <;> clear h <;> intro hc h
   ·
    refine cond_s h ?_ ?_ <;> clear h <;> intro hc h
    ·
     refine cond_s h ?_ ?_ <;> clear h <;> intro hc h
     ·
      refine cond_s h ?_ ?_ <;> clear h <;> intro hc h
      ·
       refine cond_s h ?_ ?_ <;> clear h <;> intro hc h
       ·
        have h := some_inj h
        cases h
        exact hK _ _ rfl (hS.pick (A := [_]) [] rfl)
       ·
        obtain ⟨t8, ht8, h⟩ := bnd h
        refine wk_bits_Next H hS  ht8 ?_; clear hS ht8; rintro z4 w rfl hS
        refine ⟨_, rfl, ?_⟩
        have h := some_inj h
        cases h
        exact hK _ _ rfl (hS.pick (A := [_]) [] rfl)
      ·
       obtain ⟨t9, ht9, h⟩ := bnd h
       refine wk_bits_Next H hS  ht9 ?_; clear hS ht9; rintro z5 w rfl hS
       refine ⟨_, rfl, ?_⟩
       have h := some_inj h
       cases h
       exact hK _ _ rfl (hS.pick (A := [_]) [] rfl)
     ·
      have h := some_inj h
      cases h
      exact hK _ _ rfl (hS.pick (A := [_]) [] rfl)
    ·
     refine cond_s h ?_ ?_ <;> clear h <;> intro hc h
     ·
      refine cond_s h ?_ ?_ <;> clear h <;> intro hc h
      ·
       have h := some_inj h
       cases h
       exact hK _ _ rfl (hS.pick (A := [_]) [] rfl)
      ·
       obtain ⟨t10, ht10, h⟩ := bnd h
       refine wk_bits_Next H hS  ht10 ?_; clear hS ht10; rintro z6 w rfl hS
       refine ⟨_, rfl, ?_⟩
       have h := some_inj h
       cases h
       exact hK _ _ rfl (hS.pick (A := [_]) [] rfl)
     ·
      obtain ⟨t11, ht11, h⟩ := bnd h
      refine wk_bits_Next H hS  ht11 ?_; clear hS ht11; rintro z7 w rfl hS
      refine ⟨_, rfl, ?_⟩
      have h := some_inj h
      cases h
      exact hK _ _ rfl (hS.pick (A := [_]) [] rfl)
   ·
    have h := some_inj h
    cases h
    exact hK _ _ rfl (hS.pick (A := [_]) [] rfl)
  ·
   refine ⟨_, (hS.cel mp0 rfl), ?_⟩
   refine ⟨_, (hS.cel mp0 rfl), ?_⟩
   refine ⟨_, (hS.cel mp0 rfl), ?_⟩
   obtain ⟨⟨t12, t13⟩, ho12, h⟩ := bnd h
   refine wk_bits_Join H hS  ho12 ?_; clear hS ho12; rintro z8 w rfl hS
   refine ⟨_, _, rfl, ?_⟩
   have h := some_inj h
   cases h
   exact hK _ _ rfl (hS.pick (A := [_]) [] rfl)

theorem wk_dyad_Round {N : Nums} {P : Program} (H : AllOk N P) {w0 w : World} {L : List It} {q0_0 : Bool} {q0_1 : Option Addr} {q0_1l q0_1c : Nat} {l0_1 : List Int} {q0_2 : Int} {q1 : Int} {u0 : Nat} {u1 : Int} (hS : Ho w0 w (L)) (hq0_1 : Ent L (rdA (List.map (Value.int .u64) l0_1) q0_1 q0_1l q0_1c)) (hG : Ent L (tab64 N.g_1)) (hx : T_dyad_Round q0_0 l0_1 q0_2 q1 = some (u0, u1)) {K : Value → World → Prop} (hK : ∀ (z0 : Nat) (w1 : World), nf z0 = u0 → Ho w0 w1 (L) → K (.tuple #[.float .f64 z0, .int .i64 u1]) w1) : CallsX P N.f_dyad_Round #[.agg #[.bool q0_0, .slice q0_1 q0_1l q0_1c, .int .i64 q0_2], .int .i8 q1] w K := by
 refine H.dyad_Round q0_0 q0_1 q0_1l q0_1c q0_2 q1 w _ ?_
 unfold S_dyad_Round
 unfold T_dyad_Round at hx
 have h := hx
 clear hx
 try dsimp only
 refine newM_s hS ?_; clear hS; intro r1 w hS
 refine ⟨_, (hS.cel mp0 rfl), ?_⟩
 refine ⟨_, _, _, (hS.cel mp0 rfl), ?_⟩
 refine ⟨_, (hS.cel mp0 rfl), ?_⟩
 obtain ⟨t1, ht1, h⟩ := bnd h
 refine wk_dyad_Right H hS (hq0_1.mono tl1) ht1 ?_; clear hS ht1; rintro w hS
 refine ⟨_, rfl, ?_⟩
 refine cond_s h ?_ ?_ <;> clear h <;> intro hc h
 ·
  have h := some_inj h
  cases h
  exact hK _ _ rfl (hS.pick (A := [_]) [] rfl)
 ·
  refine ⟨_, _, _, (hS.cel mp0 rfl), ?_⟩
  obtain ⟨t2, ht2, h⟩ := bnd h
  obtain rfl := lenE ht2 ((hq0_1.mono tl1).now (fun _ h => h) hS)
  clear ht2
  refine cond_s h ?_ ?_ <;> clear h <;> intro hc h
  ·
   have h := some_inj h
   cases h
   exact hK _ _ rfl (hS.pick (A := [_]) [] rfl)
  ·
   refine ⟨_, (hS.cel mp0 rfl), ?_⟩
   refine ⟨_, _, _, (hS.cel mp0 rfl), ?_⟩
   refine ⟨_, (hS.cel mp0 rfl), ?_⟩
   obtain ⟨t3, ht3, h⟩ := bnd h
   refine wk_dyad_whole H hS (hq0_1.mono tl1) ht3 ?_; clear hS ht3; rintro r2 a2 m2 c2 w hS
   refine ⟨_, rfl, ?_⟩
   obtain ⟨t4, ht4, h⟩ := bnd h
   refine big_Abs_zz H hS  ht4 ?_; clear hS ht4; intro a3 m3 c3 w hS
   refine ⟨_, rfl, ?_⟩
   refine ⟨_, (hS.cel mp1 rfl), ?_⟩
   refine ⟨_, _, _, (hS.cel mp1 rfl), ?_⟩
   refine ⟨_, (hS.cel mp1 rfl), ?_⟩
   obtain ⟨t5, ht5, h⟩ := bnd h
   refine wk_dyad_top H hS (hq0_1.mono tl2) ht5 ?_; clear hS ht5; rintro w hS
   refine ⟨_, rfl, ?_⟩
   refine ⟨_, (hS.cel mp1 rfl), ?_⟩
   obtain ⟨o4, h4, c4⟩ := bnd h
   refine cutM_i (fun s w => ∃ (t6 : Int), t6 = o4 ∧ s = (t6, ()) ∧ Ho w0 w ((cl r1 [.bool q0_0, .slice q0_1 q0_1l q0_1c, .int .i64 q0_2] N.t_Dyad) :: L)) (fun J4 hJ4 => ?_) ?_
   ·
    have h := h4
    clear h4
    refine cond_s h ?_ ?_ <;> clear h <;> intro hc h
    ·
     refine newM_s hS ?_; clear hS; intro r5 w hS; replace hS := Ho.bgNew (E := N.t_uint32) hS
     obtain ⟨t7, ht7, h⟩ := bnd h
     refine big_Lsh_zx H hS (Ent.bg mp0) ht7 ?_; clear hS ht7; intro a6 m6 c6 w hS
     refine ⟨_, rfl, ?_⟩
     obtain ⟨t8, ht8, h⟩ := bnd h
     refine big_Uint64_x H hS (Ent.bg mp0) ht8 ?_; clear hS ht8; intro w hS
     refine ⟨_, rfl, ?_⟩
     obtain rfl := some_inj h
     exact hJ4 _ _ ⟨_, rfl, rfl, (hS.pick (A := [_, _, _]) [2] rfl)⟩
    ·
     refine newM_s hS ?_; clear hS; intro r7 w hS; replace hS := Ho.bgNew (E := N.t_uint32) hS
     obtain ⟨t9, ht9, h⟩ := bnd h
     refine big_Rsh_zx H hS (Ent.bg mp0) ht9 ?_; clear hS ht9; intro a8 m8 c8 w hS
     refine ⟨_, rfl, ?_⟩
     obtain ⟨t10, ht10, h⟩ := bnd h
     refine big_Uint64_x H hS (Ent.bg mp0) ht10 ?_; clear hS ht10; intro w hS
     refine ⟨_, rfl, ?_⟩
     obtain ⟨t11, ht11, h⟩ := bnd h
     refine big_Lsh_zz H hS  ht11 ?_; clear hS ht11; intro a9 m9 c9 w hS
     refine ⟨_, rfl, ?_⟩
     obtain ⟨t12, ht12, h⟩ := bnd h
     replace hS := ro1 hS
     refine big_Sub_zzy H hS (Ent.bg mp0) ht12 ?_; clear hS ht12; intro a10 m10 c10 w hS
     refine ⟨_, rfl, ?_⟩
     refine newM_s hS ?_; clear hS; intro r11 w hS; replace hS := Ho.bgNew (E := N.t_uint32) hS
     obtain ⟨t13, ht13, h⟩ := bnd h
     refine wk_bignum_NewInt H hS  ht13 ?_; clear hS ht13; rintro r12 a12 m12 c12 w hS
     refine ⟨_, rfl, ?_⟩
     obtain ⟨t14, ht14, h⟩ := bnd h
     replace hS := ro1 hS
     refine big_Lsh_zx H hS (Ent.bg mp0) ht14 ?_; clear hS ht14; intro a13 m13 c13 w hS
     refine ⟨_, rfl, ?_⟩
     obtain ⟨t15, ht15, h⟩ := bnd h
     refine big_Cmp_xy H hS (Ent.bg mp2) (Ent.bg mp0) ht15 ?_; clear hS ht15; intro w hS
     refine ⟨_, rfl, ?_⟩
     obtain ⟨t16, ht16, h⟩ := bnd h
     refine big_Sign_x H hS (Ent.bg mp2) ht16 ?_; clear hS ht16; intro w hS
     refine ⟨_, rfl, ?_⟩
     refine cond_s h ?_ ?_ <;> clear h <;> intro hc h
     ·
      refine ⟨_, (hS.cel mp4 rfl), ?_⟩
      obtain ⟨t17, ht17, h⟩ := bnd h
      refine wk_dyad_away H hS  ht17 ?_; clear hS ht17; rintro w hS
      refine ⟨_, rfl, ?_⟩
      obtain ⟨o14, h14, c14⟩ := bnd h
      refine cutM_i (fun s w => ∃ (t18 : Int), t18 = o14 ∧ s = (t18, ()) ∧ Ho w0 w ((cl r1 [.bool q0_0, .slice q0_1 q0_1l q0_1c, .int .i64 q0_2] N.t_Dyad) :: L)) (fun J14 hJ14 => ?_) ?_
      ·
       have h := h14
       clear h14
       refine cond_s h ?_ ?_ <;> clear h <;> intro hc h
       ·
        obtain rfl := some_inj h
        exact hJ14 _ _ ⟨_, rfl, rfl, (hS.pick (A := [_, _, _, _, _]) [4] rfl)⟩
       ·
        obtain rfl := some_inj h
        exact hJ14 _ _ ⟨_, rfl, rfl, (hS.pick (A := [_, _, _, _, _]) [4] rfl)⟩
      ·
       clear h14 hS
       rintro s w ⟨t18, rfl, rfl, hS⟩
       have h := c14
       clear c14
       try dsimp only
       obtain rfl := some_inj h
       exact hJ4 _ _ ⟨_, rfl, rfl, hS⟩
     ·
      obtain ⟨o15, h15, c15⟩ := bnd h
      refine cutM_i (fun s w => ∃ (t19 : Int), t19 = o15 ∧ s = (t19, ()) ∧ Ho w0 w ((cl r1 [.bool q0_0, .slice q0_1 q0_1l q0_1c, .int .i64 q0_2] N.t_Dyad) :: L)) (fun J15 hJ15 => ?_) ?_
      ·
       have h := h15
       clear h15
       obtain rfl := some_inj h
       exact hJ15 _ _ ⟨_, rfl, rfl, (hS.pick (A := [_, _, _, _, _]) [4] rfl)⟩
      ·
       clear h15 hS
       rintro s w ⟨t19, rfl, rfl, hS⟩
       have h := c15
       clear c15
       try dsimp only
       obtain rfl := some_inj h
       exact hJ4 _ _ ⟨_, rfl, rfl, hS⟩
   ·
    clear h4 hS
    rintro s w ⟨t6, rfl, rfl, hS⟩
    have h := c4
    clear c4
    try dsimp only
    refine ⟨_, (hS.cel mp0 rfl), ?_⟩
    obtain ⟨t20, ht20, h⟩ := bnd h
    refine wk_dyad_float H hS (hG.mono tl1) ht20 ?_; clear hS ht20; rintro z16 w rfl hS
    refine ⟨_, rfl, ?_⟩
    have h := some_inj h
    cases h
    exact hK _ _ rfl (hS.pick (A := [_]) [] rfl)

theorem wk_girderlaw02_awake {N : Nums} {P : Program} (H : AllOk N P) {w0 w : World} {L : List It}  {u0 : Bool} (hS : Ho w0 w (L)) (hG : Ent L (tab64 N.g_1)) (hx : T_girderlaw02_awake  = some u0) {K : Value → World → Prop} (hK : ∀  (w1 : World), Ho w0 w1 (L) → K (.bool u0) w1) : CallsX P N.f_girderlaw02_awake #[] w K := by
 refine H.girderlaw02_awake  w _ ?_
 unfold S_girderlaw02_awake
 unfold T_girderlaw02_awake at hx
 have h := hx
 clear hx
 try dsimp only
 obtain ⟨⟨t1, t2, t3, t4⟩, ho1, h⟩ := bnd h
 refine wk_dyad_Of H hS hG ho1 ?_; clear hS ho1; rintro a1 m1 c1 w hS
 refine ⟨_, _, _, _, _, _, rfl, ?_⟩
 refine newM_s hS ?_; clear hS; intro r2 w hS
 refine stc_s hS rfl rfl ?_; clear hS; intro w hS
 refine stc_s hS rfl rfl ?_; clear hS; intro w hS
 refine stc_s hS rfl rfl ?_; clear hS; intro w hS
 obtain ⟨o7, h7, c7⟩ := bnd h
 refine cutM_i (fun s w => ∃ (t5 : Int) (r3 : Nat) (t6 : Bool) (t7 : Int) (a4 : Option Addr) (m5 : Nat) (c6 : Nat) (t8 : List Int), (t5, t6, t7, t8) = o7 ∧ s = ((some ⟨r3, 0, none⟩), t5, ()) ∧ Ho w0 w ((cl r3 [.bool t6, .slice a4 m5 c6, .int .i64 t7] N.t_Dyad) :: (sl a4 m5 c6 (List.map (Value.int .u64) t8) N.t_uint64) :: L)) (fun J7 hJ7 => ?_) ?_
 ·
  have h := h7
  clear h7
  refine ⟨_, (hS.cel mp0 rfl), ?_⟩
  refine ⟨_, _, _, (hS.cel mp0 rfl), ?_⟩
  refine ⟨_, (hS.cel mp0 rfl), ?_⟩
  refine ⟨?_, ?_⟩
  ·
   refine drM_s hS ?_; clear hS; intro w hS
   obtain ⟨⟨t9, t10, t11⟩, ho9, h⟩ := bnd h
   refine wk_dyad_Int H hS  ho9 ?_; clear hS ho9; rintro a8 m8 c8 w hS
   refine ⟨_, _, _, _, _, rfl, ?_⟩
   refine ⟨(hS.cel mp1 rfl), ?_⟩
   refine ⟨(hS.cel mp1 rfl), ?_⟩
   refine ⟨(hS.cel mp1 rfl), ?_⟩
   refine ⟨?_, ?_⟩
   ·
    refine drM_s hS ?_; clear hS; intro w hS
    obtain ⟨⟨t12, t13, t14, t15⟩, ho12, h⟩ := bnd h
    refine wk_dyad_Add H hS (Ent.sl mp2) (Ent.sl mp0) ho12 ?_; clear hS ho12; rintro a9 m9 c9 w hS
    refine ⟨_, _, _, _, _, _, rfl, ?_⟩
    refine drM_s hS ?_; clear hS; intro w hS
    refine newM_s hS ?_; clear hS; intro r10 w hS
    refine drM_s hS ?_; clear hS; intro w hS
    refine stc_s hS rfl rfl ?_; clear hS; intro w hS
    refine stc_s hS rfl rfl ?_; clear hS; intro w hS
    refine stc_s hS rfl rfl ?_; clear hS; intro w hS
    refine drM_s hS ?_; clear hS; intro w hS
    obtain rfl := some_inj h
    exact hJ7 _ _ ⟨_, _, _, _, _, _, _, _, rfl, rfl, (hS.pick (A := [_, _, _, _, _]) [0, 0] rfl)⟩
   ·
    refine drM_s hS ?_; clear hS; intro w hS
    refine newM_s hS ?_; clear hS; intro r11 w hS
    refine ⟨(hS.cel mp2 rfl), ?_⟩
    refine ⟨(hS.cel mp2 rfl), ?_⟩
    refine ⟨(hS.cel mp2 rfl), ?_⟩
    refine drM_s hS ?_; clear hS; intro w hS
    obtain ⟨⟨t12, t13, t14, t15⟩, ho12, h⟩ := bnd h
    refine wk_dyad_Add H hS (Ent.sl mp3) (Ent.sl mp1) ho12 ?_; clear hS ho12; rintro a12 m12 c12 w hS
    refine ⟨_, _, _, _, _, _, rfl, ?_⟩
    refine drM_s hS ?_; clear hS; intro w hS
    replace hS := ro1 hS
    refine stc_s hS rfl rfl ?_; clear hS; intro w hS
    refine stc_s hS rfl rfl ?_; clear hS; intro w hS
    refine stc_s hS rfl rfl ?_; clear hS; intro w hS
    refine drM_s hS ?_; clear hS; intro w hS
    obtain rfl := some_inj h
    exact hJ7 _ _ ⟨_, _, _, _, _, _, _, _, rfl, rfl, (hS.pick (A := [_, _, _, _, _]) [0, 0] rfl)⟩
  ·
   refine drM_s hS ?_; clear hS; intro w hS
   refine newM_s hS ?_; clear hS; intro r13 w hS
   refine ⟨(hS.cel mp1 rfl), ?_⟩
   refine ⟨(hS.cel mp1 rfl), ?_⟩
   refine ⟨(hS.cel mp1 rfl), ?_⟩
   refine drM_s hS ?_; clear hS; intro w hS
   obtain ⟨⟨t9, t10, t11⟩, ho9, h⟩ := bnd h
   refine wk_dyad_Int H hS  ho9 ?_; clear hS ho9; rintro a14 m14 c14 w hS
   refine ⟨_, _, _, _, _, rfl, ?_⟩
   refine ⟨(hS.cel mp2 rfl), ?_⟩
   refine ⟨(hS.cel mp2 rfl), ?_⟩
   refine ⟨(hS.cel mp2 rfl), ?_⟩
   refine drM_s hS ?_; clear hS; intro w hS
   obtain ⟨⟨t12, t13, t14, t15⟩, ho12, h⟩ := bnd h
   refine wk_dyad_Add H hS (Ent.sl mp3) (Ent.sl mp0) ho12 ?_; clear hS ho12; rintro a15 m15 c15 w hS
   refine ⟨_, _, _, _, _, _, rfl, ?_⟩
   refine drM_s hS ?_; clear hS; intro w hS
   replace hS := ro2 hS
   refine stc_s hS rfl rfl ?_; clear hS; intro w hS
   refine stc_s hS rfl rfl ?_; clear hS; intro w hS
   refine stc_s hS rfl rfl ?_; clear hS; intro w hS
   refine drM_s hS ?_; clear hS; intro w hS
   obtain rfl := some_inj h
   exact hJ7 _ _ ⟨_, _, _, _, _, _, _, _, rfl, rfl, (hS.pick (A := [_, _, _, _, _]) [0, 0] rfl)⟩
 ·
  clear h7 hS
  rintro s w ⟨t5, r3, t6, t7, a4, m5, c6, t8, rfl, rfl, hS⟩
  have h := c7
  clear c7
  try dsimp only
  obtain ⟨o20, h20, c20⟩ := bnd h
  refine cutM_i (fun s w => ∃ (t16 : Int) (r16 : Nat) (t17 : Bool) (t18 : Int) (a17 : Option Addr) (m18 : Nat) (c19 : Nat) (t19 : List Int), (t16, t17, t18, t19) = o20 ∧ s = ((some ⟨r16, 0, none⟩), t16, ()) ∧ Ho w0 w ((cl r16 [.bool t17, .slice a17 m18 c19, .int .i64 t18] N.t_Dyad) :: (sl a17 m18 c19 (List.map (Value.int .u64) t19) N.t_uint64) :: L)) (fun J20 hJ20 => ?_) ?_
  ·
   have h := h20
   clear h20
   refine optM_s ?_
   refine ⟨_, (hS.cel mp0 rfl), ?_⟩
   refine ⟨_, _, _, (hS.cel mp0 rfl), ?_⟩
   refine ⟨_, (hS.cel mp0 rfl), ?_⟩
   refine ⟨?_, ?_⟩
   ·
    refine drM_s hS ?_; clear hS; intro w hS
    obtain ⟨⟨t20, t21, t22⟩, ho20, h⟩ := bnd h
    refine wk_dyad_Int H hS  ho20 ?_; clear hS ho20; rintro a21 m21 c21 w hS
    refine ⟨_, _, _, _, _, rfl, ?_⟩
    refine ⟨(hS.cel mp1 rfl), ?_⟩
    refine ⟨(hS.cel mp1 rfl), ?_⟩
    refine ⟨(hS.cel mp1 rfl), ?_⟩
    refine ⟨?_, ?_⟩
    ·
     refine drM_s hS ?_; clear hS; intro w hS
     obtain ⟨⟨t23, t24, t25, t26⟩, ho23, h⟩ := bnd h
     refine wk_dyad_Mul H hS (Ent.sl mp2) (Ent.sl mp0) ho23 ?_; clear hS ho23; rintro a22 m22 c22 w hS
     refine ⟨_, _, _, _, _, _, rfl, ?_⟩
     refine drM_s hS ?_; clear hS; intro w hS
     refine newM_s hS ?_; clear hS; intro r23 w hS
     refine drM_s hS ?_; clear hS; intro w hS
     refine stc_s hS rfl rfl ?_; clear hS; intro w hS
     refine stc_s hS rfl rfl ?_; clear hS; intro w hS
     refine stc_s hS rfl rfl ?_; clear hS; intro w hS
     refine drM_s hS ?_; clear hS; intro w hS
     obtain rfl := some_inj h
     exact hJ20 _ _ ⟨_, _, _, _, _, _, _, _, rfl, rfl, (hS.pick (A := [_, _, _, _, _]) [0, 0] rfl)⟩
    ·
     refine drM_s hS ?_; clear hS; intro w hS
     refine newM_s hS ?_; clear hS; intro r24 w hS
     refine ⟨(hS.cel mp2 rfl), ?_⟩
     refine ⟨(hS.cel mp2 rfl), ?_⟩
     refine ⟨(hS.cel mp2 rfl), ?_⟩
     refine drM_s hS ?_; clear hS; intro w hS
     obtain ⟨⟨t23, t24, t25, t26⟩, ho23, h⟩ := bnd h
     refine wk_dyad_Mul H hS (Ent.sl mp3) (Ent.sl mp1) ho23 ?_; clear hS ho23; rintro a25 m25 c25 w hS
     refine ⟨_, _, _, _, _, _, rfl, ?_⟩
     refine drM_s hS ?_; clear hS; intro w hS
     replace hS := ro1 hS
     refine stc_s hS rfl rfl ?_; clear hS; intro w hS
     refine stc_s hS rfl rfl ?_; clear hS; intro w hS
     refine stc_s hS rfl rfl ?_; clear hS; intro w hS
     refine drM_s hS ?_; clear hS; intro w hS
     obtain rfl := some_inj h
     exact hJ20 _ _ ⟨_, _, _, _, _, _, _, _, rfl, rfl, (hS.pick (A := [_, _, _, _, _]) [0, 0] rfl)⟩
   ·
    refine drM_s hS ?_; clear hS; intro w hS
    refine newM_s hS ?_; clear hS; intro r26 w hS
    refine ⟨(hS.cel mp1 rfl), ?_⟩
    refine ⟨(hS.cel mp1 rfl), ?_⟩
    refine ⟨(hS.cel mp1 rfl), ?_⟩
    refine drM_s hS ?_; clear hS; intro w hS
    obtain ⟨⟨t20, t21, t22⟩, ho20, h⟩ := bnd h
    refine wk_dyad_Int H hS  ho20 ?_; clear hS ho20; rintro a27 m27 c27 w hS
    refine ⟨_, _, _, _, _, rfl, ?_⟩
    refine ⟨(hS.cel mp2 rfl), ?_⟩
    refine ⟨(hS.cel mp2 rfl), ?_⟩
    refine ⟨(hS.cel mp2 rfl), ?_⟩
    refine drM_s hS ?_; clear hS; intro w hS
    obtain ⟨⟨t23, t24, t25, t26⟩, ho23, h⟩ := bnd h
    refine wk_dyad_Mul H hS (Ent.sl mp3) (Ent.sl mp0) ho23 ?_; clear hS ho23; rintro a28 m28 c28 w hS
    refine ⟨_, _, _, _, _, _, rfl, ?_⟩
    refine drM_s hS ?_; clear hS; intro w hS
    replace hS := ro2 hS
    refine stc_s hS rfl rfl ?_; clear hS; intro w hS
    refine stc_s hS rfl rfl ?_; clear hS; intro w hS
    refine stc_s hS rfl rfl ?_; clear hS; intro w hS
    refine drM_s hS ?_; clear hS; intro w hS
    obtain rfl := some_inj h
    exact hJ20 _ _ ⟨_, _, _, _, _, _, _, _, rfl, rfl, (hS.pick (A := [_, _, _, _, _]) [0, 0] rfl)⟩
  ·
   clear h20 hS
   rintro s w ⟨t16, r16, t17, t18, a17, m18, c19, t19, rfl, rfl, hS⟩
   have h := c20
   clear c20
   try dsimp only
   refine optM_s ?_
   refine ⟨_, (hS.cel mp0 rfl), ?_⟩
   refine ⟨_, _, _, (hS.cel mp0 rfl), ?_⟩
   refine ⟨_, (hS.cel mp0 rfl), ?_⟩
   obtain ⟨⟨t27, t28⟩, ho27, h⟩ := bnd h
   refine wk_dyad_Round H hS (Ent.sl mp1) (hG.mono tl2) ho27 ?_; clear hS ho27; rintro z29 w rfl hS
   refine ⟨_, _, rfl, ?_⟩
   obtain ⟨t29, ht29, h⟩ := bnd h
   obtain rfl : ([1] : List Int) = t29 := some_inj ht29
   clear ht29
   refine lit_s (ks := [1]) (enc := (Value.int .u64)) (m := 1) hS rfl rfl ?_; clear hS; intro r30 w hS
   obtain ⟨⟨t30, t31⟩, ho30, h⟩ := bnd h
   refine wk_dyad_Round H hS (Ent.sl mp0) (hG.mono tl3) ho30 ?_; clear hS ho30; rintro z31 w rfl hS
   refine ⟨_, _, rfl, ?_⟩
   refine cond_s h ?_ ?_ <;> clear h <;> intro hc h
   ·
    refine cond_s h ?_ ?_ <;> clear h <;> intro hc h
    ·
     refine cond_s h ?_ ?_ <;> clear h <;> intro hc h
     ·
      refine cond_s h ?_ ?_ <;> clear h <;> intro hc h
      ·
       refine cond_s h ?_ ?_ <;> clear h <;> intro hc h
       ·
        obtain ⟨t32, ht32, h⟩ := bnd h
        obtain rfl := feq_s ht32
        clear ht32
        refine cond_s h ?_ ?_ <;> clear h <;> intro hc h
        ·
         obtain ⟨t33, ht33, h⟩ := bnd h
         obtain rfl := fgt_s ht33
         clear ht33
         refine cond_s h ?_ ?_ <;> clear h <;> intro hc h
         ·
          obtain ⟨t34, ht34, h⟩ := bnd h
          obtain rfl := flt_s ht34
          clear ht34
          have h := some_inj h
          cases h
          exact hK _ (hS.pick (A := [_, _, _]) [] rfl)
         ·
          have h := some_inj h
          cases h
          exact hK _ (hS.pick (A := [_, _, _]) [] rfl)
        ·
         have h := some_inj h
         cases h
         exact hK _ (hS.pick (A := [_, _, _]) [] rfl)
       ·
        have h := some_inj h
        cases h
        exact hK _ (hS.pick (A := [_, _, _]) [] rfl)
      ·
       have h := some_inj h
       cases h
       exact hK _ (hS.pick (A := [_, _, _]) [] rfl)
     ·
      have h := some_inj h
      cases h
      exact hK _ (hS.pick (A := [_, _, _]) [] rfl)
    ·
     have h := some_inj h
     cases h
     exact hK _ (hS.pick (A := [_, _, _]) [] rfl)
   ·
    have h := some_inj h
    cases h
    exact hK _ (hS.pick (A := [_, _, _]) [] rfl)

theorem wk_girderkit_CopyLimbs {N : Nums} {P : Program} (H : AllOk N P) {w0 w : World} {L : List It} {q0 : Option Addr} {q0l q0c : Nat} {l0 : List Int} {u0 : List Int} (hS : Ho w0 w (L)) (hq0 : Ent L (rdA (List.map (Value.int .u64) l0) q0 q0l q0c)) (hx : T_girderkit_CopyLimbs l0 = some u0) {K : Value → World → Prop} (hK : ∀ (a0 : Option Addr) (n0 c0 : Nat) (w1 : World), Ho w0 w1 ((sl a0 n0 c0 (List.map (Value.int .u64) u0) N.t_uint64) :: L) → K (.slice a0 n0 c0) w1) : CallsX P N.f_girderkit_CopyLimbs #[.slice q0 q0l q0c] w K := by
 refine H.girderkit_CopyLimbs q0 q0l q0c w _ ?_
 unfold S_girderkit_CopyLimbs
 unfold T_girderkit_CopyLimbs at hx
 have h := hx
 clear hx
 try dsimp only
 obtain ⟨t1, ht1, h⟩ := bnd h
 obtain ⟨rfl, kt1⟩ := appE ht1
 clear ht1
 replace hS := hS.none (α := Int) (enc := (Value.int .u64)) (t := N.t_uint64)
 refine app_s hS kt1 ((hq0.mono tl1).now (fun _ h => h) hS) (fun _ => rfl) rfl ?_; clear hS kt1; intro a1 c1 w hS
 have h := some_inj h
 cases h
 exact hK _ _ _ _ hS

theorem wk_girderkit_CopyDyad {N : Nums} {P : Program} (H : AllOk N P) {w0 w : World} {L : List It} {q0_0 : Bool} {q0_1 : Option Addr} {q0_1l q0_1c : Nat} {l0_1 : List Int} {q0_2 : Int} {u0 : Bool} {u1 : List Int} {u2 : Int} (hS : Ho w0 w (L)) (hq0_1 : Ent L (rdA (List.map (Value.int .u64) l0_1) q0_1 q0_1l q0_1c)) (hx : T_girderkit_CopyDyad q0_0 l0_1 q0_2 = some (u0, u1, u2)) {K : Value → World → Prop} (hK : ∀ (a1 : Option Addr) (n1 c1 : Nat) (w1 : World), Ho w0 w1 ((sl a1 n1 c1 (List.map (Value.int .u64) u1) N.t_uint64) :: L) → K (.agg #[.bool u0, .slice a1 n1 c1, .int .i64 u2]) w1) : CallsX P N.f_girderkit_CopyDyad #[.agg #[.bool q0_0, .slice q0_1 q0_1l q0_1c, .int .i64 q0_2]] w K := by
 refine H.girderkit_CopyDyad q0_0 q0_1 q0_1l q0_1c q0_2 w _ ?_
 unfold S_girderkit_CopyDyad
 unfold T_girderkit_CopyDyad at hx
 have h := hx
 clear hx
 try dsimp only
 refine newM_s hS ?_; clear hS; intro r1 w hS
 refine newM_s hS ?_; clear hS; intro r2 w hS
 refine ⟨_, _, _, (hS.cel mp1 rfl), ?_⟩
 obtain ⟨t1, ht1, h⟩ := bnd h
 refine wk_girderkit_CopyLimbs H hS (hq0_1.mono tl2) ht1 ?_; clear hS ht1; rintro a3 m3 c3 w hS
 refine ⟨_, _, _, rfl, ?_⟩
 replace hS := ro2 hS
 refine stc_s hS rfl rfl ?_; clear hS; intro w hS
 refine ⟨_, (hS.cel mp0 rfl), ?_⟩
 refine ⟨_, _, _, (hS.cel mp0 rfl), ?_⟩
 refine ⟨_, (hS.cel mp0 rfl), ?_⟩
 replace hS := ro2 hS
 refine stc_s hS rfl rfl ?_; clear hS; intro w hS
 refine stc_s hS rfl rfl ?_; clear hS; intro w hS
 refine stc_s hS rfl rfl ?_; clear hS; intro w hS
 refine ⟨_, (hS.cel mp0 rfl), ?_⟩
 refine ⟨_, _, _, (hS.cel mp0 rfl), ?_⟩
 refine ⟨_, (hS.cel mp0 rfl), ?_⟩
 have h := some_inj h
 cases h
 exact hK _ _ _ _ (hS.pick (A := [_, _, _]) [2] rfl)

theorem wk_dyad_Norm {N : Nums} {P : Program} (H : AllOk N P) {w0 w : World} {L : List It} {q0_0 : Bool} {q0_1 : Option Addr} {q0_1l q0_1c : Nat} {l0_1 : List Int} {q0_2 : Int} {u0 : Bool} {u1 : List Int} {u2 : Int} {u3 : Int} (hS : Ho w0 w (L)) (hq0_1 : Ent L (rdA (List.map (Value.int .u64) l0_1) q0_1 q0_1l q0_1c)) (hx : T_dyad_Norm q0_0 l0_1 q0_2 = some (u0, u1, u2, u3)) {K : Value → World → Prop} (hK : ∀ (a1 : Option Addr) (n1 c1 : Nat) (w1 : World), Ho w0 w1 ((sl a1 n1 c1 (List.map (Value.int .u64) u1) N.t_uint64) :: L) → K (.tuple #[.agg #[.bool u0, .slice a1 n1 c1, .int .i64 u2], .int .i64 u3]) w1) : CallsX P N.f_dyad_Norm #[.agg #[.bool q0_0, .slice q0_1 q0_1l q0_1c, .int .i64 q0_2]] w K := by
 refine H.dyad_Norm q0_0 q0_1 q0_1l q0_1c q0_2 w _ ?_
 unfold S_dyad_Norm
 unfold T_dyad_Norm at hx
 have h := hx
 clear hx
 try dsimp only
 refine newM_s hS ?_; clear hS; intro r1 w hS
 refine newM_s hS ?_; clear hS; intro r2 w hS
 refine ⟨_, (hS.cel mp1 rfl), ?_⟩
 refine ⟨_, _, _, (hS.cel mp1 rfl), ?_⟩
 refine ⟨_, (hS.cel mp1 rfl), ?_⟩
 refine ⟨_, (hS.cel mp1 rfl), ?_⟩
 refine drM_s hS ?_; clear hS; intro w hS
 obtain ⟨t1, ht1, h⟩ := bnd h
 refine wk_dyad_whole H hS (hq0_1.mono tl2) ht1 ?_; clear hS ht1; rintro r3 a3 m3 c3 w hS
 refine ⟨_, rfl, ?_⟩
 refine ⟨(hS.cel mp2 rfl), ?_⟩
 refine drM_s hS ?_; clear hS; intro w hS
 obtain ⟨⟨t2, t3, t4, t5⟩, ho2, h⟩ := bnd h
 refine wk_dyad_made H hS (Ent.bg mp0) ho2 ?_; clear hS ho2; rintro a4 m4 c4 w hS
 refine ⟨_, _, _, _, _, _, rfl, ?_⟩
 refine drM_s hS ?_; clear hS; intro w hS
 replace hS := ro2 hS
 refine stc_s hS rfl rfl ?_; clear hS; intro w hS
 refine stc_s hS rfl rfl ?_; clear hS; intro w hS
 refine stc_s hS rfl rfl ?_; clear hS; intro w hS
 refine drM_s hS ?_; clear hS; intro w hS
 refine ⟨_, (hS.cel mp0 rfl), ?_⟩
 refine ⟨_, _, _, (hS.cel mp0 rfl), ?_⟩
 refine ⟨_, (hS.cel mp0 rfl), ?_⟩
 have h := some_inj h
 cases h
 exact hK _ _ _ _ (hS.pick (A := [_, _, _, _]) [1] rfl)

theorem wk_dyad_Fits {N : Nums} {P : Program} (H : AllOk N P) {w0 w : World} {L : List It} {q0_0 : Bool} {q0_1 : Option Addr} {q0_1l q0_1c : Nat} {l0_1 : List Int} {q0_2 : Int} {u0 : Bool} (hS : Ho w0 w (L)) (hq0_1 : Ent L (rdA (List.map (Value.int .u64) l0_1) q0_1 q0_1l q0_1c)) (hx : T_dyad_Fits q0_0 l0_1 q0_2 = some u0) {K : Value → World → Prop} (hK : ∀  (w1 : World), Ho w0 w1 (L) → K (.bool u0) w1) : CallsX P N.f_dyad_Fits #[.agg #[.bool q0_0, .slice q0_1 q0_1l q0_1c, .int .i64 q0_2]] w K := by
 refine H.dyad_Fits q0_0 q0_1 q0_1l q0_1c q0_2 w _ ?_
 unfold S_dyad_Fits
 unfold T_dyad_Fits at hx
 have h := hx
 clear hx
 try dsimp only
 refine newM_s hS ?_; clear hS; intro r1 w hS
 refine ⟨_, (hS.cel mp0 rfl), ?_⟩
 refine ⟨_, _, _, (hS.cel mp0 rfl), ?_⟩
 refine ⟨_, (hS.cel mp0 rfl), ?_⟩
 obtain ⟨t1, ht1, h⟩ := bnd h
 refine wk_dyad_Right H hS (hq0_1.mono tl1) ht1 ?_; clear hS ht1; rintro w hS
 refine ⟨_, rfl, ?_⟩
 refine cond_s h ?_ ?_ <;> clear h <;> intro hc h
 ·
  have h := some_inj h
  cases h
  exact hK _ (hS.pick (A := [_]) [] rfl)
 ·
  refine ⟨_, _, _, (hS.cel mp0 rfl), ?_⟩
  obtain ⟨t2, ht2, h⟩ := bnd h
  obtain rfl := lenE ht2 ((hq0_1.mono tl1).now (fun _ h => h) hS)
  clear ht2
  refine cond_s h ?_ ?_ <;> clear h <;> intro hc h
  ·
   have h := some_inj h
   cases h
   exact hK _ (hS.pick (A := [_]) [] rfl)
  ·
   refine ⟨_, (hS.cel mp0 rfl), ?_⟩
   refine cond_s h ?_ ?_ <;> clear h <;> intro hc h
   ·
    refine ⟨_, (hS.cel mp0 rfl), ?_⟩
    refine ⟨_, _, _, (hS.cel mp0 rfl), ?_⟩
    refine ⟨_, (hS.cel mp0 rfl), ?_⟩
    obtain ⟨t3, ht3, h⟩ := bnd h
    refine wk_dyad_top H hS (hq0_1.mono tl1) ht3 ?_; clear hS ht3; rintro w hS
    refine ⟨_, rfl, ?_⟩
    refine cond_s h ?_ ?_ <;> clear h <;> intro hc h
    ·
     refine ⟨_, _, _, (hS.cel mp0 rfl), ?_⟩
     obtain ⟨t4, ht4, h⟩ := bnd h
     obtain rfl := lenE ht4 ((hq0_1.mono tl1).now (fun _ h => h) hS)
     clear ht4
     refine cond_s h ?_ ?_ <;> clear h <;> intro hc h
     ·
      refine ⟨_, _, _, (hS.cel mp0 rfl), ?_⟩
      obtain ⟨t5, ht5, h⟩ := bnd h
      obtain ⟨q2x, q2l, q2r⟩ := atE ht5
      clear ht5
      refine idx_s ((hq0_1.mono tl1).now (fun _ h => h) hS) q2x q2l q2r ?_; intro b3 hb3
      refine ⟨_, rd_get ((hq0_1.mono tl1).now (fun _ h => h) hS) hb3 q2x, ?_⟩
      obtain ⟨t6, ht6, h⟩ := bnd h
      refine wk_math_bits_Len64 H hS  ht6 ?_; clear hS ht6; rintro w hS
      refine ⟨_, rfl, ?_⟩
      have h := some_inj h
      cases h
      exact hK _ (hS.pick (A := [_]) [] rfl)
     ·
      have h := some_inj h
      cases h
      exact hK _ (hS.pick (A := [_]) [] rfl)
    ·
     have h := some_inj h
     cases h
     exact hK _ (hS.pick (A := [_]) [] rfl)
   ·
    have h := some_inj h
    cases h
    exact hK _ (hS.pick (A := [_]) [] rfl)

theorem wk_girderkit_SameFloat {N : Nums} {P : Program} (H : AllOk N P) {w0 w : World} {L : List It} {q0 : Nat} {q1 : Nat} {u0 : Bool} (hS : Ho w0 w (L))  (hx : T_girderkit_SameFloat (nf q0) (nf q1) = some u0) {K : Value → World → Prop} (hK : ∀  (w1 : World), Ho w0 w1 (L) → K (.bool u0) w1) : CallsX P N.f_girderkit_SameFloat #[.float .f64 q0, .float .f64 q1] w K := by
 unfold T_girderkit_SameFloat at hx
 have hx := some_inj hx
 subst hx
 refine (sameFloat_c H q0 q1 w).mono ?_
 rintro _ w1 ⟨rfl, h1⟩
 exact hK _ (hS.next h1)

theorem wk_girderkit_SameLimbs {N : Nums} {P : Program} (H : AllOk N P) {w0 w : World} {L : List It} {q0 : Option Addr} {q0l q0c : Nat} {l0 : List Int} {q1 : Option Addr} {q1l q1c : Nat} {l1 : List Int} {u0 : Bool} (hS : Ho w0 w (L)) (hq0 : Ent L (rdA (List.map (Value.int .u64) l0) q0 q0l q0c)) (hq1 : Ent L (rdA (List.map (Value.int .u64) l1) q1 q1l q1c)) (hx : T_girderkit_SameLimbs l0 l1 = some u0) {K : Value → World → Prop} (hK : ∀  (w1 : World), Ho w0 w1 (L) → K (.bool u0) w1) : CallsX P N.f_girderkit_SameLimbs #[.slice q0 q0l q0c, .slice q1 q1l q1c] w K := by
 refine H.girderkit_SameLimbs q0 q0l q0c q1 q1l q1c w _ ?_
 unfold S_girderkit_SameLimbs
 unfold T_girderkit_SameLimbs at hx
 have h := hx
 clear hx
 try dsimp only
 obtain ⟨t1, ht1, h⟩ := bnd h
 obtain rfl := lenE ht1 (hq0.now (fun _ h => h) hS)
 clear ht1
 obtain ⟨t2, ht2, h⟩ := bnd h
 obtain rfl := lenE ht2 (hq1.now (fun _ h => h) hS)
 clear ht2
 refine cond_s h ?_ ?_ <;> clear h <;> intro hc h
 ·
  have h := some_inj h
  cases h
  exact hK _ hS
 ·
  obtain ⟨o1, h1, c1⟩ := bnd h
  refine cutM_i (fun s w =>  .inl () = o1 ∧ s = (()) ∧ Ho w0 w (L)) (fun J1 hJ1 => ?_) ?_
  ·
   have h := h1
   clear h1
   refine iter_sim (fun s w t => ∃ (t3 : Int), t3 = t ∧ s = (t3, ()) ∧ Ho w0 w (L)) ?_ h ⟨_, rfl, rfl, hS⟩
   clear h hS
   rintro s w t X q ⟨t3, rfl, rfl, hS⟩ h hX hO
   unfold T_girderkit_SameLimbs_b2 at h
   try dsimp only
   obtain ⟨t4, ht4, h⟩ := bnd h
   obtain rfl := lenE ht4 (hq0.now (fun _ h => h) hS)
   clear ht4
   refine cond_s h ?_ ?_ <;> clear h <;> intro hc h
   ·
    obtain ⟨t5, ht5, h⟩ := bnd h
    obtain ⟨q2x, q2l, q2r⟩ := atE ht5
    clear ht5
    refine idx_s (hq0.now (fun _ h => h) hS) q2x q2l q2r ?_; intro b3 hb3
    refine ⟨_, rd_get (hq0.now (fun _ h => h) hS) hb3 q2x, ?_⟩
    obtain ⟨t6, ht6, h⟩ := bnd h
    obtain ⟨q4x, q4l, q4r⟩ := atE ht6
    clear ht6
    refine idx_s (hq1.now (fun _ h => h) hS) q4x q4l q4r ?_; intro b5 hb5
    refine ⟨_, rd_get (hq1.now (fun _ h => h) hS) hb5 q4x, ?_⟩
    refine drM_s hS ?_; clear hS; intro w hS
    refine cond_s h ?_ ?_ <;> clear h <;> intro hc h
    ·
     obtain rfl := some_inj h
     have h := congrArg some (hO _ rfl)
     obtain rfl := some_inj h
     have h := c1
     have h := some_inj h
     cases h
     exact hK _ hS
    ·
     obtain rfl := some_inj h
     exact hX _ rfl _ _ ⟨_, rfl, rfl, hS⟩
   ·
    obtain rfl := some_inj h
    have h := congrArg some (hO _ rfl)
    obtain rfl := some_inj h
    exact hJ1 _ _ ⟨rfl, rfl, hS⟩
  ·
   clear h1 hS
   rintro s w ⟨rfl, rfl, hS⟩
   have h := c1
   clear c1
   try dsimp only
   have h := some_inj h
   cases h
   exact hK _ hS

theorem wk_girderkit_SameDyad {N : Nums} {P : Program} (H : AllOk N P) {w0 w : World} {L : List It} {q0_0 : Bool} {q0_1 : Option Addr} {q0_1l q0_1c : Nat} {l0_1 : List Int} {q0_2 : Int} {q1_0 : Bool} {q1_1 : Option Addr} {q1_1l q1_1c : Nat} {l1_1 : List Int} {q1_2 : Int} {u0 : Bool} (hS : Ho w0 w (L)) (hq0_1 : Ent L (rdA (List.map (Value.int .u64) l0_1) q0_1 q0_1l q0_1c)) (hq1_1 : Ent L (rdA (List.map (Value.int .u64) l1_1) q1_1 q1_1l q1_1c)) (hx : T_girderkit_SameDyad q0_0 l0_1 q0_2 q1_0 l1_1 q1_2 = some u0) {K : Value → World → Prop} (hK : ∀  (w1 : World), Ho w0 w1 (L) → K (.bool u0) w1) : CallsX P N.f_girderkit_SameDyad #[.agg #[.bool q0_0, .slice q0_1 q0_1l q0_1c, .int .i64 q0_2], .agg #[.bool q1_0, .slice q1_1 q1_1l q1_1c, .int .i64 q1_2]] w K := by
 refine H.girderkit_SameDyad q0_0 q0_1 q0_1l q0_1c q0_2 q1_0 q1_1 q1_1l q1_1c q1_2 w _ ?_
 unfold S_girderkit_SameDyad
 unfold T_girderkit_SameDyad at hx
 have h := hx
 clear hx
 try dsimp only
 refine newM_s hS ?_; clear hS; intro r1 w hS
 refine newM_s hS ?_; clear hS; intro r2 w hS
 refine ⟨_, (hS.cel mp1 rfl), ?_⟩
 refine ⟨_, (hS.cel mp0 rfl), ?_⟩
 refine cond_s h ?_ ?_ <;> clear h <;> intro hc h
 ·
  refine ⟨_, _, _, (hS.cel mp1 rfl), ?_⟩
  refine ⟨_, _, _, (hS.cel mp0 rfl), ?_⟩
  obtain ⟨t1, ht1, h⟩ := bnd h
  refine wk_girderkit_SameLimbs H hS (hq0_1.mono tl2) (hq1_1.mono tl2) ht1 ?_; clear hS ht1; rintro w hS
  refine ⟨_, rfl, ?_⟩
  refine cond_s h ?_ ?_ <;> clear h <;> intro hc h
  ·
   refine ⟨_, (hS.cel mp1 rfl), ?_⟩
   refine ⟨_, (hS.cel mp0 rfl), ?_⟩
   have h := some_inj h
   cases h
   exact hK _ (hS.pick (A := [_, _]) [] rfl)
  ·
   have h := some_inj h
   cases h
   exact hK _ (hS.pick (A := [_, _]) [] rfl)
 ·
  have h := some_inj h
  cases h
  exact hK _ (hS.pick (A := [_, _]) [] rfl)

theorem wk_dyad_Sign {N : Nums} {P : Program} (H : AllOk N P) {w0 w : World} {L : List It} {q0_0 : Bool} {q0_1 : Option Addr} {q0_1l q0_1c : Nat} {l0_1 : List Int} {q0_2 : Int} {u0 : Int} {u1 : Int} (hS : Ho w0 w (L)) (hq0_1 : Ent L (rdA (List.map (Value.int .u64) l0_1) q0_1 q0_1l q0_1c)) (hx : T_dyad_Sign q0_0 l0_1 q0_2 = some (u0, u1)) {K : Value → World → Prop} (hK : ∀  (w1 : World), Ho w0 w1 (L) → K (.tuple #[.int .i64 u0, .int .i64 u1]) w1) : CallsX P N.f_dyad_Sign #[.agg #[.bool q0_0, .slice q0_1 q0_1l q0_1c, .int .i64 q0_2]] w K := by
 refine H.dyad_Sign q0_0 q0_1 q0_1l q0_1c q0_2 w _ ?_
 unfold S_dyad_Sign
 unfold T_dyad_Sign at hx
 have h := hx
 clear hx
 try dsimp only
 refine newM_s hS ?_; clear hS; intro r1 w hS
 refine ⟨_, (hS.cel mp0 rfl), ?_⟩
 refine ⟨_, _, _, (hS.cel mp0 rfl), ?_⟩
 refine ⟨_, (hS.cel mp0 rfl), ?_⟩
 obtain ⟨t1, ht1, h⟩ := bnd h
 refine wk_dyad_Right H hS (hq0_1.mono tl1) ht1 ?_; clear hS ht1; rintro w hS
 refine ⟨_, rfl, ?_⟩
 refine cond_s h ?_ ?_ <;> clear h <;> intro hc h
 ·
  have h := some_inj h
  cases h
  exact hK _ (hS.pick (A := [_]) [] rfl)
 ·
  refine ⟨_, _, _, (hS.cel mp0 rfl), ?_⟩
  obtain ⟨t2, ht2, h⟩ := bnd h
  obtain rfl := lenE ht2 ((hq0_1.mono tl1).now (fun _ h => h) hS)
  clear ht2
  refine cond_s h ?_ ?_ <;> clear h <;> intro hc h
  ·
   have h := some_inj h
   cases h
   exact hK _ (hS.pick (A := [_]) [] rfl)
  ·
   refine ⟨_, (hS.cel mp0 rfl), ?_⟩
   refine cond_s h ?_ ?_ <;> clear h <;> intro hc h
   ·
    have h := some_inj h
    cases h
    exact hK _ (hS.pick (A := [_]) [] rfl)
   ·
    have h := some_inj h
    cases h
    exact hK _ (hS.pick (A := [_]) [] rfl)

theorem wk_bits_Between {N : Nums} {P : Program} (H : AllOk N P) {w0 w : World} {L : List It} {q0 : Nat} {q1 : Nat} {u0 : Int} {u1 : Bool} (hS : Ho w0 w (L))  (hx : T_bits_Between (nf q0) (nf q1) = some (u0, u1)) {K : Value → World → Prop} (hK : ∀  (w1 : World), Ho w0 w1 (L) → K (.tuple #[.int .u64 u0, .bool u1]) w1) : CallsX P N.f_bits_Between #[.float .f64 q0, .float .f64 q1] w K := by
 refine H.bits_Between q0 q1 w _ ?_
 unfold S_bits_Between
 unfold T_bits_Between at hx
 have h := hx
 clear hx
 try dsimp only
 obtain ⟨⟨t1, t2⟩, ho1, h⟩ := bnd h
 refine wk_bits_Place H hS  ho1 ?_; clear hS ho1; rintro w hS
 refine ⟨_, _, rfl, ?_⟩
 obtain ⟨⟨t3, t4⟩, ho3, h⟩ := bnd h
 refine wk_bits_Place H hS  ho3 ?_; clear hS ho3; rintro w hS
 refine ⟨_, _, rfl, ?_⟩
 refine cond_s h ?_ ?_ <;> clear h <;> intro hc h
 ·
  refine cond_s h ?_ ?_ <;> clear h <;> intro hc h
  ·
   refine cond_s h ?_ ?_ <;> clear h <;> intro hc h
   ·
    have h := some_inj h
    cases h
    exact hK _ hS
   ·
    have h := some_inj h
    cases h
    exact hK _ hS
  ·
   have h := some_inj h
   cases h
   exact hK _ hS
 ·
  have h := some_inj h
  cases h
  exact hK _ hS

theorem wk_girderkit_Finite {N : Nums} {P : Program} (H : AllOk N P) {w0 w : World} {L : List It} {q0 : Nat} {u0 : Bool} (hS : Ho w0 w (L))  (hx : T_girderkit_Finite (nf q0) = some u0) {K : Value → World → Prop} (hK : ∀  (w1 : World), Ho w0 w1 (L) → K (.bool u0) w1) : CallsX P N.f_girderkit_Finite #[.float .f64 q0] w K := by
 refine H.girderkit_Finite q0 w _ ?_
 unfold S_girderkit_Finite
 unfold T_girderkit_Finite at hx
 have h := hx
 clear hx
 try dsimp only
 obtain ⟨t1, ht1, h⟩ := bnd h
 refine fsub_s ht1 hS ?_; clear hS ht1; rintro z1 w rfl hS
 obtain ⟨t2, ht2, h⟩ := bnd h
 obtain rfl := feq_s ht2
 clear ht2
 have h := some_inj h
 cases h
 exact hK _ hS

theorem wk_dyad_Cmp {N : Nums} {P : Program} (H : AllOk N P) {w0 w : World} {L : List It} {q0_0 : Bool} {q0_1 : Option Addr} {q0_1l q0_1c : Nat} {l0_1 : List Int} {q0_2 : Int} {q1_0 : Bool} {q1_1 : Option Addr} {q1_1l q1_1c : Nat} {l1_1 : List Int} {q1_2 : Int} {u0 : Int} {u1 : Int} (hS : Ho w0 w (L)) (hq0_1 : Ent L (rdA (List.map (Value.int .u64) l0_1) q0_1 q0_1l q0_1c)) (hq1_1 : Ent L (rdA (List.map (Value.int .u64) l1_1) q1_1 q1_1l q1_1c)) (hx : T_dyad_Cmp q0_0 l0_1 q0_2 q1_0 l1_1 q1_2 = some (u0, u1)) {K : Value → World → Prop} (hK : ∀  (w1 : World), Ho w0 w1 (L) → K (.tuple #[.int .i64 u0, .int .i64 u1]) w1) : CallsX P N.f_dyad_Cmp #[.agg #[.bool q0_0, .slice q0_1 q0_1l q0_1c, .int .i64 q0_2], .agg #[.bool q1_0, .slice q1_1 q1_1l q1_1c, .int .i64 q1_2]] w K := by
 refine H.dyad_Cmp q0_0 q0_1 q0_1l q0_1c q0_2 q1_0 q1_1 q1_1l q1_1c q1_2 w _ ?_
 unfold S_dyad_Cmp
 unfold T_dyad_Cmp at hx
 have h := hx
 clear hx
 try dsimp only
 refine newM_s hS ?_; clear hS; intro r1 w hS
 refine newM_s hS ?_; clear hS; intro r2 w hS
 refine ⟨_, (hS.cel mp1 rfl), ?_⟩
 refine ⟨_, _, _, (hS.cel mp1 rfl), ?_⟩
 refine ⟨_, (hS.cel mp1 rfl), ?_⟩
 obtain ⟨⟨t1, t2⟩, ho1, h⟩ := bnd h
 refine wk_dyad_Sign H hS (hq0_1.mono tl2) ho1 ?_; clear hS ho1; rintro w hS
 refine ⟨_, _, rfl, ?_⟩
 refine ⟨_, (hS.cel mp0 rfl), ?_⟩
 refine ⟨_, _, _, (hS.cel mp0 rfl), ?_⟩
 refine ⟨_, (hS.cel mp0 rfl), ?_⟩
 obtain ⟨⟨t3, t4⟩, ho3, h⟩ := bnd h
 refine wk_dyad_Sign H hS (hq1_1.mono tl2) ho3 ?_; clear hS ho3; rintro w hS
 refine ⟨_, _, rfl, ?_⟩
 obtain ⟨o3, h3, c3⟩ := bnd h
 refine cutM_i (fun s w => ∃ (t5 : Bool), t5 = o3 ∧ s = (t5, ()) ∧ Ho w0 w ((cl r2 [.bool q1_0, .slice q1_1 q1_1l q1_1c, .int .i64 q1_2] N.t_Dyad) :: (cl r1 [.bool q0_0, .slice q0_1 q0_1l q0_1c, .int .i64 q0_2] N.t_Dyad) :: L)) (fun J3 hJ3 => ?_) ?_
 ·
  have h := h3
  clear h3
  refine cond_s h ?_ ?_ <;> clear h <;> intro hc h
  ·
   obtain rfl := some_inj h
   exact hJ3 _ _ ⟨_, rfl, rfl, hS⟩
  ·
   obtain rfl := some_inj h
   exact hJ3 _ _ ⟨_, rfl, rfl, hS⟩
 ·
  clear h3 hS
  rintro s w ⟨t5, rfl, rfl, hS⟩
  have h := c3
  clear c3
  try dsimp only
  refine cond_s h ?_ ?_ <;> clear h <;> intro hc h
  ·
   have h := some_inj h
   cases h
   exact hK _ (hS.pick (A := [_, _]) [] rfl)
  ·
   refine cond_s h ?_ ?_ <;> clear h <;> intro hc h
   ·
    refine cond_s h ?_ ?_ <;> clear h <;> intro hc h
    ·
     have h := some_inj h
     cases h
     exact hK _ (hS.pick (A := [_, _]) [] rfl)
    ·
     have h := some_inj h
     cases h
     exact hK _ (hS.pick (A := [_, _]) [] rfl)
   ·
    refine cond_s h ?_ ?_ <;> clear h <;> intro hc h
    ·
     have h := some_inj h
     cases h
     exact hK _ (hS.pick (A := [_, _]) [] rfl)
    ·
     refine ⟨_, (hS.cel mp1 rfl), ?_⟩
     refine ⟨_, _, _, (hS.cel mp1 rfl), ?_⟩
     refine ⟨_, (hS.cel mp1 rfl), ?_⟩
     refine ⟨_, (hS.cel mp0 rfl), ?_⟩
     refine ⟨_, _, _, (hS.cel mp0 rfl), ?_⟩
     refine ⟨_, (hS.cel mp0 rfl), ?_⟩
     refine drM_s hS ?_; clear hS; intro w hS
     obtain ⟨t6, ht6, h⟩ := bnd h
     refine wk_dyad_top H hS (hq0_1.mono tl2) ht6 ?_; clear hS ht6; rintro w hS
     refine ⟨_, rfl, ?_⟩
     refine ⟨(hS.cel mp0 rfl), ?_⟩
     refine ⟨(hS.cel mp0 rfl), ?_⟩
     refine ⟨(hS.cel mp0 rfl), ?_⟩
     refine drM_s hS ?_; clear hS; intro w hS
     obtain ⟨t7, ht7, h⟩ := bnd h
     refine wk_dyad_top H hS (hq1_1.mono tl2) ht7 ?_; clear hS ht7; rintro w hS
     refine ⟨_, rfl, ?_⟩
     refine drM_s hS ?_; clear hS; intro w hS
     refine cond_s h ?_ ?_ <;> clear h <;> intro hc h
     ·
      refine ⟨_, (hS.cel mp1 rfl), ?_⟩
      refine ⟨_, _, _, (hS.cel mp1 rfl), ?_⟩
      refine ⟨_, (hS.cel mp1 rfl), ?_⟩
      refine ⟨_, (hS.cel mp0 rfl), ?_⟩
      refine ⟨_, _, _, (hS.cel mp0 rfl), ?_⟩
      refine ⟨_, (hS.cel mp0 rfl), ?_⟩
      refine drM_s hS ?_; clear hS; intro w hS
      obtain ⟨t8, ht8, h⟩ := bnd h
      refine wk_dyad_top H hS (hq0_1.mono tl2) ht8 ?_; clear hS ht8; rintro w hS
      refine ⟨_, rfl, ?_⟩
      refine ⟨(hS.cel mp0 rfl), ?_⟩
      refine ⟨(hS.cel mp0 rfl), ?_⟩
      refine ⟨(hS.cel mp0 rfl), ?_⟩
      refine drM_s hS ?_; clear hS; intro w hS
      obtain ⟨t9, ht9, h⟩ := bnd h
      refine wk_dyad_top H hS (hq1_1.mono tl2) ht9 ?_; clear hS ht9; rintro w hS
      refine ⟨_, rfl, ?_⟩
      refine drM_s hS ?_; clear hS; intro w hS
      refine cond_s h ?_ ?_ <;> clear h <;> intro hc h
      ·
       have h := some_inj h
       cases h
       exact hK _ (hS.pick (A := [_, _]) [] rfl)
      ·
       have h := some_inj h
       cases h
       exact hK _ (hS.pick (A := [_, _]) [] rfl)
     ·
      refine ⟨_, (hS.cel mp1 rfl), ?_⟩
      refine ⟨_, _, _, (hS.cel mp1 rfl), ?_⟩
      refine ⟨_, (hS.cel mp1 rfl), ?_⟩
      refine ⟨_, (hS.cel mp0 rfl), ?_⟩
      refine ⟨_, _, _, (hS.cel mp0 rfl), ?_⟩
      refine ⟨_, (hS.cel mp0 rfl), ?_⟩
      refine drM_s hS ?_; clear hS; intro w hS
      obtain ⟨t10, ht10, h⟩ := bnd h
      refine wk_dyad_whole H hS (hq0_1.mono tl2) ht10 ?_; clear hS ht10; rintro r4 a4 m4 c4 w hS
      refine ⟨_, rfl, ?_⟩
      refine ⟨(hS.cel mp1 rfl), ?_⟩
      refine ⟨(hS.cel mp1 rfl), ?_⟩
      refine ⟨(hS.cel mp1 rfl), ?_⟩
      refine drM_s hS ?_; clear hS; intro w hS
      obtain ⟨t11, ht11, h⟩ := bnd h
      refine wk_dyad_whole H hS (hq1_1.mono tl3) ht11 ?_; clear hS ht11; rintro r5 a5 m5 c5 w hS
      refine ⟨_, rfl, ?_⟩
      refine drM_s hS ?_; clear hS; intro w hS
      refine ⟨_, (hS.cel mp3 rfl), ?_⟩
      refine ⟨_, (hS.cel mp2 rfl), ?_⟩
      obtain ⟨o12, h12, c12⟩ := bnd h
      refine cutM_i (fun s w => ∃ (a6 : Option Addr) (m7 : Nat) (c8 : Nat) (t12 : Int) (a9 : Option Addr) (m10 : Nat) (c11 : Nat) (t13 : Int), (t12, t13) = o12 ∧ s = (()) ∧ Ho w0 w ((bg N.t_bignum_Int N.t_uint32 r4 a6 m7 c8 t12) :: (bg N.t_bignum_Int N.t_uint32 r5 a9 m10 c11 t13) :: L)) (fun J12 hJ12 => ?_) ?_
      ·
       have h := h12
       clear h12
       refine cond_s h ?_ ?_ <;> clear h <;> intro hc h
       ·
        refine ⟨_, (hS.cel mp3 rfl), ?_⟩
        refine ⟨_, (hS.cel mp2 rfl), ?_⟩
        obtain ⟨t14, ht14, h⟩ := bnd h
        replace hS := ro1 hS
        refine big_Lsh_zz H hS  ht14 ?_; clear hS ht14; intro a13 m13 c13 w hS
        refine ⟨_, rfl, ?_⟩
        obtain rfl := some_inj h
        exact hJ12 _ _ ⟨_, _, _, _, _, _, _, _, rfl, rfl, (hS.pick (A := [_, _, _, _]) [0, 0] rfl)⟩
       ·
        refine ⟨_, (hS.cel mp2 rfl), ?_⟩
        refine ⟨_, (hS.cel mp3 rfl), ?_⟩
        obtain ⟨t15, ht15, h⟩ := bnd h
        refine big_Lsh_zz H hS  ht15 ?_; clear hS ht15; intro a14 m14 c14 w hS
        refine ⟨_, rfl, ?_⟩
        obtain rfl := some_inj h
        exact hJ12 _ _ ⟨_, _, _, _, _, _, _, _, rfl, rfl, (hS.pick (A := [_, _, _, _]) [1, 0] rfl)⟩
      ·
       clear h12 hS
       rintro s w ⟨a6, m7, c8, t12, a9, m10, c11, t13, rfl, rfl, hS⟩
       have h := c12
       clear c12
       try dsimp only
       obtain ⟨t16, ht16, h⟩ := bnd h
       refine big_Cmp_xy H hS (Ent.bg mp0) (Ent.bg mp1) ht16 ?_; clear hS ht16; intro w hS
       refine ⟨_, rfl, ?_⟩
       have h := some_inj h
       cases h
       exact hK _ (hS.pick (A := [_, _]) [] rfl)

theorem wk_dyad_Neg {N : Nums} {P : Program} (H : AllOk N P) {w0 w : World} {L : List It} {q0_0 : Bool} {q0_1 : Option Addr} {q0_1l q0_1c : Nat} {l0_1 : List Int} {q0_2 : Int} {u0 : Bool} {u1 : List Int} {u2 : Int} {u3 : Int} (hS : Ho w0 w (L)) (hq0_1 : Ent L (rdA (List.map (Value.int .u64) l0_1) q0_1 q0_1l q0_1c)) (hx : T_dyad_Neg q0_0 l0_1 q0_2 = some (u0, u1, u2, u3)) {K : Value → World → Prop} (hK : ∀ (a1 : Option Addr) (n1 c1 : Nat) (w1 : World), Ho w0 w1 ((sl a1 n1 c1 (List.map (Value.int .u64) u1) N.t_uint64) :: L) → K (.tuple #[.agg #[.bool u0, .slice a1 n1 c1, .int .i64 u2], .int .i64 u3]) w1) : CallsX P N.f_dyad_Neg #[.agg #[.bool q0_0, .slice q0_1 q0_1l q0_1c, .int .i64 q0_2]] w K := by
 refine H.dyad_Neg q0_0 q0_1 q0_1l q0_1c q0_2 w _ ?_
 unfold S_dyad_Neg
 unfold T_dyad_Neg at hx
 have h := hx
 clear hx
 try dsimp only
 refine newM_s hS ?_; clear hS; intro r1 w hS
 refine newM_s hS ?_; clear hS; intro r2 w hS
 refine ⟨_, (hS.cel mp1 rfl), ?_⟩
 refine ⟨_, _, _, (hS.cel mp1 rfl), ?_⟩
 refine ⟨_, (hS.cel mp1 rfl), ?_⟩
 obtain ⟨t1, ht1, h⟩ := bnd h
 refine wk_dyad_Right H hS (hq0_1.mono tl2) ht1 ?_; clear hS ht1; rintro w hS
 refine ⟨_, rfl, ?_⟩
 refine cond_s h ?_ ?_ <;> clear h <;> intro hc h
 ·
  refine stc_s hS rfl rfl ?_; clear hS; intro w hS
  refine stc_s hS rfl rfl ?_; clear hS; intro w hS
  refine stc_s hS rfl rfl ?_; clear hS; intro w hS
  refine ⟨_, (hS.cel mp0 rfl), ?_⟩
  refine ⟨_, _, _, (hS.cel mp0 rfl), ?_⟩
  refine ⟨_, (hS.cel mp0 rfl), ?_⟩
  replace hS := hS.none (α := Int) (enc := (Value.int .u64)) (t := N.t_uint64)
  have h := some_inj h
  cases h
  exact hK _ _ _ _ (hS.pick (A := [_, _, _]) [0] rfl)
 ·
  refine ⟨_, (hS.cel mp1 rfl), ?_⟩
  refine cond_s h ?_ ?_ <;> clear h <;> intro hc h
  ·
   refine ⟨_, _, _, (hS.cel mp1 rfl), ?_⟩
   obtain ⟨t2, ht2, h⟩ := bnd h
   obtain rfl := lenE ht2 ((hq0_1.mono tl2).now (fun _ h => h) hS)
   clear ht2
   refine ⟨_, (hS.cel mp1 rfl), ?_⟩
   refine newM_s hS ?_; clear hS; intro r3 w hS
   refine stc_s hS rfl rfl ?_; clear hS; intro w hS
   refine stc_s hS rfl rfl ?_; clear hS; intro w hS
   refine stc_s hS rfl rfl ?_; clear hS; intro w hS
   refine ⟨_, _, _, (hS.cel mp0 rfl), ?_⟩
   refine ⟨_, _, _, (hS.cel mp2 rfl), ?_⟩
   obtain ⟨t3, ht3, h⟩ := bnd h
   obtain ⟨rfl, kt3⟩ := appE ht3
   clear ht3
   replace hS := hS.none (α := Int) (enc := (Value.int .u64)) (t := N.t_uint64)
   refine app_s hS kt3 ((hq0_1.mono tl4).now (fun _ h => h) hS) (fun _ => rfl) rfl ?_; clear hS kt3; intro a4 c4 w hS
   replace hS := ro1 hS
   refine stc_s hS rfl rfl ?_; clear hS; intro w hS
   refine ⟨_, (hS.cel mp0 rfl), ?_⟩
   refine ⟨_, _, _, (hS.cel mp0 rfl), ?_⟩
   refine ⟨_, (hS.cel mp0 rfl), ?_⟩
   replace hS := ro2 hS
   refine stc_s hS rfl rfl ?_; clear hS; intro w hS
   refine stc_s hS rfl rfl ?_; clear hS; intro w hS
   refine stc_s hS rfl rfl ?_; clear hS; intro w hS
   refine ⟨_, (hS.cel mp0 rfl), ?_⟩
   refine ⟨_, _, _, (hS.cel mp0 rfl), ?_⟩
   refine ⟨_, (hS.cel mp0 rfl), ?_⟩
   have h := some_inj h
   cases h
   exact hK _ _ _ _ (hS.pick (A := [_, _, _, _]) [2] rfl)
  ·
   refine ⟨_, (hS.cel mp1 rfl), ?_⟩
   refine newM_s hS ?_; clear hS; intro r5 w hS
   refine stc_s hS rfl rfl ?_; clear hS; intro w hS
   refine stc_s hS rfl rfl ?_; clear hS; intro w hS
   refine stc_s hS rfl rfl ?_; clear hS; intro w hS
   refine ⟨_, _, _, (hS.cel mp0 rfl), ?_⟩
   refine ⟨_, _, _, (hS.cel mp2 rfl), ?_⟩
   obtain ⟨t4, ht4, h⟩ := bnd h
   obtain ⟨rfl, kt4⟩ := appE ht4
   clear ht4
   replace hS := hS.none (α := Int) (enc := (Value.int .u64)) (t := N.t_uint64)
   refine app_s hS kt4 ((hq0_1.mono tl4).now (fun _ h => h) hS) (fun _ => rfl) rfl ?_; clear hS kt4; intro a6 c6 w hS
   replace hS := ro1 hS
   refine stc_s hS rfl rfl ?_; clear hS; intro w hS
   refine ⟨_, (hS.cel mp0 rfl), ?_⟩
   refine ⟨_, _, _, (hS.cel mp0 rfl), ?_⟩
   refine ⟨_, (hS.cel mp0 rfl), ?_⟩
   replace hS := ro2 hS
   refine stc_s hS rfl rfl ?_; clear hS; intro w hS
   refine stc_s hS rfl rfl ?_; clear hS; intro w hS
   refine stc_s hS rfl rfl ?_; clear hS; intro w hS
   refine ⟨_, (hS.cel mp0 rfl), ?_⟩
   refine ⟨_, _, _, (hS.cel mp0 rfl), ?_⟩
   refine ⟨_, (hS.cel mp0 rfl), ?_⟩
   have h := some_inj h
   cases h
   exact hK _ _ _ _ (hS.pick (A := [_, _, _, _]) [2] rfl)

theorem wk_dyad_Sub {N : Nums} {P : Program} (H : AllOk N P) {w0 w : World} {L : List It} {q0_0 : Bool} {q0_1 : Option Addr} {q0_1l q0_1c : Nat} {l0_1 : List Int} {q0_2 : Int} {q1_0 : Bool} {q1_1 : Option Addr} {q1_1l q1_1c : Nat} {l1_1 : List Int} {q1_2 : Int} {u0 : Bool} {u1 : List Int} {u2 : Int} {u3 : Int} (hS : Ho w0 w (L)) (hq0_1 : Ent L (rdA (List.map (Value.int .u64) l0_1) q0_1 q0_1l q0_1c)) (hq1_1 : Ent L (rdA (List.map (Value.int .u64) l1_1) q1_1 q1_1l q1_1c)) (hx : T_dyad_Sub q0_0 l0_1 q0_2 q1_0 l1_1 q1_2 = some (u0, u1, u2, u3)) {K : Value → World → Prop} (hK : ∀ (a1 : Option Addr) (n1 c1 : Nat) (w1 : World), Ho w0 w1 ((sl a1 n1 c1 (List.map (Value.int .u64) u1) N.t_uint64) :: L) → K (.tuple #[.agg #[.bool u0, .slice a1 n1 c1, .int .i64 u2], .int .i64 u3]) w1) : CallsX P N.f_dyad_Sub #[.agg #[.bool q0_0, .slice q0_1 q0_1l q0_1c, .int .i64 q0_2], .agg #[.bool q1_0, .slice q1_1 q1_1l q1_1c, .int .i64 q1_2]] w K := by
 refine H.dyad_Sub q0_0 q0_1 q0_1l q0_1c q0_2 q1_0 q1_1 q1_1l q1_1c q1_2 w _ ?_
 unfold S_dyad_Sub
 unfold T_dyad_Sub at hx
 have h := hx
 clear hx
 try dsimp only
 refine newM_s hS ?_; clear hS; intro r1 w hS
 refine newM_s hS ?_; clear hS; intro r2 w hS
 refine newM_s hS ?_; clear hS; intro r3 w hS
 refine ⟨_, (hS.cel mp1 rfl), ?_⟩
 refine ⟨_, _, _, (hS.cel mp1 rfl), ?_⟩
 refine ⟨_, (hS.cel mp1 rfl), ?_⟩
 obtain ⟨⟨t1, t2, t3, t4⟩, ho1, h⟩ := bnd h
 refine wk_dyad_Neg H hS (hq1_1.mono tl3) ho1 ?_; clear hS ho1; rintro a4 m4 c4 w hS
 refine ⟨_, _, _, _, _, _, rfl, ?_⟩
 refine newM_s hS ?_; clear hS; intro r5 w hS
 refine stc_s hS rfl rfl ?_; clear hS; intro w hS
 refine stc_s hS rfl rfl ?_; clear hS; intro w hS
 refine stc_s hS rfl rfl ?_; clear hS; intro w hS
 refine cond_s h ?_ ?_ <;> clear h <;> intro hc h
 ·
  replace hS := ro2 hS
  refine stc_s hS rfl rfl ?_; clear hS; intro w hS
  refine stc_s hS rfl rfl ?_; clear hS; intro w hS
  refine stc_s hS rfl rfl ?_; clear hS; intro w hS
  refine ⟨_, (hS.cel mp0 rfl), ?_⟩
  refine ⟨_, _, _, (hS.cel mp0 rfl), ?_⟩
  refine ⟨_, (hS.cel mp0 rfl), ?_⟩
  replace hS := hS.none (α := Int) (enc := (Value.int .u64)) (t := N.t_uint64)
  have h := some_inj h
  cases h
  exact hK _ _ _ _ (hS.pick (A := [_, _, _, _, _, _]) [0] rfl)
 ·
  refine ⟨_, (hS.cel mp4 rfl), ?_⟩
  refine ⟨_, _, _, (hS.cel mp4 rfl), ?_⟩
  refine ⟨_, (hS.cel mp4 rfl), ?_⟩
  refine ⟨_, (hS.cel mp0 rfl), ?_⟩
  refine ⟨_, _, _, (hS.cel mp0 rfl), ?_⟩
  refine ⟨_, (hS.cel mp0 rfl), ?_⟩
  obtain ⟨⟨t5, t6, t7, t8⟩, ho5, h⟩ := bnd h
  refine wk_dyad_Add H hS (hq0_1.mono tl5) (Ent.sl mp1) ho5 ?_; clear hS ho5; rintro a6 m6 c6 w hS
  refine ⟨_, _, _, _, _, _, rfl, ?_⟩
  replace hS := ro3 hS
  refine stc_s hS rfl rfl ?_; clear hS; intro w hS
  refine stc_s hS rfl rfl ?_; clear hS; intro w hS
  refine stc_s hS rfl rfl ?_; clear hS; intro w hS
  refine ⟨_, (hS.cel mp0 rfl), ?_⟩
  refine ⟨_, _, _, (hS.cel mp0 rfl), ?_⟩
  refine ⟨_, (hS.cel mp0 rfl), ?_⟩
  have h := some_inj h
  cases h
  exact hK _ _ _ _ (hS.pick (A := [_, _, _, _, _, _]) [1] rfl)

theorem wk_girderlaw02_DyadBetween {N : Nums} {P : Program} (H : AllOk N P) {w0 w : World} {L : List It} {q0_0 : Bool} {q0_1 : Option Addr} {q0_1l q0_1c : Nat} {l0_1 : List Int} {q0_2 : Int} {u0 : Bool} (hS : Ho w0 w (L)) (hq0_1 : Ent L (rdA (List.map (Value.int .u64) l0_1) q0_1 q0_1l q0_1c)) (hG : Ent L (tab64 N.g_1)) (hx : T_girderlaw02_DyadBetween q0_0 l0_1 q0_2 = some u0) {K : Value → World → Prop} (hK : ∀  (w1 : World), Ho w0 w1 (L) → K (.bool u0) w1) : CallsX P N.f_girderlaw02_DyadBetween #[.agg #[.bool q0_0, .slice q0_1 q0_1l q0_1c, .int .i64 q0_2]] w K := by
 refine H.girderlaw02_DyadBetween q0_0 q0_1 q0_1l q0_1c q0_2 w _ ?_
 unfold S_girderlaw02_DyadBetween
 unfold T_girderlaw02_DyadBetween at hx
 have h := hx
 clear hx
 try dsimp only
 refine newM_s hS ?_; clear hS; intro r1 w hS
 obtain ⟨t1, ht1, h⟩ := bnd h
 refine wk_girderlaw02_awake H hS (hG.mono tl1) ht1 ?_; clear hS ht1; rintro w hS
 refine ⟨_, rfl, ?_⟩
 refine cond_s h ?_ ?_ <;> clear h <;> intro hc h
 ·
  have h := some_inj h
  cases h
  exact hK _ (hS.pick (A := [_]) [] rfl)
 ·
  refine ⟨_, (hS.cel mp0 rfl), ?_⟩
  refine ⟨_, _, _, (hS.cel mp0 rfl), ?_⟩
  refine ⟨_, (hS.cel mp0 rfl), ?_⟩
  obtain ⟨⟨t2, t3, t4⟩, ho2, h⟩ := bnd h
  refine wk_girderkit_CopyDyad H hS (hq0_1.mono tl1) ho2 ?_; clear hS ho2; rintro a2 m2 c2 w hS
  refine ⟨_, _, _, _, _, rfl, ?_⟩
  obtain ⟨⟨t5, t6, t7, t8⟩, ho5, h⟩ := bnd h
  refine wk_dyad_Norm H hS (Ent.sl mp0) ho5 ?_; clear hS ho5; rintro a3 m3 c3 w hS
  refine ⟨_, _, _, _, _, _, rfl, ?_⟩
  refine newM_s hS ?_; clear hS; intro r4 w hS
  refine stc_s hS rfl rfl ?_; clear hS; intro w hS
  refine stc_s hS rfl rfl ?_; clear hS; intro w hS
  refine stc_s hS rfl rfl ?_; clear hS; intro w hS
  refine cond_s h ?_ ?_ <;> clear h <;> intro hc h
  ·
   have h := some_inj h
   cases h
   exact hK _ (hS.pick (A := [_, _, _, _]) [] rfl)
  ·
   refine ⟨_, (hS.cel mp0 rfl), ?_⟩
   refine ⟨_, _, _, (hS.cel mp0 rfl), ?_⟩
   refine ⟨_, (hS.cel mp0 rfl), ?_⟩
   obtain ⟨⟨t9, t10⟩, ho9, h⟩ := bnd h
   refine wk_dyad_Round H hS (Ent.sl mp1) (hG.mono tl4) ho9 ?_; clear hS ho9; rintro z5 w rfl hS
   refine ⟨_, _, rfl, ?_⟩
   refine ⟨_, (hS.cel mp0 rfl), ?_⟩
   refine ⟨_, _, _, (hS.cel mp0 rfl), ?_⟩
   refine ⟨_, (hS.cel mp0 rfl), ?_⟩
   obtain ⟨⟨t11, t12⟩, ho11, h⟩ := bnd h
   refine wk_dyad_Round H hS (Ent.sl mp1) (hG.mono tl4) ho11 ?_; clear hS ho11; rintro z6 w rfl hS
   refine ⟨_, _, rfl, ?_⟩
   refine ⟨_, (hS.cel mp0 rfl), ?_⟩
   refine ⟨_, _, _, (hS.cel mp0 rfl), ?_⟩
   refine ⟨_, (hS.cel mp0 rfl), ?_⟩
   obtain ⟨⟨t13, t14⟩, ho13, h⟩ := bnd h
   refine wk_dyad_Round H hS (Ent.sl mp1) (hG.mono tl4) ho13 ?_; clear hS ho13; rintro z7 w rfl hS
   refine ⟨_, _, rfl, ?_⟩
   refine ⟨_, (hS.cel mp0 rfl), ?_⟩
   refine ⟨_, _, _, (hS.cel mp0 rfl), ?_⟩
   refine ⟨_, (hS.cel mp0 rfl), ?_⟩
   obtain ⟨⟨t15, t16⟩, ho15, h⟩ := bnd h
   refine wk_dyad_Round H hS (Ent.sl mp1) (hG.mono tl4) ho15 ?_; clear hS ho15; rintro z8 w rfl hS
   refine ⟨_, _, rfl, ?_⟩
   obtain ⟨o9, h9, c9⟩ := bnd h
   refine cutM_i (fun s w => ∃ (t17 : Bool), t17 = o9 ∧ s = (t17, ()) ∧ Ho w0 w ((cl r4 [.bool t5, .slice a3 m3 c3, .int .i64 t7] N.t_Dyad) :: (sl a3 m3 c3 (List.map (Value.int .u64) t6) N.t_uint64) :: L)) (fun J9 hJ9 => ?_) ?_
   ·
    have h := h9
    clear h9
    refine cond_s h ?_ ?_ <;> clear h <;> intro hc h
    ·
     refine cond_s h ?_ ?_ <;> clear h <;> intro hc h
     ·
      refine cond_s h ?_ ?_ <;> clear h <;> intro hc h
      ·
       obtain rfl := some_inj h
       exact hJ9 _ _ ⟨_, rfl, rfl, (hS.pick (A := [_, _, _, _]) [0, 0] rfl)⟩
      ·
       obtain rfl := some_inj h
       exact hJ9 _ _ ⟨_, rfl, rfl, (hS.pick (A := [_, _, _, _]) [0, 0] rfl)⟩
     ·
      obtain rfl := some_inj h
      exact hJ9 _ _ ⟨_, rfl, rfl, (hS.pick (A := [_, _, _, _]) [0, 0] rfl)⟩
    ·
     obtain rfl := some_inj h
     exact hJ9 _ _ ⟨_, rfl, rfl, (hS.pick (A := [_, _, _, _]) [0, 0] rfl)⟩
   ·
    clear h9 hS
    rintro s w ⟨t17, rfl, rfl, hS⟩
    have h := c9
    clear c9
    try dsimp only
    refine cond_s h ?_ ?_ <;> clear h <;> intro hc h
    ·
     have h := some_inj h
     cases h
     exact hK _ (hS.pick (A := [_, _]) [] rfl)
    ·
     refine ⟨_, (hS.cel mp0 rfl), ?_⟩
     refine ⟨_, _, _, (hS.cel mp0 rfl), ?_⟩
     refine ⟨_, (hS.cel mp0 rfl), ?_⟩
     obtain ⟨t18, ht18, h⟩ := bnd h
     refine wk_dyad_Fits H hS (Ent.sl mp1) ht18 ?_; clear hS ht18; rintro w hS
     refine ⟨_, rfl, ?_⟩
     refine cond_s h ?_ ?_ <;> clear h <;> intro hc h
     ·
      obtain ⟨⟨t19, t20, t21, t22⟩, ho19, h⟩ := bnd h
      refine wk_dyad_Of H hS (hG.mono tl2) ho19 ?_; clear hS ho19; rintro a10 m10 c10 w hS
      refine ⟨_, _, _, _, _, _, rfl, ?_⟩
      refine newM_s hS ?_; clear hS; intro r11 w hS
      refine stc_s hS rfl rfl ?_; clear hS; intro w hS
      refine stc_s hS rfl rfl ?_; clear hS; intro w hS
      refine stc_s hS rfl rfl ?_; clear hS; intro w hS
      obtain ⟨t23, ht23, h⟩ := bnd h
      refine wk_girderkit_SameFloat H hS  ht23 ?_; clear hS ht23; rintro w hS
      refine ⟨_, rfl, ?_⟩
      refine cond_s h ?_ ?_ <;> clear h <;> intro hc h
      ·
       obtain ⟨t24, ht24, h⟩ := bnd h
       refine wk_girderkit_SameFloat H hS  ht24 ?_; clear hS ht24; rintro w hS
       refine ⟨_, rfl, ?_⟩
       refine cond_s h ?_ ?_ <;> clear h <;> intro hc h
       ·
        obtain ⟨t25, ht25, h⟩ := bnd h
        refine wk_girderkit_SameFloat H hS  ht25 ?_; clear hS ht25; rintro w hS
        refine ⟨_, rfl, ?_⟩
        refine cond_s h ?_ ?_ <;> clear h <;> intro hc h
        ·
         refine cond_s h ?_ ?_ <;> clear h <;> intro hc h
         ·
          refine ⟨_, (hS.cel mp0 rfl), ?_⟩
          refine ⟨_, _, _, (hS.cel mp0 rfl), ?_⟩
          refine ⟨_, (hS.cel mp0 rfl), ?_⟩
          refine ⟨_, (hS.cel mp2 rfl), ?_⟩
          refine ⟨_, _, _, (hS.cel mp2 rfl), ?_⟩
          refine ⟨_, (hS.cel mp2 rfl), ?_⟩
          obtain ⟨t26, ht26, h⟩ := bnd h
          refine wk_girderkit_SameDyad H hS (Ent.sl mp1) (Ent.sl mp3) ht26 ?_; clear hS ht26; rintro w hS
          refine ⟨_, rfl, ?_⟩
          have h := some_inj h
          cases h
          exact hK _ (hS.pick (A := [_, _, _, _]) [] rfl)
         ·
          have h := some_inj h
          cases h
          exact hK _ (hS.pick (A := [_, _, _, _]) [] rfl)
        ·
         have h := some_inj h
         cases h
         exact hK _ (hS.pick (A := [_, _, _, _]) [] rfl)
       ·
        have h := some_inj h
        cases h
        exact hK _ (hS.pick (A := [_, _, _, _]) [] rfl)
      ·
       have h := some_inj h
       cases h
       exact hK _ (hS.pick (A := [_, _, _, _]) [] rfl)
     ·
      refine ⟨_, (hS.cel mp0 rfl), ?_⟩
      refine ⟨_, _, _, (hS.cel mp0 rfl), ?_⟩
      refine ⟨_, (hS.cel mp0 rfl), ?_⟩
      obtain ⟨⟨t27, t28⟩, ho27, h⟩ := bnd h
      refine wk_dyad_Sign H hS (Ent.sl mp1) ho27 ?_; clear hS ho27; rintro w hS
      refine ⟨_, _, rfl, ?_⟩
      obtain ⟨o13, h13, c13⟩ := bnd h
      refine cutM_i (fun s w => ∃ (z12 : Nat), (nf z12) = o13 ∧ s = (z12, ()) ∧ Ho w0 w ((cl r4 [.bool t5, .slice a3 m3 c3, .int .i64 t7] N.t_Dyad) :: (sl a3 m3 c3 (List.map (Value.int .u64) t6) N.t_uint64) :: L)) (fun J13 hJ13 => ?_) ?_
      ·
       have h := h13
       clear h13
       refine cond_s h ?_ ?_ <;> clear h <;> intro hc h
       ·
        obtain rfl := some_inj h
        exact hJ13 _ _ ⟨_, rfl, rfl, hS⟩
       ·
        obtain rfl := some_inj h
        exact hJ13 _ _ ⟨_, rfl, rfl, hS⟩
      ·
       clear h13 hS
       rintro s w ⟨z12, rfl, rfl, hS⟩
       have h := c13
       clear c13
       try dsimp only
       obtain ⟨⟨t30, t31⟩, ho30, h⟩ := bnd h
       refine wk_bits_Between H hS  ho30 ?_; clear hS ho30; rintro w hS
       refine ⟨_, _, rfl, ?_⟩
       obtain ⟨o14, h14, c14⟩ := bnd h
       refine cutM_i (fun s w => ∃ (t32 : Bool), t32 = o14 ∧ s = (t32, ()) ∧ Ho w0 w ((cl r4 [.bool t5, .slice a3 m3 c3, .int .i64 t7] N.t_Dyad) :: (sl a3 m3 c3 (List.map (Value.int .u64) t6) N.t_uint64) :: L)) (fun J14 hJ14 => ?_) ?_
       ·
        have h := h14
        clear h14
        refine cond_s h ?_ ?_ <;> clear h <;> intro hc h
        ·
         refine cond_s h ?_ ?_ <;> clear h <;> intro hc h
         ·
          obtain ⟨t33, ht33, h⟩ := bnd h
          refine wk_girderkit_SameFloat H hS  ht33 ?_; clear hS ht33; rintro w hS
          refine ⟨_, rfl, ?_⟩
          refine cond_s h ?_ ?_ <;> clear h <;> intro hc h
          ·
           obtain ⟨t34, ht34, h⟩ := bnd h
           refine wk_girderkit_SameFloat H hS  ht34 ?_; clear hS ht34; rintro w hS
           refine ⟨_, rfl, ?_⟩
           refine cond_s h ?_ ?_ <;> clear h <;> intro hc h
           ·
            obtain ⟨t35, ht35, h⟩ := bnd h
            refine wk_girderkit_SameFloat H hS  ht35 ?_; clear hS ht35; rintro w hS
            refine ⟨_, rfl, ?_⟩
            obtain rfl := some_inj h
            exact hJ14 _ _ ⟨_, rfl, rfl, hS⟩
           ·
            obtain rfl := some_inj h
            exact hJ14 _ _ ⟨_, rfl, rfl, hS⟩
          ·
           obtain rfl := some_inj h
           exact hJ14 _ _ ⟨_, rfl, rfl, hS⟩
         ·
          obtain rfl := some_inj h
          exact hJ14 _ _ ⟨_, rfl, rfl, hS⟩
        ·
         obtain rfl := some_inj h
         exact hJ14 _ _ ⟨_, rfl, rfl, hS⟩
       ·
        clear h14 hS
        rintro s w ⟨t32, rfl, rfl, hS⟩
        have h := c14
        clear c14
        try dsimp only
        refine cond_s h ?_ ?_ <;> clear h <;> intro hc h
        ·
         have h := some_inj h
         cases h
         exact hK _ (hS.pick (A := [_, _]) [] rfl)
        ·
         obtain ⟨o15, h15, c15⟩ := bnd h
         refine cutM_i (fun s w => ∃ (t36 : Bool), t36 = o15 ∧ s = (t36, ()) ∧ Ho w0 w ((cl r4 [.bool t5, .slice a3 m3 c3, .int .i64 t7] N.t_Dyad) :: (sl a3 m3 c3 (List.map (Value.int .u64) t6) N.t_uint64) :: L)) (fun J15 hJ15 => ?_) ?_
         ·
          have h := h15
          clear h15
          obtain ⟨t37, ht37, h⟩ := bnd h
          refine wk_girderkit_Finite H hS  ht37 ?_; clear hS ht37; rintro w hS
          refine ⟨_, rfl, ?_⟩
          refine cond_s h ?_ ?_ <;> clear h <;> intro hc h
          ·
           obtain ⟨t38, ht38, h⟩ := bnd h
           refine wk_girderkit_Finite H hS  ht38 ?_; clear hS ht38; rintro w hS
           refine ⟨_, rfl, ?_⟩
           obtain rfl := some_inj h
           exact hJ15 _ _ ⟨_, rfl, rfl, hS⟩
          ·
           obtain rfl := some_inj h
           exact hJ15 _ _ ⟨_, rfl, rfl, hS⟩
         ·
          clear h15 hS
          rintro s w ⟨t36, rfl, rfl, hS⟩
          have h := c15
          clear c15
          try dsimp only
          refine cond_s h ?_ ?_ <;> clear h <;> intro hc h
          ·
           have h := some_inj h
           cases h
           exact hK _ (hS.pick (A := [_, _]) [] rfl)
          ·
           obtain ⟨⟨t39, t40, t41, t42⟩, ho39, h⟩ := bnd h
           refine wk_dyad_Of H hS (hG.mono tl2) ho39 ?_; clear hS ho39; rintro a16 m16 c16 w hS
           refine ⟨_, _, _, _, _, _, rfl, ?_⟩
           refine newM_s hS ?_; clear hS; intro r17 w hS
           refine stc_s hS rfl rfl ?_; clear hS; intro w hS
           refine stc_s hS rfl rfl ?_; clear hS; intro w hS
           refine stc_s hS rfl rfl ?_; clear hS; intro w hS
           obtain ⟨⟨t43, t44, t45, t46⟩, ho43, h⟩ := bnd h
           refine wk_dyad_Of H hS (hG.mono tl4) ho43 ?_; clear hS ho43; rintro a18 m18 c18 w hS
           refine ⟨_, _, _, _, _, _, rfl, ?_⟩
           refine newM_s hS ?_; clear hS; intro r19 w hS
           refine stc_s hS rfl rfl ?_; clear hS; intro w hS
           refine stc_s hS rfl rfl ?_; clear hS; intro w hS
           refine stc_s hS rfl rfl ?_; clear hS; intro w hS
           refine ⟨_, (hS.cel mp2 rfl), ?_⟩
           refine ⟨_, _, _, (hS.cel mp2 rfl), ?_⟩
           refine ⟨_, (hS.cel mp2 rfl), ?_⟩
           refine ⟨_, (hS.cel mp4 rfl), ?_⟩
           refine ⟨_, _, _, (hS.cel mp4 rfl), ?_⟩
           refine ⟨_, (hS.cel mp4 rfl), ?_⟩
           obtain ⟨⟨t47, t48⟩, ho47, h⟩ := bnd h
           refine wk_dyad_Cmp H hS (Ent.sl mp3) (Ent.sl mp5) ho47 ?_; clear hS ho47; rintro w hS
           refine ⟨_, _, rfl, ?_⟩
           refine ⟨_, (hS.cel mp4 rfl), ?_⟩
           refine ⟨_, _, _, (hS.cel mp4 rfl), ?_⟩
           refine ⟨_, (hS.cel mp4 rfl), ?_⟩
           refine ⟨_, (hS.cel mp0 rfl), ?_⟩
           refine ⟨_, _, _, (hS.cel mp0 rfl), ?_⟩
           refine ⟨_, (hS.cel mp0 rfl), ?_⟩
           obtain ⟨⟨t49, t50⟩, ho49, h⟩ := bnd h
           refine wk_dyad_Cmp H hS (Ent.sl mp5) (Ent.sl mp1) ho49 ?_; clear hS ho49; rintro w hS
           refine ⟨_, _, rfl, ?_⟩
           obtain ⟨o20, h20, c20⟩ := bnd h
           refine cutM_i (fun s w => ∃ (t51 : Bool), t51 = o20 ∧ s = (t51, ()) ∧ Ho w0 w ((cl r19 [.bool t43, .slice a18 m18 c18, .int .i64 t45] N.t_Dyad) :: (sl a18 m18 c18 (List.map (Value.int .u64) t44) N.t_uint64) :: (cl r17 [.bool t39, .slice a16 m16 c16, .int .i64 t41] N.t_Dyad) :: (sl a16 m16 c16 (List.map (Value.int .u64) t40) N.t_uint64) :: (cl r4 [.bool t5, .slice a3 m3 c3, .int .i64 t7] N.t_Dyad) :: (sl a3 m3 c3 (List.map (Value.int .u64) t6) N.t_uint64) :: L)) (fun J20 hJ20 => ?_) ?_
           ·
            have h := h20
            clear h20
            refine cond_s h ?_ ?_ <;> clear h <;> intro hc h
            ·
             refine cond_s h ?_ ?_ <;> clear h <;> intro hc h
             ·
              refine cond_s h ?_ ?_ <;> clear h <;> intro hc h
              ·
               obtain rfl := some_inj h
               exact hJ20 _ _ ⟨_, rfl, rfl, hS⟩
              ·
               obtain rfl := some_inj h
               exact hJ20 _ _ ⟨_, rfl, rfl, hS⟩
             ·
              obtain rfl := some_inj h
              exact hJ20 _ _ ⟨_, rfl, rfl, hS⟩
            ·
             obtain rfl := some_inj h
             exact hJ20 _ _ ⟨_, rfl, rfl, hS⟩
           ·
            clear h20 hS
            rintro s w ⟨t51, rfl, rfl, hS⟩
            have h := c20
            clear c20
            try dsimp only
            refine cond_s h ?_ ?_ <;> clear h <;> intro hc h
            ·
             have h := some_inj h
             cases h
             exact hK _ (hS.pick (A := [_, _, _, _, _, _]) [] rfl)
            ·
             refine ⟨_, (hS.cel mp4 rfl), ?_⟩
             refine ⟨_, _, _, (hS.cel mp4 rfl), ?_⟩
             refine ⟨_, (hS.cel mp4 rfl), ?_⟩
             refine ⟨_, (hS.cel mp2 rfl), ?_⟩
             refine ⟨_, _, _, (hS.cel mp2 rfl), ?_⟩
             refine ⟨_, (hS.cel mp2 rfl), ?_⟩
             obtain ⟨⟨t52, t53, t54, t55⟩, ho52, h⟩ := bnd h
             refine wk_dyad_Sub H hS (Ent.sl mp5) (Ent.sl mp3) ho52 ?_; clear hS ho52; rintro a21 m21 c21 w hS
             refine ⟨_, _, _, _, _, _, rfl, ?_⟩
             refine newM_s hS ?_; clear hS; intro r22 w hS
             refine stc_s hS rfl rfl ?_; clear hS; intro w hS
             refine stc_s hS rfl rfl ?_; clear hS; intro w hS
             refine stc_s hS rfl rfl ?_; clear hS; intro w hS
             refine ⟨_, (hS.cel mp2 rfl), ?_⟩
             refine ⟨_, _, _, (hS.cel mp2 rfl), ?_⟩
             refine ⟨_, (hS.cel mp2 rfl), ?_⟩
             refine ⟨_, (hS.cel mp6 rfl), ?_⟩
             refine ⟨_, _, _, (hS.cel mp6 rfl), ?_⟩
             refine ⟨_, (hS.cel mp6 rfl), ?_⟩
             obtain ⟨⟨t56, t57, t58, t59⟩, ho56, h⟩ := bnd h
             refine wk_dyad_Sub H hS (Ent.sl mp3) (Ent.sl mp7) ho56 ?_; clear hS ho56; rintro a23 m23 c23 w hS
             refine ⟨_, _, _, _, _, _, rfl, ?_⟩
             refine newM_s hS ?_; clear hS; intro r24 w hS
             refine stc_s hS rfl rfl ?_; clear hS; intro w hS
             refine stc_s hS rfl rfl ?_; clear hS; intro w hS
             refine stc_s hS rfl rfl ?_; clear hS; intro w hS
             refine cond_s h ?_ ?_ <;> clear h <;> intro hc h
             ·
              refine cond_s h ?_ ?_ <;> clear h <;> intro hc h
              ·
               have h := some_inj h
               cases h
               exact hK _ (hS.pick (A := [_, _, _, _, _, _, _, _, _, _]) [] rfl)
              ·
               refine ⟨_, (hS.cel mp2 rfl), ?_⟩
               refine ⟨_, _, _, (hS.cel mp2 rfl), ?_⟩
               refine ⟨_, (hS.cel mp2 rfl), ?_⟩
               refine ⟨_, (hS.cel mp0 rfl), ?_⟩
               refine ⟨_, _, _, (hS.cel mp0 rfl), ?_⟩
               refine ⟨_, (hS.cel mp0 rfl), ?_⟩
               obtain ⟨⟨t60, t61⟩, ho60, h⟩ := bnd h
               refine wk_dyad_Cmp H hS (Ent.sl mp3) (Ent.sl mp1) ho60 ?_; clear hS ho60; rintro w hS
               refine ⟨_, _, rfl, ?_⟩
               refine cond_s h ?_ ?_ <;> clear h <;> intro hc h
               ·
                have h := some_inj h
                cases h
                exact hK _ (hS.pick (A := [_, _, _, _, _, _, _, _, _, _]) [] rfl)
               ·
                refine cond_s h ?_ ?_ <;> clear h <;> intro hc h
                ·
                 obtain ⟨t62, ht62, h⟩ := bnd h
                 refine wk_girderkit_SameFloat H hS  ht62 ?_; clear hS ht62; rintro w hS
                 refine ⟨_, rfl, ?_⟩
                 refine cond_s h ?_ ?_ <;> clear h <;> intro hc h
                 ·
                  refine cond_s h ?_ ?_ <;> clear h <;> intro hc h
                  ·
                   obtain ⟨t63, ht63, h⟩ := bnd h
                   refine wk_girderkit_SameFloat H hS  ht63 ?_; clear hS ht63; rintro w hS
                   refine ⟨_, rfl, ?_⟩
                   refine cond_s h ?_ ?_ <;> clear h <;> intro hc h
                   ·
                    have h := some_inj h
                    cases h
                    exact hK _ (hS.pick (A := [_, _, _, _, _, _, _, _, _, _]) [] rfl)
                   ·
                    have h := some_inj h
                    cases h
                    exact hK _ (hS.pick (A := [_, _, _, _, _, _, _, _, _, _]) [] rfl)
                  ·
                   have h := some_inj h
                   cases h
                   exact hK _ (hS.pick (A := [_, _, _, _, _, _, _, _, _, _]) [] rfl)
                 ·
                  have h := some_inj h
                  cases h
                  exact hK _ (hS.pick (A := [_, _, _, _, _, _, _, _, _, _]) [] rfl)
                ·
                 refine cond_s h ?_ ?_ <;> clear h <;> intro hc h
                 ·
                  obtain ⟨t64, ht64, h⟩ := bnd h
                  refine wk_girderkit_SameFloat H hS  ht64 ?_; clear hS ht64; rintro w hS
                  refine ⟨_, rfl, ?_⟩
                  refine cond_s h ?_ ?_ <;> clear h <;> intro hc h
                  ·
                   have h := some_inj h
                   cases h
                   exact hK _ (hS.pick (A := [_, _, _, _, _, _, _, _, _, _]) [] rfl)
                  ·
                   have h := some_inj h
                   cases h
                   exact hK _ (hS.pick (A := [_, _, _, _, _, _, _, _, _, _]) [] rfl)
                 ·
                  have h := some_inj h
                  cases h
                  exact hK _ (hS.pick (A := [_, _, _, _, _, _, _, _, _, _]) [] rfl)
             ·
              have h := some_inj h
              cases h
              exact hK _ (hS.pick (A := [_, _, _, _, _, _, _, _, _, _]) [] rfl)

end Go.Eng
