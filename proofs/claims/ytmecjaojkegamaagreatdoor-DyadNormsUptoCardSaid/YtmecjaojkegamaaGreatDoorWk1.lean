/-
 Each function comes to what its function of plain Lean says, printed by a program of the session; with contracts written by hand at the head. No condition.
-/
import Derived.Test.YtmecjaojkegamaaGreatDoorTp
import Derived.Test.YtmecjaojkegamaaGreatDoorSh
import Derived.Test.YtmecjaojkegamaaGreatDoorBgW
import Derived.Test.YtmecjaojkegamaaGreatDoorLentU
import Derived.Test.YtmecjaojkegamaaGreatDoorBitC
set_option linter.unusedSimpArgs false
set_option linter.unnecessarySimpa false
set_option linter.unusedSectionVars false
set_option linter.unusedVariables false
set_option maxRecDepth 100000
set_option maxHeartbeats 4000000
namespace Go.Eng
open Go

section
variable {N : Nums} {P : Program} (H : AllOk N P)
include H

theorem bits_c (x : Nat) (w : World) : CallsX P N.f_math_Float64bits #[.float .f64 x] w fun v w' => v = .int .u64 x ∧ St w w' [] :=
 H.math_Float64bits x w _ ⟨rfl, St.refl _⟩

theorem abs_c (x : Nat) (w : World) : CallsX P N.f_math_Abs #[.float .f64 x] w fun v w' => v = .float .f64 (magF x) ∧ St w w' [] := by
 refine H.math_Abs x w _ ?_
 unfold S_math_Abs
 refine (bits_c H x w).mono ?_
 rintro _ w1 ⟨rfl, h1⟩
 refine ⟨_, rfl, ?_⟩
 refine H.math_Float64frombits _ w1 _ ?_
 rw [abs_bits]
 exact ⟨_, rfl, rfl, h1⟩

theorem signbit_c (x : Nat) (w : World) : CallsX P N.f_math_Signbit #[.float .f64 x] w fun v w' => v = .bool (negF x) ∧ St w w' [] := by
 refine H.math_Signbit x w _ ?_
 unfold S_math_Signbit
 refine (bits_c H x w).mono ?_
 rintro _ w1 ⟨rfl, h1⟩
 exact ⟨_, rfl, by rw [sign_bits], h1⟩

theorem copysign_c (x y : Nat) (w : World) : CallsX P N.f_math_Copysign #[.float .f64 x, .float .f64 y] w fun v w' => v = .float .f64 ((if negF y then 9223372036854775808 else 0) + magF x) ∧ St w w' [] := by
 refine H.math_Copysign x y w _ ?_
 unfold S_math_Copysign
 refine (bits_c H x w).mono ?_
 rintro _ w1 ⟨rfl, h1⟩
 refine ⟨_, rfl, ?_⟩
 refine (bits_c H y w1).mono ?_
 rintro _ w2 ⟨rfl, h2⟩
 refine ⟨_, rfl, ?_⟩
 refine H.math_Float64frombits _ w2 _ ?_
 rw [copy_bits]
 exact ⟨_, rfl, rfl, h1.next h2⟩

theorem fields_c (x : Nat) (w : World) : CallsX P N.f_girderref01_fields #[.float .f64 x] w fun v w' => ∃ b, v = .tuple #[.bool b, .int .i64 (expF x), .int .u64 (fracF x)] ∧ St w w' [] := by
 refine H.girderref01_fields x w _ ?_
 unfold S_girderref01_fields
 refine (bits_c H x w).mono ?_
 rintro _ w1 ⟨rfl, h1⟩
 have e1 : ((x : Int).tmod 4503599627370496) = (fracF x : Int) := by unfold fracF; rw [Int.tmod_eq_emod_of_nonneg (by omega)]; omega
 have e2 : IntKind.i64.wrap ((IntKind.u64.wrap ((x : Int).tdiv 4503599627370496)).tmod 2048) = (expF x : Int) := by
  have h2 : (x : Int).tdiv 4503599627370496 = ((x / 4503599627370496 : Nat) : Int) := by rw [Int.tdiv_eq_ediv_of_nonneg (by omega)]; omega
  have h3 : IntKind.u64.wrap ((x / 4503599627370496 : Nat) : Int) = ((x / 4503599627370496 % 18446744073709551616 : Nat) : Int) := by
   simp only [IntKind.wrap, IntKind.bits, IntKind.signed]; simp
  rw [h2, h3, Int.tmod_eq_emod_of_nonneg (by omega)]
  have h4 : ((x / 4503599627370496 % 18446744073709551616 : Nat) : Int) % 2048 = ((expF x : Nat) : Int) := by unfold expF; omega
  rw [h4, wrN (by unfold expF; omega)]
 refine ⟨_, rfl, by omega, by omega, by omega, by omega, ?_⟩
 rw [e1, e2]
 exact ⟨_, rfl, h1⟩

theorem kind_c (x : Nat) (w : World) : CallsX P N.f_girderref01_Kind #[.float .f64 x] w fun v w' => v = .int .i64 (if expF x = 2047 then (if fracF x = 0 then 3 else 4) else if expF x = 0 then (if fracF x = 0 then 0 else 1) else 2) ∧ St w w' [] := by
 refine H.girderref01_Kind x w _ ?_
 unfold S_girderref01_Kind
 refine (fields_c H x w).mono ?_
 rintro _ w1 ⟨b, rfl, h1⟩
 refine ⟨_, _, _, rfl, ?_⟩
 by_cases h2 : expF x = 2047
 ·
  by_cases h3 : fracF x = 0
  ·
   simp [h2, h3, h1]
  ·
   simp [h2, h3, h1, bne]
 ·
  have e2 : (((expF x : Nat) : Int) == 2047) = false := by simp; omega
  by_cases h4 : expF x = 0
  ·
   by_cases h3 : fracF x = 0
   ·
    simp [h4, h3, h1]
   ·
    simp [h4, h3, h1, bne]
  ·
   have : 0 < expF x := by omega
   simp [h2, h4, h1, e2, this]

end

theorem wk_math_Float64bits {N : Nums} {P : Program} (H : AllOk N P) {w0 w : World} {L : List It} {q0 : Nat} {u0 : Int} (hS : Ho w0 w (L))  (hx : T_math_Float64bits (nf q0) = some u0) {K : Value → World → Prop} (hK : ∀  (w1 : World), Ho w0 w1 (L) → K (.int .u64 u0) w1) : CallsX P N.f_math_Float64bits #[.float .f64 q0] w K := by
 unfold T_math_Float64bits at hx
 have hn : isNaN q0 = false := by
  cases e : isNaN q0 with
  | false => rfl
  | true => rw [isNaN_nf, e] at hx; cases hx
 rw [isNaN_nf, hn, nf_of_not hn] at hx
 have hx := some_inj hx
 subst hx
 exact H.math_Float64bits q0 w _ (hK _ hS)

theorem wk_math_Float64frombits {N : Nums} {P : Program} (H : AllOk N P) {w0 w : World} {L : List It} {q0 : Int} {u0 : Nat} (hS : Ho w0 w (L))  (hx : T_math_Float64frombits q0 = some u0) {K : Value → World → Prop} (hK : ∀ (z0 : Nat) (w1 : World), nf z0 = u0 → Ho w0 w1 (L) → K (.float .f64 z0) w1) : CallsX P N.f_math_Float64frombits #[.int .u64 q0] w K := by
 unfold T_math_Float64frombits at hx
 have hx := some_inj hx
 exact H.math_Float64frombits q0 w _ (hK _ _ hx hS)

theorem wk_math_Abs {N : Nums} {P : Program} (H : AllOk N P) {w0 w : World} {L : List It} {q0 : Nat} {u0 : Nat} (hS : Ho w0 w (L))  (hx : T_math_Abs (nf q0) = some u0) {K : Value → World → Prop} (hK : ∀ (z0 : Nat) (w1 : World), nf z0 = u0 → Ho w0 w1 (L) → K (.float .f64 z0) w1) : CallsX P N.f_math_Abs #[.float .f64 q0] w K := by
 unfold T_math_Abs at hx
 have hx := some_inj hx
 refine (abs_c H q0 w).mono ?_
 rintro _ w1 ⟨rfl, h1⟩
 exact hK _ _ ((nf_magF q0).symm.trans hx) (hS.next h1)

theorem wk_math_IsInf {N : Nums} {P : Program} (H : AllOk N P) {w0 w : World} {L : List It} {q0 : Nat} {q1 : Int} {u0 : Bool} (hS : Ho w0 w (L))  (hx : T_math_IsInf (nf q0) q1 = some u0) {K : Value → World → Prop} (hK : ∀  (w1 : World), Ho w0 w1 (L) → K (.bool u0) w1) : CallsX P N.f_math_IsInf #[.float .f64 q0, .int .i64 q1] w K := by
 refine H.math_IsInf q0 q1 w _ ?_
 unfold S_math_IsInf
 unfold T_math_IsInf at hx
 have h := hx
 clear hx
 try dsimp only
 obtain ⟨o2, h2, c2⟩ := bnd h
 refine cutM_i (fun s w => ∃ (z1 : Nat), (nf z1) = o2 ∧ s = (z1, ()) ∧ Ho w0 w (L)) (fun J2 hJ2 => ?_) ?_
 ·
  have h := h2
  clear h2
  refine cond_s h ?_ ?_ <;> clear h <;> intro hc h
  ·
   obtain ⟨t2, ht2, h⟩ := bnd h
   refine wk_math_Abs H hS  ht2 ?_; clear hS ht2; rintro z3 w rfl hS
   refine ⟨_, rfl, ?_⟩
   obtain rfl := some_inj h
   exact hJ2 _ _ ⟨_, rfl, rfl, hS⟩
  ·
   obtain ⟨o5, h5, c5⟩ := bnd h
   refine cutM_i (fun s w => ∃ (z4 : Nat), (nf z4) = o5 ∧ s = (z4, ()) ∧ Ho w0 w (L)) (fun J5 hJ5 => ?_) ?_
   ·
    have h := h5
    clear h5
    refine cond_s h ?_ ?_ <;> clear h <;> intro hc h
    ·
     obtain ⟨t4, ht4, h⟩ := bnd h
     obtain rfl := fneg_s ht4
     clear ht4
     obtain rfl := some_inj h
     exact hJ5 _ _ ⟨_, rfl, rfl, hS⟩
    ·
     obtain rfl := some_inj h
     exact hJ5 _ _ ⟨_, rfl, rfl, hS⟩
   ·
    clear h5 hS
    rintro s w ⟨z4, rfl, rfl, hS⟩
    have h := c5
    clear c5
    try dsimp only
    obtain rfl := some_inj h
    exact hJ2 _ _ ⟨_, rfl, rfl, hS⟩
 ·
  clear h2 hS
  rintro s w ⟨z1, rfl, rfl, hS⟩
  have h := c2
  clear c2
  try dsimp only
  obtain ⟨t5, ht5, h⟩ := bnd h
  obtain rfl := fgt_s ht5
  clear ht5
  have h := some_inj h
  cases h
  exact hK _ hS

theorem wk_bits_Kind {N : Nums} {P : Program} (H : AllOk N P) {w0 w : World} {L : List It} {q0 : Nat} {u0 : Int} (hS : Ho w0 w (L))  (hx : T_bits_Kind (nf q0) = some u0) {K : Value → World → Prop} (hK : ∀  (w1 : World), Ho w0 w1 (L) → K (.int .i64 u0) w1) : CallsX P N.f_bits_Kind #[.float .f64 q0] w K := by
 refine H.bits_Kind q0 w _ ?_
 unfold S_bits_Kind
 unfold T_bits_Kind at hx
 have h := hx
 clear hx
 try dsimp only
 obtain ⟨t1, ht1, h⟩ := bnd h
 refine wk_math_Abs H hS  ht1 ?_; clear hS ht1; rintro z1 w rfl hS
 refine ⟨_, rfl, ?_⟩
 obtain ⟨t2, ht2, h⟩ := bnd h
 obtain rfl := fne_s ht2
 clear ht2
 refine cond_s h ?_ ?_ <;> clear h <;> intro hc h
 ·
  have h := some_inj h
  cases h
  exact hK _ hS
 ·
  obtain ⟨t3, ht3, h⟩ := bnd h
  refine wk_math_IsInf H hS  ht3 ?_; clear hS ht3; rintro w hS
  refine ⟨_, rfl, ?_⟩
  refine cond_s h ?_ ?_ <;> clear h <;> intro hc h
  ·
   have h := some_inj h
   cases h
   exact hK _ hS
  ·
   obtain ⟨t4, ht4, h⟩ := bnd h
   obtain rfl := fge_s ht4
   clear ht4
   refine cond_s h ?_ ?_ <;> clear h <;> intro hc h
   ·
    have h := some_inj h
    cases h
    exact hK _ hS
   ·
    obtain ⟨t5, ht5, h⟩ := bnd h
    obtain rfl := fgt_s ht5
    clear ht5
    refine cond_s h ?_ ?_ <;> clear h <;> intro hc h
    ·
     have h := some_inj h
     cases h
     exact hK _ hS
    ·
     have h := some_inj h
     cases h
     exact hK _ hS

theorem wk_math_Signbit {N : Nums} {P : Program} (H : AllOk N P) {w0 w : World} {L : List It} {q0 : Nat} {u0 : Bool} (hS : Ho w0 w (L))  (hx : T_math_Signbit (nf q0) = some u0) {K : Value → World → Prop} (hK : ∀  (w1 : World), Ho w0 w1 (L) → K (.bool u0) w1) : CallsX P N.f_math_Signbit #[.float .f64 q0] w K := by
 unfold T_math_Signbit at hx
 have hn : isNaN q0 = false := by
  cases e : isNaN q0 with
  | false => rfl
  | true => rw [isNaN_nf, e] at hx; cases hx
 rw [isNaN_nf, hn, nf_of_not hn] at hx
 have hx := some_inj hx
 subst hx
 refine (signbit_c H q0 w).mono ?_
 rintro _ w1 ⟨rfl, h1⟩
 exact hK _ (hS.next h1)

theorem wk_math_IsNaN {N : Nums} {P : Program} (H : AllOk N P) {w0 w : World} {L : List It} {q0 : Nat} {u0 : Bool} (hS : Ho w0 w (L))  (hx : T_math_IsNaN (nf q0) = some u0) {K : Value → World → Prop} (hK : ∀  (w1 : World), Ho w0 w1 (L) → K (.bool u0) w1) : CallsX P N.f_math_IsNaN #[.float .f64 q0] w K := by
 refine H.math_IsNaN q0 w _ ?_
 unfold S_math_IsNaN
 unfold T_math_IsNaN at hx
 have h := hx
 clear hx
 try dsimp only
 obtain ⟨t1, ht1, h⟩ := bnd h
 obtain rfl := fne_s ht1
 clear ht1
 have h := some_inj h
 cases h
 exact hK _ hS

theorem wk_math_normalize {N : Nums} {P : Program} (H : AllOk N P) {w0 w : World} {L : List It} {q0 : Nat} {u0 : Nat} {u1 : Int} (hS : Ho w0 w (L))  (hx : T_math_normalize (nf q0) = some (u0, u1)) {K : Value → World → Prop} (hK : ∀ (z0 : Nat) (w1 : World), nf z0 = u0 → Ho w0 w1 (L) → K (.tuple #[.float .f64 z0, .int .i64 u1]) w1) : CallsX P N.f_math_normalize #[.float .f64 q0] w K := by
 refine H.math_normalize q0 w _ ?_
 unfold S_math_normalize
 unfold T_math_normalize at hx
 have h := hx
 clear hx
 try dsimp only
 obtain ⟨t1, ht1, h⟩ := bnd h
 refine wk_math_Abs H hS  ht1 ?_; clear hS ht1; rintro z1 w rfl hS
 refine ⟨_, rfl, ?_⟩
 obtain ⟨t2, ht2, h⟩ := bnd h
 obtain rfl := flt_s ht2
 clear ht2
 refine cond_s h ?_ ?_ <;> clear h <;> intro hc h
 ·
  obtain ⟨t3, ht3, h⟩ := bnd h
  refine fmul_s ht3 hS ?_; clear hS ht3; rintro z2 w rfl hS
  have h := some_inj h
  cases h
  exact hK _ _ rfl hS
 ·
  have h := some_inj h
  cases h
  exact hK _ _ rfl hS

theorem wk_math_frexp {N : Nums} {P : Program} (H : AllOk N P) {w0 w : World} {L : List It} {q0 : Nat} {u0 : Nat} {u1 : Int} (hS : Ho w0 w (L))  (hx : T_math_frexp (nf q0) = some (u0, u1)) {K : Value → World → Prop} (hK : ∀ (z0 : Nat) (w1 : World), nf z0 = u0 → Ho w0 w1 (L) → K (.tuple #[.float .f64 z0, .int .i64 u1]) w1) : CallsX P N.f_math_frexp #[.float .f64 q0] w K := by
 refine H.math_frexp q0 w _ ?_
 unfold S_math_frexp
 unfold T_math_frexp at hx
 have h := hx
 clear hx
 try dsimp only
 obtain ⟨t1, ht1, h⟩ := bnd h
 obtain rfl := feq_s ht1
 clear ht1
 refine cond_s h ?_ ?_ <;> clear h <;> intro hc h
 ·
  have h := some_inj h
  cases h
  exact hK _ _ rfl hS
 ·
  obtain ⟨t2, ht2, h⟩ := bnd h
  refine wk_math_IsInf H hS  ht2 ?_; clear hS ht2; rintro w hS
  refine ⟨_, rfl, ?_⟩
  refine cond_s h ?_ ?_ <;> clear h <;> intro hc h
  ·
   obtain ⟨t3, ht3, h⟩ := bnd h
   refine wk_math_IsNaN H hS  ht3 ?_; clear hS ht3; rintro w hS
   refine ⟨_, rfl, ?_⟩
   refine cond_s h ?_ ?_ <;> clear h <;> intro hc h
   ·
    have h := some_inj h
    cases h
    exact hK _ _ rfl hS
   ·
    obtain ⟨⟨t4, t5⟩, ho4, h⟩ := bnd h
    refine wk_math_normalize H hS  ho4 ?_; clear hS ho4; rintro z1 w rfl hS
    refine ⟨_, _, rfl, ?_⟩
    obtain ⟨t6, ht6, h⟩ := bnd h
    refine wk_math_Float64bits H hS  ht6 ?_; clear hS ht6; rintro w hS
    refine ⟨_, rfl, ?_⟩
    refine ⟨by decide, ?_⟩
    obtain ⟨t7, ht7, h⟩ := bnd h
    refine wk_math_Float64frombits H hS  ht7 ?_; clear hS ht7; rintro z2 w rfl hS
    refine ⟨_, rfl, ?_⟩
    have h := some_inj h
    cases h
    exact hK _ _ rfl hS
  ·
   have h := some_inj h
   cases h
   exact hK _ _ rfl hS

theorem wk_math_Frexp {N : Nums} {P : Program} (H : AllOk N P) {w0 w : World} {L : List It} {q0 : Nat} {u0 : Nat} {u1 : Int} (hS : Ho w0 w (L))  (hx : T_math_Frexp (nf q0) = some (u0, u1)) {K : Value → World → Prop} (hK : ∀ (z0 : Nat) (w1 : World), nf z0 = u0 → Ho w0 w1 (L) → K (.tuple #[.float .f64 z0, .int .i64 u1]) w1) : CallsX P N.f_math_Frexp #[.float .f64 q0] w K := by
 refine H.math_Frexp q0 w _ ?_
 unfold S_math_Frexp
 unfold T_math_Frexp at hx
 have h := hx
 clear hx
 try dsimp only
 obtain ⟨⟨t1, t2⟩, ho1, h⟩ := bnd h
 refine wk_math_frexp H hS  ho1 ?_; clear hS ho1; rintro z1 w rfl hS
 refine ⟨_, _, rfl, ?_⟩
 have h := some_inj h
 cases h
 exact hK _ _ rfl hS

theorem wk_math_Copysign {N : Nums} {P : Program} (H : AllOk N P) {w0 w : World} {L : List It} {q0 : Nat} {q1 : Nat} {u0 : Nat} (hS : Ho w0 w (L))  (hx : T_math_Copysign (nf q0) (nf q1) = some u0) {K : Value → World → Prop} (hK : ∀ (z0 : Nat) (w1 : World), nf z0 = u0 → Ho w0 w1 (L) → K (.float .f64 z0) w1) : CallsX P N.f_math_Copysign #[.float .f64 q0, .float .f64 q1] w K := by
 unfold T_math_Copysign at hx
 have hn : isNaN q1 = false := by
  cases e : isNaN q1 with
  | false => rfl
  | true => rw [isNaN_nf, e] at hx; cases hx
 rw [isNaN_nf, hn, nf_of_not hn] at hx
 have hx := some_inj hx
 refine (copysign_c H q0 q1 w).mono ?_
 rintro _ w1 ⟨rfl, h1⟩
 exact hK _ _ ((nf_copy _ _).symm.trans hx) (hS.next h1)

theorem wk_math_Inf {N : Nums} {P : Program} (H : AllOk N P) {w0 w : World} {L : List It} {q0 : Int} {u0 : Nat} (hS : Ho w0 w (L))  (hx : T_math_Inf q0 = some u0) {K : Value → World → Prop} (hK : ∀ (z0 : Nat) (w1 : World), nf z0 = u0 → Ho w0 w1 (L) → K (.float .f64 z0) w1) : CallsX P N.f_math_Inf #[.int .i64 q0] w K := by
 refine H.math_Inf q0 w _ ?_
 unfold S_math_Inf
 unfold T_math_Inf at hx
 have h := hx
 clear hx
 try dsimp only
 obtain ⟨o1, h1, c1⟩ := bnd h
 refine cutM_i (fun s w => ∃ (t1 : Int), t1 = o1 ∧ s = (t1, ()) ∧ Ho w0 w (L)) (fun J1 hJ1 => ?_) ?_
 ·
  have h := h1
  clear h1
  refine cond_s h ?_ ?_ <;> clear h <;> intro hc h
  ·
   obtain rfl := some_inj h
   exact hJ1 _ _ ⟨_, rfl, rfl, hS⟩
  ·
   obtain rfl := some_inj h
   exact hJ1 _ _ ⟨_, rfl, rfl, hS⟩
 ·
  clear h1 hS
  rintro s w ⟨t1, rfl, rfl, hS⟩
  have h := c1
  clear c1
  try dsimp only
  obtain ⟨t2, ht2, h⟩ := bnd h
  refine wk_math_Float64frombits H hS  ht2 ?_; clear hS ht2; rintro z2 w rfl hS
  refine ⟨_, rfl, ?_⟩
  have h := some_inj h
  cases h
  exact hK _ _ rfl hS

theorem wk_math_ldexp {N : Nums} {P : Program} (H : AllOk N P) {w0 w : World} {L : List It} {q0 : Nat} {q1 : Int} {u0 : Nat} (hS : Ho w0 w (L))  (hx : T_math_ldexp (nf q0) q1 = some u0) {K : Value → World → Prop} (hK : ∀ (z0 : Nat) (w1 : World), nf z0 = u0 → Ho w0 w1 (L) → K (.float .f64 z0) w1) : CallsX P N.f_math_ldexp #[.float .f64 q0, .int .i64 q1] w K := by
 refine H.math_ldexp q0 q1 w _ ?_
 unfold S_math_ldexp
 unfold T_math_ldexp at hx
 have h := hx
 clear hx
 try dsimp only
 obtain ⟨t1, ht1, h⟩ := bnd h
 obtain rfl := feq_s ht1
 clear ht1
 refine cond_s h ?_ ?_ <;> clear h <;> intro hc h
 ·
  have h := some_inj h
  cases h
  exact hK _ _ rfl hS
 ·
  obtain ⟨o1, h1, c1⟩ := bnd h
  refine cutM_i (fun s w => ∃ (t2 : Bool), t2 = o1 ∧ s = (t2, ()) ∧ Ho w0 w (L)) (fun J1 hJ1 => ?_) ?_
  ·
   have h := h1
   clear h1
   obtain ⟨t3, ht3, h⟩ := bnd h
   refine wk_math_IsInf H hS  ht3 ?_; clear hS ht3; rintro w hS
   refine ⟨_, rfl, ?_⟩
   refine cond_s h ?_ ?_ <;> clear h <;> intro hc h
   ·
    obtain ⟨t4, ht4, h⟩ := bnd h
    refine wk_math_IsNaN H hS  ht4 ?_; clear hS ht4; rintro w hS
    refine ⟨_, rfl, ?_⟩
    obtain rfl := some_inj h
    exact hJ1 _ _ ⟨_, rfl, rfl, hS⟩
   ·
    obtain rfl := some_inj h
    exact hJ1 _ _ ⟨_, rfl, rfl, hS⟩
  ·
   clear h1 hS
   rintro s w ⟨t2, rfl, rfl, hS⟩
   have h := c1
   clear c1
   try dsimp only
   refine cond_s h ?_ ?_ <;> clear h <;> intro hc h
   ·
    have h := some_inj h
    cases h
    exact hK _ _ rfl hS
   ·
    obtain ⟨⟨t5, t6⟩, ho5, h⟩ := bnd h
    refine wk_math_normalize H hS  ho5 ?_; clear hS ho5; rintro z2 w rfl hS
    refine ⟨_, _, rfl, ?_⟩
    obtain ⟨t7, ht7, h⟩ := bnd h
    refine wk_math_Float64bits H hS  ht7 ?_; clear hS ht7; rintro w hS
    refine ⟨_, rfl, ?_⟩
    refine ⟨by decide, ?_⟩
    refine cond_s h ?_ ?_ <;> clear h <;> intro hc h
    ·
     obtain ⟨t8, ht8, h⟩ := bnd h
     refine wk_math_Copysign H hS  ht8 ?_; clear hS ht8; rintro z3 w rfl hS
     refine ⟨_, rfl, ?_⟩
     have h := some_inj h
     cases h
     exact hK _ _ rfl hS
    ·
     refine cond_s h ?_ ?_ <;> clear h <;> intro hc h
     ·
      obtain ⟨t9, ht9, h⟩ := bnd h
      obtain rfl := flt_s ht9
      clear ht9
      refine cond_s h ?_ ?_ <;> clear h <;> intro hc h
      ·
       obtain ⟨t10, ht10, h⟩ := bnd h
       refine wk_math_Inf H hS  ht10 ?_; clear hS ht10; rintro z4 w rfl hS
       refine ⟨_, rfl, ?_⟩
       have h := some_inj h
       cases h
       exact hK _ _ rfl hS
      ·
       obtain ⟨t11, ht11, h⟩ := bnd h
       refine wk_math_Inf H hS  ht11 ?_; clear hS ht11; rintro z5 w rfl hS
       refine ⟨_, rfl, ?_⟩
       have h := some_inj h
       cases h
       exact hK _ _ rfl hS
     ·
      obtain ⟨o7, h7, c7⟩ := bnd h
      refine cutM_i (fun s w => ∃ (t12 : Int) (z6 : Nat), (t12, (nf z6)) = o7 ∧ s = (t12, z6, ()) ∧ Ho w0 w (L)) (fun J7 hJ7 => ?_) ?_
      ·
       have h := h7
       clear h7
       refine cond_s h ?_ ?_ <;> clear h <;> intro hc h
       ·
        obtain rfl := some_inj h
        exact hJ7 _ _ ⟨_, _, rfl, rfl, hS⟩
       ·
        obtain rfl := some_inj h
        exact hJ7 _ _ ⟨_, _, rfl, rfl, hS⟩
      ·
       clear h7 hS
       rintro s w ⟨t12, z6, rfl, rfl, hS⟩
       have h := c7
       clear c7
       try dsimp only
       refine ⟨by decide, ?_⟩
       obtain ⟨t14, ht14, h⟩ := bnd h
       refine wk_math_Float64frombits H hS  ht14 ?_; clear hS ht14; rintro z8 w rfl hS
       refine ⟨_, rfl, ?_⟩
       obtain ⟨t15, ht15, h⟩ := bnd h
       refine fmul_s ht15 hS ?_; clear hS ht15; rintro z9 w rfl hS
       have h := some_inj h
       cases h
       exact hK _ _ rfl hS

theorem wk_math_Ldexp {N : Nums} {P : Program} (H : AllOk N P) {w0 w : World} {L : List It} {q0 : Nat} {q1 : Int} {u0 : Nat} (hS : Ho w0 w (L))  (hx : T_math_Ldexp (nf q0) q1 = some u0) {K : Value → World → Prop} (hK : ∀ (z0 : Nat) (w1 : World), nf z0 = u0 → Ho w0 w1 (L) → K (.float .f64 z0) w1) : CallsX P N.f_math_Ldexp #[.float .f64 q0, .int .i64 q1] w K := by
 refine H.math_Ldexp q0 q1 w _ ?_
 unfold S_math_Ldexp
 unfold T_math_Ldexp at hx
 have h := hx
 clear hx
 try dsimp only
 obtain ⟨t1, ht1, h⟩ := bnd h
 refine wk_math_ldexp H hS  ht1 ?_; clear hS ht1; rintro z1 w rfl hS
 refine ⟨_, rfl, ?_⟩
 have h := some_inj h
 cases h
 exact hK _ _ rfl hS

theorem wk_math_bits_TrailingZeros64 {N : Nums} {P : Program} (H : AllOk N P) {w0 w : World} {L : List It} {q0 : Int} {u0 : Int} (hS : Ho w0 w (L)) (hG : Ent L (tab64 N.g_1)) (hx : T_math_bits_TrailingZeros64 q0 = some u0) {K : Value → World → Prop} (hK : ∀  (w1 : World), Ho w0 w1 (L) → K (.int .i64 u0) w1) : CallsX P N.f_math_bits_TrailingZeros64 #[.int .u64 q0] w K := by
 unfold T_math_bits_TrailingZeros64 at hx
 have hx := some_inj hx
 subst hx
 exact tz64_c H hS hG hK

theorem wk_bits_Split {N : Nums} {P : Program} (H : AllOk N P) {w0 w : World} {L : List It} {q0 : Nat} {u0 : Bool} {u1 : Int} {u2 : Int} {u3 : Bool} (hS : Ho w0 w (L)) (hG : Ent L (tab64 N.g_1)) (hx : T_bits_Split (nf q0) = some (u0, u1, u2, u3)) {K : Value → World → Prop} (hK : ∀  (w1 : World), Ho w0 w1 (L) → K (.tuple #[.agg #[.bool u0, .int .u64 u1, .int .i64 u2], .bool u3]) w1) : CallsX P N.f_bits_Split #[.float .f64 q0] w K := by
 refine H.bits_Split q0 w _ ?_
 unfold S_bits_Split
 unfold T_bits_Split at hx
 have h := hx
 clear hx
 try dsimp only
 refine newM_s hS ?_; clear hS; intro r1 w hS
 obtain ⟨t1, ht1, h⟩ := bnd h
 refine wk_bits_Kind H hS  ht1 ?_; clear hS ht1; rintro w hS
 refine ⟨_, rfl, ?_⟩
 refine cond_s h ?_ ?_ <;> clear h <;> intro hc h
 ·
  refine stc_s hS rfl rfl ?_; clear hS; intro w hS
  refine stc_s hS rfl rfl ?_; clear hS; intro w hS
  refine stc_s hS rfl rfl ?_; clear hS; intro w hS
  refine ⟨_, (hS.cel mp0 rfl), ?_⟩
  refine ⟨_, (hS.cel mp0 rfl), ?_⟩
  refine ⟨_, (hS.cel mp0 rfl), ?_⟩
  have h := some_inj h
  cases h
  exact hK _ (hS.pick (A := [_]) [] rfl)
 ·
  obtain ⟨t2, ht2, h⟩ := bnd h
  refine wk_math_Signbit H hS  ht2 ?_; clear hS ht2; rintro w hS
  refine ⟨_, rfl, ?_⟩
  refine newM_s hS ?_; clear hS; intro r2 w hS
  refine stc_s hS rfl rfl ?_; clear hS; intro w hS
  refine stc_s hS rfl rfl ?_; clear hS; intro w hS
  refine stc_s hS rfl rfl ?_; clear hS; intro w hS
  obtain ⟨t3, ht3, h⟩ := bnd h
  obtain rfl := feq_s ht3
  clear ht3
  refine cond_s h ?_ ?_ <;> clear h <;> intro hc h
  ·
   refine ⟨_, (hS.cel mp0 rfl), ?_⟩
   refine ⟨_, (hS.cel mp0 rfl), ?_⟩
   refine ⟨_, (hS.cel mp0 rfl), ?_⟩
   replace hS := ro1 hS
   refine stc_s hS rfl rfl ?_; clear hS; intro w hS
   refine stc_s hS rfl rfl ?_; clear hS; intro w hS
   refine stc_s hS rfl rfl ?_; clear hS; intro w hS
   refine ⟨_, (hS.cel mp0 rfl), ?_⟩
   refine ⟨_, (hS.cel mp0 rfl), ?_⟩
   refine ⟨_, (hS.cel mp0 rfl), ?_⟩
   have h := some_inj h
   cases h
   exact hK _ (hS.pick (A := [_, _]) [] rfl)
  ·
   obtain ⟨t4, ht4, h⟩ := bnd h
   refine wk_math_Abs H hS  ht4 ?_; clear hS ht4; rintro z3 w rfl hS
   refine ⟨_, rfl, ?_⟩
   obtain ⟨⟨t5, t6⟩, ho5, h⟩ := bnd h
   refine wk_math_Frexp H hS  ho5 ?_; clear hS ho5; rintro z4 w rfl hS
   refine ⟨_, _, rfl, ?_⟩
   obtain ⟨t7, ht7, h⟩ := bnd h
   refine wk_math_Ldexp H hS  ht7 ?_; clear hS ht7; rintro z5 w rfl hS
   refine ⟨_, rfl, ?_⟩
   obtain ⟨t8, ht8, h⟩ := bnd h
   refine f2i_s ht8 hS ?_; clear hS ht8; intro w hS
   refine stc_s hS rfl rfl ?_; clear hS; intro w hS
   refine ⟨_, (hS.cel mp0 rfl), ?_⟩
   obtain ⟨t9, ht9, h⟩ := bnd h
   refine wk_math_bits_TrailingZeros64 H hS (hG.mono tl2) ht9 ?_; clear hS ht9; rintro w hS
   refine ⟨_, rfl, ?_⟩
   refine ⟨_, (hS.cel mp0 rfl), ?_⟩
   obtain ⟨t10, ht10, h⟩ := bnd h
   refine ⟨nn_s ht10, ?_⟩
   clear ht10
   refine stc_s hS rfl rfl ?_; clear hS; intro w hS
   refine stc_s hS rfl rfl ?_; clear hS; intro w hS
   refine ⟨_, (hS.cel mp0 rfl), ?_⟩
   refine ⟨_, (hS.cel mp0 rfl), ?_⟩
   refine ⟨_, (hS.cel mp0 rfl), ?_⟩
   replace hS := ro1 hS
   refine stc_s hS rfl rfl ?_; clear hS; intro w hS
   refine stc_s hS rfl rfl ?_; clear hS; intro w hS
   refine stc_s hS rfl rfl ?_; clear hS; intro w hS
   refine ⟨_, (hS.cel mp0 rfl), ?_⟩
   refine ⟨_, (hS.cel mp0 rfl), ?_⟩
   refine ⟨_, (hS.cel mp0 rfl), ?_⟩
   have h := some_inj h
   cases h
   exact hK _ (hS.pick (A := [_, _]) [] rfl)

theorem wk_dyad_Of {N : Nums} {P : Program} (H : AllOk N P) {w0 w : World} {L : List It} {q0 : Nat} {u0 : Bool} {u1 : List Int} {u2 : Int} {u3 : Int} (hS : Ho w0 w (L)) (hG : Ent L (tab64 N.g_1)) (hx : T_dyad_Of (nf q0) = some (u0, u1, u2, u3)) {K : Value → World → Prop} (hK : ∀ (a1 : Option Addr) (n1 c1 : Nat) (w1 : World), Ho w0 w1 ((sl a1 n1 c1 (List.map (Value.int .u64) u1) N.t_uint64) :: L) → K (.tuple #[.agg #[.bool u0, .slice a1 n1 c1, .int .i64 u2], .int .i64 u3]) w1) : CallsX P N.f_dyad_Of #[.float .f64 q0] w K := by
 refine H.dyad_Of q0 w _ ?_
 unfold S_dyad_Of
 unfold T_dyad_Of at hx
 have h := hx
 clear hx
 try dsimp only
 refine newM_s hS ?_; clear hS; intro r1 w hS
 obtain ⟨⟨t1, t2, t3, t4⟩, ho1, h⟩ := bnd h
 refine wk_bits_Split H hS (hG.mono tl1) ho1 ?_; clear hS ho1; rintro w hS
 refine ⟨_, _, _, _, rfl, ?_⟩
 refine newM_s hS ?_; clear hS; intro r2 w hS
 refine stc_s hS rfl rfl ?_; clear hS; intro w hS
 refine stc_s hS rfl rfl ?_; clear hS; intro w hS
 refine stc_s hS rfl rfl ?_; clear hS; intro w hS
 refine cond_s h ?_ ?_ <;> clear h <;> intro hc h
 ·
  replace hS := ro1 hS
  refine stc_s hS rfl rfl ?_; clear hS; intro w hS
  refine stc_s hS rfl rfl ?_; clear hS; intro w hS
  refine stc_s hS rfl rfl ?_; clear hS; intro w hS
  refine ⟨_, (hS.cel mp0 rfl), ?_⟩
  refine ⟨_, _, _, (hS.cel mp0 rfl), ?_⟩
  refine ⟨_, (hS.cel mp0 rfl), ?_⟩
  replace hS := hS.none (α := Int) (enc := (Value.int .u64)) (t := N.t_uint64)
  have h := some_inj h
  cases h
  exact hK _ _ _ _ (hS.pick (A := [_, _, _]) [0] rfl)
 ·
  refine ⟨_, (hS.cel mp0 rfl), ?_⟩
  refine cond_s h ?_ ?_ <;> clear h <;> intro hc h
  ·
   replace hS := ro1 hS
   refine stc_s hS rfl rfl ?_; clear hS; intro w hS
   refine stc_s hS rfl rfl ?_; clear hS; intro w hS
   refine stc_s hS rfl rfl ?_; clear hS; intro w hS
   refine ⟨_, (hS.cel mp0 rfl), ?_⟩
   refine ⟨_, _, _, (hS.cel mp0 rfl), ?_⟩
   refine ⟨_, (hS.cel mp0 rfl), ?_⟩
   replace hS := hS.none (α := Int) (enc := (Value.int .u64)) (t := N.t_uint64)
   have h := some_inj h
   cases h
   exact hK _ _ _ _ (hS.pick (A := [_, _, _]) [0] rfl)
  ·
   refine ⟨_, (hS.cel mp0 rfl), ?_⟩
   refine ⟨_, (hS.cel mp0 rfl), ?_⟩
   obtain ⟨t5, ht5, h⟩ := bnd h
   obtain rfl : ([t2] : List Int) = t5 := some_inj ht5
   clear ht5
   refine lit_s (ks := [t2]) (enc := (Value.int .u64)) (m := 1) hS rfl rfl ?_; clear hS; intro r3 w hS
   refine ⟨_, (hS.cel mp1 rfl), ?_⟩
   replace hS := ro2 hS
   refine stc_s hS rfl rfl ?_; clear hS; intro w hS
   refine stc_s hS rfl rfl ?_; clear hS; intro w hS
   refine stc_s hS rfl rfl ?_; clear hS; intro w hS
   refine ⟨_, (hS.cel mp0 rfl), ?_⟩
   refine ⟨_, _, _, (hS.cel mp0 rfl), ?_⟩
   refine ⟨_, (hS.cel mp0 rfl), ?_⟩
   have h := some_inj h
   cases h
   exact hK _ _ _ _ (hS.pick (A := [_, _, _]) [1] rfl)

theorem wk_bignum_NewInt {N : Nums} {P : Program} (H : AllOk N P) {w0 w : World} {L : List It} {q0 : Int} {u0 : Int} (hS : Ho w0 w (L))  (hx : T_bignum_NewInt q0 = some u0) {K : Value → World → Prop} (hK : ∀ (r0 : Nat) (a0 : Option Addr) (n0 c0 : Nat) (w1 : World), Ho w0 w1 ((bg N.t_bignum_Int N.t_uint32 r0 a0 n0 c0 u0) :: L) → K (.pointer (some ⟨r0, 0, none⟩)) w1) : CallsX P N.f_bignum_NewInt #[.int .i64 q0] w K := by
 refine H.bignum_NewInt q0 w _ ?_
 unfold S_bignum_NewInt
 unfold T_bignum_NewInt at hx
 have h := hx
 clear hx
 try dsimp only
 refine newM_s hS ?_; clear hS; intro r1 w hS; replace hS := Ho.bgNew (E := N.t_uint32) hS
 obtain ⟨t1, ht1, h⟩ := bnd h
 refine big_SetInt64_z H hS  ht1 ?_; clear hS ht1; intro a2 m2 c2 w hS
 refine ⟨_, rfl, ?_⟩
 have h := some_inj h
 cases h
 exact hK _ _ _ _ _ hS

theorem wk_dyad_limbs {N : Nums} {P : Program} (H : AllOk N P) {w0 w : World} {L : List It} {q0 : Nat} {q0a : Option Addr} {q0l q0c : Nat} {y0 : Int} {u0 : List Int} (hS : Ho w0 w (L)) (hq0 : Ent L (bgR N.t_bignum_Int q0 q0a q0l q0c y0)) (hx : T_dyad_limbs y0 = some u0) {K : Value → World → Prop} (hK : ∀ (a0 : Option Addr) (n0 c0 : Nat) (w1 : World), Ho w0 w1 ((sl a0 n0 c0 (List.map (Value.int .u64) u0) N.t_uint64) :: L) → K (.slice a0 n0 c0) w1) : CallsX P N.f_dyad_limbs #[.pointer (some ⟨q0, 0, none⟩)] w K := by
 refine H.dyad_limbs (some ⟨q0, 0, none⟩) w _ ?_
 unfold S_dyad_limbs
 unfold T_dyad_limbs at hx
 have h := hx
 clear hx
 try dsimp only
 refine newM_s hS ?_; clear hS; intro r1 w hS; replace hS := Ho.bgNew (E := N.t_uint32) hS
 obtain ⟨t1, ht1, h⟩ := bnd h
 refine big_Abs_zx H hS hq0 ht1 ?_; clear hS ht1; intro a2 m2 c2 w hS
 refine ⟨_, rfl, ?_⟩
 refine newM_s hS ?_; clear hS; intro r3 w hS; replace hS := Ho.bgNew (E := N.t_uint32) hS
 refine newM_s hS ?_; clear hS; intro r4 w hS; replace hS := Ho.bgNew (E := N.t_uint32) hS
 obtain ⟨t2, ht2, h⟩ := bnd h
 refine big_SetUint64_z H hS  ht2 ?_; clear hS ht2; intro a5 m5 c5 w hS
 refine ⟨_, rfl, ?_⟩
 obtain ⟨o9, h9, c9⟩ := bnd h
 refine cutM_i (fun s w => ∃ (a6 : Option Addr) (m7 : Nat) (c8 : Nat) (t3 : List Int), t3 = o9 ∧ s = ((a6, m7, c8), ()) ∧ Ho w0 w ((sl a6 m7 c8 (List.map (Value.int .u64) t3) N.t_uint64) :: L)) (fun J9 hJ9 => ?_) ?_
 ·
  have h := h9
  clear h9
  replace hS := hS.none (α := Int) (enc := (Value.int .u64)) (t := N.t_uint64)
  refine iter_sim (fun s w t => ∃ (a10 : Option Addr) (m11 : Nat) (c12 : Nat) (t4 : Int) (a13 : Option Addr) (m14 : Nat) (c15 : Nat) (t5 : Int) (a16 : Option Addr) (m17 : Nat) (c18 : Nat) (t6 : List Int), (t4, t5, t6) = t ∧ s = ((a16, m17, c18), ()) ∧ Ho w0 w ((bg N.t_bignum_Int N.t_uint32 r4 a5 m5 c5 t2) :: (bg N.t_bignum_Int N.t_uint32 r3 a10 m11 c12 t4) :: (bg N.t_bignum_Int N.t_uint32 r1 a13 m14 c15 t5) :: (sl a16 m17 c18 (List.map (Value.int .u64) t6) N.t_uint64) :: L)) ?_ h ⟨_, _, _, _, _, _, _, _, _, _, _, _, rfl, rfl, (hS.pick (A := [_, _, _, _]) [1, 1, 1, 0] rfl)⟩
  clear h hS
  rintro s w t X q ⟨a10, m11, c12, t4, a13, m14, c15, t5, a16, m17, c18, t6, rfl, rfl, hS⟩ h hX hO
  unfold T_dyad_limbs_b2 at h
  try dsimp only
  obtain ⟨t7, ht7, h⟩ := bnd h
  refine big_Sign_x H hS (Ent.bg mp2) ht7 ?_; clear hS ht7; intro w hS
  refine ⟨_, rfl, ?_⟩
  refine cond_s h ?_ ?_ <;> clear h <;> intro hc h
  ·
   obtain ⟨t8, ht8, h⟩ := bnd h
   replace hS := ro1 hS
   refine big_And_zxy H hS (Ent.bg mp1) (Ent.bg mp0) ht8 ?_; clear hS ht8; intro a19 m19 c19 w hS
   refine ⟨_, rfl, ?_⟩
   obtain ⟨t9, ht9, h⟩ := bnd h
   refine big_Uint64_x H hS (Ent.bg mp0) ht9 ?_; clear hS ht9; intro w hS
   refine ⟨_, rfl, ?_⟩
   obtain ⟨t10, ht10, h⟩ := bnd h
   obtain rfl : ([t9] : List Int) = t10 := some_inj ht10
   clear ht10
   refine lit_s (ks := [t9]) (enc := (Value.int .u64)) (m := 1) hS rfl rfl ?_; clear hS; intro r20 w hS
   obtain ⟨t11, ht11, h⟩ := bnd h
   obtain ⟨rfl, kt11⟩ := appE ht11
   clear ht11
   replace hS := ro4 hS
   refine app_s hS kt11 ((Ent.sl mp1).now (fun _ h => h) hS) (fun _ => rfl) rfl ?_; clear hS kt11; intro a21 c21 w hS
   obtain ⟨t12, ht12, h⟩ := bnd h
   replace hS := ro4 hS
   refine big_Rsh_zz H hS  ht12 ?_; clear hS ht12; intro a22 m22 c22 w hS
   refine ⟨_, rfl, ?_⟩
   obtain rfl := some_inj h
   exact hX _ rfl _ _ ⟨_, _, _, _, _, _, _, _, _, _, _, _, rfl, rfl, (hS.pick (A := [_, _, _, _, _]) [4, 3, 0, 0] rfl)⟩
  ·
   obtain rfl := some_inj h
   have h := congrArg some (hO _ rfl)
   obtain rfl := some_inj h
   exact hJ9 _ _ ⟨_, _, _, _, rfl, rfl, (hS.pick (A := [_, _, _, _]) [3] rfl)⟩
 ·
  clear h9 hS
  rintro s w ⟨a6, m7, c8, t3, rfl, rfl, hS⟩
  have h := c9
  clear c9
  try dsimp only
  have h := some_inj h
  cases h
  exact hK _ _ _ _ hS

theorem wk_dyad_made {N : Nums} {P : Program} (H : AllOk N P) {w0 w : World} {L : List It} {q0 : Nat} {q0a : Option Addr} {q0l q0c : Nat} {y0 : Int} {q1 : Int} {u0 : Bool} {u1 : List Int} {u2 : Int} {u3 : Int} (hS : Ho w0 w (L)) (hq0 : Ent L (bgR N.t_bignum_Int q0 q0a q0l q0c y0)) (hx : T_dyad_made y0 q1 = some (u0, u1, u2, u3)) {K : Value → World → Prop} (hK : ∀ (a1 : Option Addr) (n1 c1 : Nat) (w1 : World), Ho w0 w1 ((sl a1 n1 c1 (List.map (Value.int .u64) u1) N.t_uint64) :: L) → K (.tuple #[.agg #[.bool u0, .slice a1 n1 c1, .int .i64 u2], .int .i64 u3]) w1) : CallsX P N.f_dyad_made #[.pointer (some ⟨q0, 0, none⟩), .int .i64 q1] w K := by
 refine H.dyad_made (some ⟨q0, 0, none⟩) q1 w _ ?_
 unfold S_dyad_made
 unfold T_dyad_made at hx
 have h := hx
 clear hx
 try dsimp only
 refine newM_s hS ?_; clear hS; intro r1 w hS
 obtain ⟨t1, ht1, h⟩ := bnd h
 refine big_Sign_x H hS (hq0.mono tl1) ht1 ?_; clear hS ht1; intro w hS
 refine ⟨_, rfl, ?_⟩
 refine cond_s h ?_ ?_ <;> clear h <;> intro hc h
 ·
  refine stc_s hS rfl rfl ?_; clear hS; intro w hS
  refine stc_s hS rfl rfl ?_; clear hS; intro w hS
  refine stc_s hS rfl rfl ?_; clear hS; intro w hS
  refine ⟨_, (hS.cel mp0 rfl), ?_⟩
  refine ⟨_, _, _, (hS.cel mp0 rfl), ?_⟩
  refine ⟨_, (hS.cel mp0 rfl), ?_⟩
  replace hS := hS.none (α := Int) (enc := (Value.int .u64)) (t := N.t_uint64)
  have h := some_inj h
  cases h
  exact hK _ _ _ _ (hS.pick (A := [_, _]) [0] rfl)
 ·
  obtain ⟨t2, ht2, h⟩ := bnd h
  refine big_TrailingZeroBits_x H hS (hq0.mono tl1) ht2 ?_; clear hS ht2; intro w hS
  refine ⟨_, rfl, ?_⟩
  refine cond_s h ?_ ?_ <;> clear h <;> intro hc h
  ·
   refine stc_s hS rfl rfl ?_; clear hS; intro w hS
   refine stc_s hS rfl rfl ?_; clear hS; intro w hS
   refine stc_s hS rfl rfl ?_; clear hS; intro w hS
   refine ⟨_, (hS.cel mp0 rfl), ?_⟩
   refine ⟨_, _, _, (hS.cel mp0 rfl), ?_⟩
   refine ⟨_, (hS.cel mp0 rfl), ?_⟩
   replace hS := hS.none (α := Int) (enc := (Value.int .u64)) (t := N.t_uint64)
   have h := some_inj h
   cases h
   exact hK _ _ _ _ (hS.pick (A := [_, _]) [0] rfl)
  ·
   refine cond_s h ?_ ?_ <;> clear h <;> intro hc h
   ·
    refine stc_s hS rfl rfl ?_; clear hS; intro w hS
    refine stc_s hS rfl rfl ?_; clear hS; intro w hS
    refine stc_s hS rfl rfl ?_; clear hS; intro w hS
    refine ⟨_, (hS.cel mp0 rfl), ?_⟩
    refine ⟨_, _, _, (hS.cel mp0 rfl), ?_⟩
    refine ⟨_, (hS.cel mp0 rfl), ?_⟩
    replace hS := hS.none (α := Int) (enc := (Value.int .u64)) (t := N.t_uint64)
    have h := some_inj h
    cases h
    exact hK _ _ _ _ (hS.pick (A := [_, _]) [0] rfl)
   ·
    refine cond_s h ?_ ?_ <;> clear h <;> intro hc h
    ·
     refine stc_s hS rfl rfl ?_; clear hS; intro w hS
     refine stc_s hS rfl rfl ?_; clear hS; intro w hS
     refine stc_s hS rfl rfl ?_; clear hS; intro w hS
     refine ⟨_, (hS.cel mp0 rfl), ?_⟩
     refine ⟨_, _, _, (hS.cel mp0 rfl), ?_⟩
     refine ⟨_, (hS.cel mp0 rfl), ?_⟩
     replace hS := hS.none (α := Int) (enc := (Value.int .u64)) (t := N.t_uint64)
     have h := some_inj h
     cases h
     exact hK _ _ _ _ (hS.pick (A := [_, _]) [0] rfl)
    ·
     obtain ⟨t3, ht3, h⟩ := bnd h
     refine big_BitLen_x H hS (hq0.mono tl1) ht3 ?_; clear hS ht3; intro w hS
     refine ⟨_, rfl, ?_⟩
     refine cond_s h ?_ ?_ <;> clear h <;> intro hc h
     ·
      refine stc_s hS rfl rfl ?_; clear hS; intro w hS
      refine stc_s hS rfl rfl ?_; clear hS; intro w hS
      refine stc_s hS rfl rfl ?_; clear hS; intro w hS
      refine ⟨_, (hS.cel mp0 rfl), ?_⟩
      refine ⟨_, _, _, (hS.cel mp0 rfl), ?_⟩
      refine ⟨_, (hS.cel mp0 rfl), ?_⟩
      replace hS := hS.none (α := Int) (enc := (Value.int .u64)) (t := N.t_uint64)
      have h := some_inj h
      cases h
      exact hK _ _ _ _ (hS.pick (A := [_, _]) [0] rfl)
     ·
      obtain ⟨t4, ht4, h⟩ := bnd h
      refine big_Sign_x H hS (hq0.mono tl1) ht4 ?_; clear hS ht4; intro w hS
      refine ⟨_, rfl, ?_⟩
      refine newM_s hS ?_; clear hS; intro r2 w hS; replace hS := Ho.bgNew (E := N.t_uint32) hS
      refine newM_s hS ?_; clear hS; intro r3 w hS; replace hS := Ho.bgNew (E := N.t_uint32) hS
      obtain ⟨t5, ht5, h⟩ := bnd h
      refine big_Abs_zx H hS (hq0.mono tl2) ht5 ?_; clear hS ht5; intro a4 m4 c4 w hS
      refine ⟨_, rfl, ?_⟩
      obtain ⟨t6, ht6, h⟩ := bnd h
      replace hS := ro1 hS
      refine big_Rsh_zx H hS (Ent.bg mp0) ht6 ?_; clear hS ht6; intro a5 m5 c5 w hS
      refine ⟨_, rfl, ?_⟩
      obtain ⟨t7, ht7, h⟩ := bnd h
      refine wk_dyad_limbs H hS (Ent.bg mp0) ht7 ?_; clear hS ht7; rintro a6 m6 c6 w hS
      refine ⟨_, _, _, rfl, ?_⟩
      replace hS := ro3 hS
      refine stc_s hS rfl rfl ?_; clear hS; intro w hS
      refine stc_s hS rfl rfl ?_; clear hS; intro w hS
      refine stc_s hS rfl rfl ?_; clear hS; intro w hS
      refine ⟨_, (hS.cel mp0 rfl), ?_⟩
      refine ⟨_, _, _, (hS.cel mp0 rfl), ?_⟩
      refine ⟨_, (hS.cel mp0 rfl), ?_⟩
      have h := some_inj h
      cases h
      exact hK _ _ _ _ (hS.pick (A := [_, _, _, _]) [1] rfl)

theorem wk_dyad_Int {N : Nums} {P : Program} (H : AllOk N P) {w0 w : World} {L : List It} {q0 : Int} {u0 : Bool} {u1 : List Int} {u2 : Int} (hS : Ho w0 w (L))  (hx : T_dyad_Int q0 = some (u0, u1, u2)) {K : Value → World → Prop} (hK : ∀ (a1 : Option Addr) (n1 c1 : Nat) (w1 : World), Ho w0 w1 ((sl a1 n1 c1 (List.map (Value.int .u64) u1) N.t_uint64) :: L) → K (.agg #[.bool u0, .slice a1 n1 c1, .int .i64 u2]) w1) : CallsX P N.f_dyad_Int #[.int .i64 q0] w K := by
 refine H.dyad_Int q0 w _ ?_
 unfold S_dyad_Int
 unfold T_dyad_Int at hx
 have h := hx
 clear hx
 try dsimp only
 refine newM_s hS ?_; clear hS; intro r1 w hS
 obtain ⟨t1, ht1, h⟩ := bnd h
 refine wk_bignum_NewInt H hS  ht1 ?_; clear hS ht1; rintro r2 a2 m2 c2 w hS
 refine ⟨_, rfl, ?_⟩
 obtain ⟨⟨t2, t3, t4, t5⟩, ho2, h⟩ := bnd h
 refine wk_dyad_made H hS (Ent.bg mp0) ho2 ?_; clear hS ho2; rintro a3 m3 c3 w hS
 refine ⟨_, _, _, _, _, _, rfl, ?_⟩
 refine newM_s hS ?_; clear hS; intro r4 w hS
 refine stc_s hS rfl rfl ?_; clear hS; intro w hS
 refine stc_s hS rfl rfl ?_; clear hS; intro w hS
 refine stc_s hS rfl rfl ?_; clear hS; intro w hS
 refine ⟨_, (hS.cel mp0 rfl), ?_⟩
 refine ⟨_, _, _, (hS.cel mp0 rfl), ?_⟩
 refine ⟨_, (hS.cel mp0 rfl), ?_⟩
 replace hS := ro3 hS
 refine stc_s hS rfl rfl ?_; clear hS; intro w hS
 refine stc_s hS rfl rfl ?_; clear hS; intro w hS
 refine stc_s hS rfl rfl ?_; clear hS; intro w hS
 refine ⟨_, (hS.cel mp0 rfl), ?_⟩
 refine ⟨_, _, _, (hS.cel mp0 rfl), ?_⟩
 refine ⟨_, (hS.cel mp0 rfl), ?_⟩
 have h := some_inj h
 cases h
 exact hK _ _ _ _ (hS.pick (A := [_, _, _, _]) [2] rfl)

theorem wk_dyad_Right {N : Nums} {P : Program} (H : AllOk N P) {w0 w : World} {L : List It} {q0_0 : Bool} {q0_1 : Option Addr} {q0_1l q0_1c : Nat} {l0_1 : List Int} {q0_2 : Int} {u0 : Bool} (hS : Ho w0 w (L)) (hq0_1 : Ent L (rdA (List.map (Value.int .u64) l0_1) q0_1 q0_1l q0_1c)) (hx : T_dyad_Right q0_0 l0_1 q0_2 = some u0) {K : Value → World → Prop} (hK : ∀  (w1 : World), Ho w0 w1 (L) → K (.bool u0) w1) : CallsX P N.f_dyad_Right #[.agg #[.bool q0_0, .slice q0_1 q0_1l q0_1c, .int .i64 q0_2]] w K := by
 refine H.dyad_Right q0_0 q0_1 q0_1l q0_1c q0_2 w _ ?_
 unfold S_dyad_Right
 unfold T_dyad_Right at hx
 have h := hx
 clear hx
 try dsimp only
 refine newM_s hS ?_; clear hS; intro r1 w hS
 refine ⟨_, _, _, (hS.cel mp0 rfl), ?_⟩
 obtain ⟨t1, ht1, h⟩ := bnd h
 obtain rfl := lenE ht1 ((hq0_1.mono tl1).now (fun _ h => h) hS)
 clear ht1
 refine cond_s h ?_ ?_ <;> clear h <;> intro hc h
 ·
  refine ⟨_, (hS.cel mp0 rfl), ?_⟩
  refine cond_s h ?_ ?_ <;> clear h <;> intro hc h
  ·
   refine ⟨_, (hS.cel mp0 rfl), ?_⟩
   have h := some_inj h
   cases h
   exact hK _ (hS.pick (A := [_]) [] rfl)
  ·
   have h := some_inj h
   cases h
   exact hK _ (hS.pick (A := [_]) [] rfl)
 ·
  refine cond_s h ?_ ?_ <;> clear h <;> intro hc h
  ·
   refine ⟨_, _, _, (hS.cel mp0 rfl), ?_⟩
   obtain ⟨t2, ht2, h⟩ := bnd h
   obtain ⟨q2x, q2l, q2r⟩ := atE ht2
   clear ht2
   refine idx_s ((hq0_1.mono tl1).now (fun _ h => h) hS) q2x q2l q2r ?_; intro b3 hb3
   refine ⟨_, rd_get ((hq0_1.mono tl1).now (fun _ h => h) hS) hb3 q2x, ?_⟩
   refine cond_s h ?_ ?_ <;> clear h <;> intro hc h
   ·
    refine ⟨_, _, _, (hS.cel mp0 rfl), ?_⟩
    obtain ⟨t3, ht3, h⟩ := bnd h
    obtain ⟨q4x, q4l, q4r⟩ := atE ht3
    clear ht3
    refine idx_s ((hq0_1.mono tl1).now (fun _ h => h) hS) q4x q4l q4r ?_; intro b5 hb5
    refine ⟨_, rd_get ((hq0_1.mono tl1).now (fun _ h => h) hS) hb5 q4x, ?_⟩
    refine cond_s h ?_ ?_ <;> clear h <;> intro hc h
    ·
     refine ⟨_, (hS.cel mp0 rfl), ?_⟩
     refine cond_s h ?_ ?_ <;> clear h <;> intro hc h
     ·
      refine ⟨_, (hS.cel mp0 rfl), ?_⟩
      have h := some_inj h
      cases h
      exact hK _ (hS.pick (A := [_]) [] rfl)
     ·
      have h := some_inj h
      cases h
      exact hK _ (hS.pick (A := [_]) [] rfl)
    ·
     have h := some_inj h
     cases h
     exact hK _ (hS.pick (A := [_]) [] rfl)
   ·
    have h := some_inj h
    cases h
    exact hK _ (hS.pick (A := [_]) [] rfl)
  ·
   have h := some_inj h
   cases h
   exact hK _ (hS.pick (A := [_]) [] rfl)

theorem wk_dyad_both {N : Nums} {P : Program} (H : AllOk N P) {w0 w : World} {L : List It} {q0_0 : Bool} {q0_1 : Option Addr} {q0_1l q0_1c : Nat} {l0_1 : List Int} {q0_2 : Int} {q1_0 : Bool} {q1_1 : Option Addr} {q1_1l q1_1c : Nat} {l1_1 : List Int} {q1_2 : Int} {u0 : Bool} (hS : Ho w0 w (L)) (hq0_1 : Ent L (rdA (List.map (Value.int .u64) l0_1) q0_1 q0_1l q0_1c)) (hq1_1 : Ent L (rdA (List.map (Value.int .u64) l1_1) q1_1 q1_1l q1_1c)) (hx : T_dyad_both q0_0 l0_1 q0_2 q1_0 l1_1 q1_2 = some u0) {K : Value → World → Prop} (hK : ∀  (w1 : World), Ho w0 w1 (L) → K (.bool u0) w1) : CallsX P N.f_dyad_both #[.agg #[.bool q0_0, .slice q0_1 q0_1l q0_1c, .int .i64 q0_2], .agg #[.bool q1_0, .slice q1_1 q1_1l q1_1c, .int .i64 q1_2]] w K := by
 refine H.dyad_both q0_0 q0_1 q0_1l q0_1c q0_2 q1_0 q1_1 q1_1l q1_1c q1_2 w _ ?_
 unfold S_dyad_both
 unfold T_dyad_both at hx
 have h := hx
 clear hx
 try dsimp only
 refine newM_s hS ?_; clear hS; intro r1 w hS
 refine newM_s hS ?_; clear hS; intro r2 w hS
 refine ⟨_, (hS.cel mp1 rfl), ?_⟩
 refine ⟨_, _, _, (hS.cel mp1 rfl), ?_⟩
 refine ⟨_, (hS.cel mp1 rfl), ?_⟩
 obtain ⟨t1, ht1, h⟩ := bnd h
 refine wk_dyad_Right H hS (hq0_1.mono tl2) ht1 ?_; clear hS ht1; rintro w hS
 refine ⟨_, rfl, ?_⟩
 refine cond_s h ?_ ?_ <;> clear h <;> intro hc h
 ·
  refine ⟨_, (hS.cel mp0 rfl), ?_⟩
  refine ⟨_, _, _, (hS.cel mp0 rfl), ?_⟩
  refine ⟨_, (hS.cel mp0 rfl), ?_⟩
  obtain ⟨t2, ht2, h⟩ := bnd h
  refine wk_dyad_Right H hS (hq1_1.mono tl2) ht2 ?_; clear hS ht2; rintro w hS
  refine ⟨_, rfl, ?_⟩
  have h := some_inj h
  cases h
  exact hK _ (hS.pick (A := [_, _]) [] rfl)
 ·
  have h := some_inj h
  cases h
  exact hK _ (hS.pick (A := [_, _]) [] rfl)

theorem wk_dyad_whole {N : Nums} {P : Program} (H : AllOk N P) {w0 w : World} {L : List It} {q0_0 : Bool} {q0_1 : Option Addr} {q0_1l q0_1c : Nat} {l0_1 : List Int} {q0_2 : Int} {u0 : Int} (hS : Ho w0 w (L)) (hq0_1 : Ent L (rdA (List.map (Value.int .u64) l0_1) q0_1 q0_1l q0_1c)) (hx : T_dyad_whole q0_0 l0_1 q0_2 = some u0) {K : Value → World → Prop} (hK : ∀ (r0 : Nat) (a0 : Option Addr) (n0 c0 : Nat) (w1 : World), Ho w0 w1 ((bg N.t_bignum_Int N.t_uint32 r0 a0 n0 c0 u0) :: L) → K (.pointer (some ⟨r0, 0, none⟩)) w1) : CallsX P N.f_dyad_whole #[.agg #[.bool q0_0, .slice q0_1 q0_1l q0_1c, .int .i64 q0_2]] w K := by
 refine H.dyad_whole q0_0 q0_1 q0_1l q0_1c q0_2 w _ ?_
 unfold S_dyad_whole
 unfold T_dyad_whole at hx
 have h := hx
 clear hx
 try dsimp only
 refine newM_s hS ?_; clear hS; intro r1 w hS
 refine newM_s hS ?_; clear hS; intro r2 w hS; replace hS := Ho.bgNew (E := N.t_uint32) hS
 refine ⟨_, _, _, (hS.cel mp1 rfl), ?_⟩
 obtain ⟨t1, ht1, h⟩ := bnd h
 obtain rfl := lenE ht1 ((hq0_1.mono tl2).now (fun _ h => h) hS)
 clear ht1
 obtain ⟨o6, h6, c6⟩ := bnd h
 refine cutM_i (fun s w => ∃ (a3 : Option Addr) (m4 : Nat) (c5 : Nat) (t2 : Int), t2 = o6 ∧ s = (()) ∧ Ho w0 w ((bg N.t_bignum_Int N.t_uint32 r2 a3 m4 c5 t2) :: (cl r1 [.bool q0_0, .slice q0_1 q0_1l q0_1c, .int .i64 q0_2] N.t_Dyad) :: L)) (fun J6 hJ6 => ?_) ?_
 ·
  have h := h6
  clear h6
  refine iter_sim (fun s w t => ∃ (t3 : Int) (a7 : Option Addr) (m8 : Nat) (c9 : Nat) (t4 : Int), (t3, t4) = t ∧ s = (t3, ()) ∧ Ho w0 w ((bg N.t_bignum_Int N.t_uint32 r2 a7 m8 c9 t4) :: (cl r1 [.bool q0_0, .slice q0_1 q0_1l q0_1c, .int .i64 q0_2] N.t_Dyad) :: L)) ?_ h ⟨_, _, _, _, _, rfl, rfl, hS⟩
  clear h hS
  rintro s w t X q ⟨t3, a7, m8, c9, t4, rfl, rfl, hS⟩ h hX hO
  unfold T_dyad_whole_b2 at h
  try dsimp only
  refine cond_s h ?_ ?_ <;> clear h <;> intro hc h
  ·
   obtain ⟨t5, ht5, h⟩ := bnd h
   refine big_Lsh_zz H hS  ht5 ?_; clear hS ht5; intro a10 m10 c10 w hS
   refine ⟨_, rfl, ?_⟩
   refine newM_s hS ?_; clear hS; intro r11 w hS; replace hS := Ho.bgNew (E := N.t_uint32) hS
   refine ⟨_, _, _, (hS.cel mp2 rfl), ?_⟩
   refine ⟨_, _, _, (hS.cel mp2 rfl), ?_⟩
   obtain ⟨t6, ht6, h⟩ := bnd h
   obtain rfl := lenE ht6 ((hq0_1.mono tl3).now (fun _ h => h) hS)
   clear ht6
   obtain ⟨t7, ht7, h⟩ := bnd h
   obtain ⟨q12x, q12l, q12r⟩ := atE ht7
   clear ht7
   refine idx_s ((hq0_1.mono tl3).now (fun _ h => h) hS) q12x q12l q12r ?_; intro b13 hb13
   refine ⟨_, rd_get ((hq0_1.mono tl3).now (fun _ h => h) hS) hb13 q12x, ?_⟩
   obtain ⟨t8, ht8, h⟩ := bnd h
   refine big_SetUint64_z H hS  ht8 ?_; clear hS ht8; intro a14 m14 c14 w hS
   refine ⟨_, rfl, ?_⟩
   obtain ⟨t9, ht9, h⟩ := bnd h
   replace hS := ro1 hS
   refine big_Or_zzy H hS (Ent.bg mp0) ht9 ?_; clear hS ht9; intro a15 m15 c15 w hS
   refine ⟨_, rfl, ?_⟩
   obtain rfl := some_inj h
   exact hX _ rfl _ _ ⟨_, _, _, _, _, rfl, rfl, (hS.pick (A := [_, _, _]) [0, 1] rfl)⟩
  ·
   obtain rfl := some_inj h
   have h := congrArg some (hO _ rfl)
   obtain rfl := some_inj h
   exact hJ6 _ _ ⟨_, _, _, _, rfl, rfl, hS⟩
 ·
  clear h6 hS
  rintro s w ⟨a3, m4, c5, t2, rfl, rfl, hS⟩
  have h := c6
  clear c6
  try dsimp only
  refine ⟨_, (hS.cel mp1 rfl), ?_⟩
  obtain ⟨o19, h19, c19⟩ := bnd h
  refine cutM_i (fun s w => ∃ (a16 : Option Addr) (m17 : Nat) (c18 : Nat) (t10 : Int), t10 = o19 ∧ s = (()) ∧ Ho w0 w ((bg N.t_bignum_Int N.t_uint32 r2 a16 m17 c18 t10) :: L)) (fun J19 hJ19 => ?_) ?_
  ·
   have h := h19
   clear h19
   refine cond_s h ?_ ?_ <;> clear h <;> intro hc h
   ·
    obtain ⟨t11, ht11, h⟩ := bnd h
    refine big_Neg_zz H hS  ht11 ?_; clear hS ht11; intro a20 m20 c20 w hS
    refine ⟨_, rfl, ?_⟩
    obtain rfl := some_inj h
    exact hJ19 _ _ ⟨_, _, _, _, rfl, rfl, (hS.pick (A := [_, _]) [0] rfl)⟩
   ·
    obtain rfl := some_inj h
    exact hJ19 _ _ ⟨_, _, _, _, rfl, rfl, (hS.pick (A := [_, _]) [0] rfl)⟩
  ·
   clear h19 hS
   rintro s w ⟨a16, m17, c18, t10, rfl, rfl, hS⟩
   have h := c19
   clear c19
   try dsimp only
   have h := some_inj h
   cases h
   exact hK _ _ _ _ _ hS

theorem wk_dyad_Add {N : Nums} {P : Program} (H : AllOk N P) {w0 w : World} {L : List It} {q0_0 : Bool} {q0_1 : Option Addr} {q0_1l q0_1c : Nat} {l0_1 : List Int} {q0_2 : Int} {q1_0 : Bool} {q1_1 : Option Addr} {q1_1l q1_1c : Nat} {l1_1 : List Int} {q1_2 : Int} {u0 : Bool} {u1 : List Int} {u2 : Int} {u3 : Int} (hS : Ho w0 w (L)) (hq0_1 : Ent L (rdA (List.map (Value.int .u64) l0_1) q0_1 q0_1l q0_1c)) (hq1_1 : Ent L (rdA (List.map (Value.int .u64) l1_1) q1_1 q1_1l q1_1c)) (hx : T_dyad_Add q0_0 l0_1 q0_2 q1_0 l1_1 q1_2 = some (u0, u1, u2, u3)) {K : Value → World → Prop} (hK : ∀ (a1 : Option Addr) (n1 c1 : Nat) (w1 : World), Ho w0 w1 ((sl a1 n1 c1 (List.map (Value.int .u64) u1) N.t_uint64) :: L) → K (.tuple #[.agg #[.bool u0, .slice a1 n1 c1, .int .i64 u2], .int .i64 u3]) w1) : CallsX P N.f_dyad_Add #[.agg #[.bool q0_0, .slice q0_1 q0_1l q0_1c, .int .i64 q0_2], .agg #[.bool q1_0, .slice q1_1 q1_1l q1_1c, .int .i64 q1_2]] w K := by
 refine H.dyad_Add q0_0 q0_1 q0_1l q0_1c q0_2 q1_0 q1_1 q1_1l q1_1c q1_2 w _ ?_
 unfold S_dyad_Add
 unfold T_dyad_Add at hx
 have h := hx
 clear hx
 try dsimp only
 refine newM_s hS ?_; clear hS; intro r1 w hS
 refine newM_s hS ?_; clear hS; intro r2 w hS
 refine newM_s hS ?_; clear hS; intro r3 w hS
 refine ⟨_, (hS.cel mp2 rfl), ?_⟩
 refine ⟨_, _, _, (hS.cel mp2 rfl), ?_⟩
 refine ⟨_, (hS.cel mp2 rfl), ?_⟩
 refine ⟨_, (hS.cel mp1 rfl), ?_⟩
 refine ⟨_, _, _, (hS.cel mp1 rfl), ?_⟩
 refine ⟨_, (hS.cel mp1 rfl), ?_⟩
 obtain ⟨t1, ht1, h⟩ := bnd h
 refine wk_dyad_both H hS (hq0_1.mono tl3) (hq1_1.mono tl3) ht1 ?_; clear hS ht1; rintro w hS
 refine ⟨_, rfl, ?_⟩
 refine cond_s h ?_ ?_ <;> clear h <;> intro hc h
 ·
  refine stc_s hS rfl rfl ?_; clear hS; intro w hS
  refine stc_s hS rfl rfl ?_; clear hS; intro w hS
  refine stc_s hS rfl rfl ?_; clear hS; intro w hS
  refine ⟨_, (hS.cel mp0 rfl), ?_⟩
  refine ⟨_, _, _, (hS.cel mp0 rfl), ?_⟩
  refine ⟨_, (hS.cel mp0 rfl), ?_⟩
  replace hS := hS.none (α := Int) (enc := (Value.int .u64)) (t := N.t_uint64)
  have h := some_inj h
  cases h
  exact hK _ _ _ _ (hS.pick (A := [_, _, _, _]) [0] rfl)
 ·
  refine ⟨_, (hS.cel mp2 rfl), ?_⟩
  refine ⟨_, _, _, (hS.cel mp2 rfl), ?_⟩
  refine ⟨_, (hS.cel mp2 rfl), ?_⟩
  refine ⟨_, (hS.cel mp1 rfl), ?_⟩
  refine ⟨_, _, _, (hS.cel mp1 rfl), ?_⟩
  refine ⟨_, (hS.cel mp1 rfl), ?_⟩
  refine drM_s hS ?_; clear hS; intro w hS
  obtain ⟨t2, ht2, h⟩ := bnd h
  refine wk_dyad_whole H hS (hq0_1.mono tl3) ht2 ?_; clear hS ht2; rintro r4 a4 m4 c4 w hS
  refine ⟨_, rfl, ?_⟩
  refine ⟨(hS.cel mp2 rfl), ?_⟩
  refine ⟨(hS.cel mp2 rfl), ?_⟩
  refine ⟨(hS.cel mp2 rfl), ?_⟩
  refine drM_s hS ?_; clear hS; intro w hS
  obtain ⟨t3, ht3, h⟩ := bnd h
  refine wk_dyad_whole H hS (hq1_1.mono tl4) ht3 ?_; clear hS ht3; rintro r5 a5 m5 c5 w hS
  refine ⟨_, rfl, ?_⟩
  refine drM_s hS ?_; clear hS; intro w hS
  obtain ⟨o6, h6, c6⟩ := bnd h
  refine cutM_i (fun s w => ∃ (t4 : Bool), t4 = o6 ∧ s = (t4, ()) ∧ Ho w0 w ((bg N.t_bignum_Int N.t_uint32 r5 a5 m5 c5 t3) :: (bg N.t_bignum_Int N.t_uint32 r4 a4 m4 c4 t2) :: (cl r3 [.bool false, .slice none 0 0, .int .i64 0] N.t_Dyad) :: (cl r2 [.bool q1_0, .slice q1_1 q1_1l q1_1c, .int .i64 q1_2] N.t_Dyad) :: (cl r1 [.bool q0_0, .slice q0_1 q0_1l q0_1c, .int .i64 q0_2] N.t_Dyad) :: L)) (fun J6 hJ6 => ?_) ?_
  ·
   have h := h6
   clear h6
   obtain ⟨t5, ht5, h⟩ := bnd h
   refine big_Sign_x H hS (Ent.bg mp1) ht5 ?_; clear hS ht5; intro w hS
   refine ⟨_, rfl, ?_⟩
   refine cond_s h ?_ ?_ <;> clear h <;> intro hc h
   ·
    obtain ⟨t6, ht6, h⟩ := bnd h
    refine big_Sign_x H hS (Ent.bg mp0) ht6 ?_; clear hS ht6; intro w hS
    refine ⟨_, rfl, ?_⟩
    obtain rfl := some_inj h
    exact hJ6 _ _ ⟨_, rfl, rfl, hS⟩
   ·
    obtain rfl := some_inj h
    exact hJ6 _ _ ⟨_, rfl, rfl, hS⟩
  ·
   clear h6 hS
   rintro s w ⟨t4, rfl, rfl, hS⟩
   have h := c6
   clear c6
   try dsimp only
   refine cond_s h ?_ ?_ <;> clear h <;> intro hc h
   ·
    refine ⟨_, (hS.cel mp4 rfl), ?_⟩
    refine ⟨_, (hS.cel mp3 rfl), ?_⟩
    refine drM_s hS ?_; clear hS; intro w hS
    obtain ⟨t7, ht7, h⟩ := bnd h
    replace hS := ro1 hS
    refine big_Add_zzy H hS (Ent.bg mp0) ht7 ?_; clear hS ht7; intro a7 m7 c7 w hS
    refine ⟨_, rfl, ?_⟩
    refine ⟨(hS.cel mp3 rfl), ?_⟩
    refine ⟨(hS.cel mp4 rfl), ?_⟩
    refine drM_s hS ?_; clear hS; intro w hS
    obtain ⟨⟨t8, t9, t10, t11⟩, ho8, h⟩ := bnd h
    refine wk_dyad_made H hS (Ent.bg mp0) ho8 ?_; clear hS ho8; rintro a8 m8 c8 w hS
    refine ⟨_, _, _, _, _, _, rfl, ?_⟩
    refine drM_s hS ?_; clear hS; intro w hS
    replace hS := ro3 hS
    refine stc_s hS rfl rfl ?_; clear hS; intro w hS
    refine stc_s hS rfl rfl ?_; clear hS; intro w hS
    refine stc_s hS rfl rfl ?_; clear hS; intro w hS
    refine drM_s hS ?_; clear hS; intro w hS
    refine ⟨_, (hS.cel mp0 rfl), ?_⟩
    refine ⟨_, _, _, (hS.cel mp0 rfl), ?_⟩
    refine ⟨_, (hS.cel mp0 rfl), ?_⟩
    have h := some_inj h
    cases h
    exact hK _ _ _ _ (hS.pick (A := [_, _, _, _, _, _]) [1] rfl)
   ·
    refine ⟨_, (hS.cel mp4 rfl), ?_⟩
    refine ⟨_, (hS.cel mp3 rfl), ?_⟩
    obtain ⟨o27, h27, c27⟩ := bnd h
    refine cutM_i (fun s w => ∃ (t12 : Bool) (t13 : Int) (t14 : Bool) (t15 : Int) (r9 : Nat) (a10 : Option Addr) (m11 : Nat) (c12 : Nat) (t16 : Int) (r13 : Nat) (a14 : Option Addr) (m15 : Nat) (c16 : Nat) (t17 : Int) (a17 : Option Addr) (m18 : Nat) (c19 : Nat) (t18 : List Int) (it20 : It) (a22 : Option Addr) (m23 : Nat) (c24 : Nat) (t19 : List Int) (it25 : It), (t12, t13, t14, t15, t16, t17, t18, t19) = o27 ∧ s = ((some ⟨r9, 0, none⟩), (some ⟨r13, 0, none⟩), ()) ∧ Ent (it20 :: L) (rdA (List.map (Value.int .u64) t18) a17 m18 c19) ∧ Ent (it25 :: L) (rdA (List.map (Value.int .u64) t19) a22 m23 c24) ∧ Ho w0 w ((cl r2 [.bool t12, .slice a17 m18 c19, .int .i64 t13] N.t_Dyad) :: (cl r1 [.bool t14, .slice a22 m23 c24, .int .i64 t15] N.t_Dyad) :: (cl r3 [.bool false, .slice none 0 0, .int .i64 0] N.t_Dyad) :: (bg N.t_bignum_Int N.t_uint32 r9 a10 m11 c12 t16) :: (bg N.t_bignum_Int N.t_uint32 r13 a14 m15 c16 t17) :: it20 :: it25 :: L)) (fun J27 hJ27 => ?_) ?_
    ·
     have h := h27
     clear h27
     refine cond_s h ?_ ?_ <;> clear h <;> intro hc h
     ·
      refine ⟨_, (hS.cel mp3 rfl), ?_⟩
      refine ⟨_, _, _, (hS.cel mp3 rfl), ?_⟩
      refine ⟨_, (hS.cel mp3 rfl), ?_⟩
      refine ⟨_, (hS.cel mp4 rfl), ?_⟩
      refine ⟨_, _, _, (hS.cel mp4 rfl), ?_⟩
      refine ⟨_, (hS.cel mp4 rfl), ?_⟩
      replace hS := ro4 hS
      refine stc_s hS rfl rfl ?_; clear hS; intro w hS
      refine stc_s hS rfl rfl ?_; clear hS; intro w hS
      refine stc_s hS rfl rfl ?_; clear hS; intro w hS
      replace hS := ro4 hS
      refine stc_s hS rfl rfl ?_; clear hS; intro w hS
      refine stc_s hS rfl rfl ?_; clear hS; intro w hS
      refine stc_s hS rfl rfl ?_; clear hS; intro w hS
      replace hS := hS.voidItem
      replace hS := hS.voidItem
      obtain rfl := some_inj h
      exact hJ27 _ _ ⟨_, _, _, _, _, _, _, _, _, _, _, _, _, _, _, _, _, _, _, _, _, _, _, _, rfl, rfl, (hq0_1.mono tl1), (hq1_1.mono tl1), (hS.pick (A := [_, _, _, _, _, _, _]) [2, 2, 4, 2, 2, 1, 0] rfl)⟩
     ·
      replace hS := hS.voidItem
      replace hS := hS.voidItem
      obtain rfl := some_inj h
      exact hJ27 _ _ ⟨_, _, _, _, _, _, _, _, _, _, _, _, _, _, _, _, _, _, _, _, _, _, _, _, rfl, rfl, (hq1_1.mono tl1), (hq0_1.mono tl1), (hS.pick (A := [_, _, _, _, _, _, _]) [5, 5, 4, 3, 2, 1, 0] rfl)⟩
    ·
     clear h27 hS
     rintro s w ⟨t12, t13, t14, t15, r9, a10, m11, c12, t16, r13, a14, m15, c16, t17, a17, m18, c19, t18, it20, a22, m23, c24, t19, it25, rfl, rfl, e21, e26, hS⟩
     have h := c27
     clear c27
     try dsimp only
     refine ⟨_, (hS.cel mp1 rfl), ?_⟩
     refine ⟨_, (hS.cel mp0 rfl), ?_⟩
     refine cond_s h ?_ ?_ <;> clear h <;> intro hc h
     ·
      replace hS := ro2 hS
      refine stc_s hS rfl rfl ?_; clear hS; intro w hS
      refine stc_s hS rfl rfl ?_; clear hS; intro w hS
      refine stc_s hS rfl rfl ?_; clear hS; intro w hS
      refine ⟨_, (hS.cel mp0 rfl), ?_⟩
      refine ⟨_, _, _, (hS.cel mp0 rfl), ?_⟩
      refine ⟨_, (hS.cel mp0 rfl), ?_⟩
      replace hS := hS.none (α := Int) (enc := (Value.int .u64)) (t := N.t_uint64)
      have h := some_inj h
      cases h
      exact hK _ _ _ _ (hS.pick (A := [_, _, _, _, _, _, _, _]) [0] rfl)
     ·
      refine ⟨_, (hS.cel mp0 rfl), ?_⟩
      refine drM_s hS ?_; clear hS; intro w hS
      obtain ⟨t20, ht20, h⟩ := bnd h
      replace hS := ro3 hS
      refine big_Lsh_zz H hS  ht20 ?_; clear hS ht20; intro a28 m28 c28 w hS
      refine ⟨_, rfl, ?_⟩
      refine ⟨(hS.cel mp1 rfl), ?_⟩
      refine drM_s hS ?_; clear hS; intro w hS
      obtain ⟨t21, ht21, h⟩ := bnd h
      refine big_Add_zzy H hS (Ent.bg mp3) ht21 ?_; clear hS ht21; intro a29 m29 c29 w hS
      refine ⟨_, rfl, ?_⟩
      refine ⟨(hS.cel mp1 rfl), ?_⟩
      refine drM_s hS ?_; clear hS; intro w hS
      obtain ⟨⟨t22, t23, t24, t25⟩, ho22, h⟩ := bnd h
      refine wk_dyad_made H hS (Ent.bg mp0) ho22 ?_; clear hS ho22; rintro a30 m30 c30 w hS
      refine ⟨_, _, _, _, _, _, rfl, ?_⟩
      refine drM_s hS ?_; clear hS; intro w hS
      replace hS := ro4 hS
      refine stc_s hS rfl rfl ?_; clear hS; intro w hS
      refine stc_s hS rfl rfl ?_; clear hS; intro w hS
      refine stc_s hS rfl rfl ?_; clear hS; intro w hS
      refine drM_s hS ?_; clear hS; intro w hS
      refine ⟨_, (hS.cel mp0 rfl), ?_⟩
      refine ⟨_, _, _, (hS.cel mp0 rfl), ?_⟩
      refine ⟨_, (hS.cel mp0 rfl), ?_⟩
      have h := some_inj h
      cases h
      exact hK _ _ _ _ (hS.pick (A := [_, _, _, _, _, _, _, _]) [1] rfl)

theorem wk_dyad_Mul {N : Nums} {P : Program} (H : AllOk N P) {w0 w : World} {L : List It} {q0_0 : Bool} {q0_1 : Option Addr} {q0_1l q0_1c : Nat} {l0_1 : List Int} {q0_2 : Int} {q1_0 : Bool} {q1_1 : Option Addr} {q1_1l q1_1c : Nat} {l1_1 : List Int} {q1_2 : Int} {u0 : Bool} {u1 : List Int} {u2 : Int} {u3 : Int} (hS : Ho w0 w (L)) (hq0_1 : Ent L (rdA (List.map (Value.int .u64) l0_1) q0_1 q0_1l q0_1c)) (hq1_1 : Ent L (rdA (List.map (Value.int .u64) l1_1) q1_1 q1_1l q1_1c)) (hx : T_dyad_Mul q0_0 l0_1 q0_2 q1_0 l1_1 q1_2 = some (u0, u1, u2, u3)) {K : Value → World → Prop} (hK : ∀ (a1 : Option Addr) (n1 c1 : Nat) (w1 : World), Ho w0 w1 ((sl a1 n1 c1 (List.map (Value.int .u64) u1) N.t_uint64) :: L) → K (.tuple #[.agg #[.bool u0, .slice a1 n1 c1, .int .i64 u2], .int .i64 u3]) w1) : CallsX P N.f_dyad_Mul #[.agg #[.bool q0_0, .slice q0_1 q0_1l q0_1c, .int .i64 q0_2], .agg #[.bool q1_0, .slice q1_1 q1_1l q1_1c, .int .i64 q1_2]] w K := by
 refine H.dyad_Mul q0_0 q0_1 q0_1l q0_1c q0_2 q1_0 q1_1 q1_1l q1_1c q1_2 w _ ?_
 unfold S_dyad_Mul
 unfold T_dyad_Mul at hx
 have h := hx
 clear hx
 try dsimp only
 refine newM_s hS ?_; clear hS; intro r1 w hS
 refine newM_s hS ?_; clear hS; intro r2 w hS
 refine newM_s hS ?_; clear hS; intro r3 w hS
 refine ⟨_, (hS.cel mp2 rfl), ?_⟩
 refine ⟨_, _, _, (hS.cel mp2 rfl), ?_⟩
 refine ⟨_, (hS.cel mp2 rfl), ?_⟩
 refine ⟨_, (hS.cel mp1 rfl), ?_⟩
 refine ⟨_, _, _, (hS.cel mp1 rfl), ?_⟩
 refine ⟨_, (hS.cel mp1 rfl), ?_⟩
 obtain ⟨t1, ht1, h⟩ := bnd h
 refine wk_dyad_both H hS (hq0_1.mono tl3) (hq1_1.mono tl3) ht1 ?_; clear hS ht1; rintro w hS
 refine ⟨_, rfl, ?_⟩
 refine cond_s h ?_ ?_ <;> clear h <;> intro hc h
 ·
  refine stc_s hS rfl rfl ?_; clear hS; intro w hS
  refine stc_s hS rfl rfl ?_; clear hS; intro w hS
  refine stc_s hS rfl rfl ?_; clear hS; intro w hS
  refine ⟨_, (hS.cel mp0 rfl), ?_⟩
  refine ⟨_, _, _, (hS.cel mp0 rfl), ?_⟩
  refine ⟨_, (hS.cel mp0 rfl), ?_⟩
  replace hS := hS.none (α := Int) (enc := (Value.int .u64)) (t := N.t_uint64)
  have h := some_inj h
  cases h
  exact hK _ _ _ _ (hS.pick (A := [_, _, _, _]) [0] rfl)
 ·
  refine ⟨_, (hS.cel mp2 rfl), ?_⟩
  refine ⟨_, _, _, (hS.cel mp2 rfl), ?_⟩
  refine ⟨_, (hS.cel mp2 rfl), ?_⟩
  obtain ⟨t2, ht2, h⟩ := bnd h
  refine wk_dyad_whole H hS (hq0_1.mono tl3) ht2 ?_; clear hS ht2; rintro r4 a4 m4 c4 w hS
  refine ⟨_, rfl, ?_⟩
  refine ⟨_, (hS.cel mp2 rfl), ?_⟩
  refine ⟨_, _, _, (hS.cel mp2 rfl), ?_⟩
  refine ⟨_, (hS.cel mp2 rfl), ?_⟩
  refine ⟨_, (hS.cel mp3 rfl), ?_⟩
  refine ⟨_, (hS.cel mp2 rfl), ?_⟩
  refine drM_s hS ?_; clear hS; intro w hS
  obtain ⟨t3, ht3, h⟩ := bnd h
  refine wk_dyad_whole H hS (hq1_1.mono tl4) ht3 ?_; clear hS ht3; rintro r5 a5 m5 c5 w hS
  refine ⟨_, rfl, ?_⟩
  refine ⟨(hS.cel mp3 rfl), ?_⟩
  refine ⟨(hS.cel mp4 rfl), ?_⟩
  refine drM_s hS ?_; clear hS; intro w hS
  obtain ⟨t4, ht4, h⟩ := bnd h
  replace hS := ro1 hS
  refine big_Mul_zzy H hS (Ent.bg mp0) ht4 ?_; clear hS ht4; intro a6 m6 c6 w hS
  refine ⟨_, rfl, ?_⟩
  refine ⟨(hS.cel mp3 rfl), ?_⟩
  refine ⟨(hS.cel mp4 rfl), ?_⟩
  refine drM_s hS ?_; clear hS; intro w hS
  obtain ⟨⟨t5, t6, t7, t8⟩, ho5, h⟩ := bnd h
  refine wk_dyad_made H hS (Ent.bg mp0) ho5 ?_; clear hS ho5; rintro a7 m7 c7 w hS
  refine ⟨_, _, _, _, _, _, rfl, ?_⟩
  refine drM_s hS ?_; clear hS; intro w hS
  replace hS := ro3 hS
  refine stc_s hS rfl rfl ?_; clear hS; intro w hS
  refine stc_s hS rfl rfl ?_; clear hS; intro w hS
  refine stc_s hS rfl rfl ?_; clear hS; intro w hS
  refine drM_s hS ?_; clear hS; intro w hS
  refine ⟨_, (hS.cel mp0 rfl), ?_⟩
  refine ⟨_, _, _, (hS.cel mp0 rfl), ?_⟩
  refine ⟨_, (hS.cel mp0 rfl), ?_⟩
  have h := some_inj h
  cases h
  exact hK _ _ _ _ (hS.pick (A := [_, _, _, _, _, _]) [1] rfl)

theorem wk_math_bits_Len64 {N : Nums} {P : Program} (H : AllOk N P) {w0 w : World} {L : List It} {q0 : Int} {u0 : Int} (hS : Ho w0 w (L))  (hx : T_math_bits_Len64 q0 = some u0) {K : Value → World → Prop} (hK : ∀  (w1 : World), Ho w0 w1 (L) → K (.int .i64 u0) w1) : CallsX P N.f_math_bits_Len64 #[.int .u64 q0] w K := by
 unfold T_math_bits_Len64 at hx
 by_cases hd : 0 ≤ q0 ∧ q0 ≤ 18446744073709551615
 ·
  rw [decide_eq_true hd] at hx
  have hx := some_inj hx
  subst hx
  exact len64_c H hS hd.1 hd.2 hK
 ·
  rw [decide_eq_false hd] at hx; cases hx

theorem wk_dyad_top {N : Nums} {P : Program} (H : AllOk N P) {w0 w : World} {L : List It} {q0_0 : Bool} {q0_1 : Option Addr} {q0_1l q0_1c : Nat} {l0_1 : List Int} {q0_2 : Int} {u0 : Int} (hS : Ho w0 w (L)) (hq0_1 : Ent L (rdA (List.map (Value.int .u64) l0_1) q0_1 q0_1l q0_1c)) (hx : T_dyad_top q0_0 l0_1 q0_2 = some u0) {K : Value → World → Prop} (hK : ∀  (w1 : World), Ho w0 w1 (L) → K (.int .i64 u0) w1) : CallsX P N.f_dyad_top #[.agg #[.bool q0_0, .slice q0_1 q0_1l q0_1c, .int .i64 q0_2]] w K := by
 refine H.dyad_top q0_0 q0_1 q0_1l q0_1c q0_2 w _ ?_
 unfold S_dyad_top
 unfold T_dyad_top at hx
 have h := hx
 clear hx
 try dsimp only
 refine newM_s hS ?_; clear hS; intro r1 w hS
 refine ⟨_, _, _, (hS.cel mp0 rfl), ?_⟩
 obtain ⟨t1, ht1, h⟩ := bnd h
 obtain rfl := lenE ht1 ((hq0_1.mono tl1).now (fun _ h => h) hS)
 clear ht1
 refine ⟨_, (hS.cel mp0 rfl), ?_⟩
 refine ⟨_, _, _, (hS.cel mp0 rfl), ?_⟩
 obtain ⟨t2, ht2, h⟩ := bnd h
 obtain ⟨q2x, q2l, q2r⟩ := atE ht2
 clear ht2
 refine idx_s ((hq0_1.mono tl1).now (fun _ h => h) hS) q2x q2l q2r ?_; intro b3 hb3
 refine ⟨_, rd_get ((hq0_1.mono tl1).now (fun _ h => h) hS) hb3 q2x, ?_⟩
 refine drM_s hS ?_; clear hS; intro w hS
 obtain ⟨t3, ht3, h⟩ := bnd h
 refine wk_math_bits_Len64 H hS  ht3 ?_; clear hS ht3; rintro w hS
 refine ⟨_, rfl, ?_⟩
 refine ⟨(hS.cel mp0 rfl), ?_⟩
 refine drM_s hS ?_; clear hS; intro w hS
 have h := some_inj h
 cases h
 exact hK _ (hS.pick (A := [_]) [] rfl)

theorem wk_dyad_away {N : Nums} {P : Program} (H : AllOk N P) {w0 w : World} {L : List It} {q0 : Int} {q1 : Bool} {q2 : Int} {q3 : Bool} {u0 : Bool} (hS : Ho w0 w (L))  (hx : T_dyad_away q0 q1 q2 q3 = some u0) {K : Value → World → Prop} (hK : ∀  (w1 : World), Ho w0 w1 (L) → K (.bool u0) w1) : CallsX P N.f_dyad_away #[.int .i8 q0, .bool q1, .int .i64 q2, .bool q3] w K := by
 refine H.dyad_away q0 q1 q2 q3 w _ ?_
 unfold S_dyad_away
 unfold T_dyad_away at hx
 have h := hx
 clear hx
 try dsimp only
 refine cond_s h ?_ ?_ <;> clear h <;> intro hc h
 ·
  have h := some_inj h
  cases h
  exact hK _ hS
 ·
  refine cond_s h ?_ ?_ <;> clear h <;> intro hc h
  ·
   have h := some_inj h
   cases h
   exact hK _ hS
  ·
   refine cond_s h ?_ ?_ <;> clear h <;> intro hc h
   ·
    have h := some_inj h
    cases h
    exact hK _ hS
   ·
    refine cond_s h ?_ ?_ <;> clear h <;> intro hc h
    ·
     refine cond_s h ?_ ?_ <;> clear h <;> intro hc h
     ·
      have h := some_inj h
      cases h
      exact hK _ hS
     ·
      have h := some_inj h
      cases h
      exact hK _ hS
    ·
     have h := some_inj h
     cases h
     exact hK _ hS

theorem wk_bits_Join {N : Nums} {P : Program} (H : AllOk N P) {w0 w : World} {L : List It} {q0_0 : Bool} {q0_1 : Int} {q0_2 : Int} {u0 : Nat} {u1 : Bool} (hS : Ho w0 w (L))  (hx : T_bits_Join q0_0 q0_1 q0_2 = some (u0, u1)) {K : Value → World → Prop} (hK : ∀ (z0 : Nat) (w1 : World), nf z0 = u0 → Ho w0 w1 (L) → K (.tuple #[.float .f64 z0, .bool u1]) w1) : CallsX P N.f_bits_Join #[.agg #[.bool q0_0, .int .u64 q0_1, .int .i64 q0_2]] w K := by
 refine H.bits_Join q0_0 q0_1 q0_2 w _ ?_
 unfold S_bits_Join
 unfold T_bits_Join at hx
 have h := hx
 clear hx
 try dsimp only
 refine newM_s hS ?_; clear hS; intro r1 w hS
 refine ⟨_, (hS.cel mp0 rfl), ?_⟩
 obtain ⟨t1, ht1, h⟩ := bnd h
 refine wk_math_bits_Len64 H hS  ht1 ?_; clear hS ht1; rintro w hS
 refine ⟨_, rfl, ?_⟩
 obtain ⟨o2, h2, c2⟩ := bnd h
 refine cutM_i (fun s w => ∃ (t2 : Bool), t2 = o2 ∧ s = (t2, ()) ∧ Ho w0 w ((cl r1 [.bool q0_0, .int .u64 q0_1, .int .i64 q0_2] N.t_Parts) :: L)) (fun J2 hJ2 => ?_) ?_
 ·
  have h := h2
  clear h2
  refine ⟨_, (hS.cel mp0 rfl), ?_⟩
  refine cond_s h ?_ ?_ <;> clear h <;> intro hc h
  ·
   refine ⟨_, (hS.cel mp0 rfl), ?_⟩
   refine cond_s h ?_ ?_ <;> clear h <;> intro hc h
   ·
    refine ⟨_, (hS.cel mp0 rfl), ?_⟩
    refine cond_s h ?_ ?_ <;> clear h <;> intro hc h
    ·
     refine ⟨_, (hS.cel mp0 rfl), ?_⟩
     refine ⟨by decide, ?_⟩
     obtain rfl := some_inj h
     exact hJ2 _ _ ⟨_, rfl, rfl, hS⟩
    ·
     obtain rfl := some_inj h
     exact hJ2 _ _ ⟨_, rfl, rfl, hS⟩
   ·
    obtain rfl := some_inj h
    exact hJ2 _ _ ⟨_, rfl, rfl, hS⟩
  ·
   refine ⟨_, (hS.cel mp0 rfl), ?_⟩
   refine cond_s h ?_ ?_ <;> clear h <;> intro hc h
   ·
    refine ⟨_, (hS.cel mp0 rfl), ?_⟩
    refine ⟨by decide, ?_⟩
    obtain rfl := some_inj h
    exact hJ2 _ _ ⟨_, rfl, rfl, hS⟩
   ·
    obtain rfl := some_inj h
    exact hJ2 _ _ ⟨_, rfl, rfl, hS⟩
 ·
  clear h2 hS
  rintro s w ⟨t2, rfl, rfl, hS⟩
  have h := c2
  clear c2
  try dsimp only
  refine cond_s h ?_ ?_ <;> clear h <;> intro hc h
  ·
   have h := some_inj h
   cases h
   exact hK _ _ rfl (hS.pick (A := [_]) [] rfl)
  ·
   obtain ⟨o3, h3, c3⟩ := bnd h
   refine cutM_i (fun s w => ∃ (t3 : Bool), t3 = o3 ∧ s = (t3, ()) ∧ Ho w0 w ((cl r1 [.bool q0_0, .int .u64 q0_1, .int .i64 q0_2] N.t_Parts) :: L)) (fun J3 hJ3 => ?_) ?_
   ·
    have h := h3
    clear h3
    refine cond_s h ?_ ?_ <;> clear h <;> intro hc h
    ·
     refine ⟨_, (hS.cel mp0 rfl), ?_⟩
     refine cond_s h ?_ ?_ <;> clear h <;> intro hc h
     ·
      refine ⟨_, (hS.cel mp0 rfl), ?_⟩
      refine cond_s h ?_ ?_ <;> clear h <;> intro hc h
      ·
       refine ⟨_, (hS.cel mp0 rfl), ?_⟩
       refine cond_s h ?_ ?_ <;> clear h <;> intro hc h
       ·
        refine ⟨_, (hS.cel mp0 rfl), ?_⟩
        obtain rfl := some_inj h
        exact hJ3 _ _ ⟨_, rfl, rfl, hS⟩
       ·
        obtain rfl := some_inj h
        exact hJ3 _ _ ⟨_, rfl, rfl, hS⟩
      ·
       obtain rfl := some_inj h
       exact hJ3 _ _ ⟨_, rfl, rfl, hS⟩
     ·
      obtain rfl := some_inj h
      exact hJ3 _ _ ⟨_, rfl, rfl, hS⟩
    ·
     obtain rfl := some_inj h
     exact hJ3 _ _ ⟨_, rfl, rfl, hS⟩
   ·
    clear h3 hS
    rintro s w ⟨t3, rfl, rfl, hS⟩
    have h := c3
    clear c3
    try dsimp only
    refine cond_s h ?_ ?_ <;> clear h <;> intro hc h
    ·
     have h := some_inj h
     cases h
     exact hK _ _ rfl (hS.pick (A := [_]) [] rfl)
    ·
     refine ⟨_, (hS.cel mp0 rfl), ?_⟩
     refine ⟨_, (hS.cel mp0 rfl), ?_⟩
     obtain ⟨t4, ht4, h⟩ := bnd h
     refine wk_math_Ldexp H hS  ht4 ?_; clear hS ht4; rintro z4 w rfl hS
     refine ⟨_, rfl, ?_⟩
     refine ⟨_, (hS.cel mp0 rfl), ?_⟩
     obtain ⟨o6, h6, c6⟩ := bnd h
     refine cutM_i (fun s w => ∃ (z5 : Nat), (nf z5) = o6 ∧ s = (z5, ()) ∧ Ho w0 w (L)) (fun J6 hJ6 => ?_) ?_
     ·
      have h := h6
      clear h6
      refine cond_s h ?_ ?_ <;> clear h <;> intro hc h
      ·
       obtain ⟨t6, ht6, h⟩ := bnd h
       refine wk_math_Copysign H hS  ht6 ?_; clear hS ht6; rintro z7 w rfl hS
       refine ⟨_, rfl, ?_⟩
       obtain rfl := some_inj h
       exact hJ6 _ _ ⟨_, rfl, rfl, (hS.pick (A := [_]) [] rfl)⟩
      ·
       obtain rfl := some_inj h
       exact hJ6 _ _ ⟨_, rfl, rfl, (hS.pick (A := [_]) [] rfl)⟩
     ·
      clear h6 hS
      rintro s w ⟨z5, rfl, rfl, hS⟩
      have h := c6
      clear c6
      try dsimp only
      have h := some_inj h
      cases h
      exact hK _ _ rfl hS

theorem wk_bits_Place {N : Nums} {P : Program} (H : AllOk N P) {w0 w : World} {L : List It} {q0 : Nat} {u0 : Int} {u1 : Bool} (hS : Ho w0 w (L))  (hx : T_bits_Place (nf q0) = some (u0, u1)) {K : Value → World → Prop} (hK : ∀  (w1 : World), Ho w0 w1 (L) → K (.tuple #[.int .i64 u0, .bool u1]) w1) : CallsX P N.f_bits_Place #[.float .f64 q0] w K := by
 refine H.bits_Place q0 w _ ?_
 unfold S_bits_Place
 unfold T_bits_Place at hx
 have h := hx
 clear hx
 try dsimp only
 obtain ⟨t1, ht1, h⟩ := bnd h
 obtain rfl := fne_s ht1
 clear ht1
 refine cond_s h ?_ ?_ <;> clear h <;> intro hc h
 ·
  have h := some_inj h
  cases h
  exact hK _ hS
 ·
  obtain ⟨t2, ht2, h⟩ := bnd h
  refine wk_math_Abs H hS  ht2 ?_; clear hS ht2; rintro z1 w rfl hS
  refine ⟨_, rfl, ?_⟩
  obtain ⟨t3, ht3, h⟩ := bnd h
  refine wk_math_Float64bits H hS  ht3 ?_; clear hS ht3; rintro w hS
  refine ⟨_, rfl, ?_⟩
  obtain ⟨t4, ht4, h⟩ := bnd h
  obtain rfl := flt_s ht4
  clear ht4
  obtain ⟨o2, h2, c2⟩ := bnd h
  refine cutM_i (fun s w => ∃ (t5 : Int), t5 = o2 ∧ s = (t5, ()) ∧ Ho w0 w (L)) (fun J2 hJ2 => ?_) ?_
  ·
   have h := h2
   clear h2
   refine cond_s h ?_ ?_ <;> clear h <;> intro hc h
   ·
    obtain rfl := some_inj h
    exact hJ2 _ _ ⟨_, rfl, rfl, hS⟩
   ·
    obtain rfl := some_inj h
    exact hJ2 _ _ ⟨_, rfl, rfl, hS⟩
  ·
   clear h2 hS
   rintro s w ⟨t5, rfl, rfl, hS⟩
   have h := c2
   clear c2
   try dsimp only
   have h := some_inj h
   cases h
   exact hK _ hS

theorem wk_bits_At {N : Nums} {P : Program} (H : AllOk N P) {w0 w : World} {L : List It} {q0 : Int} {u0 : Nat} {u1 : Bool} (hS : Ho w0 w (L))  (hx : T_bits_At q0 = some (u0, u1)) {K : Value → World → Prop} (hK : ∀ (z0 : Nat) (w1 : World), nf z0 = u0 → Ho w0 w1 (L) → K (.tuple #[.float .f64 z0, .bool u1]) w1) : CallsX P N.f_bits_At #[.int .i64 q0] w K := by
 refine H.bits_At q0 w _ ?_
 unfold S_bits_At
 unfold T_bits_At at hx
 have h := hx
 clear hx
 try dsimp only
 refine cond_s h ?_ ?_ <;> clear h <;> intro hc h
 ·
  refine cond_s h ?_ ?_ <;> clear h <;> intro hc h
  ·
   have h := some_inj h
   cases h
   exact hK _ _ rfl hS
  ·
   refine cond_s h ?_ ?_ <;> clear h <;> intro hc h
   ·
    obtain ⟨t1, ht1, h⟩ := bnd h
    refine wk_math_Float64frombits H hS  ht1 ?_; clear hS ht1; rintro z1 w rfl hS
    refine ⟨_, rfl, ?_⟩
    obtain ⟨t2, ht2, h⟩ := bnd h
    obtain rfl := fneg_s ht2
    clear ht2
    have h := some_inj h
    cases h
    exact hK _ _ rfl hS
   ·
    obtain ⟨t3, ht3, h⟩ := bnd h
    refine wk_math_Float64frombits H hS  ht3 ?_; clear hS ht3; rintro z2 w rfl hS
    refine ⟨_, rfl, ?_⟩
    have h := some_inj h
    cases h
    exact hK _ _ rfl hS
 ·
  have h := some_inj h
  cases h
  exact hK _ _ rfl hS

theorem wk_bits_Next {N : Nums} {P : Program} (H : AllOk N P) {w0 w : World} {L : List It} {q0 : Nat} {q1 : Bool} {u0 : Nat} (hS : Ho w0 w (L))  (hx : T_bits_Next (nf q0) q1 = some u0) {K : Value → World → Prop} (hK : ∀ (z0 : Nat) (w1 : World), nf z0 = u0 → Ho w0 w1 (L) → K (.float .f64 z0) w1) : CallsX P N.f_bits_Next #[.float .f64 q0, .bool q1] w K := by
 refine H.bits_Next q0 q1 w _ ?_
 unfold S_bits_Next
 unfold T_bits_Next at hx
 have h := hx
 clear hx
 try dsimp only
 obtain ⟨⟨t1, t2⟩, ho1, h⟩ := bnd h
 refine wk_bits_Place H hS  ho1 ?_; clear hS ho1; rintro w hS
 refine ⟨_, _, rfl, ?_⟩
 refine cond_s h ?_ ?_ <;> clear h <;> intro hc h
 ·
  have h := some_inj h
  cases h
  exact hK _ _ rfl hS
 ·
  obtain ⟨o1, h1, c1⟩ := bnd h
  refine cutM_i (fun s w => ∃ (t3 : Int), t3 = o1 ∧ s = (t3, ()) ∧ Ho w0 w (L)) (fun J1 hJ1 => ?_) ?_
  ·
   have h := h1
   clear h1
   refine cond_s h ?_ ?_ <;> clear h <;> intro hc h
   ·
    obtain rfl := some_inj h
    exact hJ1 _ _ ⟨_, rfl, rfl, hS⟩
   ·
    obtain rfl := some_inj h
    exact hJ1 _ _ ⟨_, rfl, rfl, hS⟩
  ·
   clear h1 hS
   rintro s w ⟨t3, rfl, rfl, hS⟩
   have h := c1
   clear c1
   try dsimp only
   obtain ⟨⟨t4, t5⟩, ho4, h⟩ := bnd h
   refine wk_bits_At H hS  ho4 ?_; clear hS ho4; rintro z2 w rfl hS
   refine ⟨_, _, rfl, ?_⟩
   have h := some_inj h
   cases h
   exact hK _ _ rfl hS

theorem wk_dyad_float {N : Nums} {P : Program} (H : AllOk N P) {w0 w : World} {L : List It} {q0 : Bool} {q1 : Int} {q2 : Int} {q3 : Int} {u0 : Nat} (hS : Ho w0 w (L)) (hG : Ent L (tab64 N.g_1)) (hx : T_dyad_float q0 q1 q2 q3 = some u0) {K : Value → World → Prop} (hK : ∀ (z0 : Nat) (w1 : World), nf z0 = u0 → Ho w0 w1 (L) → K (.float .f64 z0) w1) : CallsX P N.f_dyad_float #[.bool q0, .int .u64 q1, .int .i64 q2, .int .i8 q3] w K := by
 refine H.dyad_float q0 q1 q2 q3 w _ ?_
 unfold S_dyad_float
 unfold T_dyad_float at hx
 have h := hx
 clear hx
 try dsimp only
 refine newM_s hS ?_; clear hS; intro r1 w hS
 refine stc_s hS rfl rfl ?_; clear hS; intro w hS
 refine stc_s hS rfl rfl ?_; clear hS; intro w hS
 refine stc_s hS rfl rfl ?_; clear hS; intro w hS
 obtain ⟨o2, h2, c2⟩ := bnd h
 refine cutM_i (fun s w => ∃ (t1 : Int) (t2 : Int), (t1, t2) = o2 ∧ s = (()) ∧ Ho w0 w ((cl r1 [.bool q0, .int .u64 t1, .int .i64 t2] N.t_Parts) :: L)) (fun J2 hJ2 => ?_) ?_
 ·
  have h := h2
  clear h2
  refine cond_s h ?_ ?_ <;> clear h <;> intro hc h
  ·
   obtain ⟨t3, ht3, h⟩ := bnd h
   refine wk_math_bits_TrailingZeros64 H hS (hG.mono tl1) ht3 ?_; clear hS ht3; rintro w hS
   refine ⟨_, rfl, ?_⟩
   obtain ⟨t4, ht4, h⟩ := bnd h
   refine ⟨nn_s ht4, ?_⟩
   clear ht4
   refine stc_s hS rfl rfl ?_; clear hS; intro w hS
   refine stc_s hS rfl rfl ?_; clear hS; intro w hS
   obtain rfl := some_inj h
   exact hJ2 _ _ ⟨_, _, rfl, rfl, hS⟩
  ·
   obtain rfl := some_inj h
   exact hJ2 _ _ ⟨_, _, rfl, rfl, hS⟩
 ·
  clear h2 hS
  rintro s w ⟨t1, t2, rfl, rfl, hS⟩
  have h := c2
  clear c2
  try dsimp only
  refine ⟨_, (hS.cel mp0 rfl), ?_⟩
  refine ⟨_, (hS.cel mp0 rfl), ?_⟩
  refine drM_s hS ?_; clear hS; intro w hS
  obtain ⟨t5, ht5, h⟩ := bnd h
  refine wk_math_bits_Len64 H hS  ht5 ?_; clear hS ht5; rintro w hS
  refine ⟨_, rfl, ?_⟩
  refine ⟨(hS.cel mp0 rfl), ?_⟩
  refine drM_s hS ?_; clear hS; intro w hS
  refine cond_s h ?_ ?_ <;> clear h <;> intro hc h
  ·
   refine stc_s hS rfl rfl ?_; clear hS; intro w hS
   refine stc_s hS rfl rfl ?_; clear hS; intro w hS
   refine ⟨_, (hS.cel mp0 rfl), ?_⟩
   refine ⟨_, (hS.cel mp0 rfl), ?_⟩
   refine ⟨_, (hS.cel mp0 rfl), ?_⟩
   obtain ⟨⟨t6, t7⟩, ho6, h⟩ := bnd h
   refine wk_bits_Join H hS  ho6 ?_; clear hS ho6; rintro z3 w rfl hS
   refine ⟨_, _, rfl, ?_⟩
   refine cond_s h ?_ ?_ <;> clear h <;> intro hc h
   ·
    refine cond_s h ?_ ?_ <;> clear h <;> intro hc h
    ·
     refine cond_s h ?_ ?_ <;> clear h <;> intro hc h
     ·
      refine cond_s h ?_ ?_ <;> clear h <;> intro hc h
      ·
       refine cond_s h ?_ ?_ <;> clear h <;> intro hc h
       ·
        have h := some_inj h
        cases h
        exact hK _ _ rfl (hS.pick (A := [_]) [] rfl)
       ·
        obtain ⟨t8, ht8, h⟩ := bnd h
        refine wk_bits_Next H hS  ht8 ?_; clear hS ht8; rintro z4 w rfl hS
        refine ⟨_, rfl, ?_⟩
        have h := some_inj h
        cases h
        exact hK _ _ rfl (hS.pick (A := [_]) [] rfl)
      ·
       obtain ⟨t9, ht9, h⟩ := bnd h
       refine wk_bits_Next H hS  ht9 ?_; clear hS ht9; rintro z5 w rfl hS
       refine ⟨_, rfl, ?_⟩
       have h := some_inj h
       cases h
       exact hK _ _ rfl (hS.pick (A := [_]) [] rfl)
     ·
      have h := some_inj h
      cases h
      exact hK _ _ rfl (hS.pick (A := [_]) [] rfl)
    ·
     refine cond_s h ?_ ?_ <;> clear h <;> intro hc h
     ·
      refine cond_s h ?_ ?_ <;> clear h <;> intro hc h
      ·
       have h := some_inj h
       cases h
       exact hK _ _ rfl (hS.pick (A := [_]) [] rfl)
      ·
       obtain ⟨t10, ht10, h⟩ := bnd h
       refine wk_bits_Next H hS  ht10 ?_; clear hS ht10; rintro z6 w rfl hS
       refine ⟨_, rfl, ?_⟩
       have h := some_inj h
       cases h
       exact hK _ _ rfl (hS.pick (A := [_]) [] rfl)
     ·
      obtain ⟨t11, ht11, h⟩ := bnd h
      refine wk_bits_Next H hS  ht11 ?_; clear hS ht11; rintro z7 w rfl hS
      refine ⟨_, rfl, ?_⟩
      have h := some_inj h
      cases h
      exact hK _ _ rfl (hS.pick (A := [_]) [] rfl)
   ·
    have h := some_inj h
    cases h
    exact hK _ _ rfl (hS.pick (A := [_]) [] rfl)
  ·
   refine ⟨_, (hS.cel mp0 rfl), ?_⟩
   refine ⟨_, (hS.cel mp0 rfl), ?_⟩
   refine ⟨_, (hS.cel mp0 rfl), ?_⟩
   obtain ⟨⟨t12, t13⟩, ho12, h⟩ := bnd h
   refine wk_bits_Join H hS  ho12 ?_; clear hS ho12; rintro z8 w rfl hS
   refine ⟨_, _, rfl, ?_⟩
   have h := some_inj h
   cases h
   exact hK _ _ rfl (hS.pick (A := [_]) [] rfl)

theorem wk_dyad_Round {N : Nums} {P : Program} (H : AllOk N P) {w0 w : World} {L : List It} {q0_0 : Bool} {q0_1 : Option Addr} {q0_1l q0_1c : Nat} {l0_1 : List Int} {q0_2 : Int} {q1 : Int} {u0 : Nat} {u1 : Int} (hS : Ho w0 w (L)) (hq0_1 : Ent L (rdA (List.map (Value.int .u64) l0_1) q0_1 q0_1l q0_1c)) (hG : Ent L (tab64 N.g_1)) (hx : T_dyad_Round q0_0 l0_1 q0_2 q1 = some (u0, u1)) {K : Value → World → Prop} (hK : ∀ (z0 : Nat) (w1 : World), nf z0 = u0 → Ho w0 w1 (L) → K (.tuple #[.float .f64 z0, .int .i64 u1]) w1) : CallsX P N.f_dyad_Round #[.agg #[.bool q0_0, .slice q0_1 q0_1l q0_1c, .int .i64 q0_2], .int .i8 q1] w K := by
 refine H.dyad_Round q0_0 q0_1 q0_1l q0_1c q0_2 q1 w _ ?_
 unfold S_dyad_Round
 unfold T_dyad_Round at hx
 have h := hx
 clear hx
 try dsimp only
 refine newM_s hS ?_; clear hS; intro r1 w hS
 refine ⟨_, (hS.cel mp0 rfl), ?_⟩
 refine ⟨_, _, _, (hS.cel mp0 rfl), ?_⟩
 refine ⟨_, (hS.cel mp0 rfl), ?_⟩
 obtain ⟨t1, ht1, h⟩ := bnd h
 refine wk_dyad_Right H hS (hq0_1.mono tl1) ht1 ?_; clear hS ht1; rintro w hS
 refine ⟨_, rfl, ?_⟩
 refine cond_s h ?_ ?_ <;> clear h <;> intro hc h
 ·
  have h := some_inj h
  cases h
  exact hK _ _ rfl (hS.pick (A := [_]) [] rfl)
 ·
  refine ⟨_, _, _, (hS.cel mp0 rfl), ?_⟩
  obtain ⟨t2, ht2, h⟩ := bnd h
  obtain rfl := lenE ht2 ((hq0_1.mono tl1).now (fun _ h => h) hS)
  clear ht2
  refine cond_s h ?_ ?_ <;> clear h <;> intro hc h
  ·
   have h := some_inj h
   cases h
   exact hK _ _ rfl (hS.pick (A := [_]) [] rfl)
  ·
   refine ⟨_, (hS.cel mp0 rfl), ?_⟩
   refine ⟨_, _, _, (hS.cel mp0 rfl), ?_⟩
   refine ⟨_, (hS.cel mp0 rfl), ?_⟩
   obtain ⟨t3, ht3, h⟩ := bnd h
   refine wk_dyad_whole H hS (hq0_1.mono tl1) ht3 ?_; clear hS ht3; rintro r2 a2 m2 c2 w hS
   refine ⟨_, rfl, ?_⟩
   obtain ⟨t4, ht4, h⟩ := bnd h
   refine big_Abs_zz H hS  ht4 ?_; clear hS ht4; intro a3 m3 c3 w hS
   refine ⟨_, rfl, ?_⟩
   refine ⟨_, (hS.cel mp1 rfl), ?_⟩
   refine ⟨_, _, _, (hS.cel mp1 rfl), ?_⟩
   refine ⟨_, (hS.cel mp1 rfl), ?_⟩
   obtain ⟨t5, ht5, h⟩ := bnd h
   refine wk_dyad_top H hS (hq0_1.mono tl2) ht5 ?_; clear hS ht5; rintro w hS
   refine ⟨_, rfl, ?_⟩
   refine ⟨_, (hS.cel mp1 rfl), ?_⟩
   obtain ⟨o4, h4, c4⟩ := bnd h
   refine cutM_i (fun s w => ∃ (t6 : Int), t6 = o4 ∧ s = (t6, ()) ∧ Ho w0 w ((cl r1 [.bool q0_0, .slice q0_1 q0_1l q0_1c, .int .i64 q0_2] N.t_Dyad) :: L)) (fun J4 hJ4 => ?_) ?_
   ·
    have h := h4
    clear h4
    refine cond_s h ?_ ?_ <;> clear h <;> intro hc h
    ·
     refine newM_s hS ?_; clear hS; intro r5 w hS; replace hS := Ho.bgNew (E := N.t_uint32) hS
     obtain ⟨t7, ht7, h⟩ := bnd h
     refine big_Lsh_zx H hS (Ent.bg mp0) ht7 ?_; clear hS ht7; intro a6 m6 c6 w hS
     refine ⟨_, rfl, ?_⟩
     obtain ⟨t8, ht8, h⟩ := bnd h
     refine big_Uint64_x H hS (Ent.bg mp0) ht8 ?_; clear hS ht8; intro w hS
     refine ⟨_, rfl, ?_⟩
     obtain rfl := some_inj h
     exact hJ4 _ _ ⟨_, rfl, rfl, (hS.pick (A := [_, _, _]) [2] rfl)⟩
    ·
     refine newM_s hS ?_; clear hS; intro r7 w hS; replace hS := Ho.bgNew (E := N.t_uint32) hS
     obtain ⟨t9, ht9, h⟩ := bnd h
     refine big_Rsh_zx H hS (Ent.bg mp0) ht9 ?_; clear hS ht9; intro a8 m8 c8 w hS
     refine ⟨_, rfl, ?_⟩
     obtain ⟨t10, ht10, h⟩ := bnd h
     refine big_Uint64_x H hS (Ent.bg mp0) ht10 ?_; clear hS ht10; intro w hS
     refine ⟨_, rfl, ?_⟩
     obtain ⟨t11, ht11, h⟩ := bnd h
     refine big_Lsh_zz H hS  ht11 ?_; clear hS ht11; intro a9 m9 c9 w hS
     refine ⟨_, rfl, ?_⟩
     obtain ⟨t12, ht12, h⟩ := bnd h
     replace hS := ro1 hS
     refine big_Sub_zzy H hS (Ent.bg mp0) ht12 ?_; clear hS ht12; intro a10 m10 c10 w hS
     refine ⟨_, rfl, ?_⟩
     refine newM_s hS ?_; clear hS; intro r11 w hS; replace hS := Ho.bgNew (E := N.t_uint32) hS
     obtain ⟨t13, ht13, h⟩ := bnd h
     refine wk_bignum_NewInt H hS  ht13 ?_; clear hS ht13; rintro r12 a12 m12 c12 w hS
     refine ⟨_, rfl, ?_⟩
     obtain ⟨t14, ht14, h⟩ := bnd h
     replace hS := ro1 hS
     refine big_Lsh_zx H hS (Ent.bg mp0) ht14 ?_; clear hS ht14; intro a13 m13 c13 w hS
     refine ⟨_, rfl, ?_⟩
     obtain ⟨t15, ht15, h⟩ := bnd h
     refine big_Cmp_xy H hS (Ent.bg mp2) (Ent.bg mp0) ht15 ?_; clear hS ht15; intro w hS
     refine ⟨_, rfl, ?_⟩
     obtain ⟨t16, ht16, h⟩ := bnd h
     refine big_Sign_x H hS (Ent.bg mp2) ht16 ?_; clear hS ht16; intro w hS
     refine ⟨_, rfl, ?_⟩
     refine cond_s h ?_ ?_ <;> clear h <;> intro hc h
     ·
      refine ⟨_, (hS.cel mp4 rfl), ?_⟩
      obtain ⟨t17, ht17, h⟩ := bnd h
      refine wk_dyad_away H hS  ht17 ?_; clear hS ht17; rintro w hS
      refine ⟨_, rfl, ?_⟩
      obtain ⟨o14, h14, c14⟩ := bnd h
      refine cutM_i (fun s w => ∃ (t18 : Int), t18 = o14 ∧ s = (t18, ()) ∧ Ho w0 w ((cl r1 [.bool q0_0, .slice q0_1 q0_1l q0_1c, .int .i64 q0_2] N.t_Dyad) :: L)) (fun J14 hJ14 => ?_) ?_
      ·
       have h := h14
       clear h14
       refine cond_s h ?_ ?_ <;> clear h <;> intro hc h
       ·
        obtain rfl := some_inj h
        exact hJ14 _ _ ⟨_, rfl, rfl, (hS.pick (A := [_, _, _, _, _]) [4] rfl)⟩
       ·
        obtain rfl := some_inj h
        exact hJ14 _ _ ⟨_, rfl, rfl, (hS.pick (A := [_, _, _, _, _]) [4] rfl)⟩
      ·
       clear h14 hS
       rintro s w ⟨t18, rfl, rfl, hS⟩
       have h := c14
       clear c14
       try dsimp only
       obtain rfl := some_inj h
       exact hJ4 _ _ ⟨_, rfl, rfl, hS⟩
     ·
      obtain ⟨o15, h15, c15⟩ := bnd h
      refine cutM_i (fun s w => ∃ (t19 : Int), t19 = o15 ∧ s = (t19, ()) ∧ Ho w0 w ((cl r1 [.bool q0_0, .slice q0_1 q0_1l q0_1c, .int .i64 q0_2] N.t_Dyad) :: L)) (fun J15 hJ15 => ?_) ?_
      ·
       have h := h15
       clear h15
       obtain rfl := some_inj h
       exact hJ15 _ _ ⟨_, rfl, rfl, (hS.pick (A := [_, _, _, _, _]) [4] rfl)⟩
      ·
       clear h15 hS
       rintro s w ⟨t19, rfl, rfl, hS⟩
       have h := c15
       clear c15
       try dsimp only
       obtain rfl := some_inj h
       exact hJ4 _ _ ⟨_, rfl, rfl, hS⟩
   ·
    clear h4 hS
    rintro s w ⟨t6, rfl, rfl, hS⟩
    have h := c4
    clear c4
    try dsimp only
    refine ⟨_, (hS.cel mp0 rfl), ?_⟩
    obtain ⟨t20, ht20, h⟩ := bnd h
    refine wk_dyad_float H hS (hG.mono tl1) ht20 ?_; clear hS ht20; rintro z16 w rfl hS
    refine ⟨_, rfl, ?_⟩
    have h := some_inj h
    cases h
    exact hK _ _ rfl (hS.pick (A := [_]) [] rfl)

theorem wk_girderlaw02_awake {N : Nums} {P : Program} (H : AllOk N P) {w0 w : World} {L : List It}  {u0 : Bool} (hS : Ho w0 w (L)) (hG : Ent L (tab64 N.g_1)) (hx : T_girderlaw02_awake  = some u0) {K : Value → World → Prop} (hK : ∀  (w1 : World), Ho w0 w1 (L) → K (.bool u0) w1) : CallsX P N.f_girderlaw02_awake #[] w K := by
 refine H.girderlaw02_awake  w _ ?_
 unfold S_girderlaw02_awake
 unfold T_girderlaw02_awake at hx
 have h := hx
 clear hx
 try dsimp only
 obtain ⟨⟨t1, t2, t3, t4⟩, ho1, h⟩ := bnd h
 refine wk_dyad_Of H hS hG ho1 ?_; clear hS ho1; rintro a1 m1 c1 w hS
 refine ⟨_, _, _, _, _, _, rfl, ?_⟩
 refine newM_s hS ?_; clear hS; intro r2 w hS
 refine stc_s hS rfl rfl ?_; clear hS; intro w hS
 refine stc_s hS rfl rfl ?_; clear hS; intro w hS
 refine stc_s hS rfl rfl ?_; clear hS; intro w hS
 obtain ⟨o7, h7, c7⟩ := bnd h
 refine cutM_i (fun s w => ∃ (t5 : Int) (r3 : Nat) (t6 : Bool) (t7 : Int) (a4 : Option Addr) (m5 : Nat) (c6 : Nat) (t8 : List Int), (t5, t6, t7, t8) = o7 ∧ s = ((some ⟨r3, 0, none⟩), t5, ()) ∧ Ho w0 w ((cl r3 [.bool t6, .slice a4 m5 c6, .int .i64 t7] N.t_Dyad) :: (sl a4 m5 c6 (List.map (Value.int .u64) t8) N.t_uint64) :: L)) (fun J7 hJ7 => ?_) ?_
 ·
  have h := h7
  clear h7
  refine ⟨_, (hS.cel mp0 rfl), ?_⟩
  refine ⟨_, _, _, (hS.cel mp0 rfl), ?_⟩
  refine ⟨_, (hS.cel mp0 rfl), ?_⟩
  refine ⟨?_, ?_⟩
  ·
   refine drM_s hS ?_; clear hS; intro w hS
   obtain ⟨⟨t9, t10, t11⟩, ho9, h⟩ := bnd h
   refine wk_dyad_Int H hS  ho9 ?_; clear hS ho9; rintro a8 m8 c8 w hS
   refine ⟨_, _, _, _, _, rfl, ?_⟩
   refine ⟨(hS.cel mp1 rfl), ?_⟩
   refine ⟨(hS.cel mp1 rfl), ?_⟩
   refine ⟨(hS.cel mp1 rfl), ?_⟩
   refine ⟨?_, ?_⟩
   ·
    refine drM_s hS ?_; clear hS; intro w hS
    obtain ⟨⟨t12, t13, t14, t15⟩, ho12, h⟩ := bnd h
    refine wk_dyad_Add H hS (Ent.sl mp2) (Ent.sl mp0) ho12 ?_; clear hS ho12; rintro a9 m9 c9 w hS
    refine ⟨_, _, _, _, _, _, rfl, ?_⟩
    refine drM_s hS ?_; clear hS; intro w hS
    refine newM_s hS ?_; clear hS; intro r10 w hS
    refine drM_s hS ?_; clear hS; intro w hS
    refine stc_s hS rfl rfl ?_; clear hS; intro w hS
    refine stc_s hS rfl rfl ?_; clear hS; intro w hS
    refine stc_s hS rfl rfl ?_; clear hS; intro w hS
    refine drM_s hS ?_; clear hS; intro w hS
    obtain rfl := some_inj h
    exact hJ7 _ _ ⟨_, _, _, _, _, _, _, _, rfl, rfl, (hS.pick (A := [_, _, _, _, _]) [0, 0] rfl)⟩
   ·
    refine drM_s hS ?_; clear hS; intro w hS
    refine newM_s hS ?_; clear hS; intro r11 w hS
    refine ⟨(hS.cel mp2 rfl), ?_⟩
    refine ⟨(hS.cel mp2 rfl), ?_⟩
    refine ⟨(hS.cel mp2 rfl), ?_⟩
    refine drM_s hS ?_; clear hS; intro w hS
    obtain ⟨⟨t12, t13, t14, t15⟩, ho12, h⟩ := bnd h
    refine wk_dyad_Add H hS (Ent.sl mp3) (Ent.sl mp1) ho12 ?_; clear hS ho12; rintro a12 m12 c12 w hS
    refine ⟨_, _, _, _, _, _, rfl, ?_⟩
    refine drM_s hS ?_; clear hS; intro w hS
    replace hS := ro1 hS
    refine stc_s hS rfl rfl ?_; clear hS; intro w hS
    refine stc_s hS rfl rfl ?_; clear hS; intro w hS
    refine stc_s hS rfl rfl ?_; clear hS; intro w hS
    refine drM_s hS ?_; clear hS; intro w hS
    obtain rfl := some_inj h
    exact hJ7 _ _ ⟨_, _, _, _, _, _, _, _, rfl, rfl, (hS.pick (A := [_, _, _, _, _]) [0, 0] rfl)⟩
  ·
   refine drM_s hS ?_; clear hS; intro w hS
   refine newM_s hS ?_; clear hS; intro r13 w hS
   refine ⟨(hS.cel mp1 rfl), ?_⟩
   refine ⟨(hS.cel mp1 rfl), ?_⟩
   refine ⟨(hS.cel mp1 rfl), ?_⟩
   refine drM_s hS ?_; clear hS; intro w hS
   obtain ⟨⟨t9, t10, t11⟩, ho9, h⟩ := bnd h
   refine wk_dyad_Int H hS  ho9 ?_; clear hS ho9; rintro a14 m14 c14 w hS
   refine ⟨_, _, _, _, _, rfl, ?_⟩
   refine ⟨(hS.cel mp2 rfl), ?_⟩
   refine ⟨(hS.cel mp2 rfl), ?_⟩
   refine ⟨(hS.cel mp2 rfl), ?_⟩
   refine drM_s hS ?_; clear hS; intro w hS
   obtain ⟨⟨t12, t13, t14, t15⟩, ho12, h⟩ := bnd h
   refine wk_dyad_Add H hS (Ent.sl mp3) (Ent.sl mp0) ho12 ?_; clear hS ho12; rintro a15 m15 c15 w hS
   refine ⟨_, _, _, _, _, _, rfl, ?_⟩
   refine drM_s hS ?_; clear hS; intro w hS
   replace hS := ro2 hS
   refine stc_s hS rfl rfl ?_; clear hS; intro w hS
   refine stc_s hS rfl rfl ?_; clear hS; intro w hS
   refine stc_s hS rfl rfl ?_; clear hS; intro w hS
   refine drM_s hS ?_; clear hS; intro w hS
   obtain rfl := some_inj h
   exact hJ7 _ _ ⟨_, _, _, _, _, _, _, _, rfl, rfl, (hS.pick (A := [_, _, _, _, _]) [0, 0] rfl)⟩
 ·
  clear h7 hS
  rintro s w ⟨t5, r3, t6, t7, a4, m5, c6, t8, rfl, rfl, hS⟩
  have h := c7
  clear c7
  try dsimp only
  obtain ⟨o20, h20, c20⟩ := bnd h
  refine cutM_i (fun s w => ∃ (t16 : Int) (r16 : Nat) (t17 : Bool) (t18 : Int) (a17 : Option Addr) (m18 : Nat) (c19 : Nat) (t19 : List Int), (t16, t17, t18, t19) = o20 ∧ s = ((some ⟨r16, 0, none⟩), t16, ()) ∧ Ho w0 w ((cl r16 [.bool t17, .slice a17 m18 c19, .int .i64 t18] N.t_Dyad) :: (sl a17 m18 c19 (List.map (Value.int .u64) t19) N.t_uint64) :: L)) (fun J20 hJ20 => ?_) ?_
  ·
   have h := h20
   clear h20
   refine optM_s ?_
   refine ⟨_, (hS.cel mp0 rfl), ?_⟩
   refine ⟨_, _, _, (hS.cel mp0 rfl), ?_⟩
   refine ⟨_, (hS.cel mp0 rfl), ?_⟩
   refine ⟨?_, ?_⟩
   ·
    refine drM_s hS ?_; clear hS; intro w hS
    obtain ⟨⟨t20, t21, t22⟩, ho20, h⟩ := bnd h
    refine wk_dyad_Int H hS  ho20 ?_; clear hS ho20; rintro a21 m21 c21 w hS
    refine ⟨_, _, _, _, _, rfl, ?_⟩
    refine ⟨(hS.cel mp1 rfl), ?_⟩
    refine ⟨(hS.cel mp1 rfl), ?_⟩
    refine ⟨(hS.cel mp1 rfl), ?_⟩
    refine ⟨?_, ?_⟩
    ·
     refine drM_s hS ?_; clear hS; intro w hS
     obtain ⟨⟨t23, t24, t25, t26⟩, ho23, h⟩ := bnd h
     refine wk_dyad_Mul H hS (Ent.sl mp2) (Ent.sl mp0) ho23 ?_; clear hS ho23; rintro a22 m22 c22 w hS
     refine ⟨_, _, _, _, _, _, rfl, ?_⟩
     refine drM_s hS ?_; clear hS; intro w hS
     refine newM_s hS ?_; clear hS; intro r23 w hS
     refine drM_s hS ?_; clear hS; intro w hS
     refine stc_s hS rfl rfl ?_; clear hS; intro w hS
     refine stc_s hS rfl rfl ?_; clear hS; intro w hS
     refine stc_s hS rfl rfl ?_; clear hS; intro w hS
     refine drM_s hS ?_; clear hS; intro w hS
     obtain rfl := some_inj h
     exact hJ20 _ _ ⟨_, _, _, _, _, _, _, _, rfl, rfl, (hS.pick (A := [_, _, _, _, _]) [0, 0] rfl)⟩
    ·
     refine drM_s hS ?_; clear hS; intro w hS
     refine newM_s hS ?_; clear hS; intro r24 w hS
     refine ⟨(hS.cel mp2 rfl), ?_⟩
     refine ⟨(hS.cel mp2 rfl), ?_⟩
     refine ⟨(hS.cel mp2 rfl), ?_⟩
     refine drM_s hS ?_; clear hS; intro w hS
     obtain ⟨⟨t23, t24, t25, t26⟩, ho23, h⟩ := bnd h
     refine wk_dyad_Mul H hS (Ent.sl mp3) (Ent.sl mp1) ho23 ?_; clear hS ho23; rintro a25 m25 c25 w hS
     refine ⟨_, _, _, _, _, _, rfl, ?_⟩
     refine drM_s hS ?_; clear hS; intro w hS
     replace hS := ro1 hS
     refine stc_s hS rfl rfl ?_; clear hS; intro w hS
     refine stc_s hS rfl rfl ?_; clear hS; intro w hS
     refine stc_s hS rfl rfl ?_; clear hS; intro w hS
     refine drM_s hS ?_; clear hS; intro w hS
     obtain rfl := some_inj h
     exact hJ20 _ _ ⟨_, _, _, _, _, _, _, _, rfl, rfl, (hS.pick (A := [_, _, _, _, _]) [0, 0] rfl)⟩
   ·
    refine drM_s hS ?_; clear hS; intro w hS
    refine newM_s hS ?_; clear hS; intro r26 w hS
    refine ⟨(hS.cel mp1 rfl), ?_⟩
    refine ⟨(hS.cel mp1 rfl), ?_⟩
    refine ⟨(hS.cel mp1 rfl), ?_⟩
    refine drM_s hS ?_; clear hS; intro w hS
    obtain ⟨⟨t20, t21, t22⟩, ho20, h⟩ := bnd h
    refine wk_dyad_Int H hS  ho20 ?_; clear hS ho20; rintro a27 m27 c27 w hS
    refine ⟨_, _, _, _, _, rfl, ?_⟩
    refine ⟨(hS.cel mp2 rfl), ?_⟩
    refine ⟨(hS.cel mp2 rfl), ?_⟩
    refine ⟨(hS.cel mp2 rfl), ?_⟩
    refine drM_s hS ?_; clear hS; intro w hS
    obtain ⟨⟨t23, t24, t25, t26⟩, ho23, h⟩ := bnd h
    refine wk_dyad_Mul H hS (Ent.sl mp3) (Ent.sl mp0) ho23 ?_; clear hS ho23; rintro a28 m28 c28 w hS
    refine ⟨_, _, _, _, _, _, rfl, ?_⟩
    refine drM_s hS ?_; clear hS; intro w hS
    replace hS := ro2 hS
    refine stc_s hS rfl rfl ?_; clear hS; intro w hS
    refine stc_s hS rfl rfl ?_; clear hS; intro w hS
    refine stc_s hS rfl rfl ?_; clear hS; intro w hS
    refine drM_s hS ?_; clear hS; intro w hS
    obtain rfl := some_inj h
    exact hJ20 _ _ ⟨_, _, _, _, _, _, _, _, rfl, rfl, (hS.pick (A := [_, _, _, _, _]) [0, 0] rfl)⟩
  ·
   clear h20 hS
   rintro s w ⟨t16, r16, t17, t18, a17, m18, c19, t19, rfl, rfl, hS⟩
   have h := c20
   clear c20
   try dsimp only
   refine optM_s ?_
   refine ⟨_, (hS.cel mp0 rfl), ?_⟩
   refine ⟨_, _, _, (hS.cel mp0 rfl), ?_⟩
   refine ⟨_, (hS.cel mp0 rfl), ?_⟩
   obtain ⟨⟨t27, t28⟩, ho27, h⟩ := bnd h
   refine wk_dyad_Round H hS (Ent.sl mp1) (hG.mono tl2) ho27 ?_; clear hS ho27; rintro z29 w rfl hS
   refine ⟨_, _, rfl, ?_⟩
   obtain ⟨t29, ht29, h⟩ := bnd h
   obtain rfl : ([1] : List Int) = t29 := some_inj ht29
   clear ht29
   refine lit_s (ks := [1]) (enc := (Value.int .u64)) (m := 1) hS rfl rfl ?_; clear hS; intro r30 w hS
   obtain ⟨⟨t30, t31⟩, ho30, h⟩ := bnd h
   refine wk_dyad_Round H hS (Ent.sl mp0) (hG.mono tl3) ho30 ?_; clear hS ho30; rintro z31 w rfl hS
   refine ⟨_, _, rfl, ?_⟩
   refine cond_s h ?_ ?_ <;> clear h <;> intro hc h
   ·
    refine cond_s h ?_ ?_ <;> clear h <;> intro hc h
    ·
     refine cond_s h ?_ ?_ <;> clear h <;> intro hc h
     ·
      refine cond_s h ?_ ?_ <;> clear h <;> intro hc h
      ·
       refine cond_s h ?_ ?_ <;> clear h <;> intro hc h
       ·
        obtain ⟨t32, ht32, h⟩ := bnd h
        obtain rfl := feq_s ht32
        clear ht32
        refine cond_s h ?_ ?_ <;> clear h <;> intro hc h
        ·
         obtain ⟨t33, ht33, h⟩ := bnd h
         obtain rfl := fgt_s ht33
         clear ht33
         refine cond_s h ?_ ?_ <;> clear h <;> intro hc h
         ·
          obtain ⟨t34, ht34, h⟩ := bnd h
          obtain rfl := flt_s ht34
          clear ht34
          have h := some_inj h
          cases h
          exact hK _ (hS.pick (A := [_, _, _]) [] rfl)
         ·
          have h := some_inj h
          cases h
          exact hK _ (hS.pick (A := [_, _, _]) [] rfl)
        ·
         have h := some_inj h
         cases h
         exact hK _ (hS.pick (A := [_, _, _]) [] rfl)
       ·
        have h := some_inj h
        cases h
        exact hK _ (hS.pick (A := [_, _, _]) [] rfl)
      ·
       have h := some_inj h
       cases h
       exact hK _ (hS.pick (A := [_, _, _]) [] rfl)
     ·
      have h := some_inj h
      cases h
      exact hK _ (hS.pick (A := [_, _, _]) [] rfl)
    ·
     have h := some_inj h
     cases h
     exact hK _ (hS.pick (A := [_, _, _]) [] rfl)
   ·
    have h := some_inj h
    cases h
    exact hK _ (hS.pick (A := [_, _, _]) [] rfl)

theorem wk_girderkit_mark {N : Nums} {P : Program} (H : AllOk N P) {w0 w : World} {L : List It} {q0 : Int} {q1 : Int} {u0 : Int} (hS : Ho w0 w (L))  (hx : T_girderkit_mark q0 q1 = some u0) {K : Value → World → Prop} (hK : ∀  (w1 : World), Ho w0 w1 (L) → K (.int .i64 u0) w1) : CallsX P N.f_girderkit_mark #[.int .i64 q0, .int .i64 q1] w K := by
 refine H.girderkit_mark q0 q1 w _ ?_
 unfold S_girderkit_mark
 unfold T_girderkit_mark at hx
 have h := hx
 clear hx
 try dsimp only
 have h := some_inj h
 cases h
 exact hK _ hS

theorem wk_girderkit_LentLimbs {N : Nums} {P : Program} (H : AllOk N P) {w0 w : World} {L : List It} {q0 : Option Addr} {q0l q0c : Nat} {l0 : List Int} {u0 : List Int} (hS : Ho w0 w (L)) (hq0 : Ent L (rdA (List.map (Value.int .u64) l0) q0 q0l q0c)) (hx : T_girderkit_LentLimbs l0 = some u0) {K : Value → World → Prop} (hK : ∀ (r0 : Nat) (w1 : World), l0 = u0 → Ho w0 w1 ((sl (some ⟨r0, 0, none⟩) (q0l + 12) (q0l + 12) (List.map (Value.int .u64) (l0 ++ marksU)) N.t_uint64) :: L) → K (.slice (some ⟨r0, 0, none⟩) q0l (q0l + 12)) w1) : CallsX P N.f_girderkit_LentLimbs #[.slice q0 q0l q0c] w K := by
 unfold T_girderkit_LentLimbs at hx
 have hd : l0.length ≤ 4294967000 := by
  rcases Nat.lt_or_ge 4294967000 l0.length with h | h
  ·
   rw [decide_eq_false (by omega)] at hx; cases hx
  ·
   exact h
 rw [decide_eq_true hd] at hx
 have hx := some_inj hx
 exact lentU_c H hS hq0 hd fun r w1 h1 => hK r w1 hx h1

theorem wk_girderkit_LentDyad {N : Nums} {P : Program} (H : AllOk N P) {w0 w : World} {L : List It} {q0_0 : Bool} {q0_1 : Option Addr} {q0_1l q0_1c : Nat} {l0_1 : List Int} {q0_2 : Int} {u0 : Bool} {u1 : List Int} {u2 : Int} (hS : Ho w0 w (L)) (hq0_1 : Ent L (rdA (List.map (Value.int .u64) l0_1) q0_1 q0_1l q0_1c)) (hx : T_girderkit_LentDyad q0_0 l0_1 q0_2 = some (u0, u1, u2)) {K : Value → World → Prop} (hK : ∀ (r1 : Nat) (w1 : World), l0_1 = u1 → Ho w0 w1 ((sl (some ⟨r1, 0, none⟩) (q0_1l + 12) (q0_1l + 12) (List.map (Value.int .u64) (l0_1 ++ marksU)) N.t_uint64) :: L) → K (.agg #[.bool u0, .slice (some ⟨r1, 0, none⟩) q0_1l (q0_1l + 12), .int .i64 u2]) w1) : CallsX P N.f_girderkit_LentDyad #[.agg #[.bool q0_0, .slice q0_1 q0_1l q0_1c, .int .i64 q0_2]] w K := by
 refine H.girderkit_LentDyad q0_0 q0_1 q0_1l q0_1c q0_2 w _ ?_
 unfold S_girderkit_LentDyad
 unfold T_girderkit_LentDyad at hx
 have h := hx
 clear hx
 try dsimp only
 refine newM_s hS ?_; clear hS; intro r1 w hS
 refine newM_s hS ?_; clear hS; intro r2 w hS
 refine ⟨_, _, _, (hS.cel mp1 rfl), ?_⟩
 obtain ⟨t1, ht1, h⟩ := bnd h
 refine wk_girderkit_LentLimbs H hS (hq0_1.mono tl2) ht1 ?_; clear hS ht1; rintro r3 w rfl hS
 refine ⟨_, _, _, rfl, ?_⟩
 replace hS := ro2 hS
 refine stc_s hS rfl rfl ?_; clear hS; intro w hS
 refine ⟨_, (hS.cel mp0 rfl), ?_⟩
 refine ⟨_, _, _, (hS.cel mp0 rfl), ?_⟩
 refine ⟨_, (hS.cel mp0 rfl), ?_⟩
 replace hS := ro2 hS
 refine stc_s hS rfl rfl ?_; clear hS; intro w hS
 refine stc_s hS rfl rfl ?_; clear hS; intro w hS
 refine stc_s hS rfl rfl ?_; clear hS; intro w hS
 refine ⟨_, (hS.cel mp0 rfl), ?_⟩
 refine ⟨_, _, _, (hS.cel mp0 rfl), ?_⟩
 refine ⟨_, (hS.cel mp0 rfl), ?_⟩
 have h := some_inj h
 cases h
 exact hK _ _ rfl (hS.pick (A := [_, _, _]) [2] rfl)

theorem wk_dyad_Fits {N : Nums} {P : Program} (H : AllOk N P) {w0 w : World} {L : List It} {q0_0 : Bool} {q0_1 : Option Addr} {q0_1l q0_1c : Nat} {l0_1 : List Int} {q0_2 : Int} {u0 : Bool} (hS : Ho w0 w (L)) (hq0_1 : Ent L (rdA (List.map (Value.int .u64) l0_1) q0_1 q0_1l q0_1c)) (hx : T_dyad_Fits q0_0 l0_1 q0_2 = some u0) {K : Value → World → Prop} (hK : ∀  (w1 : World), Ho w0 w1 (L) → K (.bool u0) w1) : CallsX P N.f_dyad_Fits #[.agg #[.bool q0_0, .slice q0_1 q0_1l q0_1c, .int .i64 q0_2]] w K := by
 refine H.dyad_Fits q0_0 q0_1 q0_1l q0_1c q0_2 w _ ?_
 unfold S_dyad_Fits
 unfold T_dyad_Fits at hx
 have h := hx
 clear hx
 try dsimp only
 refine newM_s hS ?_; clear hS; intro r1 w hS
 refine ⟨_, (hS.cel mp0 rfl), ?_⟩
 refine ⟨_, _, _, (hS.cel mp0 rfl), ?_⟩
 refine ⟨_, (hS.cel mp0 rfl), ?_⟩
 obtain ⟨t1, ht1, h⟩ := bnd h
 refine wk_dyad_Right H hS (hq0_1.mono tl1) ht1 ?_; clear hS ht1; rintro w hS
 refine ⟨_, rfl, ?_⟩
 refine cond_s h ?_ ?_ <;> clear h <;> intro hc h
 ·
  have h := some_inj h
  cases h
  exact hK _ (hS.pick (A := [_]) [] rfl)
 ·
  refine ⟨_, _, _, (hS.cel mp0 rfl), ?_⟩
  obtain ⟨t2, ht2, h⟩ := bnd h
  obtain rfl := lenE ht2 ((hq0_1.mono tl1).now (fun _ h => h) hS)
  clear ht2
  refine cond_s h ?_ ?_ <;> clear h <;> intro hc h
  ·
   have h := some_inj h
   cases h
   exact hK _ (hS.pick (A := [_]) [] rfl)
  ·
   refine ⟨_, (hS.cel mp0 rfl), ?_⟩
   refine cond_s h ?_ ?_ <;> clear h <;> intro hc h
   ·
    refine ⟨_, (hS.cel mp0 rfl), ?_⟩
    refine ⟨_, _, _, (hS.cel mp0 rfl), ?_⟩
    refine ⟨_, (hS.cel mp0 rfl), ?_⟩
    obtain ⟨t3, ht3, h⟩ := bnd h
    refine wk_dyad_top H hS (hq0_1.mono tl1) ht3 ?_; clear hS ht3; rintro w hS
    refine ⟨_, rfl, ?_⟩
    refine cond_s h ?_ ?_ <;> clear h <;> intro hc h
    ·
     refine ⟨_, _, _, (hS.cel mp0 rfl), ?_⟩
     obtain ⟨t4, ht4, h⟩ := bnd h
     obtain rfl := lenE ht4 ((hq0_1.mono tl1).now (fun _ h => h) hS)
     clear ht4
     refine cond_s h ?_ ?_ <;> clear h <;> intro hc h
     ·
      refine ⟨_, _, _, (hS.cel mp0 rfl), ?_⟩
      obtain ⟨t5, ht5, h⟩ := bnd h
      obtain ⟨q2x, q2l, q2r⟩ := atE ht5
      clear ht5
      refine idx_s ((hq0_1.mono tl1).now (fun _ h => h) hS) q2x q2l q2r ?_; intro b3 hb3
      refine ⟨_, rd_get ((hq0_1.mono tl1).now (fun _ h => h) hS) hb3 q2x, ?_⟩
      obtain ⟨t6, ht6, h⟩ := bnd h
      refine wk_math_bits_Len64 H hS  ht6 ?_; clear hS ht6; rintro w hS
      refine ⟨_, rfl, ?_⟩
      have h := some_inj h
      cases h
      exact hK _ (hS.pick (A := [_]) [] rfl)
     ·
      have h := some_inj h
      cases h
      exact hK _ (hS.pick (A := [_]) [] rfl)
    ·
     have h := some_inj h
     cases h
     exact hK _ (hS.pick (A := [_]) [] rfl)
   ·
    have h := some_inj h
    cases h
    exact hK _ (hS.pick (A := [_]) [] rfl)

theorem wk_dyad_Norm {N : Nums} {P : Program} (H : AllOk N P) {w0 w : World} {L : List It} {q0_0 : Bool} {q0_1 : Option Addr} {q0_1l q0_1c : Nat} {l0_1 : List Int} {q0_2 : Int} {u0 : Bool} {u1 : List Int} {u2 : Int} {u3 : Int} (hS : Ho w0 w (L)) (hq0_1 : Ent L (rdA (List.map (Value.int .u64) l0_1) q0_1 q0_1l q0_1c)) (hx : T_dyad_Norm q0_0 l0_1 q0_2 = some (u0, u1, u2, u3)) {K : Value → World → Prop} (hK : ∀ (a1 : Option Addr) (n1 c1 : Nat) (w1 : World), Ho w0 w1 ((sl a1 n1 c1 (List.map (Value.int .u64) u1) N.t_uint64) :: L) → K (.tuple #[.agg #[.bool u0, .slice a1 n1 c1, .int .i64 u2], .int .i64 u3]) w1) : CallsX P N.f_dyad_Norm #[.agg #[.bool q0_0, .slice q0_1 q0_1l q0_1c, .int .i64 q0_2]] w K := by
 refine H.dyad_Norm q0_0 q0_1 q0_1l q0_1c q0_2 w _ ?_
 unfold S_dyad_Norm
 unfold T_dyad_Norm at hx
 have h := hx
 clear hx
 try dsimp only
 refine newM_s hS ?_; clear hS; intro r1 w hS
 refine newM_s hS ?_; clear hS; intro r2 w hS
 refine ⟨_, (hS.cel mp1 rfl), ?_⟩
 refine ⟨_, _, _, (hS.cel mp1 rfl), ?_⟩
 refine ⟨_, (hS.cel mp1 rfl), ?_⟩
 refine ⟨_, (hS.cel mp1 rfl), ?_⟩
 refine drM_s hS ?_; clear hS; intro w hS
 obtain ⟨t1, ht1, h⟩ := bnd h
 refine wk_dyad_whole H hS (hq0_1.mono tl2) ht1 ?_; clear hS ht1; rintro r3 a3 m3 c3 w hS
 refine ⟨_, rfl, ?_⟩
 refine ⟨(hS.cel mp2 rfl), ?_⟩
 refine drM_s hS ?_; clear hS; intro w hS
 obtain ⟨⟨t2, t3, t4, t5⟩, ho2, h⟩ := bnd h
 refine wk_dyad_made H hS (Ent.bg mp0) ho2 ?_; clear hS ho2; rintro a4 m4 c4 w hS
 refine ⟨_, _, _, _, _, _, rfl, ?_⟩
 refine drM_s hS ?_; clear hS; intro w hS
 replace hS := ro2 hS
 refine stc_s hS rfl rfl ?_; clear hS; intro w hS
 refine stc_s hS rfl rfl ?_; clear hS; intro w hS
 refine stc_s hS rfl rfl ?_; clear hS; intro w hS
 refine drM_s hS ?_; clear hS; intro w hS
 refine ⟨_, (hS.cel mp0 rfl), ?_⟩
 refine ⟨_, _, _, (hS.cel mp0 rfl), ?_⟩
 refine ⟨_, (hS.cel mp0 rfl), ?_⟩
 have h := some_inj h
 cases h
 exact hK _ _ _ _ (hS.pick (A := [_, _, _, _]) [1] rfl)

theorem wk_girderkit_SameLimbs {N : Nums} {P : Program} (H : AllOk N P) {w0 w : World} {L : List It} {q0 : Option Addr} {q0l q0c : Nat} {l0 : List Int} {q1 : Option Addr} {q1l q1c : Nat} {l1 : List Int} {u0 : Bool} (hS : Ho w0 w (L)) (hq0 : Ent L (rdA (List.map (Value.int .u64) l0) q0 q0l q0c)) (hq1 : Ent L (rdA (List.map (Value.int .u64) l1) q1 q1l q1c)) (hx : T_girderkit_SameLimbs l0 l1 = some u0) {K : Value → World → Prop} (hK : ∀  (w1 : World), Ho w0 w1 (L) → K (.bool u0) w1) : CallsX P N.f_girderkit_SameLimbs #[.slice q0 q0l q0c, .slice q1 q1l q1c] w K := by
 refine H.girderkit_SameLimbs q0 q0l q0c q1 q1l q1c w _ ?_
 unfold S_girderkit_SameLimbs
 unfold T_girderkit_SameLimbs at hx
 have h := hx
 clear hx
 try dsimp only
 obtain ⟨t1, ht1, h⟩ := bnd h
 obtain rfl := lenE ht1 (hq0.now (fun _ h => h) hS)
 clear ht1
 obtain ⟨t2, ht2, h⟩ := bnd h
 obtain rfl := lenE ht2 (hq1.now (fun _ h => h) hS)
 clear ht2
 refine cond_s h ?_ ?_ <;> clear h <;> intro hc h
 ·
  have h := some_inj h
  cases h
  exact hK _ hS
 ·
  obtain ⟨o1, h1, c1⟩ := bnd h
  refine cutM_i (fun s w =>  .inl () = o1 ∧ s = (()) ∧ Ho w0 w (L)) (fun J1 hJ1 => ?_) ?_
  ·
   have h := h1
   clear h1
   refine iter_sim (fun s w t => ∃ (t3 : Int), t3 = t ∧ s = (t3, ()) ∧ Ho w0 w (L)) ?_ h ⟨_, rfl, rfl, hS⟩
   clear h hS
   rintro s w t X q ⟨t3, rfl, rfl, hS⟩ h hX hO
   unfold T_girderkit_SameLimbs_b2 at h
   try dsimp only
   obtain ⟨t4, ht4, h⟩ := bnd h
   obtain rfl := lenE ht4 (hq0.now (fun _ h => h) hS)
   clear ht4
   refine cond_s h ?_ ?_ <;> clear h <;> intro hc h
   ·
    obtain ⟨t5, ht5, h⟩ := bnd h
    obtain ⟨q2x, q2l, q2r⟩ := atE ht5
    clear ht5
    refine idx_s (hq0.now (fun _ h => h) hS) q2x q2l q2r ?_; intro b3 hb3
    refine ⟨_, rd_get (hq0.now (fun _ h => h) hS) hb3 q2x, ?_⟩
    obtain ⟨t6, ht6, h⟩ := bnd h
    obtain ⟨q4x, q4l, q4r⟩ := atE ht6
    clear ht6
    refine idx_s (hq1.now (fun _ h => h) hS) q4x q4l q4r ?_; intro b5 hb5
    refine ⟨_, rd_get (hq1.now (fun _ h => h) hS) hb5 q4x, ?_⟩
    refine drM_s hS ?_; clear hS; intro w hS
    refine cond_s h ?_ ?_ <;> clear h <;> intro hc h
    ·
     obtain rfl := some_inj h
     have h := congrArg some (hO _ rfl)
     obtain rfl := some_inj h
     have h := c1
     have h := some_inj h
     cases h
     exact hK _ hS
    ·
     obtain rfl := some_inj h
     exact hX _ rfl _ _ ⟨_, rfl, rfl, hS⟩
   ·
    obtain rfl := some_inj h
    have h := congrArg some (hO _ rfl)
    obtain rfl := some_inj h
    exact hJ1 _ _ ⟨rfl, rfl, hS⟩
  ·
   clear h1 hS
   rintro s w ⟨rfl, rfl, hS⟩
   have h := c1
   clear c1
   try dsimp only
   have h := some_inj h
   cases h
   exact hK _ hS

theorem wk_girderkit_SameDyad {N : Nums} {P : Program} (H : AllOk N P) {w0 w : World} {L : List It} {q0_0 : Bool} {q0_1 : Option Addr} {q0_1l q0_1c : Nat} {l0_1 : List Int} {q0_2 : Int} {q1_0 : Bool} {q1_1 : Option Addr} {q1_1l q1_1c : Nat} {l1_1 : List Int} {q1_2 : Int} {u0 : Bool} (hS : Ho w0 w (L)) (hq0_1 : Ent L (rdA (List.map (Value.int .u64) l0_1) q0_1 q0_1l q0_1c)) (hq1_1 : Ent L (rdA (List.map (Value.int .u64) l1_1) q1_1 q1_1l q1_1c)) (hx : T_girderkit_SameDyad q0_0 l0_1 q0_2 q1_0 l1_1 q1_2 = some u0) {K : Value → World → Prop} (hK : ∀  (w1 : World), Ho w0 w1 (L) → K (.bool u0) w1) : CallsX P N.f_girderkit_SameDyad #[.agg #[.bool q0_0, .slice q0_1 q0_1l q0_1c, .int .i64 q0_2], .agg #[.bool q1_0, .slice q1_1 q1_1l q1_1c, .int .i64 q1_2]] w K := by
 refine H.girderkit_SameDyad q0_0 q0_1 q0_1l q0_1c q0_2 q1_0 q1_1 q1_1l q1_1c q1_2 w _ ?_
 unfold S_girderkit_SameDyad
 unfold T_girderkit_SameDyad at hx
 have h := hx
 clear hx
 try dsimp only
 refine newM_s hS ?_; clear hS; intro r1 w hS
 refine newM_s hS ?_; clear hS; intro r2 w hS
 refine ⟨_, (hS.cel mp1 rfl), ?_⟩
 refine ⟨_, (hS.cel mp0 rfl), ?_⟩
 refine cond_s h ?_ ?_ <;> clear h <;> intro hc h
 ·
  refine ⟨_, _, _, (hS.cel mp1 rfl), ?_⟩
  refine ⟨_, _, _, (hS.cel mp0 rfl), ?_⟩
  obtain ⟨t1, ht1, h⟩ := bnd h
  refine wk_girderkit_SameLimbs H hS (hq0_1.mono tl2) (hq1_1.mono tl2) ht1 ?_; clear hS ht1; rintro w hS
  refine ⟨_, rfl, ?_⟩
  refine cond_s h ?_ ?_ <;> clear h <;> intro hc h
  ·
   refine ⟨_, (hS.cel mp1 rfl), ?_⟩
   refine ⟨_, (hS.cel mp0 rfl), ?_⟩
   have h := some_inj h
   cases h
   exact hK _ (hS.pick (A := [_, _]) [] rfl)
  ·
   have h := some_inj h
   cases h
   exact hK _ (hS.pick (A := [_, _]) [] rfl)
 ·
  have h := some_inj h
  cases h
  exact hK _ (hS.pick (A := [_, _]) [] rfl)

theorem wk_girderkit_KeptLimbs {N : Nums} {P : Program} (H : AllOk N P) {w0 w : World} {L : List It} {q0 : Option Addr} {q0l : Nat} {q1 : Option Addr} {q1l q1c : Nat} {l1 : List Int} {u0 : Bool} (hS : Ho w0 w (L)) (hq0 : Ent L (rdA (List.map (Value.int .u64) (l1 ++ marksU)) q0 (q0l + 12) (q0l + 12))) (hq1 : Ent L (rdA (List.map (Value.int .u64) l1) q1 q1l q1c)) (hx : T_girderkit_KeptLimbs l1 l1 = some u0) {K : Value → World → Prop} (hK : ∀  (w1 : World), Ho w0 w1 (L) → K (.bool u0) w1) : CallsX P N.f_girderkit_KeptLimbs #[.slice q0 q0l (q0l + 12), .slice q1 q1l q1c] w K := by
 unfold T_girderkit_KeptLimbs at hx
 have hd : l1.length ≤ 4294967000 := by
  rcases Nat.lt_or_ge 4294967000 l1.length with h | h
  ·
   rw [decide_eq_false (by omega)] at hx; cases hx
  ·
   exact h
 rw [decide_eq_true hd] at hx
 have hx := some_inj hx
 subst hx
 have r0 := (hq0.now (fun _ h => h) hS).len
 have r1 := (hq1.now (fun _ h => h) hS).len
 have e12 : marksU.length = 12 := rfl
 rw [List.length_map, List.length_append, e12] at r0
 rw [List.length_map] at r1
 obtain rfl : q0l = q1l := by omega
 exact keptU_c H hS hq0 hq1 hd hK

theorem wk_girderkit_KeptDyad {N : Nums} {P : Program} (H : AllOk N P) {w0 w : World} {L : List It} {q0_0 : Bool} {q0_1 : Option Addr} {q0_1l : Nat} {q0_2 : Int} {q1_0 : Bool} {q1_1 : Option Addr} {q1_1l q1_1c : Nat} {l1_1 : List Int} {q1_2 : Int} {u0 : Bool} (hS : Ho w0 w (L)) (hq0_1 : Ent L (rdA (List.map (Value.int .u64) (l1_1 ++ marksU)) q0_1 (q0_1l + 12) (q0_1l + 12))) (hq1_1 : Ent L (rdA (List.map (Value.int .u64) l1_1) q1_1 q1_1l q1_1c)) (hx : T_girderkit_KeptDyad q0_0 l1_1 q0_2 q1_0 l1_1 q1_2 = some u0) {K : Value → World → Prop} (hK : ∀  (w1 : World), Ho w0 w1 (L) → K (.bool u0) w1) : CallsX P N.f_girderkit_KeptDyad #[.agg #[.bool q0_0, .slice q0_1 q0_1l (q0_1l + 12), .int .i64 q0_2], .agg #[.bool q1_0, .slice q1_1 q1_1l q1_1c, .int .i64 q1_2]] w K := by
 refine H.girderkit_KeptDyad q0_0 q0_1 q0_1l (q0_1l + 12) q0_2 q1_0 q1_1 q1_1l q1_1c q1_2 w _ ?_
 unfold S_girderkit_KeptDyad
 unfold T_girderkit_KeptDyad at hx
 have h := hx
 clear hx
 try dsimp only
 refine newM_s hS ?_; clear hS; intro r1 w hS
 refine newM_s hS ?_; clear hS; intro r2 w hS
 refine ⟨_, (hS.cel mp1 rfl), ?_⟩
 refine ⟨_, _, _, (hS.cel mp1 rfl), ?_⟩
 refine ⟨_, (hS.cel mp1 rfl), ?_⟩
 refine ⟨_, (hS.cel mp0 rfl), ?_⟩
 refine ⟨_, _, _, (hS.cel mp0 rfl), ?_⟩
 refine ⟨_, (hS.cel mp0 rfl), ?_⟩
 obtain ⟨t1, ht1, h⟩ := bnd h
 refine wk_girderkit_SameDyad H hS (Ent.lent (hq0_1.mono tl2) rfl rfl) (hq1_1.mono tl2) ht1 ?_; clear hS ht1; rintro w hS
 refine ⟨_, rfl, ?_⟩
 refine cond_s h ?_ ?_ <;> clear h <;> intro hc h
 ·
  refine ⟨_, _, _, (hS.cel mp1 rfl), ?_⟩
  refine ⟨_, _, _, (hS.cel mp0 rfl), ?_⟩
  obtain ⟨t2, ht2, h⟩ := bnd h
  refine wk_girderkit_KeptLimbs H hS (hq0_1.mono tl2) (hq1_1.mono tl2) ht2 ?_; clear hS ht2; rintro w hS
  refine ⟨_, rfl, ?_⟩
  have h := some_inj h
  cases h
  exact hK _ (hS.pick (A := [_, _]) [] rfl)
 ·
  have h := some_inj h
  cases h
  exact hK _ (hS.pick (A := [_, _]) [] rfl)

theorem wk_girderref02_NatTrim {N : Nums} {P : Program} (H : AllOk N P) {w0 w : World} {L : List It} {q0 : Option Addr} {q0l q0c : Nat} {l0 : List Int} {u0 : List Int} (hS : Ho w0 w (L)) (hq0 : Ent L (rdA (List.map (Value.int .u64) l0) q0 q0l q0c)) (hx : T_girderref02_NatTrim l0 = some u0) {K : Value → World → Prop} (hK : ∀ (a0 : Option Addr) (n0 c0 : Nat) (w1 : World), Ho w0 w1 ((sl a0 n0 c0 (List.map (Value.int .u64) u0) N.t_uint64) :: L) → K (.slice a0 n0 c0) w1) : CallsX P N.f_girderref02_NatTrim #[.slice q0 q0l q0c] w K := by
 refine H.girderref02_NatTrim q0 q0l q0c w _ ?_
 unfold S_girderref02_NatTrim
 unfold T_girderref02_NatTrim at hx
 have h := hx
 clear hx
 try dsimp only
 obtain ⟨t1, ht1, h⟩ := bnd h
 obtain rfl := lenE ht1 (hq0.now (fun _ h => h) hS)
 clear ht1
 obtain ⟨o1, h1, c1⟩ := bnd h
 refine cutM_i (fun s w => ∃ (t2 : Int), t2 = o1 ∧ s = (t2, ()) ∧ Ho w0 w (L)) (fun J1 hJ1 => ?_) ?_
 ·
  have h := h1
  clear h1
  refine iter_sim (fun s w t => ∃ (t3 : Int), t3 = t ∧ s = (t3, ()) ∧ Ho w0 w (L)) ?_ h ⟨_, rfl, rfl, hS⟩
  clear h hS
  rintro s w t X q ⟨t3, rfl, rfl, hS⟩ h hX hO
  unfold T_girderref02_NatTrim_b2 at h
  try dsimp only
  refine cond_s h ?_ ?_ <;> clear h <;> intro hc h
  ·
   obtain ⟨t4, ht4, h⟩ := bnd h
   obtain ⟨q2x, q2l, q2r⟩ := atE ht4
   clear ht4
   refine idx_s (hq0.now (fun _ h => h) hS) q2x q2l q2r ?_; intro b3 hb3
   refine ⟨_, rd_get (hq0.now (fun _ h => h) hS) hb3 q2x, ?_⟩
   refine cond_s h ?_ ?_ <;> clear h <;> intro hc h
   ·
    obtain rfl := some_inj h
    exact hX _ rfl _ _ ⟨_, rfl, rfl, hS⟩
   ·
    obtain rfl := some_inj h
    have h := congrArg some (hO _ rfl)
    obtain rfl := some_inj h
    exact hJ1 _ _ ⟨_, rfl, rfl, hS⟩
  ·
   obtain rfl := some_inj h
   have h := congrArg some (hO _ rfl)
   obtain rfl := some_inj h
   exact hJ1 _ _ ⟨_, rfl, rfl, hS⟩
 ·
  clear h1 hS
  rintro s w ⟨t2, rfl, rfl, hS⟩
  have h := c1
  clear c1
  try dsimp only
  obtain ⟨t5, ht5, h⟩ := bnd h
  obtain ⟨rfl, q40, q41, q42⟩ := subE ht5
  clear ht5
  have q43 := (hq0.now (fun _ h => h) hS).hiCap q42
  refine ⟨q41, q43, ?_⟩
  obtain ⟨t6, ht6, h⟩ := bnd h
  obtain ⟨rfl, kt6⟩ := appE ht6
  clear ht6
  replace hS := hS.none (α := Int) (enc := (Value.int .u64)) (t := N.t_uint64)
  refine app_s hS kt6 ((Ent.upto (hq0.mono tl1) q41 q42).now (fun _ h => h) hS) (fun _ => rfl) rfl ?_; clear hS kt6; intro a5 c5 w hS
  have h := some_inj h
  cases h
  exact hK _ _ _ _ hS

theorem wk_girderref02_low {N : Nums} {P : Program} (H : AllOk N P) {w0 w : World} {L : List It} {q0 : Option Addr} {q0l q0c : Nat} {l0 : List Int} {u0b : Int} (hS : Ho w0 w (L)) (hq0 : Ent L (rdA (List.map (Value.int .u64) l0) q0 q0l q0c)) (hx : T_girderref02_low l0 = some u0b) {K : Value → World → Prop} (hK : ∀  (w1 : World), Ho w0 w1 (L) → K (.slice (slBase q0 0 q0c 1) u0b.toNat q0c) w1) : CallsX P N.f_girderref02_low #[.slice q0 q0l q0c] w K := by
 refine H.girderref02_low q0 q0l q0c w _ ?_
 unfold S_girderref02_low
 unfold T_girderref02_low at hx
 have h := hx
 clear hx
 try dsimp only
 obtain ⟨t1, ht1, h⟩ := bnd h
 obtain rfl := lenE ht1 (hq0.now (fun _ h => h) hS)
 clear ht1
 obtain ⟨o1, h1, c1⟩ := bnd h
 refine cutM_i (fun s w => ∃ (t2 : Int), t2 = o1 ∧ s = (t2, ()) ∧ Ho w0 w (L)) (fun J1 hJ1 => ?_) ?_
 ·
  have h := h1
  clear h1
  refine iter_sim (fun s w t => ∃ (t3 : Int), t3 = t ∧ s = (t3, ()) ∧ Ho w0 w (L)) ?_ h ⟨_, rfl, rfl, hS⟩
  clear h hS
  rintro s w t X q ⟨t3, rfl, rfl, hS⟩ h hX hO
  unfold T_girderref02_low_b2 at h
  try dsimp only
  refine cond_s h ?_ ?_ <;> clear h <;> intro hc h
  ·
   obtain ⟨t4, ht4, h⟩ := bnd h
   obtain ⟨q2x, q2l, q2r⟩ := atE ht4
   clear ht4
   refine idx_s (hq0.now (fun _ h => h) hS) q2x q2l q2r ?_; intro b3 hb3
   refine ⟨_, rd_get (hq0.now (fun _ h => h) hS) hb3 q2x, ?_⟩
   refine cond_s h ?_ ?_ <;> clear h <;> intro hc h
   ·
    obtain rfl := some_inj h
    exact hX _ rfl _ _ ⟨_, rfl, rfl, hS⟩
   ·
    obtain rfl := some_inj h
    have h := congrArg some (hO _ rfl)
    obtain rfl := some_inj h
    exact hJ1 _ _ ⟨_, rfl, rfl, hS⟩
  ·
   obtain rfl := some_inj h
   have h := congrArg some (hO _ rfl)
   obtain rfl := some_inj h
   exact hJ1 _ _ ⟨_, rfl, rfl, hS⟩
 ·
  clear h1 hS
  rintro s w ⟨t2, rfl, rfl, hS⟩
  have h := c1
  clear c1
  try dsimp only
  obtain ⟨t5, ht5, h⟩ := bnd h
  obtain ⟨rfl, q40, q41, q42⟩ := subE ht5
  clear ht5
  have q43 := (hq0.now (fun _ h => h) hS).hiCap q42
  refine ⟨q41, q43, ?_⟩
  have h := some_inj h
  cases h
  exact hK _ hS

theorem wk_girderref02_halves {N : Nums} {P : Program} (H : AllOk N P) {w0 w : World} {L : List It} {q0 : Option Addr} {q0l q0c : Nat} {l0 : List Int} {u0 : List Int} (hS : Ho w0 w (L)) (hq0 : Ent L (rdA (List.map (Value.int .u64) l0) q0 q0l q0c)) (hx : T_girderref02_halves l0 = some u0) {K : Value → World → Prop} (hK : ∀ (a0 : Option Addr) (n0 c0 : Nat) (w1 : World), Ho w0 w1 ((sl a0 n0 c0 (List.map (Value.int .u64) u0) N.t_uint64) :: L) → K (.slice a0 n0 c0) w1) : CallsX P N.f_girderref02_halves #[.slice q0 q0l q0c] w K := by
 refine H.girderref02_halves q0 q0l q0c w _ ?_
 unfold S_girderref02_halves
 unfold T_girderref02_halves at hx
 have h := hx
 clear hx
 try dsimp only
 obtain ⟨o4, h4, c4⟩ := bnd h
 refine cutM_i (fun s w => ∃ (a1 : Option Addr) (m2 : Nat) (c3 : Nat) (t1 : List Int), t1 = o4 ∧ s = ((a1, m2, c3), ()) ∧ Ho w0 w ((sl a1 m2 c3 (List.map (Value.int .u64) t1) N.t_uint64) :: L)) (fun J4 hJ4 => ?_) ?_
 ·
  have h := h4
  clear h4
  replace hS := hS.none (α := Int) (enc := (Value.int .u64)) (t := N.t_uint64)
  refine iter_sim (fun s w t => ∃ (t2 : Int) (a5 : Option Addr) (m6 : Nat) (c7 : Nat) (t3 : List Int), (t2, t3) = t ∧ s = ((a5, m6, c7), t2, ()) ∧ Ho w0 w ((sl a5 m6 c7 (List.map (Value.int .u64) t3) N.t_uint64) :: L)) ?_ h ⟨_, _, _, _, _, rfl, rfl, hS⟩
  clear h hS
  rintro s w t X q ⟨t2, a5, m6, c7, t3, rfl, rfl, hS⟩ h hX hO
  unfold T_girderref02_halves_b2 at h
  try dsimp only
  obtain ⟨t4, ht4, h⟩ := bnd h
  obtain rfl := lenE ht4 ((hq0.mono tl1).now (fun _ h => h) hS)
  clear ht4
  refine cond_s h ?_ ?_ <;> clear h <;> intro hc h
  ·
   obtain ⟨t5, ht5, h⟩ := bnd h
   obtain ⟨q8x, q8l, q8r⟩ := atE ht5
   clear ht5
   refine idx_s ((hq0.mono tl1).now (fun _ h => h) hS) q8x q8l q8r ?_; intro b9 hb9
   refine ⟨_, rd_get ((hq0.mono tl1).now (fun _ h => h) hS) hb9 q8x, ?_⟩
   refine ⟨by decide, ?_⟩
   obtain ⟨t6, ht6, h⟩ := bnd h
   obtain ⟨q10x, q10l, q10r⟩ := atE ht6
   clear ht6
   refine idx_s ((hq0.mono tl1).now (fun _ h => h) hS) q10x q10l q10r ?_; intro b11 hb11
   refine ⟨_, rd_get ((hq0.mono tl1).now (fun _ h => h) hS) hb11 q10x, ?_⟩
   refine ⟨by decide, ?_⟩
   refine drM_s hS ?_; clear hS; intro w hS
   obtain ⟨t7, ht7, h⟩ := bnd h
   obtain rfl : ([(t5.tmod 4294967296), (IntKind.u64.wrap (t6.tdiv 4294967296))] : List Int) = t7 := some_inj ht7
   clear ht7
   refine lit_s (ks := [(t5.tmod 4294967296), (IntKind.u64.wrap (t6.tdiv 4294967296))]) (enc := (Value.int .u64)) (m := 2) hS rfl rfl ?_; clear hS; intro r12 w hS
   refine drM_s hS ?_; clear hS; intro w hS
   obtain ⟨t8, ht8, h⟩ := bnd h
   obtain ⟨rfl, kt8⟩ := appE ht8
   clear ht8
   replace hS := ro1 hS
   refine app_s hS kt8 ((Ent.sl mp1).now (fun _ h => h) hS) (fun _ => rfl) rfl ?_; clear hS kt8; intro a13 c13 w hS
   refine drM_s hS ?_; clear hS; intro w hS
   obtain rfl := some_inj h
   exact hX _ rfl _ _ ⟨_, _, _, _, _, rfl, rfl, (hS.pick (A := [_, _]) [0] rfl)⟩
  ·
   obtain rfl := some_inj h
   have h := congrArg some (hO _ rfl)
   obtain rfl := some_inj h
   exact hJ4 _ _ ⟨_, _, _, _, rfl, rfl, hS⟩
 ·
  clear h4 hS
  rintro s w ⟨a1, m2, c3, t1, rfl, rfl, hS⟩
  have h := c4
  clear c4
  try dsimp only
  obtain ⟨t9, ht9, h⟩ := bnd h
  refine wk_girderref02_low H hS (Ent.sl mp0) ht9 ?_; clear hS ht9; rintro w hS
  refine ⟨_, _, _, rfl, ?_⟩
  obtain ⟨t10, ht10, h⟩ := bnd h
  obtain ⟨rfl, q150, q151, q152⟩ := subE ht10
  clear ht10
  have q153 := ((Ent.sl mp0).now (fun _ h => h) hS).hiCap q152
  replace hS := Ho.cut hS q152
  have h := some_inj h
  cases h
  exact hK _ _ _ _ hS

theorem wk_girderref02_short {N : Nums} {P : Program} (H : AllOk N P) {w0 w : World} {L : List It} {q0 : Option Addr} {q0l q0c : Nat} {l0 : List Int} {q1 : Int} {u0 : List Int} {u1 : Int} (hS : Ho w0 w (L)) (hq0 : Ent L (rdA (List.map (Value.int .u64) l0) q0 q0l q0c)) (hx : T_girderref02_short l0 q1 = some (u0, u1)) {K : Value → World → Prop} (hK : ∀ (a0 : Option Addr) (n0 c0 : Nat) (w1 : World), Ho w0 w1 ((sl a0 n0 c0 (List.map (Value.int .u64) u0) N.t_uint64) :: L) → K (.tuple #[.slice a0 n0 c0, .int .u64 u1]) w1) : CallsX P N.f_girderref02_short #[.slice q0 q0l q0c, .int .u64 q1] w K := by
 refine H.girderref02_short q0 q0l q0c q1 w _ ?_
 unfold S_girderref02_short
 unfold T_girderref02_short at hx
 have h := hx
 clear hx
 try dsimp only
 obtain ⟨t1, ht1, h⟩ := bnd h
 obtain rfl := lenE ht1 (hq0.now (fun _ h => h) hS)
 clear ht1
 obtain ⟨t2, ht2, h⟩ := bnd h
 obtain ⟨rfl, kt2⟩ := mkE ht2
 clear ht2
 refine mk_s (enc := (Value.int .u64)) hS kt2 rfl ?_; clear hS kt2; intro r1 w hS
 obtain ⟨t3, ht3, h⟩ := bnd h
 obtain rfl := lenE ht3 ((hq0.mono tl1).now (fun _ h => h) hS)
 clear ht3
 obtain ⟨o2, h2, c2⟩ := bnd h
 refine cutM_i (fun s w => ∃ (t4 : Int) (t5 : List Int), (t4, t5) = o2 ∧ s = (t4, ()) ∧ Ho w0 w ((sl (some ⟨r1, 0, none⟩) ((((q0l : Nat) : Int)).toNat) ((((q0l : Nat) : Int)).toNat) (List.map (Value.int .u64) t5) N.t_uint64) :: L)) (fun J2 hJ2 => ?_) ?_
 ·
  have h := h2
  clear h2
  refine iter_sim (fun s w t => ∃ (t6 : Int) (t7 : Int) (t8 : List Int), (t6, t7, t8) = t ∧ s = (t6, t7, ()) ∧ Ho w0 w ((sl (some ⟨r1, 0, none⟩) ((((q0l : Nat) : Int)).toNat) ((((q0l : Nat) : Int)).toNat) (List.map (Value.int .u64) t8) N.t_uint64) :: L)) ?_ h ⟨_, _, _, rfl, rfl, hS⟩
  clear h hS
  rintro s w t X q ⟨t6, t7, t8, rfl, rfl, hS⟩ h hX hO
  unfold T_girderref02_short_b2 at h
  try dsimp only
  refine cond_s h ?_ ?_ <;> clear h <;> intro hc h
  ·
   obtain ⟨t9, ht9, h⟩ := bnd h
   obtain ⟨q3x, q3l, q3r⟩ := atE ht9
   clear ht9
   refine idx_s ((hq0.mono tl1).now (fun _ h => h) hS) q3x q3l q3r ?_; intro b4 hb4
   refine ⟨_, rd_get ((hq0.mono tl1).now (fun _ h => h) hS) hb4 q3x, ?_⟩
   obtain ⟨t13, ht13, h⟩ := bnd h
   refine ⟨nz_s ht13, ?_⟩
   clear ht13
   obtain ⟨t10, ht10, h⟩ := bnd h
   obtain ⟨q5x, q5l, q5r⟩ := atE ht10
   clear ht10
   refine idy_s ((Ent.sl mp0).now (fun _ h => h) hS) q5x q5l q5r ?_
   obtain ⟨t11, ht11, h⟩ := bnd h
   obtain rfl := some_inj ht11
   clear ht11
   refine sto_s hS rfl q5r ?_; clear hS; intro w hS
   obtain ⟨t12, ht12, h⟩ := bnd h
   refine ⟨nz_s ht12, ?_⟩
   clear ht12
   obtain rfl := some_inj h
   exact hX _ rfl _ _ ⟨_, _, _, rfl, rfl, hS⟩
  ·
   obtain rfl := some_inj h
   have h := congrArg some (hO _ rfl)
   obtain rfl := some_inj h
   exact hJ2 _ _ ⟨_, _, rfl, rfl, hS⟩
 ·
  clear h2 hS
  rintro s w ⟨t4, t5, rfl, rfl, hS⟩
  have h := c2
  clear c2
  try dsimp only
  obtain ⟨t14, ht14, h⟩ := bnd h
  refine wk_girderref02_low H hS (Ent.sl mp0) ht14 ?_; clear hS ht14; rintro w hS
  refine ⟨_, _, _, rfl, ?_⟩
  obtain ⟨t15, ht15, h⟩ := bnd h
  obtain ⟨rfl, q80, q81, q82⟩ := subE ht15
  clear ht15
  have q83 := ((Ent.sl mp0).now (fun _ h => h) hS).hiCap q82
  replace hS := Ho.cut hS q82
  have h := some_inj h
  cases h
  exact hK _ _ _ _ hS

theorem wk_girderref02_limbs {N : Nums} {P : Program} (H : AllOk N P) {w0 w : World} {L : List It} {q0 : Option Addr} {q0l q0c : Nat} {l0 : List Int} {u0 : List Int} (hS : Ho w0 w (L)) (hq0 : Ent L (rdA (List.map (Value.int .u64) l0) q0 q0l q0c)) (hx : T_girderref02_limbs l0 = some u0) {K : Value → World → Prop} (hK : ∀ (a0 : Option Addr) (n0 c0 : Nat) (w1 : World), Ho w0 w1 ((sl a0 n0 c0 (List.map (Value.int .u64) u0) N.t_uint64) :: L) → K (.slice a0 n0 c0) w1) : CallsX P N.f_girderref02_limbs #[.slice q0 q0l q0c] w K := by
 refine H.girderref02_limbs q0 q0l q0c w _ ?_
 unfold S_girderref02_limbs
 unfold T_girderref02_limbs at hx
 have h := hx
 clear hx
 try dsimp only
 obtain ⟨o4, h4, c4⟩ := bnd h
 refine cutM_i (fun s w => ∃ (a1 : Option Addr) (m2 : Nat) (c3 : Nat) (t1 : List Int), t1 = o4 ∧ s = ((a1, m2, c3), ()) ∧ Ho w0 w ((sl a1 m2 c3 (List.map (Value.int .u64) t1) N.t_uint64) :: L)) (fun J4 hJ4 => ?_) ?_
 ·
  have h := h4
  clear h4
  replace hS := hS.none (α := Int) (enc := (Value.int .u64)) (t := N.t_uint64)
  refine iter_sim (fun s w t => ∃ (t2 : Int) (a5 : Option Addr) (m6 : Nat) (c7 : Nat) (t3 : List Int), (t2, t3) = t ∧ s = ((a5, m6, c7), t2, ()) ∧ Ho w0 w ((sl a5 m6 c7 (List.map (Value.int .u64) t3) N.t_uint64) :: L)) ?_ h ⟨_, _, _, _, _, rfl, rfl, hS⟩
  clear h hS
  rintro s w t X q ⟨t2, a5, m6, c7, t3, rfl, rfl, hS⟩ h hX hO
  unfold T_girderref02_limbs_b2 at h
  try dsimp only
  obtain ⟨t4, ht4, h⟩ := bnd h
  obtain rfl := lenE ht4 ((hq0.mono tl1).now (fun _ h => h) hS)
  clear ht4
  refine cond_s h ?_ ?_ <;> clear h <;> intro hc h
  ·
   obtain ⟨t5, ht5, h⟩ := bnd h
   obtain ⟨q8x, q8l, q8r⟩ := atE ht5
   clear ht5
   refine idx_s ((hq0.mono tl1).now (fun _ h => h) hS) q8x q8l q8r ?_; intro b9 hb9
   refine ⟨_, rd_get ((hq0.mono tl1).now (fun _ h => h) hS) hb9 q8x, ?_⟩
   obtain ⟨t6, ht6, h⟩ := bnd h
   obtain rfl := lenE ht6 ((hq0.mono tl1).now (fun _ h => h) hS)
   clear ht6
   obtain ⟨o10, h10, c10⟩ := bnd h
   refine cutM_i (fun s w => ∃ (t7 : Int), t7 = o10 ∧ s = (t7, ()) ∧ Ho w0 w ((sl a5 m6 c7 (List.map (Value.int .u64) t3) N.t_uint64) :: L)) (fun J10 hJ10 => ?_) ?_
   ·
    have h := h10
    clear h10
    refine cond_s h ?_ ?_ <;> clear h <;> intro hc h
    ·
     obtain ⟨t8, ht8, h⟩ := bnd h
     obtain ⟨q11x, q11l, q11r⟩ := atE ht8
     clear ht8
     refine idx_s ((hq0.mono tl1).now (fun _ h => h) hS) q11x q11l q11r ?_; intro b12 hb12
     refine ⟨_, rd_get ((hq0.mono tl1).now (fun _ h => h) hS) hb12 q11x, ?_⟩
     obtain rfl := some_inj h
     exact hJ10 _ _ ⟨_, rfl, rfl, hS⟩
    ·
     obtain rfl := some_inj h
     exact hJ10 _ _ ⟨_, rfl, rfl, hS⟩
   ·
    clear h10 hS
    rintro s w ⟨t7, rfl, rfl, hS⟩
    have h := c10
    clear c10
    try dsimp only
    obtain ⟨t9, ht9, h⟩ := bnd h
    obtain rfl : ([t7] : List Int) = t9 := some_inj ht9
    clear ht9
    refine lit_s (ks := [t7]) (enc := (Value.int .u64)) (m := 1) hS rfl rfl ?_; clear hS; intro r13 w hS
    obtain ⟨t10, ht10, h⟩ := bnd h
    obtain ⟨rfl, kt10⟩ := appE ht10
    clear ht10
    replace hS := ro1 hS
    refine app_s hS kt10 ((Ent.sl mp1).now (fun _ h => h) hS) (fun _ => rfl) rfl ?_; clear hS kt10; intro a14 c14 w hS
    obtain rfl := some_inj h
    exact hX _ rfl _ _ ⟨_, _, _, _, _, rfl, rfl, (hS.pick (A := [_, _]) [0] rfl)⟩
  ·
   obtain rfl := some_inj h
   have h := congrArg some (hO _ rfl)
   obtain rfl := some_inj h
   exact hJ4 _ _ ⟨_, _, _, _, rfl, rfl, hS⟩
 ·
  clear h4 hS
  rintro s w ⟨a1, m2, c3, t1, rfl, rfl, hS⟩
  have h := c4
  clear c4
  try dsimp only
  obtain ⟨t11, ht11, h⟩ := bnd h
  refine wk_girderref02_NatTrim H hS (Ent.sl mp0) ht11 ?_; clear hS ht11; rintro a15 m15 c15 w hS
  refine ⟨_, _, _, rfl, ?_⟩
  have h := some_inj h
  cases h
  exact hK _ _ _ _ (hS.pick (A := [_, _]) [0] rfl)

theorem wk_girderref02_NatDown {N : Nums} {P : Program} (H : AllOk N P) {w0 w : World} {L : List It} {q0 : Option Addr} {q0l q0c : Nat} {l0 : List Int} {q1 : Int} {u0 : List Int} {u1 : Bool} (hS : Ho w0 w (L)) (hq0 : Ent L (rdA (List.map (Value.int .u64) l0) q0 q0l q0c)) (hx : T_girderref02_NatDown l0 q1 = some (u0, u1)) {K : Value → World → Prop} (hK : ∀ (a0 : Option Addr) (n0 c0 : Nat) (w1 : World), Ho w0 w1 ((sl a0 n0 c0 (List.map (Value.int .u64) u0) N.t_uint64) :: L) → K (.tuple #[.slice a0 n0 c0, .bool u1]) w1) : CallsX P N.f_girderref02_NatDown #[.slice q0 q0l q0c, .int .i64 q1] w K := by
 refine H.girderref02_NatDown q0 q0l q0c q1 w _ ?_
 unfold S_girderref02_NatDown
 unfold T_girderref02_NatDown at hx
 have h := hx
 clear hx
 try dsimp only
 obtain ⟨t1, ht1, h⟩ := bnd h
 refine wk_girderref02_halves H hS hq0 ht1 ?_; clear hS ht1; rintro a1 m1 c1 w hS
 refine ⟨_, _, _, rfl, ?_⟩
 obtain ⟨o2, h2, c2⟩ := bnd h
 refine cutM_i (fun s w => ∃ (t2 : Bool), t2 = o2 ∧ s = (t2, ()) ∧ Ho w0 w ((sl a1 m1 c1 (List.map (Value.int .u64) t1) N.t_uint64) :: L)) (fun J2 hJ2 => ?_) ?_
 ·
  have h := h2
  clear h2
  refine iter_sim (fun s w t => ∃ (t3 : Bool) (t4 : Int), (t3, t4) = t ∧ s = (t3, t4, ()) ∧ Ho w0 w ((sl a1 m1 c1 (List.map (Value.int .u64) t1) N.t_uint64) :: L)) ?_ h ⟨_, _, rfl, rfl, hS⟩
  clear h hS
  rintro s w t X q ⟨t3, t4, rfl, rfl, hS⟩ h hX hO
  unfold T_girderref02_NatDown_b2 at h
  try dsimp only
  refine ⟨by decide, ?_⟩
  refine cond_s h ?_ ?_ <;> clear h <;> intro hc h
  ·
   obtain ⟨t5, ht5, h⟩ := bnd h
   obtain rfl := lenE ht5 ((Ent.sl mp0).now (fun _ h => h) hS)
   clear ht5
   refine cond_s h ?_ ?_ <;> clear h <;> intro hc h
   ·
    refine cond_s h ?_ ?_ <;> clear h <;> intro hc h
    ·
     obtain ⟨t6, ht6, h⟩ := bnd h
     obtain ⟨q3x, q3l, q3r⟩ := atE ht6
     clear ht6
     refine idx_s ((Ent.sl mp0).now (fun _ h => h) hS) q3x q3l q3r ?_; intro b4 hb4
     refine ⟨_, rd_get ((Ent.sl mp0).now (fun _ h => h) hS) hb4 q3x, ?_⟩
     obtain rfl := some_inj h
     exact hX _ rfl _ _ ⟨_, _, rfl, rfl, hS⟩
    ·
     obtain rfl := some_inj h
     exact hX _ rfl _ _ ⟨_, _, rfl, rfl, hS⟩
   ·
    obtain rfl := some_inj h
    have h := congrArg some (hO _ rfl)
    obtain rfl := some_inj h
    exact hJ2 _ _ ⟨_, rfl, rfl, hS⟩
  ·
   obtain rfl := some_inj h
   have h := congrArg some (hO _ rfl)
   obtain rfl := some_inj h
   exact hJ2 _ _ ⟨_, rfl, rfl, hS⟩
 ·
  clear h2 hS
  rintro s w ⟨t2, rfl, rfl, hS⟩
  have h := c2
  clear c2
  try dsimp only
  refine ⟨by decide, ?_⟩
  obtain ⟨t7, ht7, h⟩ := bnd h
  obtain rfl := lenE ht7 ((Ent.sl mp0).now (fun _ h => h) hS)
  clear ht7
  refine cond_s h ?_ ?_ <;> clear h <;> intro hc h
  ·
   replace hS := hS.none (α := Int) (enc := (Value.int .u64)) (t := N.t_uint64)
   have h := some_inj h
   cases h
   exact hK _ _ _ _ (hS.pick (A := [_, _]) [0] rfl)
  ·
   obtain ⟨o5, h5, c5⟩ := bnd h
   refine cutM_i (fun s w => ∃ (t8 : Int), t8 = o5 ∧ s = (t8, ()) ∧ Ho w0 w ((sl a1 m1 c1 (List.map (Value.int .u64) t1) N.t_uint64) :: L)) (fun J5 hJ5 => ?_) ?_
   ·
    have h := h5
    clear h5
    refine iter_sim (fun s w t => ∃ (t9 : Int) (t10 : Int), (t9, t10) = t ∧ s = (t9, t10, ()) ∧ Ho w0 w ((sl a1 m1 c1 (List.map (Value.int .u64) t1) N.t_uint64) :: L)) ?_ h ⟨_, _, rfl, rfl, hS⟩
    clear h hS
    rintro s w t X q ⟨t9, t10, rfl, rfl, hS⟩ h hX hO
    unfold T_girderref02_NatDown_b4 at h
    try dsimp only
    refine ⟨by decide, ?_⟩
    refine cond_s h ?_ ?_ <;> clear h <;> intro hc h
    ·
     obtain rfl := some_inj h
     exact hX _ rfl _ _ ⟨_, _, rfl, rfl, hS⟩
    ·
     obtain rfl := some_inj h
     have h := congrArg some (hO _ rfl)
     obtain rfl := some_inj h
     exact hJ5 _ _ ⟨_, rfl, rfl, hS⟩
   ·
    clear h5 hS
    rintro s w ⟨t8, rfl, rfl, hS⟩
    have h := c5
    clear c5
    try dsimp only
    refine ⟨by decide, ?_⟩
    obtain ⟨t12, ht12, h⟩ := bnd h
    obtain rfl := lenE ht12 ((Ent.sl mp0).now (fun _ h => h) hS)
    clear ht12
    obtain ⟨t11, ht11, h⟩ := bnd h
    obtain ⟨rfl, q60, q61, q62⟩ := subE ht11
    clear ht11
    refine ⟨(by first | exact q60 | omega), (by first | exact q61 | omega), ?_⟩
    obtain ⟨⟨t13, t14⟩, ho13, h⟩ := bnd h
    refine wk_girderref02_short H hS (Ent.from (Ent.sl mp0) q60 q61) ho13 ?_; clear hS ho13; rintro a7 m7 c7 w hS
    refine ⟨_, _, _, _, rfl, ?_⟩
    obtain ⟨t15, ht15, h⟩ := bnd h
    refine wk_girderref02_limbs H hS (Ent.sl mp0) ht15 ?_; clear hS ht15; rintro a8 m8 c8 w hS
    refine ⟨_, _, _, rfl, ?_⟩
    refine cond_s h ?_ ?_ <;> clear h <;> intro hc h
    ·
     have h := some_inj h
     cases h
     exact hK _ _ _ _ (hS.pick (A := [_, _, _]) [0] rfl)
    ·
     have h := some_inj h
     cases h
     exact hK _ _ _ _ (hS.pick (A := [_, _, _]) [0] rfl)

theorem wk_girderref02_Norm {N : Nums} {P : Program} (H : AllOk N P) {w0 w : World} {L : List It} {q0_0 : Bool} {q0_1 : Option Addr} {q0_1l q0_1c : Nat} {l0_1 : List Int} {q0_2 : Int} {u0 : Bool} {u1 : List Int} {u2 : Int} {u3 : Int} (hS : Ho w0 w (L)) (hq0_1 : Ent L (rdA (List.map (Value.int .u64) l0_1) q0_1 q0_1l q0_1c)) (hx : T_girderref02_Norm q0_0 l0_1 q0_2 = some (u0, u1, u2, u3)) {K : Value → World → Prop} (hK : ∀ (a1 : Option Addr) (n1 c1 : Nat) (w1 : World), Ho w0 w1 ((sl a1 n1 c1 (List.map (Value.int .u64) u1) N.t_uint64) :: L) → K (.tuple #[.agg #[.bool u0, .slice a1 n1 c1, .int .i64 u2], .int .i64 u3]) w1) : CallsX P N.f_girderref02_Norm #[.agg #[.bool q0_0, .slice q0_1 q0_1l q0_1c, .int .i64 q0_2]] w K := by
 refine H.girderref02_Norm q0_0 q0_1 q0_1l q0_1c q0_2 w _ ?_
 unfold S_girderref02_Norm
 unfold T_girderref02_Norm at hx
 have h := hx
 clear hx
 try dsimp only
 refine newM_s hS ?_; clear hS; intro r1 w hS
 refine newM_s hS ?_; clear hS; intro r2 w hS
 refine ⟨_, _, _, (hS.cel mp1 rfl), ?_⟩
 obtain ⟨t1, ht1, h⟩ := bnd h
 refine wk_girderref02_NatTrim H hS (hq0_1.mono tl2) ht1 ?_; clear hS ht1; rintro a3 m3 c3 w hS
 refine ⟨_, _, _, rfl, ?_⟩
 obtain ⟨t2, ht2, h⟩ := bnd h
 obtain rfl := lenE ht2 ((Ent.sl mp0).now (fun _ h => h) hS)
 clear ht2
 refine cond_s h ?_ ?_ <;> clear h <;> intro hc h
 ·
  replace hS := ro1 hS
  refine stc_s hS rfl rfl ?_; clear hS; intro w hS
  refine stc_s hS rfl rfl ?_; clear hS; intro w hS
  refine stc_s hS rfl rfl ?_; clear hS; intro w hS
  refine ⟨_, (hS.cel mp0 rfl), ?_⟩
  refine ⟨_, _, _, (hS.cel mp0 rfl), ?_⟩
  refine ⟨_, (hS.cel mp0 rfl), ?_⟩
  replace hS := hS.none (α := Int) (enc := (Value.int .u64)) (t := N.t_uint64)
  have h := some_inj h
  cases h
  exact hK _ _ _ _ (hS.pick (A := [_, _, _, _]) [0] rfl)
 ·
  obtain ⟨o4, h4, c4⟩ := bnd h
  refine cutM_i (fun s w => ∃ (t3 : Int), t3 = o4 ∧ s = (t3, ()) ∧ Ho w0 w ((sl a3 m3 c3 (List.map (Value.int .u64) t1) N.t_uint64) :: (cl r2 [.bool false, .slice none 0 0, .int .i64 0] N.t_Dyad) :: (cl r1 [.bool q0_0, .slice q0_1 q0_1l q0_1c, .int .i64 q0_2] N.t_Dyad) :: L)) (fun J4 hJ4 => ?_) ?_
  ·
   have h := h4
   clear h4
   refine iter_sim (fun s w t => ∃ (t4 : Int), t4 = t ∧ s = (t4, ()) ∧ Ho w0 w ((sl a3 m3 c3 (List.map (Value.int .u64) t1) N.t_uint64) :: (cl r2 [.bool false, .slice none 0 0, .int .i64 0] N.t_Dyad) :: (cl r1 [.bool q0_0, .slice q0_1 q0_1l q0_1c, .int .i64 q0_2] N.t_Dyad) :: L)) ?_ h ⟨_, rfl, rfl, hS⟩
   clear h hS
   rintro s w t X q ⟨t4, rfl, rfl, hS⟩ h hX hO
   unfold T_girderref02_Norm_b2 at h
   try dsimp only
   refine ⟨by decide, ?_⟩
   obtain ⟨t5, ht5, h⟩ := bnd h
   obtain ⟨q5x, q5l, q5r⟩ := atE ht5
   clear ht5
   refine idx_s ((Ent.sl mp0).now (fun _ h => h) hS) q5x q5l q5r ?_; intro b6 hb6
   refine ⟨_, rd_get ((Ent.sl mp0).now (fun _ h => h) hS) hb6 q5x, ?_⟩
   refine ⟨by decide, ?_⟩
   obtain ⟨t6, ht6, h⟩ := bnd h
   refine ⟨nn_s ht6, ?_⟩
   clear ht6
   refine ⟨by decide, ?_⟩
   refine cond_s h ?_ ?_ <;> clear h <;> intro hc h
   ·
    obtain rfl := some_inj h
    exact hX _ rfl _ _ ⟨_, rfl, rfl, hS⟩
   ·
    obtain rfl := some_inj h
    have h := congrArg some (hO _ rfl)
    obtain rfl := some_inj h
    exact hJ4 _ _ ⟨_, rfl, rfl, hS⟩
  ·
   clear h4 hS
   rintro s w ⟨t3, rfl, rfl, hS⟩
   have h := c4
   clear c4
   try dsimp only
   obtain ⟨⟨t7, t8⟩, ho7, h⟩ := bnd h
   refine wk_girderref02_NatDown H hS (Ent.sl mp0) ho7 ?_; clear hS ho7; rintro a7 m7 c7 w hS
   refine ⟨_, _, _, _, rfl, ?_⟩
   obtain ⟨o8, h8, c8⟩ := bnd h
   refine cutM_i (fun s w => ∃ (t9 : Bool), t9 = o8 ∧ s = (t9, ()) ∧ Ho w0 w ((sl a7 m7 c7 (List.map (Value.int .u64) t7) N.t_uint64) :: (cl r2 [.bool false, .slice none 0 0, .int .i64 0] N.t_Dyad) :: (cl r1 [.bool q0_0, .slice q0_1 q0_1l q0_1c, .int .i64 q0_2] N.t_Dyad) :: L)) (fun J8 hJ8 => ?_) ?_
   ·
    have h := h8
    clear h8
    obtain ⟨t10, ht10, h⟩ := bnd h
    obtain rfl := lenE ht10 ((Ent.sl mp0).now (fun _ h => h) hS)
    clear ht10
    refine cond_s h ?_ ?_ <;> clear h <;> intro hc h
    ·
     refine ⟨_, (hS.cel mp3 rfl), ?_⟩
     refine cond_s h ?_ ?_ <;> clear h <;> intro hc h
     ·
      refine ⟨_, (hS.cel mp3 rfl), ?_⟩
      refine cond_s h ?_ ?_ <;> clear h <;> intro hc h
      ·
       refine ⟨_, (hS.cel mp3 rfl), ?_⟩
       obtain rfl := some_inj h
       exact hJ8 _ _ ⟨_, rfl, rfl, (hS.pick (A := [_, _, _, _]) [0, 1, 1] rfl)⟩
      ·
       obtain rfl := some_inj h
       exact hJ8 _ _ ⟨_, rfl, rfl, (hS.pick (A := [_, _, _, _]) [0, 1, 1] rfl)⟩
     ·
      obtain rfl := some_inj h
      exact hJ8 _ _ ⟨_, rfl, rfl, (hS.pick (A := [_, _, _, _]) [0, 1, 1] rfl)⟩
    ·
     obtain rfl := some_inj h
     exact hJ8 _ _ ⟨_, rfl, rfl, (hS.pick (A := [_, _, _, _]) [0, 1, 1] rfl)⟩
   ·
    clear h8 hS
    rintro s w ⟨t9, rfl, rfl, hS⟩
    have h := c8
    clear c8
    try dsimp only
    refine cond_s h ?_ ?_ <;> clear h <;> intro hc h
    ·
     replace hS := ro1 hS
     refine stc_s hS rfl rfl ?_; clear hS; intro w hS
     refine stc_s hS rfl rfl ?_; clear hS; intro w hS
     refine stc_s hS rfl rfl ?_; clear hS; intro w hS
     refine ⟨_, (hS.cel mp0 rfl), ?_⟩
     refine ⟨_, _, _, (hS.cel mp0 rfl), ?_⟩
     refine ⟨_, (hS.cel mp0 rfl), ?_⟩
     replace hS := hS.none (α := Int) (enc := (Value.int .u64)) (t := N.t_uint64)
     have h := some_inj h
     cases h
     exact hK _ _ _ _ (hS.pick (A := [_, _, _, _]) [0] rfl)
    ·
     refine ⟨_, (hS.cel mp2 rfl), ?_⟩
     refine ⟨_, (hS.cel mp2 rfl), ?_⟩
     replace hS := ro1 hS
     refine stc_s hS rfl rfl ?_; clear hS; intro w hS
     refine stc_s hS rfl rfl ?_; clear hS; intro w hS
     refine stc_s hS rfl rfl ?_; clear hS; intro w hS
     refine ⟨_, (hS.cel mp0 rfl), ?_⟩
     refine ⟨_, _, _, (hS.cel mp0 rfl), ?_⟩
     refine ⟨_, (hS.cel mp0 rfl), ?_⟩
     have h := some_inj h
     cases h
     exact hK _ _ _ _ (hS.pick (A := [_, _, _]) [1] rfl)

theorem wk_girderref02_Right {N : Nums} {P : Program} (H : AllOk N P) {w0 w : World} {L : List It} {q0_0 : Bool} {q0_1 : Option Addr} {q0_1l q0_1c : Nat} {l0_1 : List Int} {q0_2 : Int} {u0 : Bool} (hS : Ho w0 w (L)) (hq0_1 : Ent L (rdA (List.map (Value.int .u64) l0_1) q0_1 q0_1l q0_1c)) (hx : T_girderref02_Right q0_0 l0_1 q0_2 = some u0) {K : Value → World → Prop} (hK : ∀  (w1 : World), Ho w0 w1 (L) → K (.bool u0) w1) : CallsX P N.f_girderref02_Right #[.agg #[.bool q0_0, .slice q0_1 q0_1l q0_1c, .int .i64 q0_2]] w K := by
 refine H.girderref02_Right q0_0 q0_1 q0_1l q0_1c q0_2 w _ ?_
 unfold S_girderref02_Right
 unfold T_girderref02_Right at hx
 have h := hx
 clear hx
 try dsimp only
 refine newM_s hS ?_; clear hS; intro r1 w hS
 refine ⟨_, _, _, (hS.cel mp0 rfl), ?_⟩
 obtain ⟨t1, ht1, h⟩ := bnd h
 obtain rfl := lenE ht1 ((hq0_1.mono tl1).now (fun _ h => h) hS)
 clear ht1
 refine cond_s h ?_ ?_ <;> clear h <;> intro hc h
 ·
  refine ⟨_, (hS.cel mp0 rfl), ?_⟩
  refine cond_s h ?_ ?_ <;> clear h <;> intro hc h
  ·
   refine ⟨_, (hS.cel mp0 rfl), ?_⟩
   have h := some_inj h
   cases h
   exact hK _ (hS.pick (A := [_]) [] rfl)
  ·
   have h := some_inj h
   cases h
   exact hK _ (hS.pick (A := [_]) [] rfl)
 ·
  refine ⟨_, _, _, (hS.cel mp0 rfl), ?_⟩
  obtain ⟨t2, ht2, h⟩ := bnd h
  obtain rfl := lenE ht2 ((hq0_1.mono tl1).now (fun _ h => h) hS)
  clear ht2
  refine cond_s h ?_ ?_ <;> clear h <;> intro hc h
  ·
   refine ⟨_, _, _, (hS.cel mp0 rfl), ?_⟩
   refine ⟨_, _, _, (hS.cel mp0 rfl), ?_⟩
   obtain ⟨t3, ht3, h⟩ := bnd h
   obtain rfl := lenE ht3 ((hq0_1.mono tl1).now (fun _ h => h) hS)
   clear ht3
   obtain ⟨t4, ht4, h⟩ := bnd h
   obtain ⟨q2x, q2l, q2r⟩ := atE ht4
   clear ht4
   refine idx_s ((hq0_1.mono tl1).now (fun _ h => h) hS) q2x q2l q2r ?_; intro b3 hb3
   refine ⟨_, rd_get ((hq0_1.mono tl1).now (fun _ h => h) hS) hb3 q2x, ?_⟩
   refine cond_s h ?_ ?_ <;> clear h <;> intro hc h
   ·
    refine ⟨_, _, _, (hS.cel mp0 rfl), ?_⟩
    obtain ⟨t5, ht5, h⟩ := bnd h
    obtain ⟨q4x, q4l, q4r⟩ := atE ht5
    clear ht5
    refine idx_s ((hq0_1.mono tl1).now (fun _ h => h) hS) q4x q4l q4r ?_; intro b5 hb5
    refine ⟨_, rd_get ((hq0_1.mono tl1).now (fun _ h => h) hS) hb5 q4x, ?_⟩
    refine ⟨by decide, ?_⟩
    refine cond_s h ?_ ?_ <;> clear h <;> intro hc h
    ·
     refine ⟨_, (hS.cel mp0 rfl), ?_⟩
     refine cond_s h ?_ ?_ <;> clear h <;> intro hc h
     ·
      refine ⟨_, (hS.cel mp0 rfl), ?_⟩
      have h := some_inj h
      cases h
      exact hK _ (hS.pick (A := [_]) [] rfl)
     ·
      have h := some_inj h
      cases h
      exact hK _ (hS.pick (A := [_]) [] rfl)
    ·
     have h := some_inj h
     cases h
     exact hK _ (hS.pick (A := [_]) [] rfl)
   ·
    have h := some_inj h
    cases h
    exact hK _ (hS.pick (A := [_]) [] rfl)
  ·
   have h := some_inj h
   cases h
   exact hK _ (hS.pick (A := [_]) [] rfl)

theorem wk_girderref02_Dyad {N : Nums} {P : Program} (H : AllOk N P) {w0 w : World} {L : List It} {q0_0 : Bool} {q0_1 : Option Addr} {q0_1l q0_1c : Nat} {l0_1 : List Int} {q0_2 : Int} {u0 : Bool} {u1 : List Int} {u2 : Int} (hS : Ho w0 w (L)) (hq0_1 : Ent L (rdA (List.map (Value.int .u64) l0_1) q0_1 q0_1l q0_1c)) (hx : T_girderref02_Dyad q0_0 l0_1 q0_2 = some (u0, u1, u2)) {K : Value → World → Prop} (hK : ∀ (a1 : Option Addr) (n1 c1 : Nat) (w1 : World), Ho w0 w1 ((sl a1 n1 c1 (List.map (Value.int .u64) u1) N.t_uint64) :: L) → K (.agg #[.bool u0, .slice a1 n1 c1, .int .i64 u2]) w1) : CallsX P N.f_girderref02_Dyad #[.agg #[.bool q0_0, .slice q0_1 q0_1l q0_1c, .int .i64 q0_2]] w K := by
 refine H.girderref02_Dyad q0_0 q0_1 q0_1l q0_1c q0_2 w _ ?_
 unfold S_girderref02_Dyad
 unfold T_girderref02_Dyad at hx
 have h := hx
 clear hx
 try dsimp only
 refine newM_s hS ?_; clear hS; intro r1 w hS
 refine newM_s hS ?_; clear hS; intro r2 w hS
 refine ⟨_, (hS.cel mp1 rfl), ?_⟩
 refine ⟨_, _, _, (hS.cel mp1 rfl), ?_⟩
 refine ⟨_, (hS.cel mp1 rfl), ?_⟩
 refine drM_s hS ?_; clear hS; intro w hS
 obtain ⟨t1, ht1, h⟩ := bnd h
 refine wk_girderref02_NatTrim H hS (hq0_1.mono tl2) ht1 ?_; clear hS ht1; rintro a3 m3 c3 w hS
 refine ⟨_, _, _, rfl, ?_⟩
 refine ⟨(hS.cel mp2 rfl), ?_⟩
 refine ⟨(hS.cel mp2 rfl), ?_⟩
 refine drM_s hS ?_; clear hS; intro w hS
 replace hS := ro1 hS
 refine stc_s hS rfl rfl ?_; clear hS; intro w hS
 refine stc_s hS rfl rfl ?_; clear hS; intro w hS
 refine stc_s hS rfl rfl ?_; clear hS; intro w hS
 refine drM_s hS ?_; clear hS; intro w hS
 refine ⟨_, (hS.cel mp0 rfl), ?_⟩
 refine ⟨_, _, _, (hS.cel mp0 rfl), ?_⟩
 refine ⟨_, (hS.cel mp0 rfl), ?_⟩
 have h := some_inj h
 cases h
 exact hK _ _ _ _ (hS.pick (A := [_, _, _]) [1] rfl)

theorem wk_girderref02_NatBits {N : Nums} {P : Program} (H : AllOk N P) {w0 w : World} {L : List It} {q0 : Option Addr} {q0l q0c : Nat} {l0 : List Int} {u0 : Int} (hS : Ho w0 w (L)) (hq0 : Ent L (rdA (List.map (Value.int .u64) l0) q0 q0l q0c)) (hx : T_girderref02_NatBits l0 = some u0) {K : Value → World → Prop} (hK : ∀  (w1 : World), Ho w0 w1 (L) → K (.int .i64 u0) w1) : CallsX P N.f_girderref02_NatBits #[.slice q0 q0l q0c] w K := by
 refine H.girderref02_NatBits q0 q0l q0c w _ ?_
 unfold S_girderref02_NatBits
 unfold T_girderref02_NatBits at hx
 have h := hx
 clear hx
 try dsimp only
 obtain ⟨t1, ht1, h⟩ := bnd h
 refine wk_girderref02_NatTrim H hS hq0 ht1 ?_; clear hS ht1; rintro a1 m1 c1 w hS
 refine ⟨_, _, _, rfl, ?_⟩
 obtain ⟨t2, ht2, h⟩ := bnd h
 obtain rfl := lenE ht2 ((Ent.sl mp0).now (fun _ h => h) hS)
 clear ht2
 refine cond_s h ?_ ?_ <;> clear h <;> intro hc h
 ·
  have h := some_inj h
  cases h
  exact hK _ (hS.pick (A := [_]) [] rfl)
 ·
  obtain ⟨t3, ht3, h⟩ := bnd h
  obtain rfl := lenE ht3 ((Ent.sl mp0).now (fun _ h => h) hS)
  clear ht3
  obtain ⟨t4, ht4, h⟩ := bnd h
  obtain rfl := lenE ht4 ((Ent.sl mp0).now (fun _ h => h) hS)
  clear ht4
  obtain ⟨t5, ht5, h⟩ := bnd h
  obtain ⟨q2x, q2l, q2r⟩ := atE ht5
  clear ht5
  refine idx_s ((Ent.sl mp0).now (fun _ h => h) hS) q2x q2l q2r ?_; intro b3 hb3
  refine ⟨_, rd_get ((Ent.sl mp0).now (fun _ h => h) hS) hb3 q2x, ?_⟩
  obtain ⟨o4, h4, c4⟩ := bnd h
  refine cutM_i (fun s w => ∃ (t6 : Int), t6 = o4 ∧ s = (t6, ()) ∧ Ho w0 w (L)) (fun J4 hJ4 => ?_) ?_
  ·
   have h := h4
   clear h4
   refine iter_sim (fun s w t => ∃ (t7 : Int) (t8 : Int), (t7, t8) = t ∧ s = (t7, t8, ()) ∧ Ho w0 w (L)) ?_ h ⟨_, _, rfl, rfl, (hS.pick (A := [_]) [] rfl)⟩
   clear h hS
   rintro s w t X q ⟨t7, t8, rfl, rfl, hS⟩ h hX hO
   unfold T_girderref02_NatBits_b2 at h
   try dsimp only
   refine cond_s h ?_ ?_ <;> clear h <;> intro hc h
   ·
    refine ⟨by decide, ?_⟩
    obtain rfl := some_inj h
    exact hX _ rfl _ _ ⟨_, _, rfl, rfl, hS⟩
   ·
    obtain rfl := some_inj h
    have h := congrArg some (hO _ rfl)
    obtain rfl := some_inj h
    exact hJ4 _ _ ⟨_, rfl, rfl, hS⟩
  ·
   clear h4 hS
   rintro s w ⟨t6, rfl, rfl, hS⟩
   have h := c4
   clear c4
   try dsimp only
   have h := some_inj h
   cases h
   exact hK _ hS

theorem wk_girderref02_Num_Zero {N : Nums} {P : Program} (H : AllOk N P) {w0 w : World} {L : List It} {q0_0 : Bool} {q0_1 : Option Addr} {q0_1l q0_1c : Nat} {l0_1 : List Int} {q0_2 : Int} {u0 : Bool} (hS : Ho w0 w (L)) (hq0_1 : Ent L (rdA (List.map (Value.int .u64) l0_1) q0_1 q0_1l q0_1c)) (hx : T_girderref02_Num_Zero q0_0 l0_1 q0_2 = some u0) {K : Value → World → Prop} (hK : ∀  (w1 : World), Ho w0 w1 (L) → K (.bool u0) w1) : CallsX P N.f_girderref02_Num_Zero #[.agg #[.bool q0_0, .slice q0_1 q0_1l q0_1c, .int .i64 q0_2]] w K := by
 refine H.girderref02_Num_Zero q0_0 q0_1 q0_1l q0_1c q0_2 w _ ?_
 unfold S_girderref02_Num_Zero
 unfold T_girderref02_Num_Zero at hx
 have h := hx
 clear hx
 try dsimp only
 refine newM_s hS ?_; clear hS; intro r1 w hS
 refine ⟨_, _, _, (hS.cel mp0 rfl), ?_⟩
 obtain ⟨t1, ht1, h⟩ := bnd h
 refine wk_girderref02_NatBits H hS (hq0_1.mono tl1) ht1 ?_; clear hS ht1; rintro w hS
 refine ⟨_, rfl, ?_⟩
 have h := some_inj h
 cases h
 exact hK _ (hS.pick (A := [_]) [] rfl)

theorem wk_girderref02_Num_top {N : Nums} {P : Program} (H : AllOk N P) {w0 w : World} {L : List It} {q0_0 : Bool} {q0_1 : Option Addr} {q0_1l q0_1c : Nat} {l0_1 : List Int} {q0_2 : Int} {u0 : Int} (hS : Ho w0 w (L)) (hq0_1 : Ent L (rdA (List.map (Value.int .u64) l0_1) q0_1 q0_1l q0_1c)) (hx : T_girderref02_Num_top q0_0 l0_1 q0_2 = some u0) {K : Value → World → Prop} (hK : ∀  (w1 : World), Ho w0 w1 (L) → K (.int .i64 u0) w1) : CallsX P N.f_girderref02_Num_top #[.agg #[.bool q0_0, .slice q0_1 q0_1l q0_1c, .int .i64 q0_2]] w K := by
 refine H.girderref02_Num_top q0_0 q0_1 q0_1l q0_1c q0_2 w _ ?_
 unfold S_girderref02_Num_top
 unfold T_girderref02_Num_top at hx
 have h := hx
 clear hx
 try dsimp only
 refine newM_s hS ?_; clear hS; intro r1 w hS
 refine ⟨_, (hS.cel mp0 rfl), ?_⟩
 refine ⟨_, _, _, (hS.cel mp0 rfl), ?_⟩
 refine drM_s hS ?_; clear hS; intro w hS
 obtain ⟨t1, ht1, h⟩ := bnd h
 refine wk_girderref02_NatBits H hS (hq0_1.mono tl1) ht1 ?_; clear hS ht1; rintro w hS
 refine ⟨_, rfl, ?_⟩
 refine ⟨(hS.cel mp0 rfl), ?_⟩
 refine drM_s hS ?_; clear hS; intro w hS
 have h := some_inj h
 cases h
 exact hK _ (hS.pick (A := [_]) [] rfl)

theorem wk_girderref02_NatUp {N : Nums} {P : Program} (H : AllOk N P) {w0 w : World} {L : List It} {q0 : Option Addr} {q0l q0c : Nat} {l0 : List Int} {q1 : Int} {u0 : List Int} (hS : Ho w0 w (L)) (hq0 : Ent L (rdA (List.map (Value.int .u64) l0) q0 q0l q0c)) (hx : T_girderref02_NatUp l0 q1 = some u0) {K : Value → World → Prop} (hK : ∀ (a0 : Option Addr) (n0 c0 : Nat) (w1 : World), Ho w0 w1 ((sl a0 n0 c0 (List.map (Value.int .u64) u0) N.t_uint64) :: L) → K (.slice a0 n0 c0) w1) : CallsX P N.f_girderref02_NatUp #[.slice q0 q0l q0c, .int .i64 q1] w K := by
 refine H.girderref02_NatUp q0 q0l q0c q1 w _ ?_
 unfold S_girderref02_NatUp
 unfold T_girderref02_NatUp at hx
 have h := hx
 clear hx
 try dsimp only
 obtain ⟨t1, ht1, h⟩ := bnd h
 refine wk_girderref02_halves H hS hq0 ht1 ?_; clear hS ht1; rintro a1 m1 c1 w hS
 refine ⟨_, _, _, rfl, ?_⟩
 obtain ⟨t2, ht2, h⟩ := bnd h
 obtain rfl := lenE ht2 ((Ent.sl mp0).now (fun _ h => h) hS)
 clear ht2
 refine cond_s h ?_ ?_ <;> clear h <;> intro hc h
 ·
  replace hS := hS.none (α := Int) (enc := (Value.int .u64)) (t := N.t_uint64)
  have h := some_inj h
  cases h
  exact hK _ _ _ _ (hS.pick (A := [_, _]) [0] rfl)
 ·
  refine ⟨by decide, ?_⟩
  obtain ⟨t3, ht3, h⟩ := bnd h
  obtain ⟨rfl, kt3⟩ := mkE ht3
  clear ht3
  refine mk_s (enc := (Value.int .u64)) hS kt3 rfl ?_; clear hS kt3; intro r2 w hS
  obtain ⟨o3, h3, c3⟩ := bnd h
  refine cutM_i (fun s w => ∃ (t4 : Int), t4 = o3 ∧ s = (t4, ()) ∧ Ho w0 w ((sl (some ⟨r2, 0, none⟩) (((IntKind.i64.wrap (q1.tdiv 32))).toNat) (((IntKind.i64.wrap (q1.tdiv 32))).toNat) (List.map (Value.int .u64) (List.replicate (((IntKind.i64.wrap (q1.tdiv 32))).toNat) 0)) N.t_uint64) :: (sl a1 m1 c1 (List.map (Value.int .u64) t1) N.t_uint64) :: L)) (fun J3 hJ3 => ?_) ?_
  ·
   have h := h3
   clear h3
   refine iter_sim (fun s w t => ∃ (t5 : Int) (t6 : Int), (t5, t6) = t ∧ s = (t5, t6, ()) ∧ Ho w0 w ((sl (some ⟨r2, 0, none⟩) (((IntKind.i64.wrap (q1.tdiv 32))).toNat) (((IntKind.i64.wrap (q1.tdiv 32))).toNat) (List.map (Value.int .u64) (List.replicate (((IntKind.i64.wrap (q1.tdiv 32))).toNat) 0)) N.t_uint64) :: (sl a1 m1 c1 (List.map (Value.int .u64) t1) N.t_uint64) :: L)) ?_ h ⟨_, _, rfl, rfl, hS⟩
   clear h hS
   rintro s w t X q ⟨t5, t6, rfl, rfl, hS⟩ h hX hO
   unfold T_girderref02_NatUp_b2 at h
   try dsimp only
   refine ⟨by decide, ?_⟩
   refine cond_s h ?_ ?_ <;> clear h <;> intro hc h
   ·
    obtain rfl := some_inj h
    exact hX _ rfl _ _ ⟨_, _, rfl, rfl, hS⟩
   ·
    obtain rfl := some_inj h
    have h := congrArg some (hO _ rfl)
    obtain rfl := some_inj h
    exact hJ3 _ _ ⟨_, rfl, rfl, hS⟩
  ·
   clear h3 hS
   rintro s w ⟨t4, rfl, rfl, hS⟩
   have h := c3
   clear c3
   try dsimp only
   obtain ⟨o7, h7, c7⟩ := bnd h
   refine cutM_i (fun s w => ∃ (t7 : Int) (a4 : Option Addr) (m5 : Nat) (c6 : Nat) (t8 : List Int), (t7, t8) = o7 ∧ s = ((a4, m5, c6), t7, ()) ∧ Ho w0 w ((sl a4 m5 c6 (List.map (Value.int .u64) t8) N.t_uint64) :: L)) (fun J7 hJ7 => ?_) ?_
   ·
    have h := h7
    clear h7
    refine iter_sim (fun s w t => ∃ (t9 : Int) (t10 : Int) (a8 : Option Addr) (m9 : Nat) (c10 : Nat) (t11 : List Int), (t9, t10, t11) = t ∧ s = ((a8, m9, c10), t9, t10, ()) ∧ Ho w0 w ((sl a1 m1 c1 (List.map (Value.int .u64) t1) N.t_uint64) :: (sl a8 m9 c10 (List.map (Value.int .u64) t11) N.t_uint64) :: L)) ?_ h ⟨_, _, _, _, _, _, rfl, rfl, (hS.pick (A := [_, _]) [1, 0] rfl)⟩
    clear h hS
    rintro s w t X q ⟨t9, t10, a8, m9, c10, t11, rfl, rfl, hS⟩ h hX hO
    unfold T_girderref02_NatUp_b4 at h
    try dsimp only
    obtain ⟨t12, ht12, h⟩ := bnd h
    obtain rfl := lenE ht12 ((Ent.sl mp0).now (fun _ h => h) hS)
    clear ht12
    refine cond_s h ?_ ?_ <;> clear h <;> intro hc h
    ·
     obtain ⟨t13, ht13, h⟩ := bnd h
     obtain ⟨q11x, q11l, q11r⟩ := atE ht13
     clear ht13
     refine idx_s ((Ent.sl mp0).now (fun _ h => h) hS) q11x q11l q11r ?_; intro b12 hb12
     refine ⟨_, rd_get ((Ent.sl mp0).now (fun _ h => h) hS) hb12 q11x, ?_⟩
     refine ⟨by decide, ?_⟩
     obtain ⟨t14, ht14, h⟩ := bnd h
     obtain rfl : ([((IntKind.u64.wrap ((IntKind.u64.wrap (t13 * t4)) + t9)).tmod 4294967296)] : List Int) = t14 := some_inj ht14
     clear ht14
     refine lit_s (ks := [((IntKind.u64.wrap ((IntKind.u64.wrap (t13 * t4)) + t9)).tmod 4294967296)]) (enc := (Value.int .u64)) (m := 1) hS rfl rfl ?_; clear hS; intro r13 w hS
     obtain ⟨t15, ht15, h⟩ := bnd h
     obtain ⟨rfl, kt15⟩ := appE ht15
     clear ht15
     replace hS := ro2 hS
     refine app_s hS kt15 ((Ent.sl mp1).now (fun _ h => h) hS) (fun _ => rfl) rfl ?_; clear hS kt15; intro a14 c14 w hS
     refine ⟨by decide, ?_⟩
     obtain rfl := some_inj h
     exact hX _ rfl _ _ ⟨_, _, _, _, _, _, rfl, rfl, (hS.pick (A := [_, _, _]) [2, 0] rfl)⟩
    ·
     obtain rfl := some_inj h
     have h := congrArg some (hO _ rfl)
     obtain rfl := some_inj h
     exact hJ7 _ _ ⟨_, _, _, _, _, rfl, rfl, (hS.pick (A := [_, _]) [1] rfl)⟩
   ·
    clear h7 hS
    rintro s w ⟨t7, a4, m5, c6, t8, rfl, rfl, hS⟩
    have h := c7
    clear c7
    try dsimp only
    obtain ⟨t16, ht16, h⟩ := bnd h
    obtain rfl : ([t7] : List Int) = t16 := some_inj ht16
    clear ht16
    refine lit_s (ks := [t7]) (enc := (Value.int .u64)) (m := 1) hS rfl rfl ?_; clear hS; intro r15 w hS
    obtain ⟨t17, ht17, h⟩ := bnd h
    obtain ⟨rfl, kt17⟩ := appE ht17
    clear ht17
    replace hS := ro1 hS
    refine app_s hS kt17 ((Ent.sl mp1).now (fun _ h => h) hS) (fun _ => rfl) rfl ?_; clear hS kt17; intro a16 c16 w hS
    obtain ⟨t18, ht18, h⟩ := bnd h
    refine wk_girderref02_limbs H hS (Ent.sl mp0) ht18 ?_; clear hS ht18; rintro a17 m17 c17 w hS
    refine ⟨_, _, _, rfl, ?_⟩
    have h := some_inj h
    cases h
    exact hK _ _ _ _ (hS.pick (A := [_, _, _]) [0] rfl)

theorem wk_girderref02_up {N : Nums} {P : Program} (H : AllOk N P) {w0 w : World} {L : List It} {q0 : Int} {q1 : Bool} {q2 : Int} {q3 : Bool} {u0 : Bool} (hS : Ho w0 w (L))  (hx : T_girderref02_up q0 q1 q2 q3 = some u0) {K : Value → World → Prop} (hK : ∀  (w1 : World), Ho w0 w1 (L) → K (.bool u0) w1) : CallsX P N.f_girderref02_up #[.int .i8 q0, .bool q1, .int .i64 q2, .bool q3] w K := by
 refine H.girderref02_up q0 q1 q2 q3 w _ ?_
 unfold S_girderref02_up
 unfold T_girderref02_up at hx
 have h := hx
 clear hx
 try dsimp only
 refine cond_s h ?_ ?_ <;> clear h <;> intro hc h
 ·
  have h := some_inj h
  cases h
  exact hK _ hS
 ·
  refine cond_s h ?_ ?_ <;> clear h <;> intro hc h
  ·
   have h := some_inj h
   cases h
   exact hK _ hS
  ·
   refine cond_s h ?_ ?_ <;> clear h <;> intro hc h
   ·
    have h := some_inj h
    cases h
    exact hK _ hS
   ·
    refine cond_s h ?_ ?_ <;> clear h <;> intro hc h
    ·
     refine cond_s h ?_ ?_ <;> clear h <;> intro hc h
     ·
      have h := some_inj h
      cases h
      exact hK _ hS
     ·
      have h := some_inj h
      cases h
      exact hK _ hS
    ·
     have h := some_inj h
     cases h
     exact hK _ hS

theorem wk_girderref02_NatOf {N : Nums} {P : Program} (H : AllOk N P) {w0 w : World} {L : List It} {q0 : Int} {u0 : List Int} (hS : Ho w0 w (L))  (hx : T_girderref02_NatOf q0 = some u0) {K : Value → World → Prop} (hK : ∀ (a0 : Option Addr) (n0 c0 : Nat) (w1 : World), Ho w0 w1 ((sl a0 n0 c0 (List.map (Value.int .u64) u0) N.t_uint64) :: L) → K (.slice a0 n0 c0) w1) : CallsX P N.f_girderref02_NatOf #[.int .u64 q0] w K := by
 refine H.girderref02_NatOf q0 w _ ?_
 unfold S_girderref02_NatOf
 unfold T_girderref02_NatOf at hx
 have h := hx
 clear hx
 try dsimp only
 obtain ⟨t1, ht1, h⟩ := bnd h
 obtain rfl : ([q0] : List Int) = t1 := some_inj ht1
 clear ht1
 refine lit_s (ks := [q0]) (enc := (Value.int .u64)) (m := 1) hS rfl rfl ?_; clear hS; intro r1 w hS
 obtain ⟨t2, ht2, h⟩ := bnd h
 refine wk_girderref02_NatTrim H hS (Ent.sl mp0) ht2 ?_; clear hS ht2; rintro a2 m2 c2 w hS
 refine ⟨_, _, _, rfl, ?_⟩
 have h := some_inj h
 cases h
 exact hK _ _ _ _ (hS.pick (A := [_, _]) [0] rfl)

theorem wk_girderref02_digit {N : Nums} {P : Program} (H : AllOk N P) {w0 w : World} {L : List It} {q0 : Option Addr} {q0l q0c : Nat} {l0 : List Int} {q1 : Int} {u0 : Int} (hS : Ho w0 w (L)) (hq0 : Ent L (rdA (List.map (Value.int .u64) l0) q0 q0l q0c)) (hx : T_girderref02_digit l0 q1 = some u0) {K : Value → World → Prop} (hK : ∀  (w1 : World), Ho w0 w1 (L) → K (.int .u64 u0) w1) : CallsX P N.f_girderref02_digit #[.slice q0 q0l q0c, .int .i64 q1] w K := by
 refine H.girderref02_digit q0 q0l q0c q1 w _ ?_
 unfold S_girderref02_digit
 unfold T_girderref02_digit at hx
 have h := hx
 clear hx
 try dsimp only
 obtain ⟨t1, ht1, h⟩ := bnd h
 obtain rfl := lenE ht1 (hq0.now (fun _ h => h) hS)
 clear ht1
 refine cond_s h ?_ ?_ <;> clear h <;> intro hc h
 ·
  obtain ⟨t2, ht2, h⟩ := bnd h
  obtain ⟨q1x, q1l, q1r⟩ := atE ht2
  clear ht2
  refine idx_s (hq0.now (fun _ h => h) hS) q1x q1l q1r ?_; intro b2 hb2
  refine ⟨_, rd_get (hq0.now (fun _ h => h) hS) hb2 q1x, ?_⟩
  have h := some_inj h
  cases h
  exact hK _ hS
 ·
  have h := some_inj h
  cases h
  exact hK _ hS

theorem wk_girderref02_NatAdd {N : Nums} {P : Program} (H : AllOk N P) {w0 w : World} {L : List It} {q0 : Option Addr} {q0l q0c : Nat} {l0 : List Int} {q1 : Option Addr} {q1l q1c : Nat} {l1 : List Int} {u0 : List Int} (hS : Ho w0 w (L)) (hq0 : Ent L (rdA (List.map (Value.int .u64) l0) q0 q0l q0c)) (hq1 : Ent L (rdA (List.map (Value.int .u64) l1) q1 q1l q1c)) (hx : T_girderref02_NatAdd l0 l1 = some u0) {K : Value → World → Prop} (hK : ∀ (a0 : Option Addr) (n0 c0 : Nat) (w1 : World), Ho w0 w1 ((sl a0 n0 c0 (List.map (Value.int .u64) u0) N.t_uint64) :: L) → K (.slice a0 n0 c0) w1) : CallsX P N.f_girderref02_NatAdd #[.slice q0 q0l q0c, .slice q1 q1l q1c] w K := by
 refine H.girderref02_NatAdd q0 q0l q0c q1 q1l q1c w _ ?_
 unfold S_girderref02_NatAdd
 unfold T_girderref02_NatAdd at hx
 have h := hx
 clear hx
 try dsimp only
 obtain ⟨t1, ht1, h⟩ := bnd h
 refine wk_girderref02_halves H hS hq0 ht1 ?_; clear hS ht1; rintro a1 m1 c1 w hS
 refine ⟨_, _, _, rfl, ?_⟩
 obtain ⟨t2, ht2, h⟩ := bnd h
 refine wk_girderref02_halves H hS (hq1.mono tl1) ht2 ?_; clear hS ht2; rintro a2 m2 c2 w hS
 refine ⟨_, _, _, rfl, ?_⟩
 obtain ⟨o6, h6, c6⟩ := bnd h
 refine cutM_i (fun s w => ∃ (a3 : Option Addr) (m4 : Nat) (c5 : Nat) (t3 : List Int), t3 = o6 ∧ s = ((a3, m4, c5), ()) ∧ Ho w0 w ((sl a3 m4 c5 (List.map (Value.int .u64) t3) N.t_uint64) :: L)) (fun J6 hJ6 => ?_) ?_
 ·
  have h := h6
  clear h6
  replace hS := hS.none (α := Int) (enc := (Value.int .u64)) (t := N.t_uint64)
  refine iter_sim (fun s w t => ∃ (t4 : Int) (t5 : Int) (a7 : Option Addr) (m8 : Nat) (c9 : Nat) (t6 : List Int), (t4, t5, t6) = t ∧ s = ((a7, m8, c9), t4, t5, ()) ∧ Ho w0 w ((sl a2 m2 c2 (List.map (Value.int .u64) t2) N.t_uint64) :: (sl a1 m1 c1 (List.map (Value.int .u64) t1) N.t_uint64) :: (sl a7 m8 c9 (List.map (Value.int .u64) t6) N.t_uint64) :: L)) ?_ h ⟨_, _, _, _, _, _, rfl, rfl, (hS.pick (A := [_, _, _]) [1, 1, 0] rfl)⟩
  clear h hS
  rintro s w t X q ⟨t4, t5, a7, m8, c9, t6, rfl, rfl, hS⟩ h hX hO
  unfold T_girderref02_NatAdd_b2 at h
  try dsimp only
  obtain ⟨o10, h10, c10⟩ := bnd h
  refine cutM_i (fun s w => ∃ (t7 : Bool), t7 = o10 ∧ s = (t7, ()) ∧ Ho w0 w ((sl a2 m2 c2 (List.map (Value.int .u64) t2) N.t_uint64) :: (sl a1 m1 c1 (List.map (Value.int .u64) t1) N.t_uint64) :: (sl a7 m8 c9 (List.map (Value.int .u64) t6) N.t_uint64) :: L)) (fun J10 hJ10 => ?_) ?_
  ·
   have h := h10
   clear h10
   obtain ⟨t8, ht8, h⟩ := bnd h
   obtain rfl := lenE ht8 ((Ent.sl mp1).now (fun _ h => h) hS)
   clear ht8
   refine cond_s h ?_ ?_ <;> clear h <;> intro hc h
   ·
    obtain ⟨t9, ht9, h⟩ := bnd h
    obtain rfl := lenE ht9 ((Ent.sl mp0).now (fun _ h => h) hS)
    clear ht9
    refine cond_s h ?_ ?_ <;> clear h <;> intro hc h
    ·
     obtain rfl := some_inj h
     exact hJ10 _ _ ⟨_, rfl, rfl, hS⟩
    ·
     obtain rfl := some_inj h
     exact hJ10 _ _ ⟨_, rfl, rfl, hS⟩
   ·
    obtain rfl := some_inj h
    exact hJ10 _ _ ⟨_, rfl, rfl, hS⟩
  ·
   clear h10 hS
   rintro s w ⟨t7, rfl, rfl, hS⟩
   have h := c10
   clear c10
   try dsimp only
   refine cond_s h ?_ ?_ <;> clear h <;> intro hc h
   ·
    obtain ⟨t10, ht10, h⟩ := bnd h
    refine wk_girderref02_digit H hS (Ent.sl mp1) ht10 ?_; clear hS ht10; rintro w hS
    refine ⟨_, rfl, ?_⟩
    obtain ⟨t11, ht11, h⟩ := bnd h
    refine wk_girderref02_digit H hS (Ent.sl mp0) ht11 ?_; clear hS ht11; rintro w hS
    refine ⟨_, rfl, ?_⟩
    refine ⟨by decide, ?_⟩
    obtain ⟨t12, ht12, h⟩ := bnd h
    obtain rfl : ([((IntKind.u64.wrap ((IntKind.u64.wrap (t10 + t11)) + t4)).tmod 4294967296)] : List Int) = t12 := some_inj ht12
    clear ht12
    refine lit_s (ks := [((IntKind.u64.wrap ((IntKind.u64.wrap (t10 + t11)) + t4)).tmod 4294967296)]) (enc := (Value.int .u64)) (m := 1) hS rfl rfl ?_; clear hS; intro r11 w hS
    obtain ⟨t13, ht13, h⟩ := bnd h
    obtain ⟨rfl, kt13⟩ := appE ht13
    clear ht13
    replace hS := ro3 hS
    refine app_s hS kt13 ((Ent.sl mp1).now (fun _ h => h) hS) (fun _ => rfl) rfl ?_; clear hS kt13; intro a12 c12 w hS
    refine ⟨by decide, ?_⟩
    obtain rfl := some_inj h
    exact hX _ rfl _ _ ⟨_, _, _, _, _, _, rfl, rfl, (hS.pick (A := [_, _, _, _]) [2, 2, 0] rfl)⟩
   ·
    obtain rfl := some_inj h
    have h := congrArg some (hO _ rfl)
    obtain rfl := some_inj h
    exact hJ6 _ _ ⟨_, _, _, _, rfl, rfl, (hS.pick (A := [_, _, _]) [2] rfl)⟩
 ·
  clear h6 hS
  rintro s w ⟨a3, m4, c5, t3, rfl, rfl, hS⟩
  have h := c6
  clear c6
  try dsimp only
  obtain ⟨t14, ht14, h⟩ := bnd h
  refine wk_girderref02_limbs H hS (Ent.sl mp0) ht14 ?_; clear hS ht14; rintro a13 m13 c13 w hS
  refine ⟨_, _, _, rfl, ?_⟩
  have h := some_inj h
  cases h
  exact hK _ _ _ _ (hS.pick (A := [_, _]) [0] rfl)

theorem wk_girderref01_Join {N : Nums} {P : Program} (H : AllOk N P) {w0 w : World} {L : List It} {q0_0 : Bool} {q0_1 : Int} {q0_2 : Int} {u0 : Nat} {u1 : Bool} (hS : Ho w0 w (L))  (hx : T_girderref01_Join q0_0 q0_1 q0_2 = some (u0, u1)) {K : Value → World → Prop} (hK : ∀ (z0 : Nat) (w1 : World), nf z0 = u0 → Ho w0 w1 (L) → K (.tuple #[.float .f64 z0, .bool u1]) w1) : CallsX P N.f_girderref01_Join #[.agg #[.bool q0_0, .int .u64 q0_1, .int .i64 q0_2]] w K := by
 refine H.girderref01_Join q0_0 q0_1 q0_2 w _ ?_
 unfold S_girderref01_Join
 unfold T_girderref01_Join at hx
 have h := hx
 clear hx
 try dsimp only
 refine newM_s hS ?_; clear hS; intro r1 w hS
 obtain ⟨o2, h2, c2⟩ := bnd h
 refine cutM_i (fun s w => ∃ (t1 : Bool), t1 = o2 ∧ s = (t1, ()) ∧ Ho w0 w ((cl r1 [.bool q0_0, .int .u64 q0_1, .int .i64 q0_2] N.t_Parts) :: L)) (fun J2 hJ2 => ?_) ?_
 ·
  have h := h2
  clear h2
  refine ⟨_, (hS.cel mp0 rfl), ?_⟩
  refine cond_s h ?_ ?_ <;> clear h <;> intro hc h
  ·
   refine ⟨_, (hS.cel mp0 rfl), ?_⟩
   refine cond_s h ?_ ?_ <;> clear h <;> intro hc h
   ·
    refine ⟨_, (hS.cel mp0 rfl), ?_⟩
    refine cond_s h ?_ ?_ <;> clear h <;> intro hc h
    ·
     refine ⟨_, (hS.cel mp0 rfl), ?_⟩
     refine ⟨_, (hS.cel mp0 rfl), ?_⟩
     refine ⟨by decide, ?_⟩
     refine cond_s h ?_ ?_ <;> clear h <;> intro hc h
     ·
      refine ⟨_, (hS.cel mp0 rfl), ?_⟩
      refine cond_s h ?_ ?_ <;> clear h <;> intro hc h
      ·
       refine ⟨_, (hS.cel mp0 rfl), ?_⟩
       obtain rfl := some_inj h
       exact hJ2 _ _ ⟨_, rfl, rfl, hS⟩
      ·
       obtain rfl := some_inj h
       exact hJ2 _ _ ⟨_, rfl, rfl, hS⟩
     ·
      obtain rfl := some_inj h
      exact hJ2 _ _ ⟨_, rfl, rfl, hS⟩
    ·
     obtain rfl := some_inj h
     exact hJ2 _ _ ⟨_, rfl, rfl, hS⟩
   ·
    obtain rfl := some_inj h
    exact hJ2 _ _ ⟨_, rfl, rfl, hS⟩
  ·
   obtain rfl := some_inj h
   exact hJ2 _ _ ⟨_, rfl, rfl, hS⟩
 ·
  clear h2 hS
  rintro s w ⟨t1, rfl, rfl, hS⟩
  have h := c2
  clear c2
  try dsimp only
  refine cond_s h ?_ ?_ <;> clear h <;> intro hc h
  ·
   have h := some_inj h
   cases h
   exact hK _ _ rfl (hS.pick (A := [_]) [] rfl)
  ·
   refine ⟨_, (hS.cel mp0 rfl), ?_⟩
   refine ⟨_, (hS.cel mp0 rfl), ?_⟩
   refine drM_s hS ?_; clear hS; intro w hS
   obtain ⟨o3, h3, c3⟩ := bnd h
   refine cutM_i (fun s w => ∃ (t2 : Int) (t3 : Int), (t2, t3) = o3 ∧ s = (t2, t3, ()) ∧ Ho w0 w ((cl r1 [.bool q0_0, .int .u64 q0_1, .int .i64 q0_2] N.t_Parts) :: L)) (fun J3 hJ3 => ?_) ?_
   ·
    have h := h3
    clear h3
    refine iter_sim (fun s w t => ∃ (t4 : Int) (t5 : Int), (t4, t5) = t ∧ s = (t4, t5, ()) ∧ Ho w0 w ((cl r1 [.bool q0_0, .int .u64 q0_1, .int .i64 q0_2] N.t_Parts) :: L)) ?_ h ⟨_, _, rfl, rfl, hS⟩
    clear h hS
    rintro s w t X q ⟨t4, t5, rfl, rfl, hS⟩ h hX hO
    unfold T_girderref01_Join_b2 at h
    try dsimp only
    refine cond_s h ?_ ?_ <;> clear h <;> intro hc h
    ·
     refine cond_s h ?_ ?_ <;> clear h <;> intro hc h
     ·
      refine cond_s h ?_ ?_ <;> clear h <;> intro hc h
      ·
       obtain rfl := some_inj h
       exact hX _ rfl _ _ ⟨_, _, rfl, rfl, hS⟩
      ·
       obtain rfl := some_inj h
       have h := congrArg some (hO _ rfl)
       obtain rfl := some_inj h
       exact hJ3 _ _ ⟨_, _, rfl, rfl, hS⟩
     ·
      obtain rfl := some_inj h
      have h := congrArg some (hO _ rfl)
      obtain rfl := some_inj h
      exact hJ3 _ _ ⟨_, _, rfl, rfl, hS⟩
    ·
     obtain rfl := some_inj h
     have h := congrArg some (hO _ rfl)
     obtain rfl := some_inj h
     exact hJ3 _ _ ⟨_, _, rfl, rfl, hS⟩
   ·
    clear h3 hS
    rintro s w ⟨t2, t3, rfl, rfl, hS⟩
    have h := c3
    clear c3
    try dsimp only
    refine cond_s h ?_ ?_ <;> clear h <;> intro hc h
    ·
     have h := some_inj h
     cases h
     exact hK _ _ rfl (hS.pick (A := [_]) [] rfl)
    ·
     obtain ⟨o4, h4, c4⟩ := bnd h
     refine cutM_i (fun s w => ∃ (t6 : Int), t6 = o4 ∧ s = (t6, ()) ∧ Ho w0 w ((cl r1 [.bool q0_0, .int .u64 q0_1, .int .i64 q0_2] N.t_Parts) :: L)) (fun J4 hJ4 => ?_) ?_
     ·
      have h := h4
      clear h4
      refine cond_s h ?_ ?_ <;> clear h <;> intro hc h
      ·
       refine ⟨by decide, ?_⟩
       obtain rfl := some_inj h
       exact hJ4 _ _ ⟨_, rfl, rfl, hS⟩
      ·
       obtain rfl := some_inj h
       exact hJ4 _ _ ⟨_, rfl, rfl, hS⟩
     ·
      clear h4 hS
      rintro s w ⟨t6, rfl, rfl, hS⟩
      have h := c4
      clear c4
      try dsimp only
      refine ⟨_, (hS.cel mp0 rfl), ?_⟩
      obtain ⟨o5, h5, c5⟩ := bnd h
      refine cutM_i (fun s w => ∃ (t7 : Int), t7 = o5 ∧ s = (t7, ()) ∧ Ho w0 w (L)) (fun J5 hJ5 => ?_) ?_
      ·
       have h := h5
       clear h5
       refine cond_s h ?_ ?_ <;> clear h <;> intro hc h
       ·
        obtain rfl := some_inj h
        exact hJ5 _ _ ⟨_, rfl, rfl, (hS.pick (A := [_]) [] rfl)⟩
       ·
        obtain rfl := some_inj h
        exact hJ5 _ _ ⟨_, rfl, rfl, (hS.pick (A := [_]) [] rfl)⟩
      ·
       clear h5 hS
       rintro s w ⟨t7, rfl, rfl, hS⟩
       have h := c5
       clear c5
       try dsimp only
       obtain ⟨t8, ht8, h⟩ := bnd h
       refine wk_math_Float64frombits H hS  ht8 ?_; clear hS ht8; rintro z6 w rfl hS
       refine ⟨_, rfl, ?_⟩
       have h := some_inj h
       cases h
       exact hK _ _ rfl hS

theorem wk_girderref02_huge {N : Nums} {P : Program} (H : AllOk N P) {w0 w : World} {L : List It} {q0 : Int} {q1 : Bool} {u0 : Nat} (hS : Ho w0 w (L))  (hx : T_girderref02_huge q0 q1 = some u0) {K : Value → World → Prop} (hK : ∀ (z0 : Nat) (w1 : World), nf z0 = u0 → Ho w0 w1 (L) → K (.float .f64 z0) w1) : CallsX P N.f_girderref02_huge #[.int .i8 q0, .bool q1] w K := by
 refine H.girderref02_huge q0 q1 w _ ?_
 unfold S_girderref02_huge
 unfold T_girderref02_huge at hx
 have h := hx
 clear hx
 try dsimp only
 obtain ⟨⟨t1, t2⟩, ho1, h⟩ := bnd h
 refine wk_girderref01_Join H hS  ho1 ?_; clear hS ho1; rintro z1 w rfl hS
 refine ⟨_, _, rfl, ?_⟩
 obtain ⟨o3, h3, c3⟩ := bnd h
 refine cutM_i (fun s w => ∃ (z2 : Nat), (nf z2) = o3 ∧ s = (z2, ()) ∧ Ho w0 w (L)) (fun J3 hJ3 => ?_) ?_
 ·
  have h := h3
  clear h3
  refine cond_s h ?_ ?_ <;> clear h <;> intro hc h
  ·
   obtain rfl := some_inj h
   exact hJ3 _ _ ⟨_, rfl, rfl, hS⟩
  ·
   obtain rfl := some_inj h
   exact hJ3 _ _ ⟨_, rfl, rfl, hS⟩
 ·
  clear h3 hS
  rintro s w ⟨z2, rfl, rfl, hS⟩
  have h := c3
  clear c3
  try dsimp only
  refine cond_s h ?_ ?_ <;> clear h <;> intro hc h
  ·
   refine cond_s h ?_ ?_ <;> clear h <;> intro hc h
   ·
    refine cond_s h ?_ ?_ <;> clear h <;> intro hc h
    ·
     refine cond_s h ?_ ?_ <;> clear h <;> intro hc h
     ·
      refine cond_s h ?_ ?_ <;> clear h <;> intro hc h
      ·
       have h := some_inj h
       cases h
       exact hK _ _ rfl hS
      ·
       obtain ⟨t4, ht4, h⟩ := bnd h
       refine fdiv_s ht4 hS ?_; clear hS ht4; rintro z4 w rfl hS
       have h := some_inj h
       cases h
       exact hK _ _ rfl hS
     ·
      obtain ⟨t5, ht5, h⟩ := bnd h
      refine fdiv_s ht5 hS ?_; clear hS ht5; rintro z5 w rfl hS
      have h := some_inj h
      cases h
      exact hK _ _ rfl hS
    ·
     have h := some_inj h
     cases h
     exact hK _ _ rfl hS
   ·
    refine cond_s h ?_ ?_ <;> clear h <;> intro hc h
    ·
     refine cond_s h ?_ ?_ <;> clear h <;> intro hc h
     ·
      have h := some_inj h
      cases h
      exact hK _ _ rfl hS
     ·
      obtain ⟨t6, ht6, h⟩ := bnd h
      refine fdiv_s ht6 hS ?_; clear hS ht6; rintro z6 w rfl hS
      have h := some_inj h
      cases h
      exact hK _ _ rfl hS
    ·
     obtain ⟨t7, ht7, h⟩ := bnd h
     refine fdiv_s ht7 hS ?_; clear hS ht7; rintro z7 w rfl hS
     have h := some_inj h
     cases h
     exact hK _ _ rfl hS
  ·
   have h := some_inj h
   cases h
   exact hK _ _ rfl hS

end Go.Eng
