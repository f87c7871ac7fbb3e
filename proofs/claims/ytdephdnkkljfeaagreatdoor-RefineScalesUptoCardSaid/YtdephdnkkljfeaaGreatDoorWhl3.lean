/-
  Whole numbers as floats: exact sums and products. No condition. (Groundwork for MatrixWhole, SolveWhole, LowerBack.)
-/
import Derived.Test.YtdephdnkkljfeaaGreatDoorOpp
import Derived.Test.YtdephdnkkljfeaaGreatDoorFlz3
import Derived.Test.YtdephdnkkljfeaaGreatDoorEng
set_option linter.all false
set_option maxRecDepth 100000
set_option maxHeartbeats 4000000
namespace Go.Eng
def whl (z : Int) : Nat := Ieee.double.nearest (decide (z < 0)) z.natAbs 0
theorem whl_zero : whl 0 = 0 := by decide +kernel
theorem nearest_zero (s : Bool) (p : Int) : Ieee.double.nearest s 0 p = Ieee.double.word s 0 := by unfold Ieee.Format.nearest; exact if_pos rfl
theorem nearest_val {s : Bool} {m k : Nat} {n : Nat} (hn : n ≠ 0) (p : Int) (h : m * 2 ^ k = n * 2 ^ 1074) (hp : p = -1074 + (k : Int)) : Ieee.double.nearest s m p = Ieee.double.nearest s n 0 := by
  have hm : m ≠ 0 := by
    intro e
    subst e
    rw [Nat.zero_mul] at h
    have := Nat.mul_ne_zero hn (show 2 ^ 1074 ≠ 0 by have := Nat.two_pow_pos 1074; omega)
    exact this h.symm
  have h1 := nearest_shift s hm (-1074) k
  have h2 := nearest_shift s hn (-1074) 1074
  rw [hp, ← h1, h, h2]
  rfl
def Wv (x : Nat) (z : Int) : Prop := magF x < 9218868437227405312 ∧ sval x = z * ((2 ^ 1074 : Nat) : Int)
theorem big_pos : (0 : Int) < ((2 ^ 1074 : Nat) : Int) := by have := Nat.two_pow_pos 1074; omega
theorem wv_read {x : Nat} {z : Int} (h : Wv x z) : ∃ m a : Nat, Ieee.double.read x = .number (negF x) m (-1074 + (a : Int)) ∧ m * 2 ^ a = z.natAbs * 2 ^ 1074 ∧ (z ≠ 0 → negF x = decide (z < 0)) := by
  obtain ⟨hx, hv⟩ := h
  obtain ⟨m, a, hr, hm⟩ := read_fin hx
  have hp := big_pos
  have e : ((vmag (magF x) : Nat) : Int) = ((z.natAbs * 2 ^ 1074 : Nat) : Int) := by
    have : (sval x).natAbs = vmag (magF x) := by unfold sval; split <;> simp
    rw [← this, hv, Int.natAbs_mul, Int.natAbs_natCast]
  refine ⟨m, a, hr, by rw [hm]; exact Int.ofNat.inj e, fun hz => ?_⟩
  unfold sval at hv
  have hv0 : z * ((2 ^ 1074 : Nat) : Int) ≠ 0 := Int.mul_ne_zero hz (by omega)
  rcases Int.lt_trichotomy z 0 with h | h | h
  · have : z * ((2 ^ 1074 : Nat) : Int) < 0 := Int.mul_neg_of_neg_of_pos h hp
    cases hn : negF x
    · rw [hn] at hv
      simp only [Bool.false_eq_true, if_false] at hv
      generalize z * ((2 ^ 1074 : Nat) : Int) = q at *
      omega
    · simp [h]
  · exact absurd h hz
  · have : 0 < z * ((2 ^ 1074 : Nat) : Int) := Int.mul_pos h hp
    cases hn : negF x
    · simp; omega
    · rw [hn] at hv
      simp only [if_true] at hv
      generalize z * ((2 ^ 1074 : Nat) : Int) = q at *
      omega
theorem fadd_whl {x y : Nat} {a b : Int} (hx : Wv x a) (hy : Wv y b) (h0 : a + b = 0 → (negF x && negF y) = false) : fadd x y = whl (a + b) := by
  obtain ⟨m, i, hr, hm, _⟩ := wv_read hx
  obtain ⟨n, j, hs, hn, _⟩ := wv_read hy
  have hp := big_pos
  have c : min (-1074 + (i : Int)) (-1074 + (j : Int)) = -1074 + ((min i j : Nat) : Int) := by omega
  have c1 : (-1074 + (i : Int) - (-1074 + ((min i j : Nat) : Int))).toNat = i - min i j := by omega
  have c2 : (-1074 + (j : Int) - (-1074 + ((min i j : Nat) : Int))).toNat = j - min i j := by omega
  have v1 : Ieee.signed (negF x) m i = a * ((2 ^ 1074 : Nat) : Int) := by
    rw [← hx.2]; unfold sval; rw [signed_val]
    have : vmag (magF x) = m * 2 ^ i := by
      obtain ⟨m', i', hr', hm'⟩ := read_fin hx.1
      rw [hr, Ieee.Datum.number.injEq] at hr'
      obtain ⟨_, e1, e2⟩ := hr'
      have : i = i' := by omega
      subst this; subst e1; exact hm'.symm
    rw [this]
  have v2 : Ieee.signed (negF y) n j = b * ((2 ^ 1074 : Nat) : Int) := by
    rw [← hy.2]; unfold sval; rw [signed_val]
    have : vmag (magF y) = n * 2 ^ j := by
      obtain ⟨m', i', hr', hm'⟩ := read_fin hy.1
      rw [hs, Ieee.Datum.number.injEq] at hr'
      obtain ⟨_, e1, e2⟩ := hr'
      have : j = i' := by omega
      subst this; subst e1; exact hm'.symm
    rw [this]
  have d1 : Ieee.signed (negF x) m i = Ieee.signed (negF x) m (i - min i j) * ((2 ^ min i j : Nat) : Int) := by rw [← signed_scale]; congr 1; omega
  have d2 : Ieee.signed (negF y) n j = Ieee.signed (negF y) n (j - min i j) * ((2 ^ min i j : Nat) : Int) := by rw [← signed_scale]; congr 1; omega
  have hq : (0 : Int) < ((2 ^ min i j : Nat) : Int) := by have := Nat.two_pow_pos (min i j); omega
  unfold fadd Ieee.Format.add
  rw [hr, hs]
  simp only [Ieee.Datum.sum, c, c1, c2, Option.map_some, Option.getD_some]
  have hsum : (Ieee.signed (negF x) m (i - min i j) + Ieee.signed (negF y) n (j - min i j)) * ((2 ^ min i j : Nat) : Int) = (a + b) * ((2 ^ 1074 : Nat) : Int) := by
    rw [Int.add_mul, Int.add_mul, ← d1, ← d2, v1, v2]
  generalize Ieee.signed (negF x) m (i - min i j) + Ieee.signed (negF y) n (j - min i j) = T at *
  have hT0 : T = 0 ↔ a + b = 0 := by
    constructor
    · intro h
      rw [h, Int.zero_mul] at hsum
      rcases Int.mul_eq_zero.1 hsum.symm with h | h
      · exact h
      · omega
    · intro h
      rw [h, Int.zero_mul] at hsum
      rcases Int.mul_eq_zero.1 hsum with h | h
      · exact h
      · omega
  show Ieee.double.nearest (if T = 0 then negF x && negF y else decide (T < 0)) T.natAbs (-1074 + ((min i j : Nat) : Int)) = whl (a + b)
  by_cases h : a + b = 0
  · have hT := hT0.2 h
    rw [if_pos hT, hT, h, h0 h, whl_zero]
    exact (nearest_zero _ _).trans rfl
  · have hT : T ≠ 0 := fun e => h (hT0.1 e)
    rw [if_neg hT]
    have hneg : decide (T < 0) = decide (a + b < 0) := by
      rw [decide_eq_decide]
      constructor
      · intro g
        have := Int.mul_neg_of_neg_of_pos g hq
        rw [hsum] at this
        rcases Int.lt_or_le (a + b) 0 with k | k
        · exact k
        · have := Int.mul_nonneg k (Int.le_of_lt hp); omega
      · intro g
        have := Int.mul_neg_of_neg_of_pos g hp
        rw [← hsum] at this
        rcases Int.lt_or_le T 0 with k | k
        · exact k
        · have := Int.mul_nonneg k (Int.le_of_lt hq); omega
    rw [hneg]
    refine nearest_val (by omega) _ ?_ rfl
    have := congrArg Int.natAbs hsum
    rw [Int.natAbs_mul, Int.natAbs_mul, Int.natAbs_natCast, Int.natAbs_natCast] at this
    exact this
theorem whl_wv {z : Int} (h : z.natAbs < 9007199254740992) : Wv (whl z) z := by
  by_cases hz : z = 0
  · subst hz
    rw [whl_zero]
    exact ⟨by decide, by rw [Int.zero_mul]; decide +kernel⟩
  · generalize hm : z.natAbs = m at h
    have hm0 : m ≠ 0 := by omega
    have ht : m.log2 < 53 := (Nat.log2_lt hm0).2 (by simpa using h)
    have hlo : 2 ^ m.log2 ≤ m := Nat.log2_self_le hm0
    have hhi : m < 2 ^ (m.log2 + 1) := Nat.lt_log2_self
    generalize hT : m.log2 = t at ht hlo hhi
    have hk : m * 2 ^ (52 - t) = 4503599627370496 + (m * 2 ^ (52 - t) - 4503599627370496) ∧ m * 2 ^ (52 - t) - 4503599627370496 < 4503599627370496 := by
      have p1 : 2 ^ t * 2 ^ (52 - t) = 4503599627370496 := by rw [← Nat.pow_add, show t + (52 - t) = 52 by omega]
      have p2 : 2 ^ (t + 1) * 2 ^ (52 - t) = 9007199254740992 := by rw [← Nat.pow_add, show t + 1 + (52 - t) = 53 by omega]
      have q1 : 2 ^ t * 2 ^ (52 - t) ≤ m * 2 ^ (52 - t) := Nat.mul_le_mul_right _ hlo
      have q2 : m * 2 ^ (52 - t) < 2 ^ (t + 1) * 2 ^ (52 - t) := Nat.mul_lt_mul_of_pos_right hhi (Nat.two_pow_pos _)
      omega
    have e : whl z = Ieee.double.word (decide (z < 0)) ((t + 1023) * 4503599627370496 + (m * 2 ^ (52 - t) - 4503599627370496)) := by
      unfold whl Ieee.Format.nearest
      rw [hm, if_neg hm0, lp, fb, bn, ir, hT]
      have e1 : max (0 + (t : Int) - ((52 : Nat) : Int)) (-1074) = (t : Int) - 52 := by omega
      have e2 : (0 - ((t : Int) - 52)).toNat = 52 - t := by omega
      have e3 : ((t : Int) - 52 - 0).toNat = 0 := by omega
      have e4 : ((t : Int) - 52 - -1074).toNat = t + 1022 := by omega
      simp only [e1, e2, e3, e4, Nat.shiftLeft_eq, cut_none]
      have e5 : (t + 1022) * 4503599627370496 + m * 2 ^ (52 - t) = (t + 1023) * 4503599627370496 + (m * 2 ^ (52 - t) - 4503599627370496) := by omega
      rw [e5, Nat.min_eq_left (by omega)]
    have hr : (t + 1023) * 4503599627370496 + (m * 2 ^ (52 - t) - 4503599627370496) ≤ 9218868437227405312 := by omega
    have mg : magF (whl z) = (t + 1023) * 4503599627370496 + (m * 2 ^ (52 - t) - 4503599627370496) := by rw [e, mag_word hr]
    have ng : negF (whl z) = decide (z < 0) := by rw [e, neg_word hr]
    have vm : vmag (magF (whl z)) = m * 2 ^ 1074 := by
      rw [mg]
      unfold vmag
      rw [if_neg (by omega)]
      have r1 : ((t + 1023) * 4503599627370496 + (m * 2 ^ (52 - t) - 4503599627370496)) % 4503599627370496 = m * 2 ^ (52 - t) - 4503599627370496 := by omega
      have r2 : ((t + 1023) * 4503599627370496 + (m * 2 ^ (52 - t) - 4503599627370496)) / 4503599627370496 = t + 1023 := by omega
      rw [r1, r2, ← hk.1, Nat.mul_assoc, ← Nat.pow_add, show 52 - t + (t + 1023 - 1) = 1074 by omega]
    refine ⟨by rw [mg]; omega, ?_⟩
    unfold sval
    rw [ng, vm, ← hm]
    by_cases hn : z < 0
    · have : ((z.natAbs : Nat) : Int) = -z := by omega
      rw [decide_eq_true hn, if_pos rfl, Int.natCast_mul, this, Int.neg_mul, Int.neg_neg]
    · have : ((z.natAbs : Nat) : Int) = z := by omega
      rw [decide_eq_false hn, if_neg (by simp), Int.natCast_mul, this]
theorem wv_zero {x : Nat} (h : magF x = 0) : Wv x 0 := by
  refine ⟨by omega, ?_⟩
  unfold sval
  rw [h, Int.zero_mul]
  have : vmag 0 = 0 := by decide +kernel
  rw [this]; cases negF x <;> rfl
theorem two_two (k : Nat) : (2 : Nat) ^ k * 2 ^ k ≠ 0 := Nat.mul_ne_zero (Nat.ne_of_gt (Nat.two_pow_pos k)) (Nat.ne_of_gt (Nat.two_pow_pos k))
theorem prod_val {m n i j p q K : Nat} (hm : m * 2 ^ i = p * K) (hn : n * 2 ^ j = q * K) : m * n * 2 ^ (i + j) = p * q * (K * K) := by
  rw [Nat.pow_add]
  generalize 2 ^ i = I at *
  generalize 2 ^ j = J at *
  calc m * n * (I * J) = (m * I) * (n * J) := by ac_rfl
    _ = (p * K) * (q * K) := by rw [hm, hn]
    _ = p * q * (K * K) := by ac_rfl
theorem fmul_whl {x y : Nat} {a b : Int} (hx : Wv x a) (hy : Wv y b) (hs : (a * b).natAbs < 9007199254740992) : Wv (fmul x y) (a * b) := by
  obtain ⟨m, i, hr, hm, s1⟩ := wv_read hx
  obtain ⟨n, j, hq, hn, s2⟩ := wv_read hy
  have e : fmul x y = Ieee.double.nearest (negF x ^^ negF y) (m * n) (-1074 + (i : Int) + (-1074 + (j : Int))) := by
    unfold fmul Ieee.Format.mul
    rw [hr, hq]; rfl
  have hv := prod_val hm hn
  rw [← Int.natAbs_mul] at hv
  have hbig := two_two 1074
  have hKK : (2 : Nat) ^ 1074 * 2 ^ 1074 = 2 ^ (1074 + 1074) := (Nat.pow_add 2 1074 1074).symm
  generalize (2 : Nat) ^ 1074 * 2 ^ 1074 = K at hv hbig hKK
  by_cases h0 : a * b = 0
  · rw [h0] at hv ⊢
    have : m * n = 0 := by
      rw [Int.natAbs_zero, Nat.zero_mul] at hv
      rcases Nat.mul_eq_zero.1 hv with h | h
      · exact h
      · exact absurd h (Nat.ne_of_gt (Nat.two_pow_pos (i + j)))
    rw [e, this, nearest_zero]
    exact wv_zero (mag_word (by omega))
  · have ha : a ≠ 0 := fun h => h0 (by rw [h, Int.zero_mul])
    have hb : b ≠ 0 := fun h => h0 (by rw [h, Int.mul_zero])
    have sg : (negF x ^^ negF y) = decide (a * b < 0) := by
      rw [s1 ha, s2 hb]
      rcases Int.lt_or_le a 0 with k1 | k1 <;> rcases Int.lt_or_le b 0 with k2 | k2
      · have := Int.mul_pos_of_neg_of_neg k1 k2
        simp [k1, k2]; omega
      · have := Int.mul_neg_of_neg_of_pos k1 (show 0 < b by omega)
        simp [k1, this]; omega
      · have := Int.mul_neg_of_pos_of_neg (show 0 < a by omega) k2
        simp [k2, this]; omega
      · have := Int.mul_pos (show 0 < a by omega) (show 0 < b by omega)
        have n1 : ¬ a < 0 := by omega
        have n2 : ¬ b < 0 := by omega
        have n3 : ¬ a * b < 0 := by omega
        simp [n1, n2, n3]
    have hmn : m * n ≠ 0 := by
      intro h
      rw [h, Nat.zero_mul] at hv
      have : (a * b).natAbs ≠ 0 := by omega
      exact Nat.mul_ne_zero this hbig hv.symm
    have w : fmul x y = whl (a * b) := by
      rw [e, sg]
      unfold whl
      have g1 := nearest_shift (decide (a * b < 0)) hmn (-2148) (i + j)
      have g2 := nearest_shift (decide (a * b < 0)) (show (a * b).natAbs ≠ 0 by omega) (-2148) (1074 + 1074)
      rw [show -1074 + (i : Int) + (-1074 + (j : Int)) = -2148 + ((i + j : Nat) : Int) by omega, ← g1, hv, hKK, g2]
      rfl
    rw [w]
    exact whl_wv hs
end Go.Eng
/-
  Whole numbers as floats: exact quotients. No condition. (Groundwork for SolveWhole.)
-/
set_option maxRecDepth 100000
set_option maxHeartbeats 4000000
set_option exponentiation.threshold 3000
namespace Go.Eng
theorem read_fneg {y : Nat} (hy : magF y < 9218868437227405312) : Ieee.double.read (fneg y) = (Ieee.double.read y).opposite := by
  have h1 := fneg_mag y
  have h2 := fneg_neg y
  rcases Nat.lt_or_ge (magF y) 4503599627370496 with h | h
  · rw [read_small h, read_small (by omega), h1, h2]; rfl
  · rw [read_normal h hy, read_normal (by omega) (by omega), h1, h2]; rfl
theorem fsub_fneg {x y : Nat} (hy : magF y < 9218868437227405312) : fsub x y = fadd x (fneg y) := by
  unfold fsub fadd Ieee.Format.sub Ieee.Format.add
  rw [read_fneg hy]
theorem fadd_whl' {y : Nat} {a b : Int} (ha : a.natAbs < 9007199254740992) (hy : Wv y b) : fadd (whl a) y = whl (a + b) := by
  refine fadd_whl (whl_wv ha) hy fun h => ?_
  by_cases h0 : a = 0
  · subst h0; rw [whl_zero]; rfl
  · obtain ⟨_, _, _, _, s1⟩ := wv_read (whl_wv ha)
    obtain ⟨_, _, _, _, s2⟩ := wv_read hy
    rw [s1 h0, s2 (by omega)]
    by_cases k : a < 0
    · have : ¬ b < 0 := by omega
      simp [this]
    · simp [k]
end Go.Eng
/-
  Whole numbers as floats: sums and differences that may be noughts of either sign, comparisons, conversions. No condition. (Groundwork for SolveWhole, MatrixWhole.)
-/
set_option maxRecDepth 100000
set_option maxHeartbeats 4000000
set_option exponentiation.threshold 3000
namespace Go.Eng
open Go
theorem wv_nan {x : Nat} {z : Int} (h : Wv x z) : isNaN x = false := by
  rw [isNaN_mag]
  have := h.1
  simp; omega
theorem wv_ne {x y : Nat} {a b : Int} (hx : Wv x a) (hy : Wv y b) (h : a ≠ b) : feq x y = false := by
  unfold feq
  rw [order_fin hx.1 hy.1, hx.2, hy.2]
  have hp := big_pos
  generalize ((2 ^ 1074 : Nat) : Int) = K at *
  have : a * K ≠ b * K := fun e => h (Int.eq_of_mul_eq_mul_right (by omega) e)
  cases hc : compare (a * K) (b * K) with
  | eq => exact absurd (Int.compare_eq_eq.1 hc) this
  | lt => rfl
  | gt => rfl
theorem near_whl (z : Int) : FloatKind.f64.nearest z = whl z := rfl
theorem whl_nan {z : Int} (h : z.natAbs < 9007199254740992) : isNaN (whl z) = false := wv_nan (whl_wv h)
theorem nf_whl {z : Int} (h : z.natAbs < 9007199254740992) : nf (FloatKind.f64.nearest z) = whl z := by
  rw [near_whl, nf_of_not (whl_nan h)]
end Go.Eng
