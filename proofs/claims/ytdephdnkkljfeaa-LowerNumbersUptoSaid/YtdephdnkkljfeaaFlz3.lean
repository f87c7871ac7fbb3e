/-
  Floats of 64 bits by their fields: comparisons with nought, signs, finite ones. No condition.
-/
import Derived.Test.YtdephdnkkljfeaaFl2
import Derived.Laws.FloatBits
set_option linter.all false
namespace Go.Eng
def magF (x : Nat) : Nat := x % 9223372036854775808
def negF (x : Nat) : Bool := x / 9223372036854775808 % 2 == 1
theorem lp : Ieee.double.leastPlace = -1074 := by decide +kernel
theorem read_small {x : Nat} (h : magF x < 4503599627370496) : Ieee.double.read x = .number (negF x) (magF x) (-1074) := by
  unfold Ieee.Format.read; rw [sw, bn, lp]; exact if_pos h
theorem read_normal {x : Nat} (h1 : 4503599627370496 ≤ magF x) (h2 : magF x < 9218868437227405312) :
    Ieee.double.read x = .number (negF x) (4503599627370496 + magF x % 4503599627370496) (-1074 + ((magF x / 4503599627370496 - 1 : Nat) : Int)) := by
  unfold Ieee.Format.read; rw [sw, bn, ir, lp]
  dsimp only
  rw [if_neg (by unfold magF at h1; omega), if_pos (by unfold magF at h2; omega)]
  rfl
theorem read_inf {x : Nat} (h : magF x = 9218868437227405312) : Ieee.double.read x = .infinity (negF x) := by
  unfold Ieee.Format.read; rw [sw, bn, ir]
  dsimp only
  unfold magF at h
  rw [if_neg (by omega), if_neg (by omega), if_pos h]
  rfl
theorem read_nan {x : Nat} (h : 9218868437227405312 < magF x) : Ieee.double.read x = .nan (negF x) (magF x - 9218868437227405312) := by
  unfold Ieee.Format.read; rw [sw, bn, ir]
  dsimp only
  unfold magF at h
  rw [if_neg (by omega), if_neg (by omega), if_neg (by omega)]
  rfl
theorem isNaN_mag (x : Nat) : isNaN x = decide (9218868437227405312 < magF x) := by
  unfold isNaN
  rcases Nat.lt_or_ge (magF x) 4503599627370496 with h | h
  · rw [read_small h]; simp [Ieee.Datum.isNaN]; omega
  · rcases Nat.lt_or_ge (magF x) 9218868437227405312 with h2 | h2
    · rw [read_normal h h2]; simp [Ieee.Datum.isNaN]; omega
    · rcases Nat.lt_or_ge 9218868437227405312 (magF x) with h3 | h3
      · rw [read_nan h3]; simp [Ieee.Datum.isNaN, h3]
      · rw [read_inf (by omega)]; simp [Ieee.Datum.isNaN]; omega
def vmag (r : Nat) : Nat := if r < 4503599627370496 then r else (4503599627370496 + r % 4503599627370496) * 2 ^ (r / 4503599627370496 - 1)
theorem vmag_lt {r s : Nat} (h : r < s) : vmag r < vmag s := by
  unfold vmag
  by_cases hr : r < 4503599627370496
  · rw [if_pos hr]
    by_cases hs : s < 4503599627370496
    · rw [if_pos hs]; exact h
    · rw [if_neg hs]
      have hp : 1 ≤ 2 ^ (s / 4503599627370496 - 1) := Nat.one_le_two_pow
      have : (4503599627370496 + s % 4503599627370496) * 1 ≤ (4503599627370496 + s % 4503599627370496) * 2 ^ (s / 4503599627370496 - 1) := Nat.mul_le_mul_left _ hp
      omega
  · rw [if_neg hr, if_neg (by omega)]
    have he : r / 4503599627370496 ≤ s / 4503599627370496 := Nat.div_le_div_right (by omega)
    rcases Nat.lt_or_ge (r / 4503599627370496) (s / 4503599627370496) with h1 | h1
    · have h2 : (4503599627370496 + r % 4503599627370496) * 2 ^ (r / 4503599627370496 - 1) < (4503599627370496 * 2) * 2 ^ (r / 4503599627370496 - 1) :=
        Nat.mul_lt_mul_of_pos_right (by omega) (Nat.two_pow_pos _)
      have h3 : (4503599627370496 * 2) * 2 ^ (r / 4503599627370496 - 1) = 4503599627370496 * 2 ^ (r / 4503599627370496) := by
        rw [Nat.mul_assoc]
        congr 1
        have : r / 4503599627370496 = (r / 4503599627370496 - 1) + 1 := by omega
        rw [Nat.mul_comm, ← Nat.pow_succ]
        congr 1
        exact this.symm
      have h4 : 4503599627370496 * 2 ^ (r / 4503599627370496) ≤ (4503599627370496 + s % 4503599627370496) * 2 ^ (s / 4503599627370496 - 1) :=
        Nat.mul_le_mul (by omega) (Nat.pow_le_pow_right (by omega) (by omega))
      omega
    · have e : r / 4503599627370496 = s / 4503599627370496 := by omega
      rw [e]
      exact Nat.mul_lt_mul_of_pos_right (by omega) (Nat.two_pow_pos _)
theorem read_fin {x : Nat} (h : magF x < 9218868437227405312) : ∃ m a : Nat, Ieee.double.read x = .number (negF x) m (-1074 + (a : Int)) ∧ m * 2 ^ a = vmag (magF x) := by
  rcases Nat.lt_or_ge (magF x) 4503599627370496 with h1 | h1
  · exact ⟨magF x, 0, read_small h1, by unfold vmag; rw [if_pos h1]; omega⟩
  · exact ⟨_, _, read_normal h1 h, by unfold vmag; rw [if_neg (by omega)]⟩
def sval (x : Nat) : Int := if negF x then -(vmag (magF x) : Int) else (vmag (magF x) : Int)
theorem signed_val (s : Bool) (m k : Nat) : Ieee.signed s m k = if s then -((m * 2 ^ k : Nat) : Int) else ((m * 2 ^ k : Nat) : Int) := by
  unfold Ieee.signed
  rw [Nat.shiftLeft_eq]
theorem signed_scale (s : Bool) (m k d : Nat) : Ieee.signed s m (k + d) = Ieee.signed s m k * ((2 ^ d : Nat) : Int) := by
  rw [signed_val, signed_val]
  have : m * 2 ^ (k + d) = m * 2 ^ k * 2 ^ d := by rw [Nat.pow_add, Nat.mul_assoc]
  rw [this]
  cases s
  · simp only [Bool.false_eq_true, if_false]; rw [Int.natCast_mul]
  · simp only [if_true]; rw [Int.natCast_mul, Int.neg_mul]
theorem compare_scale (a b c : Int) (hc : 0 < c) : compare (a * c) (b * c) = compare a b := by
  rcases Int.lt_trichotomy a b with h | h | h
  · rw [Int.compare_eq_lt.2 h, Int.compare_eq_lt.2 (Int.mul_lt_mul_of_pos_right h hc)]
  · subst h; rw [Int.compare_eq_eq.2 rfl, Int.compare_eq_eq.2 rfl]
  · rw [Int.compare_eq_gt.2 h, Int.compare_eq_gt.2 (Int.mul_lt_mul_of_pos_right h hc)]
theorem order_fin {x y : Nat} (hx : magF x < 9218868437227405312) (hy : magF y < 9218868437227405312) : Ieee.double.order x y = some (compare (sval x) (sval y)) := by
  obtain ⟨m, a, hr, hv⟩ := read_fin hx
  obtain ⟨n, b, hs, hw⟩ := read_fin hy
  unfold Ieee.Format.order
  rw [hr, hs]
  simp only [Ieee.Datum.order]
  congr 1
  have e1 : sval x = Ieee.signed (negF x) m a := by unfold sval; rw [signed_val, hv]
  have e2 : sval y = Ieee.signed (negF y) n b := by unfold sval; rw [signed_val, hw]
  have c : min (-1074 + (a : Int)) (-1074 + (b : Int)) = -1074 + ((min a b : Nat) : Int) := by omega
  rw [c]
  have c1 : (-1074 + (a : Int) - (-1074 + ((min a b : Nat) : Int))).toNat = a - min a b := by omega
  have c2 : (-1074 + (b : Int) - (-1074 + ((min a b : Nat) : Int))).toNat = b - min a b := by omega
  rw [c1, c2, e1, e2]
  have d1 : Ieee.signed (negF x) m a = Ieee.signed (negF x) m (a - min a b) * ((2 ^ min a b : Nat) : Int) := by rw [← signed_scale]; congr 1; omega
  have d2 : Ieee.signed (negF y) n b = Ieee.signed (negF y) n (b - min a b) * ((2 ^ min a b : Nat) : Int) := by rw [← signed_scale]; congr 1; omega
  rw [d1, d2, compare_scale _ _ _ (by have := Nat.two_pow_pos (min a b); omega)]
theorem magF_lt (x : Nat) : magF x < 9223372036854775808 := Nat.mod_lt _ (by omega)
theorem magF_magF (x : Nat) : magF (magF x) = magF x := Nat.mod_eq_of_lt (magF_lt x)
theorem negF_magF (x : Nat) : negF (magF x) = false := by
  unfold negF
  rw [Nat.div_eq_of_lt (magF_lt x)]; rfl
theorem isInf_test (x : Nat) : fgt (magF x) 9218868437227405311 = decide (magF x = 9218868437227405312) := by
  unfold fgt
  rcases Nat.lt_or_ge (magF x) 9218868437227405312 with h | h
  · rw [order_fin (by rw [magF_magF]; exact h) (by decide)]
    have h1 : sval (magF x) = (vmag (magF x) : Int) := by unfold sval; rw [negF_magF, magF_magF]; rfl
    have h2 : sval 9218868437227405311 = (vmag 9218868437227405311 : Int) := by
      unfold sval
      have q1 : negF 9218868437227405311 = false := by decide
      have q2 : magF 9218868437227405311 = 9218868437227405311 := by decide
      rw [q1, q2]
      exact if_neg (by decide)
    rw [h1, h2]
    have h3 : vmag (magF x) ≤ vmag 9218868437227405311 := by
      rcases Nat.lt_or_eq_of_le (show magF x ≤ 9218868437227405311 by omega) with h4 | h4
      · exact Nat.le_of_lt (vmag_lt h4)
      · rw [h4]; exact Nat.le_refl _
    rcases Nat.lt_or_eq_of_le h3 with h4 | h4
    · rw [Int.compare_eq_lt.2 (by omega)]; simp; omega
    · rw [Int.compare_eq_eq.2 (by omega)]; simp; omega
  · unfold Ieee.Format.order
    obtain ⟨m, a, hs, _⟩ := read_fin (x := 9218868437227405311) (by decide)
    rw [hs]
    rcases Nat.lt_or_ge 9218868437227405312 (magF x) with h3 | h3
    · rw [read_nan (by rw [magF_magF]; exact h3)]; simp [Ieee.Datum.order]; omega
    · rw [read_inf (by rw [magF_magF]; omega), negF_magF]
      have : magF x = 9218868437227405312 := by omega
      simp [Ieee.Datum.order, this]
end Go.Eng
/-
  Floats of 64 bits by their fields (continued): opposites, differences with oneself, sums that are nought. No condition.
-/
namespace Go.Eng
end Go.Eng
/-
  Sums of finite floats of 64 bits: when nought, of which sign. No condition.
-/
namespace Go.Eng
end Go.Eng
