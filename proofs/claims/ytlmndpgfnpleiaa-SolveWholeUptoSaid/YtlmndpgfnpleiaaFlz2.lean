/-
  Floats of 64 bits by their fields (continued): opposites, differences with oneself, sums that are nought. No condition.
-/
import Derived.Test.YtlmndpgfnpleiaaFlz
import Derived.Laws.FloatBits
set_option linter.unusedVariables false
set_option linter.unusedSimpArgs false
set_option linter.unnecessarySimpa false
set_option linter.unusedSectionVars false
namespace Go.Eng

theorem fneg_mag (x : Nat) : magF (fneg x) = magF x := by
  unfold magF fneg
  show (x ^^^ 2 ^ 63) % 2 ^ 63 = x % 2 ^ 63
  rw [Nat.xor_mod_two_pow]
  simp
theorem fneg_neg (x : Nat) : negF (fneg x) = !negF x := by
  unfold negF fneg
  show ((x ^^^ 2 ^ 63) / 2 ^ 63 % 2 == 1) = !(x / 2 ^ 63 % 2 == 1)
  rw [Nat.xor_div_two_pow]
  have : (x / 2 ^ 63 ^^^ 2 ^ 63 / 2 ^ 63) % 2 = (x / 2 ^ 63 + 1) % 2 := by
    rw [Nat.div_self (by decide)]
    have h2 := Nat.xor_mod_two_pow (a := x / 2 ^ 63) (b := 1) (n := 1)
    rw [Nat.pow_one] at h2
    rw [h2]
    rcases Nat.mod_two_eq_zero_or_one (x / 2 ^ 63) with h | h
    · rw [h, show (x / 2 ^ 63 + 1) % 2 = 1 by omega]; rfl
    · rw [h, show (x / 2 ^ 63 + 1) % 2 = 0 by omega]; rfl
  rw [this]
  rcases Nat.mod_two_eq_zero_or_one (x / 2 ^ 63) with h | h
  · rw [h, show (x / 2 ^ 63 + 1) % 2 = 1 by omega]; rfl
  · rw [h, show (x / 2 ^ 63 + 1) % 2 = 0 by omega]; rfl
theorem word_eq {x : Nat} (h : x < 18446744073709551616) : x = (if negF x then 9223372036854775808 else 0) + magF x := by
  unfold negF magF
  by_cases hx : x < 9223372036854775808
  · rw [Nat.div_eq_of_lt hx]; simp; omega
  · have : x / 9223372036854775808 = 1 := by omega
    rw [this]; simp; omega
theorem fneg_lt {x : Nat} (h : x < 18446744073709551616) : fneg x < 18446744073709551616 := Nat.xor_lt_two_pow (n := 64) h (by decide)
theorem fneg_eq {x : Nat} (h : x < 18446744073709551616) : fneg x = (if negF x then 0 else 9223372036854775808) + magF x := by
  have := word_eq (fneg_lt h)
  rw [fneg_mag, fneg_neg] at this
  rw [this]
  cases negF x <;> rfl

theorem finite_sub (x : Nat) : feq (fsub x x) 0 = decide (magF x < 9218868437227405312) := by
  unfold fsub Ieee.Format.sub
  rcases Nat.lt_or_ge (magF x) 9218868437227405312 with h | h
  · obtain ⟨m, a, hr, _⟩ := read_fin h
    rw [hr]
    have e : (Ieee.Datum.number (negF x) m (-1074 + (a : Int))).sum (Ieee.Datum.number (negF x) m (-1074 + (a : Int))).opposite = some (.number false 0 (-1074 + (a : Int))) := by
      simp only [Ieee.Datum.opposite, Ieee.Datum.sum]
      have ht : Ieee.signed (negF x) m (-1074 + (a : Int) - min (-1074 + (a : Int)) (-1074 + (a : Int))).toNat + Ieee.signed (!negF x) m (-1074 + (a : Int) - min (-1074 + (a : Int)) (-1074 + (a : Int))).toNat = 0 := by
        rw [signed_val, signed_val]
        cases negF x <;> simp <;> omega
      simp only [ht]
      cases negF x <;> simp
    rw [e]
    have h0 : Ieee.double.write (.number false 0 (-1074 + (a : Int))) = 0 := by
      show Ieee.double.nearest false 0 _ = 0
      unfold Ieee.Format.nearest
      rw [if_pos rfl]; rfl
    simp only [Option.map_some, Option.getD_some, h0]
    rw [feq_zero]; simp [h]; decide
  · have e : ((Ieee.double.read x).sum (Ieee.double.read x).opposite) = none := by
      rcases Nat.lt_or_ge 9218868437227405312 (magF x) with h3 | h3
      · rw [read_nan h3]; rfl
      · rw [read_inf (by omega)]
        simp only [Ieee.Datum.opposite, Ieee.Datum.sum]
        cases negF x <;> rfl
    rw [e]
    have : decide (magF x < 9218868437227405312) = false := by simp; omega
    rw [this]
    decide +kernel
end Go.Eng
