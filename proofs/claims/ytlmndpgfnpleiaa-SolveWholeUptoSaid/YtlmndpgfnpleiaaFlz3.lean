/-
  Sums of finite floats of 64 bits: when nought, of which sign. No condition.
-/
import Derived.Test.YtlmndpgfnpleiaaFlz2
set_option linter.unusedVariables false
set_option linter.unusedSimpArgs false
set_option linter.unnecessarySimpa false
set_option linter.unusedSectionVars false
namespace Go.Eng

theorem word_mag (s : Bool) (r : Nat) (h : r < 9223372036854775808) : magF (Ieee.double.word s r) = r := by
  unfold Ieee.Format.word magF
  rw [sw]
  cases s <;> simp <;> omega
theorem word_neg (s : Bool) (r : Nat) (h : r < 9223372036854775808) : negF (Ieee.double.word s r) = s := by
  unfold Ieee.Format.word negF
  rw [sw]
  cases s
  · simp; omega
  · simp; omega
theorem word_bound (s : Bool) (r : Nat) (h : r < 9223372036854775808) : Ieee.double.word s r < 18446744073709551616 := by
  unfold Ieee.Format.word
  rw [sw]
  cases s <;> simp <;> omega

theorem fb : Ieee.double.fractionBits = 52 := by decide +kernel

theorem cut_zero (t : Ieee.Toward) (s : Bool) (n : Nat) : t.cut s n 0 = n := by
  unfold Ieee.Toward.cut
  have h : n % 1 = 0 := Nat.mod_one n
  cases t <;> simp [h]

/-- The rung that a number that is rounded comes to. -/
theorem nearest_form (s : Bool) (m : Nat) (p : Int) : ∃ r, Ieee.double.nearest s m p = Ieee.double.word s r ∧ r ≤ 9218868437227405312 ∧ (-1074 ≤ p → (r = 0 ↔ m = 0)) := by
  unfold Ieee.Format.nearest
  by_cases hm : m = 0
  · rw [if_pos hm]; exact ⟨0, rfl, by omega, fun _ => by simp [hm]⟩
  · rw [if_neg hm]
    refine ⟨_, rfl, by rw [ir]; exact Nat.min_le_right _ _, fun hp => ?_⟩
    rw [ir, bn, lp, fb]
    constructor
    · intro h
      exfalso
      by_cases hl : p + (m.log2 : Int) - (52 : Nat) ≤ -1074 ∨ p + (m.log2 : Int) - (52 : Nat) ≤ p
      · have hle : max (p + (m.log2 : Int) - (52 : Nat)) (-1074) ≤ p := by omega
        have hz : (max (p + (m.log2 : Int) - (52 : Nat)) (-1074) - p).toNat = 0 := by omega
        rw [hz] at h
        have hc : Ieee.Toward.even.cut s (m <<< (p - max (p + (m.log2 : Int) - (52 : Nat)) (-1074)).toNat) 0 = m <<< (p - max (p + (m.log2 : Int) - (52 : Nat)) (-1074)).toNat := by
          exact cut_zero _ _ _
        rw [hc, Nat.shiftLeft_eq] at h
        have hpos : 0 < m * 2 ^ (p - max (p + (m.log2 : Int) - (52 : Nat)) (-1074)).toNat := Nat.mul_pos (by omega) (Nat.two_pow_pos _)
        omega
      · have hgt : 1 ≤ (max (p + (m.log2 : Int) - (52 : Nat)) (-1074) - -1074).toNat := by omega
        have : 1 * 4503599627370496 ≤ (max (p + (m.log2 : Int) - (52 : Nat)) (-1074) - -1074).toNat * 4503599627370496 := Nat.mul_le_mul_right _ hgt
        omega
    · intro h; exact absurd h hm

theorem fin_sum {x y : Nat} (hx : magF x < 9218868437227405312) (hy : magF y < 9218868437227405312) :
    ∃ r, fadd x y = Ieee.double.word (if sval x + sval y = 0 then negF x && negF y else decide (sval x + sval y < 0)) r ∧ r ≤ 9218868437227405312 ∧ (r = 0 ↔ sval x + sval y = 0) := by
  obtain ⟨m, a, hr, hv⟩ := read_fin hx
  obtain ⟨n, b, hs, hw⟩ := read_fin hy
  have e1 : sval x = Ieee.signed (negF x) m a := by unfold sval; rw [signed_val, hv]
  have e2 : sval y = Ieee.signed (negF y) n b := by unfold sval; rw [signed_val, hw]
  have c : min (-1074 + (a : Int)) (-1074 + (b : Int)) = -1074 + ((min a b : Nat) : Int) := by omega
  have c1 : (-1074 + (a : Int) - (-1074 + ((min a b : Nat) : Int))).toNat = a - min a b := by omega
  have c2 : (-1074 + (b : Int) - (-1074 + ((min a b : Nat) : Int))).toNat = b - min a b := by omega
  have d1 : Ieee.signed (negF x) m a = Ieee.signed (negF x) m (a - min a b) * ((2 ^ min a b : Nat) : Int) := by rw [← signed_scale]; congr 1; omega
  have d2 : Ieee.signed (negF y) n b = Ieee.signed (negF y) n (b - min a b) * ((2 ^ min a b : Nat) : Int) := by rw [← signed_scale]; congr 1; omega
  have hp : (0 : Int) < ((2 ^ min a b : Nat) : Int) := by have := Nat.two_pow_pos (min a b); omega
  generalize ht : Ieee.signed (negF x) m (a - min a b) + Ieee.signed (negF y) n (b - min a b) = T at *
  have hT : sval x + sval y = T * ((2 ^ min a b : Nat) : Int) := by rw [e1, e2, d1, d2, ← Int.add_mul, ht]
  have z1 : sval x + sval y = 0 ↔ T = 0 := by
    rw [hT]
    constructor
    · intro h; rcases Int.mul_eq_zero.1 h with h | h; exact h; omega
    · intro h; rw [h, Int.zero_mul]
  have z2 : sval x + sval y < 0 ↔ T < 0 := by
    rw [hT]
    constructor
    · intro h
      rcases Int.lt_or_le T 0 with h1 | h1
      · exact h1
      · have := Int.mul_nonneg h1 (Int.le_of_lt hp); omega
    · intro h; exact Int.mul_neg_of_neg_of_pos h hp
  have hf : fadd x y = Ieee.double.nearest (if T = 0 then negF x && negF y else decide (T < 0)) T.natAbs (-1074 + ((min a b : Nat) : Int)) := by
    unfold fadd Ieee.Format.add
    rw [hr, hs]
    simp only [Ieee.Datum.sum, c, c1, c2, ht]
    rfl
  obtain ⟨r, h1, h2, h3⟩ := nearest_form (if T = 0 then negF x && negF y else decide (T < 0)) T.natAbs (-1074 + ((min a b : Nat) : Int))
  refine ⟨r, ?_, h2, ?_⟩
  · rw [hf, h1]
    congr 1
    by_cases hz : T = 0
    · rw [if_pos hz, if_pos (z1.2 hz)]
    · rw [if_neg hz, if_neg (fun h => hz (z1.1 h))]
      exact decide_eq_decide.2 z2.symm
  · rw [z1, h3 (by omega)]; omega

theorem vmag_zero (r : Nat) : vmag r = 0 ↔ r = 0 := by
  constructor
  · intro h
    rcases Nat.eq_zero_or_pos r with h0 | h0
    · exact h0
    · have := vmag_lt h0
      have e : vmag 0 = 0 := by decide
      omega
  · rintro rfl; decide
theorem sval_zero (x : Nat) : sval x = 0 ↔ magF x = 0 := by
  unfold sval
  rw [← vmag_zero]
  cases negF x <;> simp

theorem fadd_mag_zero {x y : Nat} (hx : magF x < 9218868437227405312) (hy : magF y < 9218868437227405312) : magF (fadd x y) = 0 ↔ sval x + sval y = 0 := by
  obtain ⟨r, h1, h2, h3⟩ := fin_sum hx hy
  rw [h1, word_mag _ _ (by omega), h3]
theorem fadd_fin_lt {x y : Nat} (hx : magF x < 9218868437227405312) (hy : magF y < 9218868437227405312) : fadd x y < 18446744073709551616 := by
  obtain ⟨r, h1, h2, h3⟩ := fin_sum hx hy
  rw [h1]; exact word_bound _ _ (by omega)
theorem fadd_fin_nan {x y : Nat} (hx : magF x < 9218868437227405312) (hy : magF y < 9218868437227405312) : isNaN (fadd x y) = false := by
  obtain ⟨r, h1, h2, h3⟩ := fin_sum hx hy
  rw [isNaN_mag, h1, word_mag _ _ (by omega)]; simp; omega
theorem fadd_noughts {x y : Nat} (hx : magF x = 0) (hy : magF y = 0) (hl : y < 18446744073709551616) (h : negF x = negF y) : fadd x y = y := by
  obtain ⟨r, h1, h2, h3⟩ := fin_sum (x := x) (y := y) (by omega) (by omega)
  have z : sval x + sval y = 0 := by rw [(sval_zero x).2 hx, (sval_zero y).2 hy]; rfl
  have hr := h3.2 z
  subst hr
  rw [if_pos z, h, Bool.and_self] at h1
  rw [h1, word_eq hl, hy]
  unfold Ieee.Format.word
  rw [sw]
  have e : negF ((if negF y = true then 9223372036854775808 else 0) + 0) = negF y := by
    have := word_eq hl
    rw [hy] at this
    rw [← this]
  rw [e]
  cases negF y <;> rfl
end Go.Eng
