/-
  Rounding to the nearest: it hangs on the value alone; what a word reads as is written back to that word; once a number is that number. No condition.
-/
import Derived.Test.YtmecjaojkegamaaGreatDoorRnd
set_option linter.unusedVariables false
set_option linter.unusedSimpArgs false
set_option linter.unnecessarySimpa false
set_option linter.unusedSectionVars false
set_option maxRecDepth 100000
namespace Go.Eng

theorem log2_shift {m : Nat} (hm : m ≠ 0) (k : Nat) : (m * 2 ^ k).log2 = m.log2 + k := by
  induction k with
  | zero => simp
  | succ k ih =>
    have e : m * 2 ^ (k + 1) = 2 * (m * 2 ^ k) := by rw [Nat.pow_succ]; ac_rfl
    have hp : 0 < m * 2 ^ k := Nat.mul_pos (by omega) (Nat.two_pow_pos k)
    rw [e, Nat.log2_two_mul (by omega), ih]; rfl

theorem cut_exact {s : Bool} {n d : Nat} (hn : n ≠ 0) : Ieee.Toward.even.cut s (n * 2 ^ d) d = n := by
  unfold Ieee.Toward.cut
  have e : min d ((n * 2 ^ d).log2 + 2) = d := by rw [log2_shift hn]; omega
  have hp : 0 < 2 ^ d := Nat.two_pow_pos d
  simp only [e, Nat.shiftLeft_eq, Nat.one_mul, Nat.mul_div_cancel _ hp, Nat.mul_mod_left]
  have h1 : decide (2 ^ d < 2 * 0) = false := by simp
  have h2 : (2 ^ d == 2 * 0) = false := by
    have : 2 ^ d ≠ 0 := by omega
    simpa using this
  rw [h1, h2]; simp

theorem cut_shift {s : Bool} {n d k : Nat} (hn : n ≠ 0) : Ieee.Toward.even.cut s (n * 2 ^ k) (d + k) = Ieee.Toward.even.cut s n d := by
  unfold Ieee.Toward.cut
  have e : min (d + k) ((n * 2 ^ k).log2 + 2) = min d (n.log2 + 2) + k := by rw [log2_shift hn]; omega
  have hp : 0 < 2 ^ k := Nat.two_pow_pos k
  simp only [e, Nat.shiftLeft_eq, Nat.one_mul, Nat.pow_add]
  generalize 2 ^ min d (n.log2 + 2) = g
  generalize 2 ^ k = q at *
  rw [Nat.mul_div_mul_right _ _ hp, Nat.mul_mod_mul_right]
  have h1 : decide (g * q < 2 * (n % g * q)) = decide (g < 2 * (n % g)) := by
    rw [← Nat.mul_assoc, decide_eq_decide]
    exact Nat.mul_lt_mul_right hp
  have h2 : (g * q == 2 * (n % g * q)) = (g == 2 * (n % g)) := by
    rw [← Nat.mul_assoc, Bool.eq_iff_iff]
    simp only [beq_iff_eq]
    exact ⟨fun h => Nat.eq_of_mul_eq_mul_right hp h, fun h => congrArg (· * q) h⟩
  rw [h1, h2]

/-- Rounding hangs on the value alone. -/
theorem nearest_shift (s : Bool) {m : Nat} (hm : m ≠ 0) (p : Int) (k : Nat) : Ieee.double.nearest s (m * 2 ^ k) p = Ieee.double.nearest s m (p + k) := by
  have hmk : m * 2 ^ k ≠ 0 := Nat.mul_ne_zero hm (by have := Nat.two_pow_pos k; omega)
  unfold Ieee.Format.nearest
  rw [if_neg hmk, if_neg hm, log2_shift hm]
  have e : p + ((m.log2 + k : Nat) : Int) - (Ieee.double.fractionBits : Int) = p + (k : Int) + (m.log2 : Int) - (Ieee.double.fractionBits : Int) := by omega
  simp only [e]
  generalize max (p + (k : Int) + (m.log2 : Int) - (Ieee.double.fractionBits : Int)) Ieee.double.leastPlace = L
  have key : Ieee.Toward.even.cut s ((m * 2 ^ k) <<< (p - L).toNat) (L - p).toNat = Ieee.Toward.even.cut s (m <<< (p + k - L).toNat) (L - (p + k)).toNat := by
    rw [Nat.shiftLeft_eq, Nat.shiftLeft_eq]
    rcases Int.le_total L p with h | h
    · have e1 : (L - p).toNat = 0 := by omega
      have e2 : (L - (p + k)).toNat = 0 := by omega
      have e3 : (p + k - L).toNat = k + (p - L).toNat := by omega
      rw [e1, e2, e3, Nat.pow_add, Nat.mul_assoc]
    · have e1 : (p - L).toNat = 0 := by omega
      rw [e1, Nat.pow_zero, Nat.mul_one]
      rcases Int.le_total L (p + k) with h2 | h2
      · have e2 : (L - (p + k)).toNat = 0 := by omega
        obtain ⟨d, hd⟩ : ∃ d : Nat, L - p = d := Int.eq_ofNat_of_zero_le (by omega)
        have e3 : (L - p).toNat = d := by omega
        have e4 : (p + k - L).toNat = k - d := by omega
        have e5 : m * 2 ^ k = (m * 2 ^ (k - d)) * 2 ^ d := by rw [Nat.mul_assoc, ← Nat.pow_add]; congr 2; omega
        have hz : m * 2 ^ (k - d) ≠ 0 := Nat.mul_ne_zero hm (by have := Nat.two_pow_pos (k - d); omega)
        rw [e2, e3, e4, e5, cut_exact hz]
        have := cut_exact (s := s) (d := 0) hz
        rw [Nat.pow_zero, Nat.mul_one] at this
        rw [this]
      · have e2 : (p + k - L).toNat = 0 := by omega
        have e3 : (L - p).toNat = (L - (p + k)).toNat + k := by omega
        rw [e2, e3, Nat.pow_zero, Nat.mul_one, cut_shift hm]
  rw [key]

theorem cut_none {s : Bool} {n : Nat} : Ieee.Toward.even.cut s n 0 = n := cut_zero _ s n

theorem word_self {x : Nat} (h : x < 18446744073709551616) : Ieee.double.word (negF x) (magF x) = x := by
  have := word_eq h
  unfold Ieee.Format.word
  rw [sw]
  cases hn : negF x <;> rw [hn] at this <;> simp at this ⊢ <;> omega

theorem log2_52 {f : Nat} (h : f < 4503599627370496) : (4503599627370496 + f).log2 = 52 := by
  rw [Nat.log2_eq_iff (by omega)]
  constructor <;> omega
theorem log2_lt52 {m : Nat} (h0 : m ≠ 0) (h : m < 4503599627370496) : m.log2 < 52 := (Nat.log2_lt h0).2 (by simpa using h)

/-- What a finite word reads as is written back to that word. -/
theorem write_read {x : Nat} (hx : magF x < 9218868437227405312) (hl : x < 18446744073709551616) : Ieee.double.write (Ieee.double.read x) = x := by
  rcases Nat.lt_or_ge (magF x) 4503599627370496 with h | h
  · rw [read_small h]
    show Ieee.double.nearest (negF x) (magF x) (-1074) = x
    unfold Ieee.Format.nearest
    by_cases h0 : magF x = 0
    · rw [if_pos h0, ← h0, word_self hl]
    · rw [if_neg h0, lp, fb, bn, ir]
      have hlog := log2_lt52 h0 h
      have e : max (-1074 + ((magF x).log2 : Int) - ((52 : Nat) : Int)) (-1074) = -1074 := by omega
      simp only [e, Int.sub_self, Int.toNat_zero, Nat.shiftLeft_eq, Nat.pow_zero, Nat.mul_one, cut_none, Nat.zero_mul, Nat.zero_add]
      rw [Nat.min_eq_left (by omega), word_self hl]
  · rw [read_normal h hx]
    show Ieee.double.nearest (negF x) (4503599627370496 + magF x % 4503599627370496) (-1074 + ((magF x / 4503599627370496 - 1 : Nat) : Int)) = x
    have hf : magF x % 4503599627370496 < 4503599627370496 := Nat.mod_lt _ (by omega)
    have hE : 1 ≤ magF x / 4503599627370496 := (Nat.le_div_iff_mul_le (by omega)).2 (by omega)
    have hdm : 4503599627370496 * (magF x / 4503599627370496) + magF x % 4503599627370496 = magF x := Nat.div_add_mod _ _
    unfold Ieee.Format.nearest
    rw [if_neg (by omega), lp, fb, bn, ir, log2_52 hf]
    generalize hq : magF x / 4503599627370496 = q at *
    generalize hr : magF x % 4503599627370496 = r at *
    have e : max (-1074 + ((q - 1 : Nat) : Int) + ((52 : Nat) : Int) - ((52 : Nat) : Int)) (-1074) = -1074 + ((q - 1 : Nat) : Int) := by omega
    simp only [e, Int.sub_self, Int.toNat_zero, Nat.shiftLeft_eq, Nat.pow_zero, Nat.mul_one, cut_none]
    have e2 : (-1074 + ((q - 1 : Nat) : Int) - -1074).toNat = q - 1 := by omega
    rw [e2, Nat.min_eq_left (by omega)]
    have e3 : (q - 1) * 4503599627370496 + (4503599627370496 + r) = magF x := by omega
    rw [e3, word_self hl]

/-- Once a number is that number. -/
theorem fmul_one {x : Nat} (hl : x < 18446744073709551616) : fmul 4607182418800017408 x = nf x := by
  have r1 : Ieee.double.read 4607182418800017408 = .number false 4503599627370496 (-52) := by decide +kernel
  unfold fmul Ieee.Format.mul
  rw [r1]
  rcases Nat.lt_or_ge (magF x) 9218868437227405312 with h | h
  · have hn : isNaN x = false := by rw [isNaN_mag]; exact decide_eq_false (by omega)
    rw [nf_of_not hn]
    have hw := write_read h hl
    obtain ⟨m, a, hr, _⟩ := read_fin h
    rw [hr] at hw ⊢
    have hw' : Ieee.double.nearest (negF x) m (-1074 + (a : Int)) = x := hw
    show Ieee.double.nearest (false ^^ negF x) (4503599627370496 * m) (-52 + (-1074 + (a : Int))) = x
    rw [Bool.false_xor]
    by_cases hm : m = 0
    · subst hm
      have z : ∀ p, Ieee.double.nearest (negF x) 0 p = Ieee.double.word (negF x) 0 := fun p => by unfold Ieee.Format.nearest; exact if_pos rfl
      rw [Nat.mul_zero, z]
      rw [z] at hw'
      exact hw'
    · have e : 4503599627370496 * m = m * 2 ^ 52 := by rw [Nat.mul_comm]
      have e2 : -52 + (-1074 + (a : Int)) + ((52 : Nat) : Int) = -1074 + (a : Int) := by omega
      rw [e, nearest_shift _ hm, e2]
      exact hw'
  · rcases Nat.lt_or_ge 9218868437227405312 (magF x) with h2 | h2
    · have hn : isNaN x = true := by rw [isNaN_mag]; exact decide_eq_true h2
      rw [read_nan h2, nf_of_nan hn]; rfl
    · have hi : magF x = 9218868437227405312 := by omega
      have hn : isNaN x = false := by rw [isNaN_mag]; exact decide_eq_false (by omega)
      rw [read_inf hi, nf_of_not hn]
      simp only [Ieee.Datum.product]
      rw [if_neg (by omega)]
      show Ieee.double.word (negF x ^^ false) Ieee.double.infRung = x
      rw [Bool.xor_false, ir, ← hi, word_self hl]

end Go.Eng
