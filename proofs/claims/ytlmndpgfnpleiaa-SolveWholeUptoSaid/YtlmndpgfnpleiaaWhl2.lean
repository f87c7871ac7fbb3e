/-
  Whole numbers as floats: exact quotients. No condition. (Groundwork for SolveWhole.)
-/
import Derived.Test.YtlmndpgfnpleiaaWhl
import Derived.Test.YtlmndpgfnpleiaaEng
set_option linter.unusedVariables false
set_option linter.unusedSimpArgs false
set_option linter.unnecessarySimpa false
set_option linter.unusedSectionVars false
set_option maxRecDepth 100000
set_option maxHeartbeats 4000000
set_option exponentiation.threshold 3000
namespace Go.Eng

theorem fdiv_whl {x y : Nat} {a b : Int} (hx : Wv x (a * b)) (hy : Wv y b) (hb : b ≠ 0) (ha : a ≠ 0) (h53 : a.natAbs < 9007199254740992) : fdiv x y = whl a := by
  obtain ⟨m, i, hr, hm, s1⟩ := wv_read hx
  obtain ⟨n, j, hq, hn, s2⟩ := wv_read hy
  have hab : a * b ≠ 0 := Int.mul_ne_zero ha hb
  have hA : a.natAbs ≠ 0 := by omega
  have hB : b.natAbs ≠ 0 := by omega
  rw [Int.natAbs_mul] at hm
  have hK : 0 < (2 : Nat) ^ 1074 := Nat.two_pow_pos 1074
  generalize (2 : Nat) ^ 1074 = K at hm hn hK
  have hn0 : n ≠ 0 := by
    intro h; rw [h, Nat.zero_mul] at hn
    exact Nat.mul_ne_zero hB (by omega) hn.symm
  have key : m * 2 ^ i = a.natAbs * n * 2 ^ j := by
    rw [hm, Nat.mul_assoc a.natAbs n, hn]; ac_rfl
  have hm0 : m ≠ 0 := by
    intro h; rw [h, Nat.zero_mul] at key
    exact Nat.mul_ne_zero (Nat.mul_ne_zero hA hn0) (by have := Nat.two_pow_pos j; omega) key.symm
  have l1 : 2 ^ m.log2 ≤ m := Nat.log2_self_le hm0
  have l2 : n < 2 ^ (n.log2 + 1) := Nat.lt_log2_self
  generalize hM : 54 + n.log2 - m.log2 = M
  -- what is left over is nought
  obtain ⟨D, hD, hp⟩ : ∃ D : Nat, m * 2 ^ M = a.natAbs * 2 ^ D * n ∧ (i : Int) - j - M = -(D : Int) := by
    rcases Nat.le_total i j with h | h
    · refine ⟨j - i + M, ?_, by omega⟩
      have e : m = a.natAbs * n * 2 ^ (j - i) := by
        have : m * 2 ^ i = a.natAbs * n * 2 ^ (j - i) * 2 ^ i := by rw [Nat.mul_assoc _ (2 ^ (j - i)), ← Nat.pow_add, show j - i + i = j by omega]; exact key
        exact Nat.eq_of_mul_eq_mul_right (Nat.two_pow_pos i) this
      rw [e, Nat.pow_add]; ac_rfl
    · have e : m * 2 ^ (i - j) = a.natAbs * n := by
        have : m * 2 ^ (i - j) * 2 ^ j = a.natAbs * n * 2 ^ j := by rw [Nat.mul_assoc, ← Nat.pow_add, show i - j + j = i by omega]; exact key
        exact Nat.eq_of_mul_eq_mul_right (Nat.two_pow_pos j) this
      have hd : m.log2 + (i - j) < 54 + n.log2 := by
        have c1 : 2 ^ (m.log2 + (i - j)) ≤ a.natAbs * n := by rw [Nat.pow_add, ← e]; exact Nat.mul_le_mul_right _ l1
        have c2 : a.natAbs * n < 2 ^ 53 * 2 ^ (n.log2 + 1) := Nat.mul_lt_mul_of_lt_of_le (by simpa using h53) (Nat.le_of_lt l2) (Nat.two_pow_pos _)
        rw [← Nat.pow_add] at c2
        have := (Nat.pow_lt_pow_iff_right (by omega : 1 < 2)).1 (Nat.lt_of_le_of_lt c1 c2)
        omega
      refine ⟨M - (i - j), ?_, by omega⟩
      have : 2 ^ M = 2 ^ (i - j) * 2 ^ (M - (i - j)) := by rw [← Nat.pow_add]; congr 1; omega
      rw [this, ← Nat.mul_assoc, e]; ac_rfl
  have sg : (negF x ^^ negF y) = decide (a < 0) := by
    rw [s1 hab, s2 hb]
    rcases Int.lt_or_le a 0 with k1 | k1 <;> rcases Int.lt_or_le b 0 with k2 | k2
    · have := Int.mul_pos_of_neg_of_neg k1 k2
      have n3 : ¬ a * b < 0 := by omega
      simp [k1, k2, n3]
    · have := Int.mul_neg_of_neg_of_pos k1 (show 0 < b by omega)
      have n2 : ¬ b < 0 := by omega
      simp [k1, this, n2]
    · have := Int.mul_neg_of_pos_of_neg (show 0 < a by omega) k2
      have n1 : ¬ a < 0 := by omega
      simp [k2, this, n1]
    · have := Int.mul_pos (show 0 < a by omega) (show 0 < b by omega)
      have n1 : ¬ a < 0 := by omega
      have n2 : ¬ b < 0 := by omega
      have n3 : ¬ a * b < 0 := by omega
      simp [n1, n2, n3]
  unfold fdiv Ieee.Format.div
  rw [hr, hq, fb]
  simp only [Ieee.Datum.quotient, if_neg hn0, Option.map_some, Option.getD_some]
  rw [show 52 + 2 + n.log2 - m.log2 = M by omega, Nat.shiftLeft_eq, hD, Nat.mul_div_cancel _ (by omega), Nat.mul_mod_left, sg]
  show Ieee.double.nearest (decide (a < 0)) (2 * (a.natAbs * 2 ^ D) + 0) (-1074 + (i : Int) - (-1074 + (j : Int)) - (M : Int) - 1) = whl a
  have g := nearest_shift (decide (a < 0)) hA (-((D + 1 : Nat) : Int)) (D + 1)
  rw [Nat.add_zero, show 2 * (a.natAbs * 2 ^ D) = a.natAbs * 2 ^ (D + 1) by rw [Nat.pow_succ]; ac_rfl, show -1074 + (i : Int) - (-1074 + (j : Int)) - (M : Int) - 1 = -((D + 1 : Nat) : Int) by omega, g]
  unfold whl
  rw [show -((D + 1 : Nat) : Int) + ((D + 1 : Nat) : Int) = 0 by omega]

theorem read_fneg {y : Nat} (hy : magF y < 9218868437227405312) : Ieee.double.read (fneg y) = (Ieee.double.read y).opposite := by
  have h1 := fneg_mag y
  have h2 := fneg_neg y
  rcases Nat.lt_or_ge (magF y) 4503599627370496 with h | h
  · rw [read_small h, read_small (by omega), h1, h2]; rfl
  · rw [read_normal h hy, read_normal (by omega) (by omega), h1, h2]; rfl
theorem wv_fneg {y : Nat} {b : Int} (h : Wv y b) : Wv (fneg y) (-b) := by
  obtain ⟨h1, h2⟩ := h
  refine ⟨by rw [fneg_mag]; exact h1, ?_⟩
  rw [Int.neg_mul, ← h2]
  unfold sval
  rw [fneg_mag, fneg_neg]
  cases negF y <;> simp
theorem fsub_fneg {x y : Nat} (hy : magF y < 9218868437227405312) : fsub x y = fadd x (fneg y) := by
  unfold fsub fadd Ieee.Format.sub Ieee.Format.add
  rw [read_fneg hy]

/-- A difference of two whole numbers. -/
theorem fsub_whl {x y : Nat} {a b : Int} (hx : Wv x a) (hy : Wv y b) (h0 : a - b = 0 → (negF x && !negF y) = false) : fsub x y = whl (a - b) := by
  rw [fsub_fneg hy.1, Int.sub_eq_add_neg]
  exact fadd_whl hx (wv_fneg hy) fun h => by rw [fneg_neg]; exact h0 (by omega)

/-- A nought by a number that is none stays a nought. -/
theorem fdiv_nought {x y : Nat} {b : Int} (hx : Wv x 0) (hy : Wv y b) (hb : b ≠ 0) : Wv (fdiv x y) 0 := by
  obtain ⟨m, i, hr, hm, _⟩ := wv_read hx
  obtain ⟨n, j, hq, hn, _⟩ := wv_read hy
  have hK : 0 < (2 : Nat) ^ 1074 := Nat.two_pow_pos 1074
  generalize (2 : Nat) ^ 1074 = K at hm hn hK
  have hn0 : n ≠ 0 := by
    intro h; rw [h, Nat.zero_mul] at hn
    exact Nat.mul_ne_zero (show b.natAbs ≠ 0 by omega) (by omega) hn.symm
  have hm0 : m = 0 := by
    rw [Int.natAbs_zero, Nat.zero_mul] at hm
    rcases Nat.mul_eq_zero.1 hm with h | h
    · exact h
    · exact absurd h (Nat.ne_of_gt (Nat.two_pow_pos i))
  subst hm0
  have e : fdiv x y = Ieee.double.word (negF x ^^ negF y) 0 := by
    unfold fdiv Ieee.Format.div
    rw [hr, hq]
    simp only [Ieee.Datum.quotient, if_neg hn0, Option.map_some, Option.getD_some, Nat.zero_shiftLeft, Nat.zero_div, Nat.zero_mod, Nat.mul_zero]
    exact nearest_zero _ _
  rw [e]
  exact wv_zero (mag_word (by omega))

theorem cancel_pow {x y k : Nat} (h : x * 2 ^ k = y * 2 ^ k) : x = y := Nat.eq_of_mul_eq_mul_right (Nat.two_pow_pos k) h
theorem cutz_exact {s : Bool} {n d : Nat} (hn : n ≠ 0) : Ieee.Toward.zero.cut s (n * 2 ^ d) d = n := by
  unfold Ieee.Toward.cut
  have e : min d ((n * 2 ^ d).log2 + 2) = d := by rw [log2_shift hn]; omega
  have hp : 0 < 2 ^ d := Nat.two_pow_pos d
  simp only [e, Nat.shiftLeft_eq, Nat.one_mul, Nat.mul_div_cancel _ hp, Nat.mul_mod_left]
  rfl

/-- A whole number's float cut to a whole number is that number. -/
theorem f2i_whl {x : Nat} {z : Int} (h : Wv x z) (hz : z.natAbs < 9007199254740992) : f2i x .i64 = some z := by
  obtain ⟨m, a, hr, hm, hs⟩ := wv_read h
  have hi : Ieee.Toward.zero.cut (negF x) (m <<< (-1074 + (a : Int)).toNat) (-(-1074 + (a : Int))).toNat = z.natAbs := by
    by_cases h0 : z = 0
    · have hm0 : m = 0 := by
        rw [h0, Int.natAbs_zero, Nat.zero_mul] at hm
        rcases Nat.mul_eq_zero.1 hm with h | h
        · exact h
        · exact absurd h (Nat.ne_of_gt (Nat.two_pow_pos a))
      rw [hm0, h0, Nat.zero_shiftLeft]
      unfold Ieee.Toward.cut
      simp
    · have hn0 : z.natAbs ≠ 0 := by omega
      rcases Nat.le_total a 1074 with k | k
      · have e1 : (-1074 + (a : Int)).toNat = 0 := by omega
        have e2 : (-(-1074 + (a : Int))).toNat = 1074 - a := by omega
        have e3 : m = z.natAbs * 2 ^ (1074 - a) := by
          have : m * 2 ^ a = z.natAbs * 2 ^ (1074 - a) * 2 ^ a := by rw [Nat.mul_assoc, ← Nat.pow_add, show 1074 - a + a = 1074 by omega]; exact hm
          exact Nat.eq_of_mul_eq_mul_right (Nat.two_pow_pos a) this
        rw [e1, e2, e3, Nat.shiftLeft_eq, Nat.pow_zero, Nat.mul_one]
        exact cutz_exact hn0
      · have e1 : (-1074 + (a : Int)).toNat = a - 1074 := by omega
        have e2 : (-(-1074 + (a : Int))).toNat = 0 := by omega
        have e3 : m * 2 ^ (a - 1074) = z.natAbs := by
          have : m * 2 ^ (a - 1074) * 2 ^ 1074 = z.natAbs * 2 ^ 1074 := by rw [Nat.mul_assoc, ← Nat.pow_add, show a - 1074 + 1074 = a by omega]; exact hm
          exact cancel_pow this
        rw [e1, e2, cut_zero, Nat.shiftLeft_eq, e3]
  have ht : (Ieee.double.read x).toInt .zero = some z := by
    rw [hr]
    show some (Ieee.signed (negF x) (Ieee.Toward.zero.cut (negF x) (m <<< (-1074 + (a : Int)).toNat) (-(-1074 + (a : Int))).toNat) 0) = some z
    rw [hi]
    congr 1
    unfold Ieee.signed
    rw [Nat.shiftLeft_eq, Nat.pow_zero, Nat.mul_one]
    by_cases h0 : z = 0
    · subst h0; cases negF x <;> rfl
    · rw [hs h0]
      by_cases k : z < 0
      · rw [decide_eq_true k, if_pos rfl]; omega
      · rw [decide_eq_false k, if_neg (by simp)]; omega
  unfold f2i
  rw [ht]
  have : IntKind.min .i64 ≤ z ∧ z ≤ IntKind.max .i64 := by
    simp [IntKind.min, IntKind.max, IntKind.signed, IntKind.bits]
    omega
  exact if_pos this

/-- The difference of a whole number's own float and one that stands for a whole number: no condition on signs. -/
theorem fsub_whl' {y : Nat} {a b : Int} (ha : a.natAbs < 9007199254740992) (hy : Wv y b) : fsub (whl a) y = whl (a - b) := by
  refine fsub_whl (whl_wv ha) hy fun h => ?_
  by_cases h0 : a = 0
  · subst h0; rw [whl_zero]; rfl
  · obtain ⟨_, _, _, _, s1⟩ := wv_read (whl_wv ha)
    obtain ⟨_, _, _, _, s2⟩ := wv_read hy
    have e : a = b := by omega
    rw [s1 h0, s2 (by omega), e]
    cases decide (b < 0) <;> rfl
theorem fadd_whl' {y : Nat} {a b : Int} (ha : a.natAbs < 9007199254740992) (hy : Wv y b) : fadd (whl a) y = whl (a + b) := by
  refine fadd_whl (whl_wv ha) hy fun h => ?_
  by_cases h0 : a = 0
  · subst h0; rw [whl_zero]; rfl
  · obtain ⟨_, _, _, _, s1⟩ := wv_read (whl_wv ha)
    obtain ⟨_, _, _, _, s2⟩ := wv_read hy
    rw [s1 h0, s2 (by omega)]
    by_cases k : a < 0
    · have : ¬ b < 0 := by omega
      simp [this]
    · simp [k]

end Go.Eng
