/-
  Sums rounded up are not below their parts; of whole numbers they are exact. No condition.
-/
import Derived.Test.YtdephdnkkljfeaaDoorScl5
import Derived.Test.YtdephdnkkljfeaaDoorWhl3
set_option linter.all false
set_option maxRecDepth 100000
set_option maxHeartbeats 4000000
set_option exponentiation.threshold 5000
namespace Go.Eng
theorem vmag_small {v : Nat} (h : v < 9007199254740992) : vmag v = v := by
  unfold vmag
  by_cases c : v < 4503599627370496
  · rw [if_pos c]
  · rw [if_neg c, show v / 4503599627370496 - 1 = 0 by omega, Nat.pow_zero, Nat.mul_one]; omega
theorem near_ge {m k r : Nat} (hm : m ≠ 0) (h : vmag r ≤ m * 2 ^ k) (hr : r < 9218868437227405312) : r ≤ magF (Ieee.double.nearest false m (-1074 + (k : Int))) := by
  have hlo : 2 ^ m.log2 ≤ m := Nat.log2_self_le hm
  have hhi : m < 2 ^ (m.log2 + 1) := Nat.lt_log2_self
  obtain ⟨k1, k2⟩ := kept_bounds false hm
  by_cases c : k + m.log2 < 52
  · have e : Ieee.double.nearest false m (-1074 + (k : Int)) = Ieee.double.word false (min (m * 2 ^ k) 9218868437227405312) := by
      unfold Ieee.Format.nearest
      rw [if_neg hm, lp, fb, bn, ir]
      have e1 : max (-1074 + (k : Int) + (m.log2 : Int) - ((52 : Nat) : Int)) (-1074) = -1074 := by omega
      have e2 : (-1074 + (k : Int) - -1074).toNat = k := by omega
      have e3 : (-1074 - (-1074 + (k : Int))).toNat = 0 := by omega
      simp only [e1, e2, e3, Int.sub_self, Int.toNat_zero, Nat.zero_mul, Nat.zero_add, cut_none, Nat.shiftLeft_eq]
    have hv : m * 2 ^ k < 9007199254740992 := by
      have h1 : m * 2 ^ k < 2 ^ (m.log2 + 1) * 2 ^ k := Nat.mul_lt_mul_of_pos_right hhi (Nat.two_pow_pos k)
      rw [← Nat.pow_add] at h1
      have h2 : 2 ^ (m.log2 + 1 + k) ≤ 2 ^ 53 := Nat.pow_le_pow_right (by omega) (by omega)
      have e53 : (2 : Nat) ^ 53 = 9007199254740992 := by decide
      omega
    rw [e, Nat.min_eq_left (by omega), mag_word (by omega)]
    refine vmag_le_iff.1 ?_
    rw [vmag_small hv]; exact h
  · have e : Ieee.double.nearest false m (-1074 + (k : Int)) = Ieee.double.word false (min ((k + m.log2 - 52) * 4503599627370496 + keptN false m) 9218868437227405312) := by
      unfold Ieee.Format.nearest
      rw [if_neg hm, lp, fb, bn, ir]
      have e1 : max (-1074 + (k : Int) + (m.log2 : Int) - ((52 : Nat) : Int)) (-1074) = -1074 + (k : Int) + (m.log2 : Int) - 52 := by omega
      have e2 : (-1074 + (k : Int) - (-1074 + (k : Int) + (m.log2 : Int) - 52)).toNat = 52 - m.log2 := by omega
      have e3 : (-1074 + (k : Int) + (m.log2 : Int) - 52 - (-1074 + (k : Int))).toNat = m.log2 - 52 := by omega
      have e4 : (-1074 + (k : Int) + (m.log2 : Int) - 52 - -1074).toNat = k + m.log2 - 52 := by omega
      simp only [e1, e2, e3, e4]; rfl
    rw [e, mag_word (Nat.min_le_right _ _)]
    refine Nat.le_min.2 ⟨?_, Nat.le_of_lt hr⟩
    generalize hE : k + m.log2 - 52 = E
    by_cases cr : r < 4503599627370496
    · omega
    · have hv : vmag r = (4503599627370496 + r % 4503599627370496) * 2 ^ (r / 4503599627370496 - 1) := by unfold vmag; rw [if_neg cr]
      rw [hv] at h
      generalize hR : r / 4503599627370496 - 1 = R at h
      have hf : r % 4503599627370496 < 4503599627370496 := Nat.mod_lt _ (by omega)
      have hre : r = (R + 1) * 4503599627370496 + r % 4503599627370496 := by omega
      generalize r % 4503599627370496 = f at *
      rcases Nat.lt_trichotomy R E with g | g | g
      · have := Nat.mul_le_mul_right 4503599627370496 (show R + 1 ≤ E by omega)
        omega
      · subst g
        have hb : 4503599627370496 + f ≤ keptN false m := by
          unfold keptN
          refine cut_ge ?_
          rw [Nat.shiftLeft_eq]
          by_cases l52 : 52 ≤ m.log2
          · rw [show 52 - m.log2 = 0 by omega, Nat.pow_zero, Nat.mul_one]
            refine Nat.le_of_mul_le_mul_right (c := 2 ^ k) ?_ (Nat.two_pow_pos k)
            rw [Nat.mul_assoc, ← Nat.pow_add, show m.log2 - 52 + k = R by omega]
            exact h
          · rw [show m.log2 - 52 = 0 by omega, Nat.pow_zero, Nat.mul_one]
            refine Nat.le_of_mul_le_mul_right (c := 2 ^ R) ?_ (Nat.two_pow_pos R)
            rw [Nat.mul_assoc, ← Nat.pow_add, show 52 - m.log2 + R = k by omega]
            exact h
        omega
      · exfalso
        have h1 : 2 ^ 52 * 2 ^ R ≤ (4503599627370496 + f) * 2 ^ R := Nat.mul_le_mul_right _ (by rw [show (2 : Nat) ^ 52 = 4503599627370496 by decide]; omega)
        have h2 : m * 2 ^ k < 2 ^ (m.log2 + 1) * 2 ^ k := Nat.mul_lt_mul_of_pos_right hhi (Nat.two_pow_pos k)
        rw [← Nat.pow_add] at h1 h2
        have h3 : 2 ^ (m.log2 + 1 + k) ≤ 2 ^ (52 + R) := Nat.pow_le_pow_right (by omega) (by omega)
        omega
theorem fadd_pos {x y : Nat} (hx : magF x < 9218868437227405312) (hy : magF y < 9218868437227405312) (x0 : magF x ≠ 0) (px : negF x = false) (py : negF y = false) :
    ∃ T k : Nat, T ≠ 0 ∧ T * 2 ^ k = vmag (magF x) + vmag (magF y) ∧ fadd x y = Ieee.double.nearest false T (-1074 + (k : Int)) := by
  obtain ⟨m, i, hr, hvx⟩ := read_fin hx
  obtain ⟨n, j, hq, hvy⟩ := read_fin hy
  have hm : m ≠ 0 := by
    rintro rfl
    rw [Nat.zero_mul] at hvx
    exact x0 ((vmag_zero _).1 hvx.symm)
  rw [px] at hr
  rw [py] at hq
  have c : min (-1074 + (i : Int)) (-1074 + (j : Int)) = -1074 + ((min i j : Nat) : Int) := by omega
  have c1 : (-1074 + (i : Int) - (-1074 + ((min i j : Nat) : Int))).toNat = i - min i j := by omega
  have c2 : (-1074 + (j : Int) - (-1074 + ((min i j : Nat) : Int))).toNat = j - min i j := by omega
  have hA0 : 0 < m * 2 ^ (i - min i j) := Nat.mul_pos (by omega) (Nat.two_pow_pos _)
  refine ⟨m * 2 ^ (i - min i j) + n * 2 ^ (j - min i j), min i j, by omega, ?_, ?_⟩
  · rw [Nat.add_mul, Nat.mul_assoc, Nat.mul_assoc, ← Nat.pow_add, ← Nat.pow_add, show i - min i j + min i j = i by omega, show j - min i j + min i j = j by omega, hvx, hvy]
  · unfold fadd Ieee.Format.add
    rw [hr, hq]
    simp only [Ieee.Datum.sum, c, c1, c2, Option.map_some, Option.getD_some, signed_val]
    generalize hA : m * 2 ^ (i - min i j) = A at *
    generalize hB : n * 2 ^ (j - min i j) = B
    show Ieee.double.nearest (if (A : Int) + (B : Int) = 0 then false && false else decide ((A : Int) + (B : Int) < 0)) ((A : Int) + (B : Int)).natAbs _ = _
    rw [if_neg (by omega), show decide ((A : Int) + (B : Int) < 0) = false by simp; omega, show ((A : Int) + (B : Int)).natAbs = A + B by omega]
theorem fadd_ge {s b : Nat} (hs : s < 9218868437227405312) (hb : b < 9218868437227405312) : s ≤ fadd s b ∧ b ≤ fadd s b := by
  have gs : goodF s := by unfold goodF; omega
  have gb : goodF b := by unfold goodF; omega
  have ms := good_mag gs
  have mb := good_mag gb
  by_cases s0 : s = 0
  · by_cases b0 : b = 0
    · subst s0; subst b0; exact ⟨Nat.zero_le _, Nat.zero_le _⟩
    · rw [fadd_comm, fadd_nought_right (by omega) (by omega) (by omega) (by omega)]
      omega
  · obtain ⟨T, k, hT, hv, e⟩ := fadd_pos (x := s) (y := b) (by omega) (by omega) (by omega) (good_neg gs) (good_neg gb)
    rw [ms, mb] at hv
    obtain ⟨r, hr, hg⟩ := fadd_good gs hs (b := b) (by omega) (by rw [good_sval gb]; omega)
    have hm : magF (fadd s b) = fadd s b := by rw [hr]; exact good_mag hg
    rw [← hm, e]
    exact ⟨near_ge hT (by omega) hs, near_ge hT (by omega) hb⟩
theorem addV_ge {s b : Nat} (hs : goodF s) (hb : b < 9218868437227405312) : s ≤ addV s b 2 ∧ b ≤ addV s b 2 := by
  have gb : goodF b := by unfold goodF; omega
  have mb := good_mag gb
  have ms := good_mag hs
  have nb : 0 ≤ sval b := by rw [good_sval gb]; omega
  rcases Nat.lt_or_ge s 9218868437227405312 with h | h
  · obtain ⟨g1, g2⟩ := fadd_ge h hb
    obtain ⟨r, hr, hg⟩ := fadd_good hs h (b := b) (by omega) nb
    have mr := good_mag hg
    have cc : finF s = true ∧ finF b = true := ⟨by simp [finF, ms, h], by simp [finF, mb, hb]⟩
    have key : ∀ o : Int, r ≤ settleV r o 2 := by
      intro o
      have sm : sideM r 2 = 2 := by unfold sideM; rw [if_neg (by decide)]
      unfold settleV
      by_cases hi : magF r = 9218868437227405312
      · rw [if_pos hi, if_neg (by rw [sm, good_neg hg]; simp)]; exact Nat.le_refl _
      · rw [if_neg hi, sm]
        by_cases ho : 0 < o
        · have yes : (o < 0 ∧ (2 : Int) = 1) ∨ (0 < o ∧ (2 : Int) = 2) := .inr ⟨ho, rfl⟩
          rw [if_pos yes, decide_eq_true ho]
          unfold stepV
          by_cases r0 : magF r = 0
          · rw [if_pos r0]; simp; omega
          · rw [if_neg r0, good_neg hg, if_pos (by decide), Nat.mod_eq_of_lt (by unfold goodF at hg; omega)]
            omega
        · have no : ¬ ((o < 0 ∧ (2 : Int) = 1) ∨ (0 < o ∧ (2 : Int) = 2)) := by omega
          rw [if_neg no]; exact Nat.le_refl _
    rw [hr] at g1 g2
    unfold addV
    rw [if_pos cc, hr]
    by_cases r0 : magF r = 0
    · rw [if_pos r0]
      omega
    · rw [if_neg r0]
      by_cases ri : magF r = 9218868437227405312
      · rw [if_pos ri]
        have := key 0
        omega
      · rw [if_neg ri]
        have := key (sgnV (fsub (if flt (magF s) (magF b) = true then s else b) (fsub r (if flt (magF s) (magF b) = true then b else s))))
        omega
  · have hi : s = 9218868437227405312 := by unfold goodF at hs; omega
    have f1 : finF s = false := by simp [finF, ms]; omega
    unfold addV
    rw [if_neg (by rw [f1]; simp), fadd_inf (by omega) (by omega), good_neg hs, word_good]
    omega
end Go.Eng
