/-
  Floats times a power of two: products told by sizes, quotients with both sides scaled. No condition.
-/
import Derived.Test.YtdephdnkkljfeaaDoorScl3
set_option linter.all false
set_option maxRecDepth 100000
set_option maxHeartbeats 4000000
set_option exponentiation.threshold 5000
namespace Go.Eng
structure Mg (a b x : Nat) : Prop where
  fin : magF x < 9218868437227405312
  mg : magF x = 0 ∨ (2 ^ a ≤ vmag (magF x) ∧ vmag (magF x) ≤ 2 ^ b)
theorem Mg.gr {a b x : Nat} (h : Mg a b x) (ha : 52 ≤ a) : Gr (a - 52) b x := by
  rcases h.mg with h0 | ⟨h1, h2⟩
  · exact .zero h0
  · refine ⟨h.fin, ?_, h2⟩
    have p52 : (2 : Nat) ^ 52 = 4503599627370496 := by decide
    by_cases c : magF x < 4503599627370496
    · unfold vmag at h1
      rw [if_pos c] at h1
      have := Nat.pow_le_pow_right (show 0 < 2 by omega) ha
      omega
    · unfold vmag at h1 ⊢
      rw [if_neg c] at h1 ⊢
      generalize hE : magF x / 4503599627370496 - 1 = E at *
      have hk : 4503599627370496 + magF x % 4503599627370496 < 2 ^ 53 := by
        have := Nat.mod_lt (magF x) (show 0 < 4503599627370496 by omega)
        have e : (2 : Nat) ^ 53 = 9007199254740992 := by decide
        omega
      have h3 : 2 ^ a < 2 ^ (53 + E) := by
        rw [Nat.pow_add]
        exact Nat.lt_of_le_of_lt h1 (Nat.mul_lt_mul_of_pos_right hk (Nat.two_pow_pos E))
      have h4 := (Nat.pow_lt_pow_iff_right (show 1 < 2 by omega)).1 h3
      exact Nat.dvd_trans (Nat.pow_dvd_pow 2 (by omega)) (Nat.dvd_mul_left _ _)
end Go.Eng
