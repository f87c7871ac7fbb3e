/-
  Dyads on the plain side: signs and the order of numbers. No condition.
-/
import Derived.Test.YtmecjaojkegamaaGreatDoorDy2
set_option linter.unusedVariables false
set_option linter.unusedSimpArgs false
set_option linter.unnecessarySimpa false
set_option linter.unusedSectionVars false
set_option maxRecDepth 100000
set_option maxHeartbeats 400000
set_option exponentiation.threshold 70000
namespace Go.Eng
open Go

def sgZ' (z : Int) : Int := if z < 0 then -1 else if z = 0 then 0 else 1
def cmpZ (a b : Int) : Int := if a < b then -1 else if a = b then 0 else 1
theorem cmp_sgn (a b : Int) : cmpZ a b = sgZ' (a - b) := by
  unfold cmpZ sgZ'
  by_cases h : a < b
  · rw [if_pos h, if_pos (by omega)]
  · by_cases h2 : a = b
    · rw [if_neg h, if_pos h2, if_neg (by omega), if_pos (by omega)]
    · rw [if_neg h, if_neg h2, if_neg (by omega), if_neg (by omega)]

theorem nD_sgn {s : Bool} {l : List Int} {e : Int} : sgZ' (nD s l e) = sgZ' (zD s l) := by
  have hp : (0 : Int) < ((2 ^ (e + 65536).toNat : Nat) : Int) := by have := Nat.two_pow_pos (e + 65536).toNat; omega
  unfold nD sgZ'
  generalize ((2 ^ (e + 65536).toNat : Nat) : Int) = P at hp
  rcases Int.lt_trichotomy (zD s l) 0 with h | h | h
  · rw [if_pos h, if_pos (Int.mul_neg_of_neg_of_pos h hp)]
  · rw [h, Int.zero_mul]
  · have := Int.mul_pos h hp
    rw [if_neg (by omega), if_neg (by omega), if_neg (by omega), if_neg (by omega)]

theorem nD_abs {s : Bool} {l : List Int} {e : Int} : (nD s l e).natAbs = lv l * 2 ^ (e + 65536).toNat := by
  unfold nD
  rw [Int.natAbs_mul, Int.natAbs_natCast, zD_abs]
theorem blN_lt_of {a b : Nat} (h : blN a < blN b) : a < b := by
  rcases Nat.lt_or_ge a b with g | g
  · exact g
  · exfalso
    have h1 : a < 2 ^ blN a := blN_le.1 (Nat.le_refl _)
    have h2 : blN b ≤ blN a := blN_le.2 (Nat.lt_of_le_of_lt g h1)
    omega
theorem sgZ_cases (z : Int) : (z < 0 ∧ sgZ' z = -1) ∨ (z = 0 ∧ sgZ' z = 0) ∨ (0 < z ∧ sgZ' z = 1) := by
  unfold sgZ'
  rcases Int.lt_trichotomy z 0 with h | h | h
  · exact .inl ⟨h, by rw [if_pos h]⟩
  · exact .inr (.inl ⟨h, by rw [if_neg (by omega), if_pos h]⟩)
  · exact .inr (.inr ⟨h, by rw [if_neg (by omega), if_neg (by omega)]⟩)
theorem cmpZ_mul {a b : Int} {k : Nat} : cmpZ (a * ((2 ^ k : Nat) : Int)) (b * ((2 ^ k : Nat) : Int)) = cmpZ a b := by
  have hp : (0 : Int) < ((2 ^ k : Nat) : Int) := by have := Nat.two_pow_pos k; omega
  unfold cmpZ
  generalize ((2 ^ k : Nat) : Int) = P at hp
  rcases Int.lt_trichotomy a b with h | h | h
  · rw [if_pos h, if_pos (Int.mul_lt_mul_of_pos_right h hp)]
  · subst h; rw [if_neg (Int.lt_irrefl _), if_pos rfl, if_neg (Int.lt_irrefl _), if_pos rfl]
  · have := Int.mul_lt_mul_of_pos_right h hp
    rw [if_neg (by omega), if_neg (by omega), if_neg (by omega), if_neg (by omega)]

end Go.Eng
