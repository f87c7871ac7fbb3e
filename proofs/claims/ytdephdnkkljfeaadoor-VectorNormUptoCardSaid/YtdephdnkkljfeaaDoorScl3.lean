/-
  Floats times a power of two: what is normal is scaled exactly. No condition. (Groundwork for SolveScales, LowerScaled, VectorEven, RefineScales.)
-/
import Derived.Test.YtdephdnkkljfeaaDoorOpp
import Derived.Test.YtdephdnkkljfeaaDoorWhl3
import Derived.Test.YtdephdnkkljfeaaDoorFlz3
set_option linter.all false
set_option maxRecDepth 100000
set_option maxHeartbeats 4000000
namespace Go.Eng
def keptN (s : Bool) (m : Nat) : Nat := Ieee.Toward.even.cut s (m <<< (52 - m.log2)) (m.log2 - 52)
theorem cut_ge {s : Bool} {n d b : Nat} (h : b * 2 ^ d ≤ n) : b ≤ Ieee.Toward.even.cut s n d := by
  unfold Ieee.Toward.cut
  dsimp only
  have hg : 0 < 1 <<< min d (n.log2 + 2) := by rw [Nat.shiftLeft_eq, Nat.one_mul]; exact Nat.two_pow_pos _
  have hle : 1 <<< min d (n.log2 + 2) ≤ 2 ^ d := by rw [Nat.shiftLeft_eq, Nat.one_mul]; exact Nat.pow_le_pow_right (by omega) (Nat.min_le_left _ _)
  have : b ≤ n / (1 <<< min d (n.log2 + 2)) := by
    rw [Nat.le_div_iff_mul_le hg]
    exact Nat.le_trans (Nat.mul_le_mul_left b hle) h
  omega
theorem cut_le {s : Bool} {n d b : Nat} (hn : n ≠ 0) (hd : d ≤ n.log2) (h : n < b * 2 ^ d) : Ieee.Toward.even.cut s n d ≤ b := by
  unfold Ieee.Toward.cut
  dsimp only
  rw [Nat.min_eq_left (by omega), Nat.shiftLeft_eq, Nat.one_mul]
  have : n / 2 ^ d < b := (Nat.div_lt_iff_lt_mul (Nat.two_pow_pos d)).2 h
  have h1 : ∀ c : Bool, c.toNat ≤ 1 := fun c => by cases c <;> simp
  have := h1 (decide (2 ^ d < 2 * (n % 2 ^ d)) || (2 ^ d == 2 * (n % 2 ^ d) && n / 2 ^ d % 2 == 1))
  omega
theorem kept_bounds (s : Bool) {m : Nat} (hm : m ≠ 0) : 4503599627370496 ≤ keptN s m ∧ keptN s m ≤ 9007199254740992 := by
  unfold keptN
  have hlo : 2 ^ m.log2 ≤ m := Nat.log2_self_le hm
  have hhi : m < 2 ^ (m.log2 + 1) := Nat.lt_log2_self
  rw [Nat.shiftLeft_eq]
  generalize hT : m.log2 = t at *
  rcases Nat.le_total t 52 with h | h
  · have e : t - 52 = 0 := by omega
    rw [e, cut_none]
    have p1 : 2 ^ t * 2 ^ (52 - t) = 4503599627370496 := by rw [← Nat.pow_add, show t + (52 - t) = 52 by omega]
    have p2 : 2 ^ (t + 1) * 2 ^ (52 - t) = 9007199254740992 := by rw [← Nat.pow_add, show t + 1 + (52 - t) = 53 by omega]
    have q1 : 2 ^ t * 2 ^ (52 - t) ≤ m * 2 ^ (52 - t) := Nat.mul_le_mul_right _ hlo
    have q2 : m * 2 ^ (52 - t) < 2 ^ (t + 1) * 2 ^ (52 - t) := Nat.mul_lt_mul_of_pos_right hhi (Nat.two_pow_pos _)
    omega
  · have e : 52 - t = 0 := by omega
    rw [e, Nat.pow_zero, Nat.mul_one]
    constructor
    · refine cut_ge ?_
      have : (4503599627370496 : Nat) * 2 ^ (t - 52) = 2 ^ t := by
        rw [show (4503599627370496 : Nat) = 2 ^ 52 by decide, ← Nat.pow_add, show 52 + (t - 52) = t by omega]
      omega
    · refine cut_le hm (by omega) ?_
      have : (9007199254740992 : Nat) * 2 ^ (t - 52) = 2 ^ (t + 1) := by
        rw [show (9007199254740992 : Nat) = 2 ^ 53 by decide, ← Nat.pow_add, show 53 + (t - 52) = t + 1 by omega]
      omega
end Go.Eng
/-
  Floats times a power of two: grids. What is a multiple of a power of two and is not too great stays so under sums, products and quotients, and scaling goes through each of them. No condition. (Groundwork for SolveScales, LowerScaled, VectorEven.)
-/
set_option maxRecDepth 100000
set_option maxHeartbeats 4000000
set_option exponentiation.threshold 5000
namespace Go.Eng
structure Gr (K M : Nat) (x : Nat) : Prop where
  fin : magF x < 9218868437227405312
  dv : 2 ^ K ∣ vmag (magF x)
  le : vmag (magF x) ≤ 2 ^ M
theorem Gr.mono {K K' M M' x : Nat} (h : Gr K M x) (hK : K' ≤ K) (hM : M ≤ M') : Gr K' M' x :=
  ⟨h.fin, Nat.dvd_trans (Nat.pow_dvd_pow 2 hK) h.dv, Nat.le_trans h.le (Nat.pow_le_pow_right (by omega) hM)⟩
theorem Gr.zero {K M x : Nat} (h : magF x = 0) : Gr K M x := by
  have : vmag (magF x) = 0 := by rw [h]; decide +kernel
  exact ⟨by omega, by rw [this]; exact Nat.dvd_zero _, by rw [this]; exact Nat.zero_le _⟩
theorem Gr.neg {K M x : Nat} (h : Gr K M x) : Gr K M (fneg x) := by
  obtain ⟨h1, h2, h3⟩ := h
  exact ⟨by rw [fneg_mag]; exact h1, by rw [fneg_mag]; exact h2, by rw [fneg_mag]; exact h3⟩
theorem fadd_nought_right {x y : Nat} (hx : magF x < 9218868437227405312) (h0 : magF x ≠ 0) (hl : x < 18446744073709551616) (hy : magF y = 0) : fadd x y = x := by
  obtain ⟨m, a, hr, hm⟩ := read_fin hx
  have ry : Ieee.double.read y = .number (negF y) 0 (-1074) := by rw [read_small (by omega), hy]
  have hm0 : m ≠ 0 := by
    rintro rfl; rw [Nat.zero_mul] at hm
    exact h0 ((vmag_zero _).1 hm.symm)
  have hw := write_read hx hl
  rw [hr] at hw
  have hw : Ieee.double.nearest (negF x) m (-1074 + (a : Int)) = x := hw
  unfold fadd Ieee.Format.add
  rw [hr, ry]
  have c : min (-1074 + (a : Int)) (-1074) = -1074 := by omega
  have c1 : (-1074 + (a : Int) - -1074).toNat = a := by omega
  have c2 : ((-1074 : Int) - -1074).toNat = 0 := by omega
  simp only [Ieee.Datum.sum, c, c1, c2, Option.map_some, Option.getD_some]
  have z : Ieee.signed (negF y) 0 0 = 0 := by unfold Ieee.signed; cases negF y <;> simp
  rw [z, Int.add_zero]
  have hne : m * 2 ^ a ≠ 0 := Nat.mul_ne_zero hm0 (Nat.ne_of_gt (Nat.two_pow_pos a))
  have hT : Ieee.signed (negF x) m a ≠ 0 := by
    rw [signed_val]
    generalize m * 2 ^ a = q at hne
    cases negF x <;> simp <;> omega
  have hn : decide (Ieee.signed (negF x) m a < 0) = negF x := by
    rw [signed_val]
    generalize m * 2 ^ a = q at hne
    cases negF x <;> simp <;> omega
  have ha : (Ieee.signed (negF x) m a).natAbs = m * 2 ^ a := by
    rw [signed_val]
    generalize m * 2 ^ a = q
    cases negF x <;> simp
  show Ieee.double.nearest (if Ieee.signed (negF x) m a = 0 then negF x && negF y else decide (Ieee.signed (negF x) m a < 0)) (Ieee.signed (negF x) m a).natAbs (-1074) = x
  rw [if_neg hT, hn, ha, nearest_shift _ hm0, hw]
theorem sum_comm (a b : Ieee.Datum) : a.sum b = b.sum a := by
  cases a <;> cases b <;> simp only [Ieee.Datum.sum] <;> first | rfl | skip
  · rename_i s m e t n f
    rw [Int.min_comm]
    rw [Int.add_comm, Bool.and_comm]
  all_goals
    rename_i s t
    cases s <;> cases t <;> rfl
theorem fadd_comm (x y : Nat) : fadd x y = fadd y x := by unfold fadd Ieee.Format.add; rw [sum_comm]
end Go.Eng
/-
  Floats times a power of two: quotients, products with the power itself, sums of products; comparisons with a constant. No condition. (Groundwork for SolveScales, LowerScaled.)
-/
set_option maxRecDepth 100000
set_option maxHeartbeats 4000000
set_option exponentiation.threshold 5000
namespace Go.Eng
theorem vmag_le_iff {r s : Nat} : vmag r ≤ vmag s ↔ r ≤ s := by
  constructor
  · intro h
    rcases Nat.lt_or_ge s r with k | k
    · have := vmag_lt k; omega
    · exact k
  · intro h
    rcases Nat.lt_or_eq_of_le h with k | k
    · exact Nat.le_of_lt (vmag_lt k)
    · rw [k]; exact Nat.le_refl _
end Go.Eng
