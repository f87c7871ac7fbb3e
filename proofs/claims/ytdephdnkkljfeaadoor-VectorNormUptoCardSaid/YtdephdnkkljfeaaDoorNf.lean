
/-
  Rounding to the nearest is rounding by the document's words; sums and products of finite floats by value. No condition.
-/
import Derived.Test.YtdephdnkkljfeaaDoorBt
import Derived.Test.YtdephdnkkljfeaaDoorRv
set_option linter.all false
set_option maxRecDepth 100000
set_option maxHeartbeats 400000
set_option exponentiation.threshold 70000
namespace Go.Eng
open Go
theorem cut_even (s : Bool) {n d : Nat} (h0 : n ≠ 0) : Ieee.Toward.even.cut s n d = cutV s n d 0 := by
  have hlo : 2 ^ n.log2 ≤ n := Nat.log2_self_le h0
  have hhi : n < 2 ^ (n.log2 + 1) := Nat.lt_log2_self
  have haw : ∀ h o, awayM 0 s h o = (decide (h > 0) || (decide (h = 0) && o)) := fun _ _ => rfl
  unfold Ieee.Toward.cut
  dsimp only
  rw [Nat.shiftLeft_eq, Nat.one_mul]
  by_cases c : d ≤ n.log2 + 2
  · rw [Nat.min_eq_left c]
    unfold cutV
    have hlt : n % 2 ^ d < 2 ^ d := Nat.mod_lt _ (Nat.two_pow_pos d)
    congr 1
    rw [haw]
    unfold halfC
    generalize n % 2 ^ d = r at *
    generalize 2 ^ d = P at *
    generalize (n / P % 2 == 1) = o
    by_cases c1 : 2 * r < P
    · rw [if_pos c1, decide_eq_false (show ¬ P < 2 * r by omega)]
      have : (P == 2 * r) = false := by rw [beq_eq_false_iff_ne]; omega
      rw [this, if_neg (fun k => by simp at k)]; rfl
    · by_cases c2 : 2 * r = P
      · rw [if_neg c1, if_pos c2, decide_eq_false (show ¬ P < 2 * r by omega)]
        have : (P == 2 * r) = true := by rw [beq_iff_eq]; omega
        rw [this]
        cases o with
        | false => rw [if_neg (fun k => by simp at k)]; rfl
        | true => rw [if_pos ⟨by omega, by decide⟩]; rfl
      · rw [if_neg c1, if_neg c2, decide_eq_true (show P < 2 * r by omega), if_pos ⟨by omega, by simp⟩]; rfl
  · rw [Nat.min_eq_right (by omega)]
    have p2 : 2 * n < 2 ^ (n.log2 + 2) := by
      have : 2 ^ (n.log2 + 2) = 2 * 2 ^ (n.log2 + 1) := by rw [Nat.pow_succ, Nat.mul_comm]
      omega
    have pd : 2 ^ (n.log2 + 2) ≤ 2 ^ d := Nat.pow_le_pow_right (by omega) (by omega)
    unfold cutV halfC
    rw [Nat.div_eq_of_lt (by omega), Nat.mod_eq_of_lt (show n < 2 ^ (n.log2 + 2) by omega), Nat.div_eq_of_lt (show n < 2 ^ d by omega), Nat.mod_eq_of_lt (show n < 2 ^ d by omega), if_pos (show 2 * n < 2 ^ d by omega)]
    generalize 2 ^ (n.log2 + 2) = A at *
    generalize 2 ^ d = B at *
    have e1 : decide (A < 2 * n) = false := decide_eq_false (by omega)
    have e2 : (A == 2 * n) = false := by rw [beq_eq_false_iff_ne]; omega
    rw [e1, e2, if_neg (fun k => by have := k.2; simp [awayM] at this)]; rfl
theorem near_rF (s : Bool) {n : Nat} (e : Int) (h0 : n ≠ 0) : Ieee.double.nearest s n e = rF s n e 0 := by
  have hb := blN_log h0
  have eL : max (e + (n.log2 : Int) - ((52 : Nat) : Int)) (-1074) = rL n e := by unfold rL; omega
  have hL : -1074 ≤ rL n e := by unfold rL; omega
  have hS : Ieee.Toward.even.cut s (n <<< (e - rL n e).toNat) (rL n e - e).toNat = rS s n e 0 := by
    unfold rS
    rw [Nat.shiftLeft_eq]
    by_cases c : rL n e ≤ e
    · rw [if_pos c, show (rL n e - e).toNat = 0 by omega, cut_none]
    · rw [if_neg c, show (e - rL n e).toNat = 0 by omega, Nat.pow_zero, Nat.mul_one, cut_even s h0]
  have hle := rS_le s e 0 h0
  have hz := fun g => rS_zero (s := s) (e := e) (m := 0) h0 g
  unfold Ieee.Format.nearest rF
  rw [if_neg h0, if_neg h0, lp, fb, bn, ir]
  simp only [eL]
  rw [hS]
  have ek : (rL n e - -1074).toNat * 4503599627370496 + rS s n e 0 = rungS (rS s n e 0) (rL n e) := by
    unfold rungS; congr 2
  rw [ek]
  have big : 4503599627370496 ≤ rS s n e 0 ∨ rL n e = -1074 := by
    by_cases g : rL n e = -1074
    · exact .inr g
    · left
      unfold rS
      by_cases c : rL n e ≤ e
      · rw [if_pos c]
        have hl : 2 ^ n.log2 ≤ n := Nat.log2_self_le h0
        have : 2 ^ n.log2 * 2 ^ (e - rL n e).toNat ≤ n * 2 ^ (e - rL n e).toNat := Nat.mul_le_mul_right _ hl
        rw [← Nat.pow_add] at this
        have e2 : n.log2 + (e - rL n e).toNat = 52 := by unfold rL at *; omega
        rw [e2] at this
        exact this
      · rw [if_neg c]
        refine Nat.le_trans ?_ (Nat.le_add_right _ _)
        have hl : 2 ^ n.log2 ≤ n := Nat.log2_self_le h0
        have e2 : n.log2 = 52 + (rL n e - e).toNat := by unfold rL at *; omega
        rw [e2, Nat.pow_add] at hl
        exact (Nat.le_div_iff_mul_le (Nat.two_pow_pos _)).2 (by simpa using hl)
  generalize rS s n e 0 = S at *
  generalize rL n e = L at *
  unfold fltV
  by_cases c : 1024 < (blN S : Int) + L
  · rw [if_pos c]
    have hbS : blN S ≤ 54 := blN_le.2 (by have : (2 : Nat) ^ 54 = 18014398509481984 := by decide
                                          omega)
    have hr : 9218868437227405312 ≤ rungS S L := by
      unfold rungS
      by_cases c2 : S = 9007199254740992
      · have : 971 ≤ L := by omega
        have : 2045 ≤ (L + 1074).toNat := by omega
        have := Nat.mul_le_mul_right 4503599627370496 this
        omega
      · have hb53 : blN S ≤ 53 := blN_le.2 (by have : (2 : Nat) ^ 53 = 9007199254740992 := by decide
                                               omega)
        have : 2046 ≤ (L + 1074).toNat := by omega
        have := Nat.mul_le_mul_right 4503599627370496 this
        omega
    rw [Nat.min_eq_right hr]
    unfold hugeV
    rw [if_neg (by omega)]
  · rw [if_neg c]
    obtain ⟨a, b⟩ := near_rung s hle hL (by omega) big
    rw [Nat.min_eq_left (by omega), a]
theorem fadd_v {x y : Nat} (hx : magF x < 9218868437227405312) (hy : magF y < 9218868437227405312) (h : sval x + sval y ≠ 0) : fadd x y = rV (sval x + sval y) (-1074) 0 := by
  obtain ⟨m, a, hr, hv⟩ := read_fin hx
  obtain ⟨n, b, hs, hw⟩ := read_fin hy
  have e1 : sval x = Ieee.signed (negF x) m a := by unfold sval; rw [signed_val, hv]
  have e2 : sval y = Ieee.signed (negF y) n b := by unfold sval; rw [signed_val, hw]
  have c : min (-1074 + (a : Int)) (-1074 + (b : Int)) = -1074 + ((min a b : Nat) : Int) := by omega
  have c1 : (-1074 + (a : Int) - (-1074 + ((min a b : Nat) : Int))).toNat = a - min a b := by omega
  have c2 : (-1074 + (b : Int) - (-1074 + ((min a b : Nat) : Int))).toNat = b - min a b := by omega
  have d1 : Ieee.signed (negF x) m a = Ieee.signed (negF x) m (a - min a b) * ((2 ^ min a b : Nat) : Int) := by rw [← signed_scale]; congr 1; omega
  have d2 : Ieee.signed (negF y) n b = Ieee.signed (negF y) n (b - min a b) * ((2 ^ min a b : Nat) : Int) := by rw [← signed_scale]; congr 1; omega
  generalize ht : Ieee.signed (negF x) m (a - min a b) + Ieee.signed (negF y) n (b - min a b) = T at *
  have hT : sval x + sval y = T * ((2 ^ min a b : Nat) : Int) := by rw [e1, e2, d1, d2, ← Int.add_mul, ht]
  have hT0 : T ≠ 0 := fun k => h (by rw [hT, k, Int.zero_mul])
  have hf : fadd x y = Ieee.double.nearest (if T = 0 then negF x && negF y else decide (T < 0)) T.natAbs (-1074 + ((min a b : Nat) : Int)) := by
    unfold fadd Ieee.Format.add
    rw [hr, hs]
    simp only [Ieee.Datum.sum, c, c1, c2, ht]
    rfl
  rw [hf, if_neg hT0, near_rF _ _ (by omega), hT, rV_shift]; rfl
end Go.Eng
