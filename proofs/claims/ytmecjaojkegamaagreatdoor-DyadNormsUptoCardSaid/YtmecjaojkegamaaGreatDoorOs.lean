/-
  A float's parts and its dyad as the document tells them, on the plain side. No condition.
-/
import Derived.Test.YtmecjaojkegamaaGreatDoorDyG
import Derived.Test.YtmecjaojkegamaaGreatDoorNr3
set_option linter.unusedVariables false
set_option linter.unusedSimpArgs false
set_option linter.unnecessarySimpa false
set_option linter.unusedSectionVars false
set_option maxRecDepth 100000
set_option maxHeartbeats 400000
set_option exponentiation.threshold 70000
namespace Go.Eng
open Go

theorem half2_even {y : Nat} {e : Int} {i : Nat} (h0 : y ≠ 0) (hy : y < 18446744073709551616) (he : y % 2 = 0) (h1 : -4000 ≤ e) (h2 : e + (i : Int) ≤ 4000000) : T_girderref01_Split_b2 ((y : Int), e + (i : Int)) = some (.inl (((y / 2 : Nat) : Int), e + ((i + 1 : Nat) : Int))) := by
  have t1 : (y : Int).tmod 2 = 0 := by rw [Int.tmod_eq_emod_of_nonneg (by omega)]; omega
  have t2 : IntKind.u64.wrap ((y : Int).tdiv 2) = ((y / 2 : Nat) : Int) := by rw [Int.tdiv_eq_ediv_of_nonneg (by omega), w64]; omega
  unfold T_girderref01_Split_b2
  dsimp only
  rw [cond_t (by rw [bne_iff_ne]; omega), t1, cond_t (by rfl), t2, wrI (by omega) (by omega), show e + (i : Int) + 1 = e + ((i + 1 : Nat) : Int) by omega]
theorem half2_odd {y : Nat} {e : Int} (h0 : y % 2 = 1) : T_girderref01_Split_b2 ((y : Int), e) = some (.inr ((y : Int), e)) := by
  have t1 : (y : Int).tmod 2 = 1 := by rw [Int.tmod_eq_emod_of_nonneg (by omega)]; omega
  unfold T_girderref01_Split_b2
  dsimp only
  rw [cond_t (by rw [bne_iff_ne]; omega), t1, cond_f (by rfl)]
theorem split_loop {n : Nat} {e : Int} (h0 : n ≠ 0) (hn : n < 9007199254740992) (h1 : -4000 ≤ e) (h2 : e ≤ 4000) : iter T_girderref01_Split_b2 FU ((n : Int), e) = some (((n / 2 ^ tzN n : Nat) : Int), e + (tzN n : Int)) := by
  obtain ⟨k1, k2⟩ := tz_spec h0
  obtain ⟨_, _, k3⟩ := tzN_spec h0
  have htl := tzN_lt h0
  have hbl : blN n ≤ 53 := blN_le.2 hn
  have hf0 : n / 2 ^ tzN n ≠ 0 := by omega
  have hpos : ∀ i, i ≤ tzN n → n / 2 ^ i ≠ 0 := fun i hi g => by
    have : n / 2 ^ tzN n ≤ n / 2 ^ i := Nat.div_le_div_left (Nat.pow_le_pow_right (by omega) hi) (Nat.two_pow_pos _)
    rw [g] at this
    exact hf0 (Nat.le_zero.1 this)
  have hbig : ∀ i, i < tzN n → e + (i : Int) ≤ 4000000 := fun i hi => by
    clear k1 k2 k3 hf0 hpos
    omega
  have loop := iter_nat (b := T_girderref01_Split_b2) (fun i => (((n / 2 ^ i : Nat) : Int), e + (i : Int))) (o := (((n / 2 ^ tzN n : Nat) : Int), e + (tzN n : Int))) (tzN n) (by rw [FU_eq]; omega) (fun i hi => by
    have e' : n / 2 ^ (i + 1) = n / 2 ^ i / 2 := by rw [Nat.pow_succ, ← Nat.div_div_eq_div_mul]
    rw [e']
    exact half2_even (hpos i (Nat.le_of_lt hi)) (Nat.lt_of_le_of_lt (Nat.div_le_self _ _) (Nat.lt_of_lt_of_le hn (by decide))) (k3 i hi) h1 (hbig i hi)) (half2_odd k2)
  rw [Nat.pow_zero, Nat.div_one, show e + ((0 : Nat) : Int) = e by omega] at loop
  exact loop

theorem rfin_e {x : Nat} (hx : x < 18446744073709551616) : T_girderref01_Finite x = some (decide (magF x < 9218868437227405312)) := by
  have e : x % 9223372036854775808 = expF x * 4503599627370496 + fracF x := by unfold expF fracF; omega
  have hf : fracF x < 4503599627370496 := Nat.mod_lt _ (by omega)
  have he : expF x < 2048 := Nat.mod_lt _ (by omega)
  unfold T_girderref01_Finite T_girderref01_Kind magF
  rw [Option.bind_some, e]
  congr 1
  by_cases c : expF x = 2047
  · rw [if_pos c, decide_eq_false (p := _ < 9218868437227405312) (by omega)]
    by_cases d : fracF x = 0
    · rw [if_pos d]; rfl
    · rw [if_neg d]; rfl
  · rw [if_neg c, decide_eq_true (p := _ < 9218868437227405312) (by omega)]
    by_cases d : expF x = 0
    · rw [if_pos d]
      by_cases d2 : fracF x = 0
      · rw [if_pos d2]; rfl
      · rw [if_neg d2]; rfl
    · rw [if_neg d]; rfl

theorem rsplit_e {x : Nat} (hx : x < 18446744073709551616) : T_girderref01_Split x = T_bits_Split x := by
  by_cases h : magF x < 9218868437227405312
  · unfold T_girderref01_Split T_girderref01_fields
    rw [rfin_e hx, Option.bind_some, decide_eq_true h, Bool.not_true, cF, bits_e (by omega)]
    simp only [Option.bind_some]
    have s1 : (((x : Int).fdiv (2 ^ (min (63 : Int).toNat IntKind.u64.bits))) == 1) = negF x := by
      rw [sh63, fdn]
      unfold negF
      rw [Bool.eq_iff_iff, beq_iff_eq, beq_iff_eq, show (2 : Nat) ^ 63 = 9223372036854775808 by decide]; omega
    have s2 : IntKind.i64.wrap ((IntKind.u64.wrap ((x : Int).tdiv 4503599627370496)).tmod 2048) = ((magF x / 4503599627370496 : Nat) : Int) := by
      rw [Int.tdiv_eq_ediv_of_nonneg (by omega), show (x : Int) / 4503599627370496 = ((x / 4503599627370496 : Nat) : Int) by omega, w64n (by omega), Int.tmod_eq_emod_of_nonneg (by omega), wrI (by omega) (by omega)]
      unfold magF at *; omega
    have s3 : (x : Int).tmod 4503599627370496 = ((magF x % 4503599627370496 : Nat) : Int) := by
      rw [Int.tmod_eq_emod_of_nonneg (by omega)]
      unfold magF; omega
    rw [s1, s2, s3]
    have s4 : (cond (decide (((magF x / 4503599627370496 : Nat) : Int) > 0)) (some (IntKind.u64.wrap (((magF x % 4503599627370496 : Nat) : Int) + 4503599627370496), IntKind.i64.wrap (((magF x / 4503599627370496 : Nat) : Int) - 1075))) (some (((magF x % 4503599627370496 : Nat) : Int), (-1074 : Int)))) = some ((sM (magF x) : Int), -1074 + (sP (magF x) : Int)) := by
      by_cases c : magF x < 4503599627370496
      · have e1 : sM (magF x) = magF x := by unfold sM; rw [if_pos c]
        have e2 : sP (magF x) = 0 := by unfold sP; rw [if_pos c]
        rw [cond_f (by rw [decide_eq_false_iff_not]; omega), e1, e2, Nat.mod_eq_of_lt c]; rfl
      · have e1 : sM (magF x) = 4503599627370496 + magF x % 4503599627370496 := by unfold sM; rw [if_neg c]
        have e2 : sP (magF x) = magF x / 4503599627370496 - 1 := by unfold sP; rw [if_neg c]
        rw [cond_t (by rw [decide_eq_true_eq]; omega), e1, e2, show ((magF x % 4503599627370496 : Nat) : Int) + 4503599627370496 = ((4503599627370496 + magF x % 4503599627370496 : Nat) : Int) by omega, w64n (by omega), wrI (by omega) (by omega), show ((magF x / 4503599627370496 : Nat) : Int) - 1075 = -1074 + ((magF x / 4503599627370496 - 1 : Nat) : Int) by omega]
    rw [s4, Option.bind_some]
    dsimp only
    by_cases h0 : magF x = 0
    · rw [split_zero h0, h0]
      have e : iter T_girderref01_Split_b2 FU (((sM 0 : Nat) : Int), 0) = some (0, 0) := by decide +kernel
      have e3 : (((sM 0 : Nat) : Int) == 0) = true := rfl
      rw [e3, cT, Option.bind_some, e]; rfl
    · have hm := sM_ne h0
      have hP : sP (magF x) ≤ 2046 := by unfold sP; split <;> omega
      rw [split_e h h0, cond_f (by rw [beq_eq_false_iff_ne]; omega), Option.bind_some, split_loop hm (sM_lt _) (by omega) (by omega)]; rfl
  · unfold T_girderref01_Split
    rw [rfin_e hx, Option.bind_some, decide_eq_false h, split_bad h]; rfl

theorem rof_e {x : Nat} (hx : x < 18446744073709551616) : T_girderref02_Of x = T_dyad_Of x := by
  unfold T_girderref02_Of
  rw [rsplit_e hx]
  by_cases h : magF x < 9218868437227405312
  · rw [of_e h]
    by_cases h0 : magF x = 0
    · rw [split_zero h0, (sval_zero x).2 h0, Option.bind_some]
      dsimp only
      rw [Bool.not_true, cF, Option.bind_some, refNorm_t (fun y hy => by rw [List.mem_singleton.1 hy]; omega) (by simp)]
      cases negF x <;> rfl
    · obtain ⟨ex, odd, hn, hv⟩ := own_ex h0 h
      have hlt := ex.lt
      rw [split_e h h0, cano_own h h0, Option.bind_some]
      dsimp only
      have e : zD (negF x) [(oF (magF x) : Int)] = sgN (negF x) (oF (magF x)) := by
        unfold zD; simp [lv]
      rw [Bool.not_true, cF, Option.bind_some, refNorm_t (fun y hy => by rw [List.mem_singleton.1 hy]; omega) (by simp), e]; rfl
  · rw [split_bad h, of_bad h]; rfl

end Go.Eng
