
/-
  Between which floats a number lies that is no float: what rounding makes of it, by rungs. No condition.
-/
import Derived.Test.YtdephdnkkljfeaaDoorOf
set_option linter.all false
set_option maxRecDepth 100000
set_option maxHeartbeats 400000
set_option exponentiation.threshold 70000
namespace Go.Eng
open Go
def rungS (S : Nat) (L : Int) : Nat := (L + 1074).toNat * 4503599627370496 + S
theorem rung_vmag {S : Nat} {L : Int} (hS : S ≤ 9007199254740992) (hL : -1074 ≤ L) (h : 4503599627370496 ≤ S ∨ L = -1074) : vmag (rungS S L) = S * 2 ^ (L + 1074).toNat := by
  unfold rungS
  obtain ⟨k, hk⟩ : ∃ k : Nat, (L + 1074).toNat = k := ⟨_, rfl⟩
  rw [hk]
  by_cases c : S < 4503599627370496
  · have : k = 0 := by omega
    subst this
    unfold vmag
    rw [if_pos (by omega)]; simp
  · by_cases c2 : S = 9007199254740992
    · have e1 : (k * 4503599627370496 + S) / 4503599627370496 - 1 = k + 1 := by omega
      have e2 : (k * 4503599627370496 + S) % 4503599627370496 = 0 := by omega
      unfold vmag
      rw [if_neg (by omega), e1, e2, c2, Nat.pow_succ]; omega
    · have e1 : (k * 4503599627370496 + S) / 4503599627370496 - 1 = k := by omega
      have e2 : 4503599627370496 + (k * 4503599627370496 + S) % 4503599627370496 = S := by omega
      unfold vmag
      rw [if_neg (by omega), e1, e2]
theorem near_rung (s : Bool) {S : Nat} {L : Int} (hS : S ≤ 9007199254740992) (hL : -1074 ≤ L) (hb : (blN S : Int) + L ≤ 1024) (h : 4503599627370496 ≤ S ∨ L = -1074) : Ieee.double.nearest s S L = Ieee.double.word s (rungS S L) ∧ rungS S L < 9218868437227405312 := by
  by_cases s0 : S = 0
  · subst s0
    have : L = -1074 := by omega
    subst this
    rw [near_zero]; exact ⟨rfl, by decide⟩
  · have hv := rung_vmag hS hL h
    have ex : ∃ f p, Ex f p ∧ Ieee.double.nearest s S L = Ieee.double.nearest s f p ∧ f * 2 ^ (p + 1074).toNat = S * 2 ^ (L + 1074).toNat := by
      by_cases c : S = 9007199254740992
      · have b54 : blN S = 54 := by rw [c]; decide +kernel
        refine ⟨1, L + 53, ⟨by decide, by decide, by omega, by
          have : (1 : Nat).log2 = 0 := by decide
          rw [this]; omega⟩, ?_, ?_⟩
        · have := nearest_shift s (m := 1) (by decide) L 53
          rw [c]; exact this
        · rw [c, show (L + 53 + 1074).toNat = 53 + (L + 1074).toNat by omega, Nat.pow_add]; omega
      · have := blN_log s0
        exact ⟨S, L, ⟨s0, by omega, hL, by omega⟩, rfl, rfl⟩
    obtain ⟨f, p, e1, e2, e3⟩ := ex
    obtain ⟨r, a, b, c, d⟩ := near_ex s e1
    have : r = rungS S L := vmag_inj (by rw [d, hv, e3])
    rw [e2, a, this]
    exact ⟨rfl, by omega⟩
theorem odd_mod {n c : Nat} (h : n % 2 = 1) (hc : 1 ≤ c) : n % 2 ^ c ≠ 0 := fun k => by
  obtain ⟨d, rfl⟩ : ∃ d, c = d + 1 := ⟨c - 1, by omega⟩
  have h1 := Nat.mod_mod_of_dvd n (show 2 ∣ 2 ^ (d + 1) from ⟨2 ^ d, by rw [Nat.pow_succ, Nat.mul_comm]⟩)
  rw [k] at h1
  omega
theorem between_e (s : Bool) {n : Nat} {e : Int} (odd : n % 2 = 1) (nex : ¬ Ex n e) (he : -65536 ≤ e) : ∃ T : Nat, ∃ up : Bool, T < 9218868437227405312 ∧
    rF s n e 3 = Ieee.double.word s T ∧ rF s n e 1 = Ieee.double.word s (if s then T + 1 else T) ∧ rF s n e 2 = Ieee.double.word s (if s then T else T + 1) ∧ rF s n e 0 = Ieee.double.word s (if up then T + 1 else T) ∧ vmag T * 2 ^ 64462 < n * 2 ^ (e + 65536).toNat ∧
    (T + 1 < 9218868437227405312 → ∃ P r c : Nat, 0 < r ∧ r < c ∧ 0 < P ∧ n * 2 ^ (e + 65536).toNat = vmag T * 2 ^ 64462 + r * P ∧ vmag (T + 1) * 2 ^ 64462 = vmag T * 2 ^ 64462 + c * P ∧ (2 * r < c → up = false) ∧ (c < 2 * r → up = true)) := by
  have hn0 : n ≠ 0 := by omega
  have hb := blN_log hn0
  have hhuge : ∀ m : Int, hugeV m s = Ieee.double.word s (if m = 3 ∨ (m = 1 ∧ s = false) ∨ (m = 2 ∧ s = true) then 9218868437227405311 else 9218868437227405312) := fun m => rfl
  have maxv : 1024 < (blN n : Int) + e → vmag 9218868437227405311 * 2 ^ 64462 < n * 2 ^ (e + 65536).toNat := fun h => by
    have h1 : 2 ^ n.log2 ≤ n := Nat.log2_self_le hn0
    have h2 : 2 ^ n.log2 * 2 ^ (e + 65536).toNat ≤ n * 2 ^ (e + 65536).toNat := Nat.mul_le_mul_right _ h1
    rw [← Nat.pow_add] at h2
    have h3 : 2 ^ (2098 + 64462) ≤ 2 ^ (n.log2 + (e + 65536).toNat) := Nat.pow_le_pow_right (by omega) (by omega)
    have h4 : vmag 9218868437227405311 < 2 ^ 2098 := by decide +kernel
    have h5 : vmag 9218868437227405311 * 2 ^ 64462 < 2 ^ 2098 * 2 ^ 64462 := Nat.mul_lt_mul_of_pos_right h4 (Nat.two_pow_pos _)
    rw [← Nat.pow_add] at h5
    exact Nat.lt_of_lt_of_le h5 (Nat.le_trans h3 h2)
  have allhuge : 1024 < (blN n : Int) + e → (∀ m : Int, rF s n e m = hugeV m s) → ∃ T : Nat, ∃ up : Bool, T < 9218868437227405312 ∧
    rF s n e 3 = Ieee.double.word s T ∧ rF s n e 1 = Ieee.double.word s (if s then T + 1 else T) ∧ rF s n e 2 = Ieee.double.word s (if s then T else T + 1) ∧ rF s n e 0 = Ieee.double.word s (if up then T + 1 else T) ∧ vmag T * 2 ^ 64462 < n * 2 ^ (e + 65536).toNat ∧
    (T + 1 < 9218868437227405312 → ∃ P r c : Nat, 0 < r ∧ r < c ∧ 0 < P ∧ n * 2 ^ (e + 65536).toNat = vmag T * 2 ^ 64462 + r * P ∧ vmag (T + 1) * 2 ^ 64462 = vmag T * 2 ^ 64462 + c * P ∧ (2 * r < c → up = false) ∧ (c < 2 * r → up = true)) := fun hov h => by
    refine ⟨9218868437227405311, true, by omega, ?_, ?_, ?_, ?_, maxv hov, fun k => absurd k (by omega)⟩
    · rw [h, hhuge, if_pos (.inl rfl)]
    · rw [h, hhuge]; cases s <;> rfl
    · rw [h, hhuge]; cases s <;> rfl
    · rw [h, hhuge]; cases s <;> rfl
  by_cases c : rL n e ≤ e
  · have hge0 : -1074 ≤ rL n e ∧ e + (blN n : Int) - 53 ≤ rL n e := by unfold rL; omega
    have hover0 : 1024 < (blN n : Int) + e := by
      rcases Int.lt_or_le 1024 ((blN n : Int) + e) with g | g
      · exact g
      · have hb53 : blN n ≤ 53 := by omega
        exact absurd ⟨hn0, blN_le.1 hb53, by omega, by omega⟩ nex
    refine allhuge hover0 fun m => ?_
    have hS : blN (n * 2 ^ (e - rL n e).toNat) = blN n + (e - rL n e).toNat := blN_shift _ _ hn0
    have hge : -1074 ≤ rL n e ∧ e + (blN n : Int) - 53 ≤ rL n e := by unfold rL; omega
    have hover : 1024 < (blN n : Int) + e := by
      rcases Int.lt_or_le 1024 ((blN n : Int) + e) with g | g
      · exact g
      · have hb53 : blN n ≤ 53 := by omega
        exact absurd ⟨hn0, blN_le.1 hb53, by omega, by omega⟩ nex
    unfold rF rS fltV
    rw [if_neg hn0, if_pos c, hS, if_pos (by omega)]
  · obtain ⟨d, hd⟩ : ∃ d : Nat, rL n e - e = (d : Int) := ⟨(rL n e - e).toNat, by omega⟩
    have hd2 : (rL n e - e).toNat = d := by omega
    have hd1 : 1 ≤ d := by omega
    have hrem := odd_mod odd hd1
    have hp := Nat.two_pow_pos d
    have hlt : n % 2 ^ d < 2 ^ d := Nat.mod_lt _ hp
    have hdm := Nat.div_add_mod n (2 ^ d)
    have hL : -1074 ≤ rL n e := by unfold rL; omega
    have hq53 : n / 2 ^ d < 9007199254740992 := by
      have e53 : (9007199254740992 : Nat) = 2 ^ 53 := by decide
      rw [Nat.div_lt_iff_lt_mul hp, e53, ← Nat.pow_add]
      refine blN_le.1 ?_
      unfold rL at hd; omega
    have hq52 : 4503599627370496 ≤ n / 2 ^ d ∨ rL n e = -1074 := by
      by_cases g : rL n e = -1074
      · exact .inr g
      · left
        have hlog : 2 ^ n.log2 ≤ n := Nat.log2_self_le hn0
        have : n.log2 = 52 + d := by unfold rL at hd g; omega
        rw [this, Nat.pow_add] at hlog
        exact (Nat.le_div_iff_mul_le hp).2 (by simpa using hlog)
    have hrF : ∀ m : Int, rF s n e m = fltV s (n / 2 ^ d + (if awayM m s (halfC n d) (n / 2 ^ d % 2 == 1) = true then 1 else 0)) (rL n e) m := fun m => by
      unfold rF rS cutV
      rw [if_neg hn0, if_neg c, hd2]
      congr 2
      by_cases g : awayM m s (halfC n d) (n / 2 ^ d % 2 == 1) = true
      · rw [if_pos ⟨hrem, g⟩, if_pos g]
      · rw [if_neg (fun k => g k.2), if_neg g]
    have haw1 : awayM 1 s (halfC n d) (n / 2 ^ d % 2 == 1) = s := rfl
    have haw2 : awayM 2 s (halfC n d) (n / 2 ^ d % 2 == 1) = !s := rfl
    have haw3 : awayM 3 s (halfC n d) (n / 2 ^ d % 2 == 1) = false := rfl
    generalize hq : n / 2 ^ d = q at *
    generalize hr : n % 2 ^ d = r at *
    generalize hLL : rL n e = L at *
    have bq : ∀ S, q ≤ S → S ≤ q + 1 → (4503599627370496 ≤ S ∨ L = -1074) := fun S h1 h2 => by omega
    by_cases big : 972 ≤ L
    · refine allhuge (by unfold rL at hLL; omega) fun m => ?_
      rw [hrF m]
      have h1 : 53 ≤ blN (q + (if awayM m s (halfC n d) (q % 2 == 1) = true then 1 else 0)) := by
        have : 4503599627370496 ≤ q := by omega
        have h2 : blN 4503599627370496 = 53 := by decide +kernel
        rw [← h2]
        refine blN_le.2 (Nat.lt_of_le_of_lt (Nat.le_trans this (Nat.le_add_right _ _)) (blN_le.1 (Nat.le_refl _)))
      unfold fltV
      rw [if_pos (by omega)]
    · have one : ∀ S, q ≤ S → S ≤ q + 1 → (∀ m : Int, fltV s S L m = Ieee.double.word s (rungS S L)) ∧ rungS S L < 9218868437227405312 ∨ (L = 971 ∧ S = 9007199254740992 ∧ (∀ m : Int, fltV s S L m = hugeV m s) ∧ rungS S L = 9218868437227405312) := fun S h1 h2 => by
        by_cases g : L = 971 ∧ S = 9007199254740992
        · right
          refine ⟨g.1, g.2, fun m => ?_, by rw [g.1, g.2]; decide⟩
          have h2 : blN 9007199254740992 = 54 := by decide +kernel
          unfold fltV
          rw [g.1, g.2, h2, if_pos (by omega)]
        · left
          have hbS : (blN S : Int) + L ≤ 1024 := by
            by_cases g2 : S = 9007199254740992
            · have h2 : blN 9007199254740992 = 54 := by decide +kernel
              rw [g2, h2]; omega
            · have : blN S ≤ 53 := blN_le.2 (by have : (2 : Nat) ^ 53 = 9007199254740992 := by decide
                                                omega)
              omega
          obtain ⟨a, b⟩ := near_rung s (by omega) hL hbS (bq S h1 h2)
          refine ⟨fun m => ?_, b⟩
          unfold fltV
          rw [if_neg (by omega), a]
      have hT := one q (Nat.le_refl _) (by omega)
      have hU := one (q + 1) (by omega) (Nat.le_refl _)
      have hTU : rungS (q + 1) L = rungS q L + 1 := by unfold rungS; omega
      have hT : (∀ m : Int, fltV s q L m = Ieee.double.word s (rungS q L)) ∧ rungS q L < 9218868437227405312 := by
        rcases hT with hT | ⟨_, h, _⟩
        · exact hT
        · omega
      have up1 : ∀ m : Int, (m ≠ 3 ∧ (m = 1 → s = true) ∧ (m = 2 → s = false)) → fltV s (q + 1) L m = Ieee.double.word s (rungS q L + 1) := fun m hm => by
        rw [← hTU]
        rcases hU with hU | ⟨_, _, h, h2⟩
        · exact hU.1 m
        · rw [h, h2, hhuge, if_neg]
          rintro (k | ⟨k1, k2⟩ | ⟨k1, k2⟩)
          · exact hm.1 k
          · have := hm.2.1 k1
            rw [k2] at this; cases this
          · have := hm.2.2 k1
            rw [k2] at this; cases this
      refine ⟨rungS q L, awayM 0 s (halfC n d) (q % 2 == 1), hT.2, ?_, ?_, ?_, ?_, ?_, fun hfin => ?_⟩
      · rw [hrF, haw3, if_neg (by simp), Nat.add_zero, hT.1]
      · rw [hrF, haw1]
        cases s with
        | false => rw [if_neg (by simp), if_neg (by simp), Nat.add_zero, hT.1]
        | true => rw [if_pos rfl, if_pos rfl, up1 1 ⟨by decide, fun _ => rfl, fun k => absurd k (by decide)⟩]
      · rw [hrF, haw2]
        cases s with
        | false => rw [Bool.not_false, if_pos rfl, if_neg (by simp), up1 2 ⟨by decide, fun k => absurd k (by decide), fun _ => rfl⟩]
        | true => rw [Bool.not_true, if_neg (by simp), if_pos rfl, Nat.add_zero, hT.1]
      · rw [hrF]
        cases awayM 0 s (halfC n d) (q % 2 == 1) with
        | false => rw [if_neg (by simp), if_neg (by simp), Nat.add_zero, hT.1]
        | true => rw [if_pos rfl, if_pos rfl, up1 0 ⟨by decide, fun k => absurd k (by decide), fun k => absurd k (by decide)⟩]
      · have v1 := rung_vmag (S := q) (by omega) hL (bq q (Nat.le_refl _) (by omega))
        have hpow : 2 ^ (L + 1074).toNat * 2 ^ 64462 = 2 ^ d * 2 ^ (e + 65536).toNat := by
          rw [← Nat.pow_add, ← Nat.pow_add]; congr 1; omega
        rw [v1, Nat.mul_assoc, hpow, ← Nat.mul_assoc]
        refine Nat.mul_lt_mul_of_pos_right ?_ (Nat.two_pow_pos _)
        rw [Nat.mul_comm]
        omega
      · have v1 := rung_vmag (S := q) (by omega) hL (bq q (Nat.le_refl _) (by omega))
        have v2 := rung_vmag (S := q + 1) (by omega) hL (bq (q + 1) (by omega) (Nat.le_refl _))
        rw [hTU] at v2
        have hpow : 2 ^ (L + 1074).toNat * 2 ^ 64462 = 2 ^ d * 2 ^ (e + 65536).toNat := by
          rw [← Nat.pow_add, ← Nat.pow_add]; congr 1; omega
        refine ⟨2 ^ (e + 65536).toNat, r, 2 ^ d, by omega, hlt, Nat.two_pow_pos _, ?_, ?_, ?_, ?_⟩
        · rw [v1, Nat.mul_assoc, hpow, ← Nat.mul_assoc, ← Nat.add_mul, Nat.mul_comm q, hdm]
        · rw [v1, v2, Nat.mul_assoc, Nat.mul_assoc, hpow, Nat.add_mul, Nat.one_mul]
        · intro g
          unfold halfC
          rw [hr, if_pos g]; rfl
        · intro g
          unfold halfC
          rw [hr, if_neg (by omega), if_neg (by omega)]; rfl
end Go.Eng
