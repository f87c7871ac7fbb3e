/-
  Sums rounded to a side, the code's and the reference's, on the plain side: both come to 'addV'. No condition.
-/
import Derived.Test.YtngioelenknhkaaRnd
import Derived.Test.YtngioelenknhkaaTp
set_option linter.unusedVariables false
set_option linter.unusedSimpArgs false
set_option linter.unnecessarySimpa false
set_option linter.unusedSectionVars false
set_option maxRecDepth 100000
set_option maxHeartbeats 4000000
namespace Go.Eng
open Go

theorem nf_notnan {x : Nat} (h : isNaN x = false) : nf x = x := nf_of_not h
theorem signbit_t {x : Nat} (h : isNaN x = false) : T_math_Signbit x = some (negF x) := by unfold T_math_Signbit; rw [h]; rfl
theorem abs_t (x : Nat) : T_math_Abs x = some (nf (magF x)) := rfl
theorem isInf_t {x : Nat} (h : isNaN x = false) : T_math_IsInf x 0 = some (decide (magF x = 9218868437227405312)) := by
  have h1 : isNaN (magF x) = false := by
    rw [isNaN_mag] at h ⊢; rw [magF_magF]; exact h
  unfold T_math_IsInf
  have e : nf 9218868437227405311 = 9218868437227405311 := by decide +kernel
  simp only [abs_t, nf_of_not h1, Option.bind_some, beq_self_eq_true, cT, isInf_test, e]
theorem copysign_t {x y : Nat} (h : isNaN y = false) : T_math_Copysign x y = some (nf ((if negF y then 9223372036854775808 else 0) + magF x)) := by unfold T_math_Copysign; rw [h]; rfl

theorem stepV_nan {x : Nat} (hm : magF x ≤ 9218868437227405312) (hi : magF x ≠ 9218868437227405312) (hl : x < 18446744073709551616) (up : Bool) : isNaN (stepV x up) = false := by
  have hw := word_eq hl
  rw [isNaN_mag]
  unfold stepV
  by_cases h0 : magF x = 0
  · rw [if_pos h0]; cases up <;> decide
  · rw [if_neg h0]
    cases hn : negF x <;> rw [hn] at hw <;> simp only [if_true, Bool.false_eq_true, if_false] at hw <;> cases up <;> simp <;> unfold magF at * <;> omega

theorem step_t {x : Nat} (hx : isNaN x = false) (up : Bool) : T_round_step x up = some (nf (stepV x up)) := by
  have hm : magF x ≤ 9218868437227405312 := by rw [isNaN_mag] at hx; simp at hx; omega
  unfold T_round_step T_math_Float64bits T_math_Float64frombits
  rw [hx]
  simp only [cF, Option.bind_some, nf_zero, feq_zero]
  by_cases h0 : magF x = 0
  · have e : decide (magF x = 0) = true := by simp [Bool.cond_eq_ite, h0]
    rw [e, cT]
    unfold stepV
    rw [if_pos h0]
    cases up <;> rfl
  · have e : decide (magF x = 0) = false := by simp [Bool.cond_eq_ite, h0]
    have hg : fgt x 0 = !negF x := by rw [fgt_zero]; simp [Bool.cond_eq_ite, h0, hm]
    rw [e, cF, hg]
    have hx0 : 0 < x := by
      rcases Nat.eq_zero_or_pos x with h | h
      · subst h; exact absurd (by decide : magF 0 = 0) h0
      · exact h
    have e1 : (IntKind.u64.wrap ((x : Int) + 1)).toNat = (x + 1) % 18446744073709551616 := by rw [← u64w (x + 1)]; rfl
    have e2 : (IntKind.u64.wrap ((x : Int) - 1)).toNat = (x + 18446744073709551615) % 18446744073709551616 := by
      have : ((x : Int) - 1) = ((x - 1 : Nat) : Int) := by omega
      rw [this, u64w]; omega
    unfold stepV
    rw [if_neg h0]
    cases hb : up == !negF x
    · simp [Bool.cond_eq_ite, e2]
    · simp [Bool.cond_eq_ite, e1]

theorem settle_t {s : Nat} (hx : isNaN s = false) (off m : Int) : T_round_settle s off m = some (nf (settleV s off m)) := by
  have hm : magF s ≤ 9218868437227405312 := by rw [isNaN_mag] at hx; simp at hx; omega
  have hs := nf_of_not hx
  unfold T_round_settle
  have e1 : (cond (m == 3) ((T_math_Signbit s).bind fun t2 => (cond t2 (some (2 : Int)) (some 1)).bind fun t3 => some t3) (some m)) = some (sideM s m) := by
    rw [signbit_t hx]
    refine eq_cond (fun h => ?_) (fun h => ?_)
    · have h : m = 3 := by simpa using h
      cases hn : negF s <;> simp [Bool.cond_eq_ite, sideM, h, hn]
    · have h : m ≠ 3 := by simpa using h
      simp [Bool.cond_eq_ite, sideM, h]
  rw [e1]
  simp only [Option.bind_some, isInf_t hx, nf_zero, step_t hx, copysign_t hx]
  have em : magF (nf 9218868437227405311) = 9218868437227405311 := by decide +kernel
  rw [em]
  refine eq_cond (fun hb => ?_) (fun hb => ?_)
  · have hi : magF s = 9218868437227405312 := by simpa using hb
    have hg : fgt s 0 = !negF s := by rw [fgt_zero]; simp [Bool.cond_eq_ite, hi]
    have hlt : flt s 0 = negF s := by rw [flt_zero]; simp [Bool.cond_eq_ite, hi]
    rw [hg, hlt]
    unfold settleV
    rw [if_pos hi]
    cases hn : negF s <;> by_cases h1 : sideM s m = 1 <;> by_cases h2 : sideM s m = 2 <;> simp [Bool.cond_eq_ite, h1, h2, hs]
  · have hi : magF s ≠ 9218868437227405312 := by simpa using hb
    unfold settleV
    rw [if_neg hi]
    by_cases h1 : off < 0
    · have h2 : ¬ 0 < off := by omega
      by_cases h3 : sideM s m = 1 <;> by_cases h4 : sideM s m = 2 <;> simp [Bool.cond_eq_ite, h1, h2, h3, h4, hs]
    · by_cases h2 : 0 < off
      · by_cases h3 : sideM s m = 1 <;> by_cases h4 : sideM s m = 2 <;> simp [Bool.cond_eq_ite, h1, h2, h3, h4, hs]
      · simp [Bool.cond_eq_ite, h1, h2, hs]

theorem sign_t (x : Nat) : T_round_sign x = some (sgnV x) := by
  unfold T_round_sign sgnV
  simp only [Option.bind_some, nf_zero]
  cases fgt x 0 <;> cases flt x 0 <;> rfl
theorem rsign_t (x : Nat) : T_girderref03_sign x = some (sgnV x) := by
  unfold T_girderref03_sign sgnV
  simp only [Option.bind_some, nf_zero]
  cases h : flt x 0
  · cases fgt x 0 <;> rfl
  · rw [flt_gt_not x h]; rfl
theorem rfinite_t (x : Nat) : T_girderref03_Finite x = some (finF x) := by
  unfold T_girderref03_Finite finF
  simp only [Option.bind_some, nf_zero, finite_sub]

theorem finite2_t {a b : Nat} : T_round_finite [a, b] = some (finF a && finF b) := by
  have fin : ∀ x : Nat, isNaN x = false → finF x = !decide (magF x = 9218868437227405312) := fun x h1 => by
    rw [isNaN_mag] at h1; simp at h1; unfold finF; rw [Bool.eq_iff_iff]; simp; omega
  have nan : ∀ x : Nat, isNaN x = true → finF x = false := fun x h1 => by rw [isNaN_mag] at h1; simp at h1; simp [Bool.cond_eq_ite, finF]; omega
  have nan_t : ∀ x, T_math_IsNaN x = some (isNaN x) := fun x => by unfold T_math_IsNaN; rw [feq_self]; simp
  have body : ∀ (i : Nat) (x : Nat), [a, b][i]? = some x → T_round_finite_b2 2 [a, b] (i : Int) = some (cond (finF x) (.inl ((i + 1 : Nat) : Int)) (.inr (.inr false))) := fun i x hx => by
    have hi : i < [a, b].length := by
      rcases Nat.lt_or_ge i [a, b].length with h | h
      · exact h
      · rw [List.getElem?_eq_none h] at hx; cases hx
    have hi2 : i < 2 := by simpa using hi
    unfold T_round_finite_b2
    dsimp only
    rw [cond_t (by simp; omega), at_nat hi]
    have e : [a, b][i] = x := by rw [List.getElem?_eq_getElem hi] at hx; exact Option.some.inj hx
    rw [e, Option.bind_some, nan_t, Option.bind_some]
    cases hn : isNaN x with
    | true => rw [nan x hn]; rfl
    | false =>
      rw [isInf_t hn, fin x hn]
      simp only [Bool.not_false, cT, Option.bind_some]
      cases decide (magF x = 9218868437227405312)
      · simp only [cF, Bool.not_false, cT]
        rw [wrU (by omega)]
      · rfl
  unfold T_round_finite
  simp only [Option.bind_some]
  have b0 := body 0 a rfl
  have b1 := body 1 b rfl
  have b2 : T_round_finite_b2 2 [a, b] 2 = some (.inr (.inl ())) := rfl
  show ((iter (T_round_finite_b2 2 [a, b]) FU ((0 : Nat) : Int) : Option (Unit ⊕ Bool))).bind _ = _
  cases ha : finF a with
  | false =>
    rw [ha] at b0
    rw [iter_nat (fun i => ((i : Nat) : Int)) 0 (by rw [FU_eq]; omega) (fun i hi => by omega) b0]
    rfl
  | true =>
    rw [ha] at b0
    cases hb : finF b with
    | false =>
      rw [hb] at b1
      rw [iter_nat (fun i => ((i : Nat) : Int)) 1 (by rw [FU_eq]; omega) (fun i hi => by have : i = 0 := by omega
                                                                                         subst this; exact b0) b1]
      rfl
    | true =>
      rw [hb] at b1
      rw [iter_nat (fun i => ((i : Nat) : Int)) 2 (by rw [FU_eq]; omega) (fun i hi => by
        rcases (by omega : i = 0 ∨ i = 1) with h | h
        · subst h; exact b0
        · subst h; exact b1) b2]
      rfl

theorem none_t (m : Int) : T_round_none m = some (if m = 1 then 9223372036854775808 else 0) := by
  unfold T_round_none
  have e : T_math_Copysign (nf 0) (nf 13830554455654793216) = some 9223372036854775808 := by decide +kernel
  rw [e, nf_zero]
  by_cases h : m = 1 <;> simp [Bool.cond_eq_ite, h]

theorem fin_nan {x : Nat} (h : finF x = true) : isNaN x = false := by
  unfold finF at h; rw [isNaN_mag]; simp at h ⊢; omega

theorem addV_nf {a b : Nat} {m : Int} (ha : a < 18446744073709551616) (hb : b < 18446744073709551616) : True := trivial

theorem add_t {a b : Nat} {m : Int} (h0 : 0 ≤ m) (h3 : m ≤ 3) : T_round_Add a b m = some (nf (addV a b m)) := by
  have hway : T_round_way m = some m := by
    unfold T_round_way
    rw [cond_t (by simp; omega), cond_f (by simp; omega)]
  unfold T_round_Add
  simp only [hway, Option.bind_some, finite2_t]
  cases hf : finF a && finF b with
  | false =>
    have hn : ¬ (finF a = true ∧ finF b = true) := by
      rintro ⟨q1, q2⟩
      rw [q1, q2] at hf; cases hf
    have e : addV a b m = fadd a b := by unfold addV; rw [if_neg hn]
    rw [e, nf_fadd]; rfl
  | true =>
    have hf' : finF a = true ∧ finF b = true := by simpa using hf
    have ha : magF a < 9218868437227405312 := by simpa [finF] using hf'.1
    have hb' : magF b < 9218868437227405312 := by simpa [finF] using hf'.2
    have hsn := fadd_fin_nan ha hb'
    have hs := nf_of_not hsn
    have key : addV a b m = if magF (fadd a b) = 0 then (if magF a = 0 ∧ negF a = negF b then fadd a b else if m = 1 then 9223372036854775808 else 0)
      else if magF (fadd a b) = 9218868437227405312 then settleV (fadd a b) 0 m
      else settleV (fadd a b) (sgnV (fsub (if flt (magF a) (magF b) then a else b) (fsub (fadd a b) (if flt (magF a) (magF b) then b else a)))) m := by
      unfold addV; rw [if_pos hf']
    simp only [Bool.not_true, cF, nf_zero, feq_zero, signbit_t (fin_nan hf'.1), signbit_t (fin_nan hf'.2), Option.bind_some, none_t, isInf_t hsn, settle_t hsn, abs_t, sign_t]
    by_cases hz : magF (fadd a b) = 0
    · rw [key, if_pos hz]
      by_cases z2 : magF a = 0
      · by_cases hn : negF a = negF b
        · simp [Bool.cond_eq_ite, hz, z2, hn, hs]
        · by_cases hm : m = 1
          · subst hm; simp [Bool.cond_eq_ite, hz, z2, hn]; decide +kernel
          · simp [Bool.cond_eq_ite, hz, z2, hn, hm, nf_zero]
      · by_cases hm : m = 1
        · subst hm; simp [Bool.cond_eq_ite, hz, z2]; decide +kernel
        · simp [Bool.cond_eq_ite, hz, z2, hm, nf_zero]
    · rw [key, if_neg hz]
      by_cases hi : magF (fadd a b) = 9218868437227405312
      · simp [Bool.cond_eq_ite, hi]
      · have e1 : nf (magF a) = magF a := nf_of_not (by rw [isNaN_mag, magF_magF]; simp; omega)
        have e2 : nf (magF b) = magF b := nf_of_not (by rw [isNaN_mag, magF_magF]; simp; omega)
        rw [if_neg hi]
        simp only [hz, hi, e1, e2, decide_false, cF, Option.bind_some]
        cases hc : flt (magF a) (magF b) <;> simp

/-! ### The reference's -/

theorem rgreat_t {s : Nat} (hi : magF s = 9218868437227405312) (m : Int) : T_girderref03_great s m = some (nf (settleV s 0 m)) := by
  have hx : isNaN s = false := by rw [isNaN_mag, hi]; decide
  have hs := nf_of_not hx
  have hg : fgt s 0 = !negF s := by rw [fgt_zero]; simp [Bool.cond_eq_ite, hi]
  have hlt : flt s 0 = negF s := by rw [flt_zero]; simp [Bool.cond_eq_ite, hi]
  have em : magF (nf 9218868437227405311) = 9218868437227405311 := by decide +kernel
  unfold T_girderref03_great
  simp only [nf_zero, copysign_t hx, Option.bind_some, hg, hlt, em]
  unfold settleV
  rw [if_pos hi]
  cases hn : negF s <;> by_cases h3 : m = 3 <;> by_cases h1 : m = 1 <;> by_cases h2 : m = 2 <;> simp [Bool.cond_eq_ite, sideM, hn, h1, h2, h3, hs] <;> omega

theorem rup_t {x : Nat} (hx : isNaN x = false) : T_girderref03_up x = some (nf (stepV x true)) := by
  have hm : magF x ≤ 9218868437227405312 := by rw [isNaN_mag] at hx; simp at hx; omega
  unfold T_girderref03_up T_girderref03_further T_girderref03_nearer T_math_Float64bits T_math_Float64frombits
  rw [hx]
  simp only [cF, Option.bind_some, nf_zero, feq_zero]
  by_cases h0 : magF x = 0
  · rw [cond_t (by simp [Bool.cond_eq_ite, h0])]
    unfold stepV
    rw [if_pos h0]; rfl
  · have hg : fgt x 0 = !negF x := by rw [fgt_zero]; simp [Bool.cond_eq_ite, h0, hm]
    rw [cond_f (by simp [Bool.cond_eq_ite, h0]), hg]
    have hx0 : 0 < x := by
      rcases Nat.eq_zero_or_pos x with h | h
      · subst h; exact absurd (by decide : magF 0 = 0) h0
      · exact h
    have e1 : (IntKind.u64.wrap ((x : Int) + 1)).toNat = (x + 1) % 18446744073709551616 := by rw [← u64w (x + 1)]; rfl
    have e2 : (IntKind.u64.wrap ((x : Int) - 1)).toNat = (x + 18446744073709551615) % 18446744073709551616 := by
      have : ((x : Int) - 1) = ((x - 1 : Nat) : Int) := by omega
      rw [this, u64w]; omega
    unfold stepV
    rw [if_neg h0]
    cases negF x <;> simp [Bool.cond_eq_ite, e1, e2]

theorem rside_t {s : Nat} (hm : magF s < 9218868437227405312) (hz : magF s ≠ 0) (hl : s < 18446744073709551616) (off m : Int) : T_girderref03_side s off m = some (nf (settleV s off m)) := by
  have hx : isNaN s = false := by rw [isNaN_mag]; simp; omega
  have hs := nf_of_not hx
  have hf0 : feq s 0 = false := by rw [feq_zero]; simp [Bool.cond_eq_ite, hz]
  have hfn : isNaN (fneg s) = false := by rw [isNaN_mag, fneg_mag]; simp; omega
  have hup : isNaN (stepV (fneg s) true) = false := stepV_nan (by rw [fneg_mag]; omega) (by rw [fneg_mag]; omega) (fneg_lt hl) true
  have down : T_girderref03_down s = some (nf (stepV s false)) := by
    unfold T_girderref03_down
    simp only [Option.bind_some, nf_of_not hfn, rup_t hfn, nf_of_not hup]
    rw [step_down hm hz hl]
  have key : settleV s off m = if (off < 0 ∧ sideM s m = 1) ∨ (0 < off ∧ sideM s m = 2) then stepV s (decide (0 < off)) else s := by
    unfold settleV; rw [if_neg (by omega)]
  unfold T_girderref03_side
  simp only [signbit_t hx, Option.bind_some, nf_zero, hf0, down, rup_t hx]
  rw [key]
  by_cases h1 : off < 0
  · have h2 : ¬ 0 < off := by omega
    by_cases m1 : m = 1
    · simp [Bool.cond_eq_ite, h1, h2, m1, sideM]
    · by_cases m3 : m = 3
      · cases hn : negF s <;> simp [Bool.cond_eq_ite, h1, h2, m3, sideM, hn, hs]
      · simp [Bool.cond_eq_ite, h1, h2, m1, m3, sideM, hs]
  · by_cases h2 : 0 < off
    · by_cases m2 : m = 2
      · simp [Bool.cond_eq_ite, h1, h2, m2, sideM]
      · by_cases m3 : m = 3
        · cases hn : negF s <;> simp [Bool.cond_eq_ite, h1, h2, m3, sideM, hn, hs]
        · simp [Bool.cond_eq_ite, h1, h2, m2, m3, sideM, hs]
    · simp [Bool.cond_eq_ite, h1, h2, hs]

theorem rnought_t {z n : Bool} {b : Nat} (hb : isNaN b = false) {m : Int} : T_girderref03_nought z n b m = some (if z = true ∧ magF b = 0 ∧ n = negF b then b else if m = 1 then 9223372036854775808 else 0) := by
  have e : T_math_Copysign (nf 0) (nf 13830554455654793216) = some 9223372036854775808 := by decide +kernel
  rw [nf_zero] at e
  unfold T_girderref03_nought
  simp only [e, nf_zero, Option.bind_some, feq_zero, signbit_t hb]
  cases z
  · by_cases hm : m = 1 <;> simp [Bool.cond_eq_ite, hm]
  · by_cases h0 : magF b = 0
    · by_cases hn : n = negF b
      · simp [Bool.cond_eq_ite, h0, hn]
      · by_cases hm : m = 1 <;> simp [Bool.cond_eq_ite, h0, hn, hm]
    · by_cases hm : m = 1 <;> simp [Bool.cond_eq_ite, h0, hm]

theorem radd_t {a b : Nat} {m : Int} (hbl : b < 18446744073709551616) : T_girderref03_Add a b m = some (nf (addV a b m)) := by
  unfold T_girderref03_Add
  simp only [rfinite_t, Option.bind_some]
  have raw : ¬ (finF a = true ∧ finF b = true) → some (fadd a b) = some (nf (addV a b m)) := fun hn => by
    have e : addV a b m = fadd a b := by unfold addV; rw [if_neg hn]
    rw [e, nf_fadd]
  cases hfa : finF a with
  | false => exact raw (by rw [hfa]; simp)
  | true =>
    cases hfb : finF b with
    | false => exact raw (by rw [hfb]; simp)
    | true =>
      have hf' : finF a = true ∧ finF b = true := ⟨hfa, hfb⟩
      have ha : magF a < 9218868437227405312 := by simpa [finF] using hfa
      have hb' : magF b < 9218868437227405312 := by simpa [finF] using hfb
      have hsn := fadd_fin_nan ha hb'
      have hsl := fadd_fin_lt ha hb'
      have hs := nf_of_not hsn
      have hle : magF (fadd a b) ≤ 9218868437227405312 := by rw [isNaN_mag] at hsn; simp at hsn; omega
      have key : addV a b m = if magF (fadd a b) = 0 then (if magF a = 0 ∧ negF a = negF b then fadd a b else if m = 1 then 9223372036854775808 else 0)
        else if magF (fadd a b) = 9218868437227405312 then settleV (fadd a b) 0 m
        else settleV (fadd a b) (sgnV (fsub (if flt (magF a) (magF b) then a else b) (fsub (fadd a b) (if flt (magF a) (magF b) then b else a)))) m := by
        unfold addV; rw [if_pos hf']
      simp only [Bool.not_true, Bool.not_false, cT, cF, nf_zero, feq_zero, signbit_t (fin_nan hfa), Option.bind_some]
      cases hfs : finF (fadd a b) with
      | false =>
        have hi : magF (fadd a b) = 9218868437227405312 := by simp [Bool.cond_eq_ite, finF] at hfs; omega
        simp only [Bool.not_false, cT, rgreat_t hi, Option.bind_some]
        rw [key, if_neg (by omega), if_pos hi]
      | true =>
        have hi : magF (fadd a b) < 9218868437227405312 := by simpa [finF] using hfs
        simp only [Bool.not_true, cF]
        by_cases hz : magF (fadd a b) = 0
        · rw [cond_t (by simp [Bool.cond_eq_ite, hz]), rnought_t (fin_nan hfb), Option.bind_some, key, if_pos hz]
          by_cases h2 : magF a = 0 ∧ negF a = negF b
          · have hsum := (fadd_mag_zero ha hb').1 hz
            have hb0 : magF b = 0 := by
              rw [(sval_zero a).2 h2.1, Int.zero_add] at hsum
              exact (sval_zero b).1 hsum
            rw [if_pos h2, if_pos ⟨by simp [Bool.cond_eq_ite, h2.1], hb0, h2.2⟩, fadd_noughts h2.1 hb0 hbl h2.2, nf_of_not (fin_nan hfb)]
          · rw [if_neg h2, if_neg (fun ⟨q1, q2, q3⟩ => h2 ⟨by simpa using q1, q3⟩)]
            by_cases hm : m = 1
            · subst hm; decide +kernel
            · simp [Bool.cond_eq_ite, hm, nf_zero]
        · rw [cond_f (by simp [Bool.cond_eq_ite, hz]), key, if_neg hz, if_neg (by omega)]
          have e1 : nf (magF a) = magF a := nf_of_not (by rw [isNaN_mag, magF_magF]; simp; omega)
          have e2 : nf (magF b) = magF b := nf_of_not (by rw [isNaN_mag, magF_magF]; simp; omega)
          simp only [abs_t, e1, e2, Option.bind_some, rsign_t, rside_t hi hz hsl]
          cases hc : flt (magF a) (magF b) <;> simp [Bool.cond_eq_ite, rside_t hi hz hsl]

end Go.Eng
