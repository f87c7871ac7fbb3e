/-
  Norms and products of matrices on the plain side, for MatrixSizes (taken out of longer texts). No condition.
-/
import Derived.Test.YtbegoalncgpbnaaPs
import Derived.Test.YtbegoalncgpbnaaPd
import Derived.Test.YtbegoalncgpbnaaScl3
import Derived.Test.YtbegoalncgpbnaaRnd
set_option linter.unusedVariables false
set_option linter.unusedSimpArgs false
set_option linter.unnecessarySimpa false
set_option linter.unusedSectionVars false
set_option maxRecDepth 100000
set_option maxHeartbeats 4000000
set_option exponentiation.threshold 3000
namespace Go.Eng
open Go

def rightB (r c : Int) (n : Nat) : Bool := decide (0 ≤ r ∧ r ≤ 48 ∧ 0 ≤ c ∧ c ≤ 48 ∧ (n : Int) = r * c)
def mayB (r c : Int) : Bool := decide (0 ≤ r ∧ r ≤ 48 ∧ 0 ≤ c ∧ c ≤ 48)
theorem fits_t (n : Int) : T_matrix_fits n = some (decide (0 ≤ n ∧ n ≤ 48)) := by
  unfold T_matrix_fits
  refine eq_cond (fun h => ?_) (fun h => ?_) <;> simp at h <;> simp <;> omega
theorem prod_le {r c : Int} (h : 0 ≤ r ∧ r ≤ 48 ∧ 0 ≤ c ∧ c ≤ 48) : 0 ≤ r * c ∧ r * c ≤ 2304 :=
  ⟨Int.mul_nonneg h.1 h.2.2.1, by have := Int.mul_le_mul h.2.1 h.2.2.2 h.2.2.1 (by omega : (0 : Int) ≤ 48); omega⟩
theorem right_t (r c : Int) (l : List Nat) : T_matrix_Right r c l = some (rightB r c l.length) := by
  unfold T_matrix_Right
  simp only [fits_t, Option.bind_some]
  refine eq_cond (fun h => eq_cond (fun h2 => ?_) (fun h2 => ?_)) (fun h => ?_)
  · simp only [decide_eq_true_eq] at h h2
    have := prod_le ⟨h.1, h.2, h2⟩
    rw [wrI (by omega) (by omega)]
    congr 1
    unfold rightB
    rw [Bool.eq_iff_iff]; simp; omega
  · simp only [decide_eq_false_iff_not] at h h2
    congr 1; unfold rightB; simp; omega
  · simp only [decide_eq_false_iff_not] at h
    congr 1; unfold rightB; simp; omega
theorem rightB_nat {r c : Int} {n : Nat} (h : rightB r c n = true) : ∃ a b : Nat, r = a ∧ c = b ∧ a ≤ 48 ∧ b ≤ 48 ∧ n = a * b ∧ a * b ≤ 2304 := by
  unfold rightB at h
  simp only [decide_eq_true_eq] at h
  obtain ⟨h1, h2, h3, h4, h5⟩ := h
  obtain ⟨a, rfl⟩ := Int.eq_ofNat_of_zero_le h1
  obtain ⟨b, rfl⟩ := Int.eq_ofNat_of_zero_le h3
  have : a * b ≤ 48 * 48 := Nat.mul_le_mul (by omega) (by omega)
  refine ⟨a, b, rfl, rfl, by omega, by omega, ?_, by omega⟩
  have : ((a * b : Nat) : Int) = (a : Int) * b := by simp
  omega
theorem mayB_nat {r c : Int} (h : mayB r c = true) : ∃ a b : Nat, r = a ∧ c = b ∧ a ≤ 48 ∧ b ≤ 48 ∧ a * b ≤ 2304 := by
  unfold mayB at h
  simp only [decide_eq_true_eq] at h
  obtain ⟨h1, h2, h3, h4⟩ := h
  obtain ⟨a, rfl⟩ := Int.eq_ofNat_of_zero_le h1
  obtain ⟨b, rfl⟩ := Int.eq_ofNat_of_zero_le h3
  have : a * b ≤ 48 * 48 := Nat.mul_le_mul (by omega) (by omega)
  exact ⟨a, b, rfl, rfl, by omega, by omega, by omega⟩
theorem mayB_mk {a b : Nat} (ha : a ≤ 48) (hb : b ≤ 48) : mayB a b = true := by unfold mayB; simp; omega
theorem rightB_mk {a b n : Nat} (ha : a ≤ 48) (hb : b ≤ 48) (hn : n = a * b) : rightB a b n = true := by
  subst hn; unfold rightB; simp; omega
def grid (r c : Nat) (g : Nat → Nat → Nat) : List Nat := (List.range (r * c)).map fun k => g (k / c) (k % c)
theorem grid_len (r c : Nat) (g : Nat → Nat → Nat) : (grid r c g).length = r * c := by simp [grid]
theorem div_idx {i j c : Nat} (hj : j < c) : (i * c + j) / c = i := by
  rw [Nat.mul_comm, Nat.mul_add_div (by omega), Nat.div_eq_of_lt hj, Nat.add_zero]
theorem mod_idx {i j c : Nat} (hj : j < c) : (i * c + j) % c = j := by
  rw [Nat.mul_comm, Nat.mul_add_mod, Nat.mod_eq_of_lt hj]
theorem grid_at {r c i j : Nat} {g : Nat → Nat → Nat} (hi : i < r) (hj : j < c) : (grid r c g).getD (i * c + j) 0 = g i j := by
  have := idxL hi hj
  simp [grid, List.getD_eq_getElem?_getD, this, div_idx hj, mod_idx hj]
theorem grid_of {r c : Nat} {g : Nat → Nat → Nat} {l : List Nat} (hl : l.length = r * c) (h : ∀ i j, i < r → j < c → l.getD (i * c + j) 0 = g i j) : l = grid r c g := by
  refine ext_getD 0 (by rw [hl, grid_len]) fun k hk => ?_
  rw [hl] at hk
  have hc : 0 < c := by rcases Nat.eq_zero_or_pos c with h | h; · subst h; simp at hk
                        · exact h
  have h1 : k / c < r := (Nat.div_lt_iff_lt_mul hc).2 hk
  have h2 : k % c < c := Nat.mod_lt _ hc
  have e : k / c * c + k % c = k := by rw [Nat.mul_comm]; exact Nat.div_add_mod k c
  have := h _ _ h1 h2
  rw [← e, this, grid_at h1 h2]
theorem grid_congr {r c : Nat} {g k : Nat → Nat → Nat} (h : ∀ i j, i < r → j < c → g i j = k i j) : grid r c g = grid r c k :=
  grid_of (grid_len ..) fun i j hi hj => by rw [grid_at hi hj, h i j hi hj]
theorem grid_self {r c : Nat} {l : List Nat} (hl : l.length = r * c) : grid r c (fun i j => l.getD (i * c + j) 0) = l := (grid_of hl fun _ _ _ _ => rfl).symm
theorem laid_t {r c : Nat} (hr : r ≤ 48) (hc : c ≤ 48) {f : Int → Int → Option Nat} {g : Nat → Nat → Nat} (hf : ∀ i j : Nat, i < r → j < c → f i j = some (g i j)) : T_matrix_laid r c f = some ((r : Int), (c : Int), grid r c g) := by
  have hrc : r * c ≤ 2304 := Nat.le_trans (Nat.mul_le_mul hr hc) (by omega)
  unfold T_matrix_laid
  rw [wrMul (by omega), mk_nat (by omega), Option.bind_some]
  have hin : ∀ i, i < r → iter (T_matrix_laid_b9 c f i) FU (((0 : Nat) : Int), filled (r * c) (nf 0) (fun k => g (k / c) (k % c)) (i * c)) = some (filled (r * c) (nf 0) (fun k => g (k / c) (k % c)) ((i + 1) * c)) := by
    intro i hi
    have hic : (i + 1) * c ≤ r * c := Nat.mul_le_mul_right _ hi
    rw [Nat.succ_mul] at hic
    refine iter_nat (fun j => (((j : Nat) : Int), filled (r * c) (nf 0) (fun k => g (k / c) (k % c)) (i * c + j))) (o := filled (r * c) (nf 0) (fun k => g (k / c) (k % c)) ((i + 1) * c)) c (by rw [FU_eq]; omega) (fun j hj => ?_) ?_
    · have hidx := idxL hi hj
      unfold T_matrix_laid_b9
      dsimp only
      rw [cond_t (by simp; omega), hf i j hi hj, Option.bind_some, wrIdx hi hj (by omega), at_getD 0 (by rw [filled_len (by omega)]; exact hidx)]
      simp only [Option.bind_some, Int.toNat_natCast]
      rw [wrU (by omega)]
      have := filled_set (z := nf 0) (G := fun k => g (k / c) (k % c)) hidx
      rw [div_idx hj, mod_idx hj] at this
      rw [this]; rfl
    · unfold T_matrix_laid_b9
      dsimp only
      rw [cond_f (by simp), Nat.succ_mul]
  rw [← filled_zero (G := fun k => g (k / c) (k % c))]
  have hout : iter (T_matrix_laid_b7 r c f) FU (((0 : Nat) : Int), filled (r * c) (nf 0) (fun k => g (k / c) (k % c)) (0 * c)) = some (filled (r * c) (nf 0) (fun k => g (k / c) (k % c)) (r * c)) := by
    refine iter_nat (fun i => (((i : Nat) : Int), filled (r * c) (nf 0) (fun k => g (k / c) (k % c)) (i * c))) (o := filled (r * c) (nf 0) (fun k => g (k / c) (k % c)) (r * c)) r (by rw [FU_eq]; omega) (fun i hi => ?_) ?_
    · unfold T_matrix_laid_b7
      dsimp only
      have h0 := hin i hi
      rw [cond_t (by simp; omega)]
      rw [show ((0 : Nat) : Int) = 0 from rfl] at h0
      rw [h0, Option.bind_some, wrU (by omega)]
    · unfold T_matrix_laid_b7
      dsimp only
      rw [cond_f (by simp)]
  rw [Nat.zero_mul, show ((0 : Nat) : Int) = 0 from rfl] at hout
  rw [hout, Option.bind_some, filled_full]
  rfl
def noMat (e : Int) : Int × Int × List Nat × Int := (0, 0, [], e)
theorem set_getD {l : List Nat} {i j x : Nat} (hi : i < l.length) : (l.set i x).getD j 0 = if j = i then x else l.getD j 0 := by
  by_cases h : j = i
  · subst h; simp [List.getD_eq_getElem?_getD, hi]
  · rw [if_neg h]; simp [List.getD_eq_getElem?_getD, List.getElem?_set_ne (Ne.symm h)]
theorem idx_inj' {a b i j c : Nat} (hb : b < c) (hj : j < c) (h : a * c + b = i * c + j) : a = i ∧ b = j := by
  have e : a = i := by rw [← div_idx (i := a) hb, h, div_idx hj]
  subst e
  exact ⟨rfl, by omega⟩
def oneF : Nat := 4607182418800017408
theorem nf_one : nf 4607182418800017408 = oneF := by decide +kernel
theorem nf_notnan {x : Nat} (h : isNaN x = false) : nf x = x := nf_of_not h
theorem signbit_t {x : Nat} (h : isNaN x = false) : T_math_Signbit x = some (negF x) := by unfold T_math_Signbit; rw [h]; rfl
theorem abs_t (x : Nat) : T_math_Abs x = some (nf (magF x)) := rfl
theorem isInf_t {x : Nat} (h : isNaN x = false) : T_math_IsInf x 0 = some (decide (magF x = 9218868437227405312)) := by
  have h1 : isNaN (magF x) = false := by
    rw [isNaN_mag] at h ⊢; rw [magF_magF]; exact h
  unfold T_math_IsInf
  have e : nf 9218868437227405311 = 9218868437227405311 := by decide +kernel
  simp only [abs_t, nf_of_not h1, Option.bind_some, beq_self_eq_true, cT, isInf_test, e]
theorem copysign_t {x y : Nat} (h : isNaN y = false) : T_math_Copysign x y = some (nf ((if negF y then 9223372036854775808 else 0) + magF x)) := by unfold T_math_Copysign; rw [h]; rfl
theorem stepV_nan {x : Nat} (hm : magF x ≤ 9218868437227405312) (hi : magF x ≠ 9218868437227405312) (hl : x < 18446744073709551616) (up : Bool) : isNaN (stepV x up) = false := by
  have hw := word_eq hl
  rw [isNaN_mag]
  unfold stepV
  by_cases h0 : magF x = 0
  · rw [if_pos h0]; cases up <;> decide
  · rw [if_neg h0]
    cases hn : negF x <;> rw [hn] at hw <;> simp only [if_true, Bool.false_eq_true, if_false] at hw <;> cases up <;> simp <;> unfold magF at * <;> omega
theorem step_t {x : Nat} (hx : isNaN x = false) (up : Bool) : T_round_step x up = some (nf (stepV x up)) := by
  have hm : magF x ≤ 9218868437227405312 := by rw [isNaN_mag] at hx; simp at hx; omega
  unfold T_round_step T_math_Float64bits T_math_Float64frombits
  rw [hx]
  simp only [cF, Option.bind_some, nf_zero, feq_zero]
  by_cases h0 : magF x = 0
  · have e : decide (magF x = 0) = true := by simp [Bool.cond_eq_ite, h0]
    rw [e, cT]
    unfold stepV
    rw [if_pos h0]
    cases up <;> rfl
  · have e : decide (magF x = 0) = false := by simp [Bool.cond_eq_ite, h0]
    have hg : fgt x 0 = !negF x := by rw [fgt_zero]; simp [Bool.cond_eq_ite, h0, hm]
    rw [e, cF, hg]
    have hx0 : 0 < x := by
      rcases Nat.eq_zero_or_pos x with h | h
      · subst h; exact absurd (by decide : magF 0 = 0) h0
      · exact h
    have e1 : (IntKind.u64.wrap ((x : Int) + 1)).toNat = (x + 1) % 18446744073709551616 := by rw [← u64w (x + 1)]; rfl
    have e2 : (IntKind.u64.wrap ((x : Int) - 1)).toNat = (x + 18446744073709551615) % 18446744073709551616 := by
      have : ((x : Int) - 1) = ((x - 1 : Nat) : Int) := by omega
      rw [this, u64w]; omega
    unfold stepV
    rw [if_neg h0]
    cases hb : up == !negF x
    · simp [Bool.cond_eq_ite, e2]
    · simp [Bool.cond_eq_ite, e1]
theorem settle_t {s : Nat} (hx : isNaN s = false) (off m : Int) : T_round_settle s off m = some (nf (settleV s off m)) := by
  have hm : magF s ≤ 9218868437227405312 := by rw [isNaN_mag] at hx; simp at hx; omega
  have hs := nf_of_not hx
  unfold T_round_settle
  have e1 : (cond (m == 3) ((T_math_Signbit s).bind fun t2 => (cond t2 (some (2 : Int)) (some 1)).bind fun t3 => some t3) (some m)) = some (sideM s m) := by
    rw [signbit_t hx]
    refine eq_cond (fun h => ?_) (fun h => ?_)
    · have h : m = 3 := by simpa using h
      cases hn : negF s <;> simp [Bool.cond_eq_ite, sideM, h, hn]
    · have h : m ≠ 3 := by simpa using h
      simp [Bool.cond_eq_ite, sideM, h]
  rw [e1]
  simp only [Option.bind_some, isInf_t hx, nf_zero, step_t hx, copysign_t hx]
  have em : magF (nf 9218868437227405311) = 9218868437227405311 := by decide +kernel
  rw [em]
  refine eq_cond (fun hb => ?_) (fun hb => ?_)
  · have hi : magF s = 9218868437227405312 := by simpa using hb
    have hg : fgt s 0 = !negF s := by rw [fgt_zero]; simp [Bool.cond_eq_ite, hi]
    have hlt : flt s 0 = negF s := by rw [flt_zero]; simp [Bool.cond_eq_ite, hi]
    rw [hg, hlt]
    unfold settleV
    rw [if_pos hi]
    cases hn : negF s <;> by_cases h1 : sideM s m = 1 <;> by_cases h2 : sideM s m = 2 <;> simp [Bool.cond_eq_ite, h1, h2, hs]
  · have hi : magF s ≠ 9218868437227405312 := by simpa using hb
    unfold settleV
    rw [if_neg hi]
    by_cases h1 : off < 0
    · have h2 : ¬ 0 < off := by omega
      by_cases h3 : sideM s m = 1 <;> by_cases h4 : sideM s m = 2 <;> simp [Bool.cond_eq_ite, h1, h2, h3, h4, hs]
    · by_cases h2 : 0 < off
      · by_cases h3 : sideM s m = 1 <;> by_cases h4 : sideM s m = 2 <;> simp [Bool.cond_eq_ite, h1, h2, h3, h4, hs]
      · simp [Bool.cond_eq_ite, h1, h2, hs]
theorem sign_t (x : Nat) : T_round_sign x = some (sgnV x) := by
  unfold T_round_sign sgnV
  simp only [Option.bind_some, nf_zero]
  cases fgt x 0 <;> cases flt x 0 <;> rfl
theorem finite2_t {a b : Nat} : T_round_finite [a, b] = some (finF a && finF b) := by
  have fin : ∀ x : Nat, isNaN x = false → finF x = !decide (magF x = 9218868437227405312) := fun x h1 => by
    rw [isNaN_mag] at h1; simp at h1; unfold finF; rw [Bool.eq_iff_iff]; simp; omega
  have nan : ∀ x : Nat, isNaN x = true → finF x = false := fun x h1 => by rw [isNaN_mag] at h1; simp at h1; simp [Bool.cond_eq_ite, finF]; omega
  have nan_t : ∀ x, T_math_IsNaN x = some (isNaN x) := fun x => by unfold T_math_IsNaN; rw [feq_self]; simp
  have body : ∀ (i : Nat) (x : Nat), [a, b][i]? = some x → T_round_finite_b2 2 [a, b] (i : Int) = some (cond (finF x) (.inl ((i + 1 : Nat) : Int)) (.inr (.inr false))) := fun i x hx => by
    have hi : i < [a, b].length := by
      rcases Nat.lt_or_ge i [a, b].length with h | h
      · exact h
      · rw [List.getElem?_eq_none h] at hx; cases hx
    have hi2 : i < 2 := by simpa using hi
    unfold T_round_finite_b2
    dsimp only
    rw [cond_t (by simp; omega), at_nat hi]
    have e : [a, b][i] = x := by rw [List.getElem?_eq_getElem hi] at hx; exact Option.some.inj hx
    rw [e, Option.bind_some, nan_t, Option.bind_some]
    cases hn : isNaN x with
    | true => rw [nan x hn]; rfl
    | false =>
      rw [isInf_t hn, fin x hn]
      simp only [Bool.not_false, cT, Option.bind_some]
      cases decide (magF x = 9218868437227405312)
      · simp only [cF, Bool.not_false, cT]
        rw [wrU (by omega)]
      · rfl
  unfold T_round_finite
  simp only [Option.bind_some]
  have b0 := body 0 a rfl
  have b1 := body 1 b rfl
  have b2 : T_round_finite_b2 2 [a, b] 2 = some (.inr (.inl ())) := rfl
  show ((iter (T_round_finite_b2 2 [a, b]) FU ((0 : Nat) : Int) : Option (Unit ⊕ Bool))).bind _ = _
  cases ha : finF a with
  | false =>
    rw [ha] at b0
    rw [iter_nat (fun i => ((i : Nat) : Int)) 0 (by rw [FU_eq]; omega) (fun i hi => by omega) b0]
    rfl
  | true =>
    rw [ha] at b0
    cases hb : finF b with
    | false =>
      rw [hb] at b1
      rw [iter_nat (fun i => ((i : Nat) : Int)) 1 (by rw [FU_eq]; omega) (fun i hi => by have : i = 0 := by omega
                                                                                         subst this; exact b0) b1]
      rfl
    | true =>
      rw [hb] at b1
      rw [iter_nat (fun i => ((i : Nat) : Int)) 2 (by rw [FU_eq]; omega) (fun i hi => by
        rcases (by omega : i = 0 ∨ i = 1) with h | h
        · subst h; exact b0
        · subst h; exact b1) b2]
      rfl
theorem none_t (m : Int) : T_round_none m = some (if m = 1 then 9223372036854775808 else 0) := by
  unfold T_round_none
  have e : T_math_Copysign (nf 0) (nf 13830554455654793216) = some 9223372036854775808 := by decide +kernel
  rw [e, nf_zero]
  by_cases h : m = 1 <;> simp [Bool.cond_eq_ite, h]
theorem fin_nan {x : Nat} (h : finF x = true) : isNaN x = false := by
  unfold finF at h; rw [isNaN_mag]; simp at h ⊢; omega
theorem add_t {a b : Nat} {m : Int} (h0 : 0 ≤ m) (h3 : m ≤ 3) : T_round_Add a b m = some (nf (addV a b m)) := by
  have hway : T_round_way m = some m := by
    unfold T_round_way
    rw [cond_t (by simp; omega), cond_f (by simp; omega)]
  unfold T_round_Add
  simp only [hway, Option.bind_some, finite2_t]
  cases hf : finF a && finF b with
  | false =>
    have hn : ¬ (finF a = true ∧ finF b = true) := by
      rintro ⟨q1, q2⟩
      rw [q1, q2] at hf; cases hf
    have e : addV a b m = fadd a b := by unfold addV; rw [if_neg hn]
    rw [e, nf_fadd]; rfl
  | true =>
    have hf' : finF a = true ∧ finF b = true := by simpa using hf
    have ha : magF a < 9218868437227405312 := by simpa [finF] using hf'.1
    have hb' : magF b < 9218868437227405312 := by simpa [finF] using hf'.2
    have hsn := fadd_fin_nan ha hb'
    have hs := nf_of_not hsn
    have key : addV a b m = if magF (fadd a b) = 0 then (if magF a = 0 ∧ negF a = negF b then fadd a b else if m = 1 then 9223372036854775808 else 0)
      else if magF (fadd a b) = 9218868437227405312 then settleV (fadd a b) 0 m
      else settleV (fadd a b) (sgnV (fsub (if flt (magF a) (magF b) then a else b) (fsub (fadd a b) (if flt (magF a) (magF b) then b else a)))) m := by
      unfold addV; rw [if_pos hf']
    simp only [Bool.not_true, cF, nf_zero, feq_zero, signbit_t (fin_nan hf'.1), signbit_t (fin_nan hf'.2), Option.bind_some, none_t, isInf_t hsn, settle_t hsn, abs_t, sign_t]
    by_cases hz : magF (fadd a b) = 0
    · rw [key, if_pos hz]
      by_cases z2 : magF a = 0
      · by_cases hn : negF a = negF b
        · simp [Bool.cond_eq_ite, hz, z2, hn, hs]
        · by_cases hm : m = 1
          · subst hm; simp [Bool.cond_eq_ite, hz, z2, hn]; decide +kernel
          · simp [Bool.cond_eq_ite, hz, z2, hn, hm, nf_zero]
      · by_cases hm : m = 1
        · subst hm; simp [Bool.cond_eq_ite, hz, z2]; decide +kernel
        · simp [Bool.cond_eq_ite, hz, z2, hm, nf_zero]
    · rw [key, if_neg hz]
      by_cases hi : magF (fadd a b) = 9218868437227405312
      · simp [Bool.cond_eq_ite, hi]
      · have e1 : nf (magF a) = magF a := nf_of_not (by rw [isNaN_mag, magF_magF]; simp; omega)
        have e2 : nf (magF b) = magF b := nf_of_not (by rw [isNaN_mag, magF_magF]; simp; omega)
        rw [if_neg hi]
        simp only [hz, hi, e1, e2, decide_false, cF, Option.bind_some]
        cases hc : flt (magF a) (magF b) <;> simp
theorem sumUp_snoc (l : List Nat) (x : Nat) : sumUp (l ++ [x]) = addV (sumUp l) (magF x) 2 := by simp [sumUp, List.foldl_append]
theorem take_snoc {l : List Nat} {k j : Nat} (h : k + j < l.length) : (l.drop k).take (j + 1) = (l.drop k).take j ++ [l.getD (k + j) 0] := by
  rw [List.take_add_one]
  simp [h, List.getD_eq_getElem?_getD]
theorem fmx_good {a b : Nat} (ha : goodF a) (hb : goodF b) : fmx true a b = max a b := by
  unfold fmx
  rw [order_good ha hb]
  rcases Nat.lt_trichotomy a b with h | h | h
  · rw [Nat.compare_eq_lt.2 h]; simp; omega
  · subst h; rw [Nat.compare_eq_eq.2 rfl]; cases (Ieee.double.read a).neg <;> simp
  · rw [Nat.compare_eq_gt.2 h]; simp; omega
theorem fgt_good {a b : Nat} (ha : goodF a) (hb : goodF b) : fgt a b = decide (b < a) := by
  unfold fgt
  rw [order_good ha hb, Bool.eq_iff_iff]
  rcases Nat.lt_trichotomy a b with h | h | h
  · rw [Nat.compare_eq_lt.2 h]; simp; omega
  · subst h; rw [Nat.compare_eq_eq.2 rfl]; simp
  · rw [Nat.compare_eq_gt.2 h]; simp [h]
theorem norm1_t (x : Nat) : T_matrix_Norm_1 x = some (!finF x) := by
  unfold T_matrix_Norm_1 finF
  simp only [Option.bind_some, nf_zero, finite_sub]
theorem contains_t {l : List Nat} {f : Nat → Option Bool} {p : Nat → Bool} (hf : ∀ x, f x = some (p x)) (hl : l.length ≤ 4294967296) : T_slices_ContainsFunc___float64_float64 l f = some (l.any p) := by
  unfold T_slices_ContainsFunc___float64_float64 T_slices_IndexFunc___float64_float64
  simp only [Option.bind_some]
  have step : ∀ i, i < l.length → p (l.getD i 0) = false → T_slices_IndexFunc___float64_float64_b2 ((l.length : Nat) : Int) l f ((i : Nat) : Int) = some (.inl ((i + 1 : Nat) : Int)) := by
    intro i hi he
    unfold T_slices_IndexFunc___float64_float64_b2
    simp only [at_getD 0 hi, hf, he, Option.bind_some, cF]
    rw [cond_t (by simp; omega), wrU (by omega)]
  rcases first_mark (fun i => p (l.getD i 0)) l.length with hall | ⟨i, hi, hp, hbef⟩
  · have := iter_nat (b := T_slices_IndexFunc___float64_float64_b2 ((l.length : Nat) : Int) l f) (fun i => ((i : Nat) : Int)) (o := .inl ()) l.length (by rw [FU_eq]; omega) (fun i hi => step i hi (hall i hi)) (by
      unfold T_slices_IndexFunc___float64_float64_b2
      dsimp only
      rw [cond_f (by simp)])
    rw [show ((0 : Nat) : Int) = 0 from rfl] at this
    rw [this]
    have e : l.any p = false := by
      rw [List.any_eq_false]
      intro x hx
      obtain ⟨i, hi, rfl⟩ := List.getElem_of_mem hx
      have := hall i hi
      simp only [List.getD_eq_getElem?_getD, List.getElem?_eq_getElem hi] at this
      simpa using this
    rw [e]; rfl
  · have := iter_nat (b := T_slices_IndexFunc___float64_float64_b2 ((l.length : Nat) : Int) l f) (fun i => ((i : Nat) : Int)) (o := .inr ((i : Nat) : Int)) i (by rw [FU_eq]; omega) (fun j hj => step j (by omega) (hbef j hj)) (by
      unfold T_slices_IndexFunc___float64_float64_b2
      simp only [at_getD 0 hi, hf, hp, Option.bind_some, cT]
      rw [cond_t (by simp; omega)])
    rw [show ((0 : Nat) : Int) = 0 from rfl] at this
    rw [this]
    have e : l.any p = true := by
      rw [List.any_eq_true]
      refine ⟨l[i], List.getElem_mem hi, ?_⟩
      simpa [List.getD_eq_getElem?_getD, List.getElem?_eq_getElem hi] using hp
    rw [e]
    simp
theorem fin_mem {l : List Nat} (h : l.any (fun x => !finF x) = false) {p : Nat} (hp : p ∈ l) : magF p < 9218868437227405312 := by
  have := List.any_eq_false.1 h p hp
  simpa [finF] using this
theorem vnorm_t {l : List Nat} (h : ∀ p ∈ l, magF p < 9218868437227405312) (hl : l.length ≤ 4294967296) : T_vector_Norm l = some (sumUp l) := by
  unfold T_vector_Norm
  simp only [Option.bind_some]
  have good : ∀ i, goodF (sumUp (l.take i)) := fun i => sumUp_good fun p hp => h p (List.mem_of_mem_take hp)
  have := iter_nat (b := T_vector_Norm_b2 ((l.length : Nat) : Int) l) (fun i => (sumUp (l.take i), ((i : Nat) : Int))) (o := sumUp l) l.length (by rw [FU_eq]; omega) (fun i hi => by
    have hm : magF (l.getD i 0) < 9218868437227405312 := h _ (by rw [List.getD_eq_getElem?_getD, List.getElem?_eq_getElem hi]; exact List.getElem_mem hi)
    have e1 : nf (magF (l.getD i 0)) = magF (l.getD i 0) := nf_of_not (by rw [isNaN_mag, magF_magF]; exact decide_eq_false (by omega))
    have e2 : sumUp (l.take (i + 1)) = addV (sumUp (l.take i)) (magF (l.getD i 0)) 2 := by
      have := take_snoc (l := l) (k := 0) (j := i) (by omega)
      simp only [List.drop_zero, Nat.zero_add] at this
      rw [this, sumUp_snoc]
    unfold T_vector_Norm_b2
    dsimp only
    rw [cond_t (by simp; omega), at_getD 0 hi]
    simp only [Option.bind_some, abs_t, e1, add_t (m := 2) (by decide) (by decide)]
    rw [← e2, nf_of_not (good_nan (good (i + 1))), wrU (by omega)]) (by
    unfold T_vector_Norm_b2
    dsimp only
    rw [cond_f (by simp), List.take_length])
  simp only [List.take_zero, show ((0 : Nat) : Int) = 0 from rfl] at this
  rw [nf_zero]
  rw [show sumUp [] = 0 from rfl] at this
  rw [this]; rfl
def rowS (l : List Nat) (c i : Nat) : Nat := sumUp ((l.drop (i * c)).take c)
def mostS (l : List Nat) (c : Nat) : Nat → Nat
  | 0 => 0
  | n + 1 => max (mostS l c n) (rowS l c n)
theorem rowS_good {l : List Nat} (h : ∀ p ∈ l, magF p < 9218868437227405312) (c i : Nat) : goodF (rowS l c i) := sumUp_good fun p hp => h p (List.mem_of_mem_drop (List.mem_of_mem_take hp))
theorem mostS_good {l : List Nat} (h : ∀ p ∈ l, magF p < 9218868437227405312) (c : Nat) : ∀ n, goodF (mostS l c n)
  | 0 => by unfold mostS goodF; omega
  | n + 1 => by
    have h1 := mostS_good h c n
    have h2 := rowS_good h c n
    show max (mostS l c n) (rowS l c n) ≤ 9218868437227405312
    unfold goodF at h1 h2
    omega
def normV (r c : Int) (l : List Nat) : Nat × Int := if rightB r c l.length then (if l.any (fun x => !finF x) then (0, 5) else (mostS l c.toNat r.toNat, 0)) else (0, 4)
theorem mnorm_t (r c : Int) (l : List Nat) : T_matrix_Norm r c l = some (normV r c l) := by
  unfold T_matrix_Norm normV
  rw [right_t, Option.bind_some]
  cases hR : rightB r c l.length with
  | false => simp [nf_zero]
  | true =>
    obtain ⟨a, b, rfl, rfl, ha, hb, hl, h2⟩ := rightB_nat hR
    rw [Bool.not_true, cF, contains_t (p := fun x => !finF x) (fun x => norm1_t x) (by omega), Option.bind_some]
    cases hf : l.any (fun x => !finF x) with
    | true => simp [nf_zero]
    | false =>
      have fin : ∀ p ∈ l, magF p < 9218868437227405312 := fun p hp => fin_mem hf hp
      simp only [cF, if_true, Int.toNat_natCast]
      have := iter_nat (b := T_matrix_Norm_b2 a l b) (fun i => (mostS l b i, ((i : Nat) : Int))) (o := mostS l b a) a (by rw [FU_eq]; omega) (fun i hi => by
        have h3 : (i + 1) * b ≤ a * b := Nat.mul_le_mul_right _ hi
        have h4 : i * b ≤ (i + 1) * b := Nat.mul_le_mul_right _ (by omega)
        unfold T_matrix_Norm_b2
        dsimp only
        rw [cond_t (by simp; omega), wrMul (by omega), wrU (by omega), wrMul (by omega), sub_nat h4 (by omega), Option.bind_some]
        have e : (i + 1) * b - i * b = b := by rw [Nat.succ_mul]; omega
        rw [e, vnorm_t (fun p hp => fin p (List.mem_of_mem_drop (List.mem_of_mem_take hp))) (by simp; omega)]
        simp only [Option.bind_some]
        show some (Sum.inl (fmx true (mostS l b i) (rowS l b i), _)) = _
        rw [fmx_good (mostS_good fin b i) (rowS_good fin b i)]
        rfl) (by
        unfold T_matrix_Norm_b2
        dsimp only
        rw [cond_f (by simp)])
      have this : iter (T_matrix_Norm_b2 a l b) FU (0, 0) = some (mostS l b a) := this
      rw [nf_zero, this]
      rfl
def mulG (l m : List Nat) (d b : Nat) (i j : Nat) : Nat := dotN (fun k => l.getD (i * d + k) 0) (fun k => m.getD (k * b + j) 0) d
theorem mul1_t {a d b : Nat} (ha : a ≤ 48) (hd : d ≤ 48) (hb : b ≤ 48) {l m : List Nat} (hl : l.length = a * d) (hm : m.length = d * b) {r : Int} {i j : Nat} (hi : i < a) (hj : j < b) :
    T_matrix_Mul_1 i j r d l (d : Int) b m = some (mulG l m d b i j) := by
  have h1 : a * d ≤ 2304 := Nat.le_trans (Nat.mul_le_mul ha hd) (by omega)
  have h2 : d * b ≤ 2304 := Nat.le_trans (Nat.mul_le_mul hd hb) (by omega)
  unfold T_matrix_Mul_1
  have := iter_nat (b := T_matrix_Mul_1_b2 d l i m b j) (fun k => (dotN (fun k => l.getD (i * d + k) 0) (fun k => m.getD (k * b + j) 0) k, ((k : Nat) : Int))) (o := mulG l m d b i j) d (by rw [FU_eq]; omega) (fun k hk => by
    have e1 := idxL hi hk
    have e2 := idxL hk hj
    unfold T_matrix_Mul_1_b2
    dsimp only
    rw [cond_t (by simp; omega), wrIdx hi hk (by omega), at_getD 0 (by omega), Option.bind_some, wrIdx hk hj (by omega), at_getD 0 (by omega)]
    simp only [Option.bind_some]
    rw [wrU (by omega)]
    rfl) (by
    unfold T_matrix_Mul_1_b2
    dsimp only
    rw [cond_f (by simp)]
    rfl)
  rw [nf_zero]
  rw [show dotN (fun k => l.getD (i * d + k) 0) (fun k => m.getD (k * b + j) 0) 0 = 0 from rfl, show ((0 : Nat) : Int) = 0 from rfl] at this
  rw [this]; rfl
theorem mul_t {a d b : Nat} (ha : a ≤ 48) (hd : d ≤ 48) (hb : b ≤ 48) {l m : List Nat} (hl : l.length = a * d) (hm : m.length = d * b) :
    T_matrix_Mul a d l d b m = some ((a : Int), (b : Int), grid a b (mulG l m d b), 0) := by
  unfold T_matrix_Mul
  simp only [right_t, Option.bind_some, rightB_mk ha hd hl, rightB_mk hd hb hm, Bool.not_true, Bool.not_false, cT, bne_self_eq_false, cF]
  rw [laid_t ha hb (g := mulG l m d b) (fun i j hi hj => mul1_t ha hd hb hl hm hi hj)]
  rfl
theorem apply_t {a d : Nat} (ha : a ≤ 48) (hd : d ≤ 48) {l x : List Nat} (hl : l.length = a * d) (hx : x.length = d) :
    T_matrix_Apply a d l x = some ((List.range a).map fun i => dotN (fun k => l.getD (i * d + k) 0) (fun k => x.getD k 0) d, 0) := by
  unfold T_matrix_Apply
  have e1 : ((x.length : Nat) : Int) = (d : Int) := by rw [hx]
  simp only [Option.bind_some, e1]
  have := mul_t ha hd (show 1 ≤ 48 by omega) hl (m := x) (by omega)
  rw [show ((1 : Nat) : Int) = 1 from rfl] at this
  rw [this]
  simp only [Option.bind_some]
  have e : grid a 1 (mulG l x d 1) = (List.range a).map fun i => dotN (fun k => l.getD (i * d + k) 0) (fun k => x.getD k 0) d := by
    unfold grid mulG
    rw [Nat.mul_one]
    apply List.map_congr_left
    intro i _
    rw [Nat.div_one, Nat.mod_one]
    exact dotN_congr fun k _ => by simp
  rw [e]
def pk (q : Int) : Nat := (q % 7).toNat
theorem pk_le (q : Int) : pk q ≤ 6 := by unfold pk; omega
theorem pick7_t (q : Int) : T_girderkit_Pick q 7 = some (pk q : Int) := by
  unfold T_girderkit_Pick
  rw [cond_f (by decide), show nz 7 = some () from rfl, Option.bind_some]
  have h1 : q.tmod 7 = q % 7 ∨ q.tmod 7 = q % 7 - 7 := by
    rcases Int.le_total 0 q with h | h
    · left; exact Int.tmod_eq_emod_of_nonneg h
    · have e := Int.tmod_eq_emod (a := q) (b := 7)
      split at e
      · left; omega
      · right; simp at e; omega
  have h2 : -7 < q.tmod 7 := by have := Int.lt_tmod_of_pos q (show (0 : Int) < 7 by omega); omega
  have h0 : 0 ≤ q % 7 := Int.emod_nonneg _ (by omega)
  have h7 : q % 7 < 7 := Int.emod_lt_of_pos _ (by omega)
  have e : (pk q : Int) = q % 7 := by unfold pk; omega
  rw [e]
  have key : (cond (decide (q.tmod 7 < 0)) (some (IntKind.i64.wrap (q.tmod 7 + 7))) (some (q.tmod 7))) = some (q % 7) := by
    refine eq_cond (fun h => ?_) (fun h => ?_)
    · have h : q.tmod 7 < 0 := by simpa using h
      rw [wrI (by omega) (by omega)]; congr 1; omega
    · have h : ¬ q.tmod 7 < 0 := by simpa using h
      congr 1; omega
  rw [key]; rfl
def layV (l : List Nat) (whole : Bool) (k : Nat) : Option Nat :=
  let x := if l.length = 0 then oneF else l.getD (k % l.length) 0
  if whole then
    let y := if (fgt x 13875379345695965184 || feq x 13875379345695965184) && (flt x 4652007308841189376 || feq x 4652007308841189376) then x else 4613937818241073152
    (f2i y .i64).map fun n => nf (FloatKind.f64.nearest n)
  else some x
theorem laidLaw_t {q0 q1 : Int} {l : List Nat} {wh : Bool} {G : Nat → Nat} (hl : l.length ≤ 4294967296) (hG : ∀ k, k < pk q0 * pk q1 → layV l wh k = some (G k)) :
    T_girderlaw10_laid q0 q1 l wh = some ((pk q0 : Int), (pk q1 : Int), (List.range (pk q0 * pk q1)).map G) := by
  have h1 := pk_le q0
  have h2 := pk_le q1
  have h3 : pk q0 * pk q1 ≤ 36 := Nat.le_trans (Nat.mul_le_mul h1 h2) (by omega)
  unfold T_girderlaw10_laid T_girderlaw10_of
  simp only [pick7_t, Option.bind_some]
  have := iter_nat (b := T_girderlaw10_laid_b2 (pk q0) (pk q1) l wh) (fun k => (((k : Nat) : Int), (List.range k).map G)) (o := (List.range (pk q0 * pk q1)).map G) (pk q0 * pk q1) (by rw [FU_eq]; omega) (fun k hk => by
    have hg := hG k hk
    have e0 : nf 13875379345695965184 = 13875379345695965184 := by decide +kernel
    have e1 : nf 4652007308841189376 = 4652007308841189376 := by decide +kernel
    have e2 : nf 4613937818241073152 = 4613937818241073152 := by decide +kernel
    unfold T_girderlaw10_laid_b2
    simp only [Option.bind_some]
    rw [cond_t (by rw [wrMul (by omega)]; simp; omega)]
    have hx : (cond (decide (((l.length : Nat) : Int) > 0)) ((nz ((l.length : Nat) : Int)).bind fun _ => (atI l ((k : Int).tmod ((l.length : Nat) : Int))).bind fun t12 => some t12) (some (nf 4607182418800017408))) = some (if l.length = 0 then oneF else l.getD (k % l.length) 0) := by
      refine eq_cond (fun h => ?_) (fun h => ?_)
      · have h : 0 < l.length := by simp at h; omega
        have hz : nz ((l.length : Nat) : Int) = some () := by unfold nz; rw [if_pos (by omega)]
        have hm : k % l.length < l.length := Nat.mod_lt _ h
        have e : ((k : Int).tmod ((l.length : Nat) : Int)) = ((k % l.length : Nat) : Int) := by
          rw [Int.tmod_eq_emod_of_nonneg (by omega)]; simp
        rw [hz, Option.bind_some, e, at_getD 0 hm, if_neg (by omega)]; rfl
      · have h : l.length = 0 := by simp at h; simp [h]
        rw [if_pos h, nf_one]
    rw [hx, Option.bind_some]
    have app : ∀ v, v = G k → ((some [v]).bind fun t19 => (appL ((List.range k).map G) t19).bind fun t20 => some (Sum.inl (α := Int × List Nat) (β := List Nat) (IntKind.i64.wrap ((k : Int) + 1), t20))) = some (.inl (((k + 1 : Nat) : Int), (List.range (k + 1)).map G)) := fun v hv => by
      subst hv
      rw [Option.bind_some, app_le (by simp; omega), Option.bind_some, map_range_snoc, wrU (by omega)]
    simp only [Option.bind_some] at app
    unfold layV at hg
    cases wh with
    | false =>
      simp only [Bool.false_eq_true, if_false, Option.some.injEq] at hg
      simp only [cF, Option.bind_some, app _ hg]
    | true =>
      simp only [if_true, e0, e1, e2, cT, Option.bind_some] at hg ⊢
      generalize (if l.length = 0 then oneF else l.getD (k % l.length) 0) = x at *
      cases h1 : (fgt x 13875379345695965184 || feq x 13875379345695965184)
      · rw [h1] at hg
        simp only [Bool.false_and, Bool.false_eq_true, if_false] at hg
        obtain ⟨n, hn, hg⟩ := Option.map_eq_some_iff.1 hg
        simp only [cF, hn, Option.bind_some, app _ hg]
      · rw [h1] at hg
        simp only [Bool.true_and] at hg
        cases h2 : (flt x 4652007308841189376 || feq x 4652007308841189376)
        · rw [h2] at hg
          simp only [Bool.false_eq_true, if_false] at hg
          obtain ⟨n, hn, hg⟩ := Option.map_eq_some_iff.1 hg
          simp only [cT, Bool.not_false, hn, Option.bind_some, app _ hg]
        · rw [h2] at hg
          simp only [if_true] at hg
          obtain ⟨n, hn, hg⟩ := Option.map_eq_some_iff.1 hg
          simp only [cT, Bool.not_true, cF, hn, Option.bind_some, app _ hg]) (by
    unfold T_girderlaw10_laid_b2
    dsimp only
    rw [cond_f (by rw [wrMul (by omega)]; simp)])
  simp only [List.range_zero, List.map_nil, show ((0 : Nat) : Int) = 0 from rfl] at this ⊢
  rw [this]; rfl
theorem awake10 : T_girderlaw10_awake = some true := by decide +kernel
def layL (l : List Nat) (k : Nat) : Nat := if l.length = 0 then oneF else l.getD (k % l.length) 0
theorem layV_f (l : List Nat) (k : Nat) : layV l false k = some (layL l k) := rfl
theorem cutz_le (s : Bool) (n d : Nat) : Ieee.Toward.zero.cut s n d * 2 ^ d ≤ n := by
  unfold Ieee.Toward.cut
  dsimp only
  have : (Ieee.Toward.zero.cut s n d) = (Ieee.Toward.zero.cut s n d) := rfl
  rcases Nat.le_total d (n.log2 + 2) with h | h
  · rw [Nat.min_eq_left h, Nat.shiftLeft_eq, Nat.one_mul]
    have := Nat.div_mul_le_self n (2 ^ d)
    simpa using this
  · rw [Nat.min_eq_right h, Nat.shiftLeft_eq, Nat.one_mul]
    have hlt : n < 2 ^ (n.log2 + 2) := Nat.lt_trans Nat.lt_log2_self (Nat.pow_lt_pow_right (by omega) (by omega))
    rw [Nat.div_eq_of_lt hlt]
    simp
theorem f2i_small {x : Nat} {B : Nat} (hx : magF x < 9218868437227405312) (h : vmag (magF x) ≤ B * 2 ^ 1074) (hB : B < 9007199254740992) : ∃ z : Int, f2i x .i64 = some z ∧ z.natAbs ≤ B := by
  obtain ⟨m, a, hr, hm⟩ := read_fin hx
  generalize hn : Ieee.Toward.zero.cut (negF x) (m <<< (-1074 + (a : Int)).toNat) (-(-1074 + (a : Int))).toNat = n
  have hb : n ≤ B := by
    have hp : 0 < (2 : Nat) ^ 1074 := Nat.two_pow_pos 1074
    have hc := cutz_le (negF x) (m <<< (-1074 + (a : Int)).toNat) (-(-1074 + (a : Int))).toNat
    rw [hn, Nat.shiftLeft_eq] at hc
    have key : n * 2 ^ 1074 ≤ m * 2 ^ a := by
      rcases Nat.le_total a 1074 with k | k
      · rw [show (-1074 + (a : Int)).toNat = 0 by omega, show (-(-1074 + (a : Int))).toNat = 1074 - a by omega, Nat.pow_zero, Nat.mul_one] at hc
        have := Nat.mul_le_mul_right (2 ^ a) hc
        rwa [Nat.mul_assoc, ← Nat.pow_add, show 1074 - a + a = 1074 by omega] at this
      · rw [show (-1074 + (a : Int)).toNat = a - 1074 by omega, show (-(-1074 + (a : Int))).toNat = 0 by omega, Nat.pow_zero, Nat.mul_one] at hc
        have := Nat.mul_le_mul_right (2 ^ 1074) hc
        rwa [Nat.mul_assoc, ← Nat.pow_add, show a - 1074 + 1074 = a by omega] at this
    rw [hm] at key
    exact Nat.le_of_mul_le_mul_right (Nat.le_trans key h) hp
  have ht : (Ieee.double.read x).toInt .zero = some (Ieee.signed (negF x) n 0) := by
    rw [hr, ← hn]; rfl
  have hz : (Ieee.signed (negF x) n 0).natAbs = n := by rw [signed_val]; cases negF x <;> simp
  refine ⟨Ieee.signed (negF x) n 0, ?_, by omega⟩
  unfold f2i
  rw [ht]
  have : IntKind.min .i64 ≤ Ieee.signed (negF x) n 0 ∧ Ieee.signed (negF x) n 0 ≤ IntKind.max .i64 := by
    simp [IntKind.min, IntKind.max, IntKind.signed, IntKind.bits]
    omega
  exact if_pos this
def layZ (l : List Nat) (k : Nat) : Int :=
  (f2i (if (fgt (layL l k) 13875379345695965184 || feq (layL l k) 13875379345695965184) && (flt (layL l k) 4652007308841189376 || feq (layL l k) 4652007308841189376) then layL l k else 4613937818241073152) .i64).getD 0
theorem layZ_t (l : List Nat) (k : Nat) : layV l true k = some (whl (layZ l k)) ∧ (layZ l k).natAbs ≤ 1000 := by
  have e : layV l true k = (f2i (if (fgt (layL l k) 13875379345695965184 || feq (layL l k) 13875379345695965184) && (flt (layL l k) 4652007308841189376 || feq (layL l k) 4652007308841189376) then layL l k else 4613937818241073152) .i64).map fun n => nf (FloatKind.f64.nearest n) := rfl
  have key : ∃ z : Int, f2i (if (fgt (layL l k) 13875379345695965184 || feq (layL l k) 13875379345695965184) && (flt (layL l k) 4652007308841189376 || feq (layL l k) 4652007308841189376) then layL l k else 4613937818241073152) .i64 = some z ∧ z.natAbs ≤ 1000 := by
    generalize layL l k = x
    by_cases h : ((fgt x 13875379345695965184 || feq x 13875379345695965184) && (flt x 4652007308841189376 || feq x 4652007308841189376)) = true
    · rw [if_pos h]
      obtain ⟨h1, h2⟩ := Bool.and_eq_true_iff.1 h
      have s1 : sval 13875379345695965184 = -(1000 * ((2 ^ 1074 : Nat) : Int)) := by decide +kernel
      have s2 : sval 4652007308841189376 = 1000 * ((2 ^ 1074 : Nat) : Int) := by decide +kernel
      have k1 := fge_some (by decide +kernel) h1
      have k2 := fle_some (by decide +kernel) h2
      rw [s1] at k1
      rw [s2] at k2
      rcases k1 with ⟨a1, a2⟩ | ⟨a1, a2⟩
      · rcases k2 with ⟨b1, b2⟩ | ⟨b1, b2⟩
        · refine f2i_small a1 ?_ (by decide)
          have e : vmag (magF x) = (sval x).natAbs := by unfold sval; split <;> simp
          rw [e]
          generalize (2 : Nat) ^ 1074 = K at *
          omega
        · omega
      · rcases k2 with ⟨b1, b2⟩ | ⟨b1, b2⟩
        · omega
        · rw [a2] at b2; cases b2
    · rw [if_neg h]
      exact ⟨3, by decide +kernel, by decide⟩
  obtain ⟨z, h1, h2⟩ := key
  have ez : layZ l k = z := by unfold layZ; rw [h1]; rfl
  rw [e, h1, ez]
  refine ⟨?_, h2⟩
  rw [Option.map_some, nf_whl (by omega)]

end Go.Eng
