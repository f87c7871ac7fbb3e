
/-
  Sums rounded up: how far above the exact sum they are. No condition.
-/
import Derived.Test.YtdephdnkkljfeaaDoorNf
import Derived.Test.YtdephdnkkljfeaaDoorWhl3
set_option linter.all false
set_option maxRecDepth 100000
set_option maxHeartbeats 400000
set_option exponentiation.threshold 70000
namespace Go.Eng
open Go
theorem vmag_le_of {r s : Nat} (h : vmag r ≤ vmag s) : r ≤ s := by
  rcases Nat.lt_or_ge s r with g | g
  · have := vmag_lt g; omega
  · exact g
theorem vmag_mono {r s : Nat} (h : r ≤ s) : vmag r ≤ vmag s := by
  rcases Nat.eq_or_lt_of_le h with g | g
  · rw [g]; exact Nat.le_refl _
  · exact Nat.le_of_lt (vmag_lt g)
theorem vmag_low {v : Nat} (h : v < 9007199254740992) : vmag v = v := by
  unfold vmag
  by_cases c : v < 4503599627370496
  · rw [if_pos c]
  · rw [if_neg c, show v / 4503599627370496 - 1 = 0 by omega, Nat.pow_zero, Nat.mul_one]; omega
theorem vmag_twice (r : Nat) : ∃ u, vmag u = 2 * vmag r := by
  by_cases c : r < 4503599627370496
  · exact ⟨2 * r, by rw [vmag_low (by omega), vmag_low (by omega)]⟩
  · refine ⟨r + 4503599627370496, ?_⟩
    have e1 : (r + 4503599627370496) / 4503599627370496 - 1 = r / 4503599627370496 - 1 + 1 := by omega
    have e2 : (r + 4503599627370496) % 4503599627370496 = r % 4503599627370496 := by omega
    unfold vmag
    rw [if_neg c, if_neg (by omega), e1, e2, Nat.pow_succ, ← Nat.mul_assoc, Nat.mul_comm]
theorem vmag_next {T : Nat} (h : 4503599627370496 ≤ T) : (vmag (T + 1) - vmag T) * 4503599627370496 ≤ vmag T := by
  have hp := Nat.two_pow_pos (T / 4503599627370496 - 1)
  by_cases c : T % 4503599627370496 = 4503599627370495
  · have e1 : (T + 1) / 4503599627370496 - 1 = T / 4503599627370496 - 1 + 1 := by omega
    have e2 : (T + 1) % 4503599627370496 = 0 := by omega
    unfold vmag
    rw [if_neg (by omega), if_neg (by omega), e1, e2, c, Nat.pow_succ]
    generalize 2 ^ (T / 4503599627370496 - 1) = P at *
    omega
  · have e1 : (T + 1) / 4503599627370496 - 1 = T / 4503599627370496 - 1 := by omega
    have e2 : (T + 1) % 4503599627370496 = T % 4503599627370496 + 1 := by omega
    unfold vmag
    rw [if_neg (by omega), if_neg (by omega), e1, e2]
    generalize 2 ^ (T / 4503599627370496 - 1) = P at *
    generalize T % 4503599627370496 = f at *
    have : (4503599627370496 + (f + 1)) * P - (4503599627370496 + f) * P = P := by
      rw [← Nat.sub_mul]
      have : 4503599627370496 + (f + 1) - (4503599627370496 + f) = 1 := by omega
      rw [this, Nat.one_mul]
    rw [this, Nat.mul_comm]
    exact Nat.mul_le_mul_right _ (by omega)
theorem sP_mono {r s : Nat} (h : r ≤ s) : sP r ≤ sP s := by
  unfold sP
  split <;> split <;> omega
theorem fsub_v {x y : Nat} (hx : magF x < 9218868437227405312) (hy : magF y < 9218868437227405312) (hl : y < 18446744073709551616) (h : sval x - sval y ≠ 0) : fsub x y = rV (sval x - sval y) (-1074) 0 := by
  have hn : sval (fneg y) = - sval y := by
    unfold sval
    rw [fneg_mag, fneg_neg]
    cases negF y <;> simp
  rw [fsub_fneg hy, fadd_v hx (by rw [fneg_mag]; exact hy) (by rw [hn]; omega), hn, Int.sub_eq_add_neg]
theorem fsub_0 {x y : Nat} (hx : magF x < 9218868437227405312) (hy : magF y < 9218868437227405312) (h : sval x = sval y) : magF (fsub x y) = 0 := by
  have hn : sval (fneg y) = - sval y := by
    unfold sval
    rw [fneg_mag, fneg_neg]
    cases negF y <;> simp
  rw [fsub_fneg hy, fadd_mag_zero hx (by rw [fneg_mag]; exact hy), hn]; omega
theorem sgn_fsub {x y : Nat} (hx : magF x < 9218868437227405312) (hy : magF y < 9218868437227405312) : sgnV (fsub x y) = if sval x = sval y then 0 else if sval x < sval y then -1 else 1 := by
  have hn : sval (fneg y) = - sval y := by
    unfold sval
    rw [fneg_mag, fneg_neg]
    cases negF y <;> simp
  obtain ⟨r, h1, h2, h3⟩ := fin_sum hx (y := fneg y) (by rw [fneg_mag]; exact hy)
  rw [hn] at h1 h3
  rw [fsub_fneg hy]
  unfold sgnV
  by_cases c : sval x = sval y
  · have r0 : r = 0 := h3.2 (by omega)
    rw [if_pos c, fgt_zero, flt_zero, h1, mag_word h2, neg_word h2, r0]; simp
  · have hr : r ≠ 0 := fun k => c (by have := h3.1 k; omega)
    rw [if_neg (show ¬ sval x + -sval y = 0 by omega)] at h1
    rw [if_neg c, fgt_zero, flt_zero, h1, mag_word h2, neg_word h2, decide_eq_true h2, decide_eq_true hr]
    by_cases g : sval x < sval y
    · rw [if_pos g, decide_eq_true (show sval x + -sval y < 0 by omega)]; rfl
    · rw [if_neg g, decide_eq_false (show ¬ sval x + -sval y < 0 by omega)]; rfl
theorem rV_ex {j k : Nat} (h0 : j ≠ 0) (hj : j < 9007199254740992) (hb : j * 2 ^ k < 2 ^ 2098) : ∃ r, rV ((j * 2 ^ k : Nat) : Int) (-1074) 0 = r ∧ r < 9218868437227405312 ∧ vmag r = j * 2 ^ k := by
  have hlog : 2 ^ (j.log2 + k) < 2 ^ 2098 := by
    rw [Nat.pow_add]
    exact Nat.lt_of_le_of_lt (Nat.mul_le_mul_right _ (Nat.log2_self_le h0)) hb
  have hlk : j.log2 + k < 2098 := (Nat.pow_lt_pow_iff_right (by omega)).1 hlog
  have ex : Ex j (-1074 + (k : Int)) := ⟨h0, hj, by omega, by omega⟩
  have e : rV ((j * 2 ^ k : Nat) : Int) (-1074) 0 = Ieee.double.nearest false j (-1074 + (k : Int)) := by
    have := rV_shift (j : Int) k (-1074) 0
    rw [← Int.natCast_mul] at this
    rw [this]
    unfold rV
    rw [decide_eq_false (by omega), Int.natAbs_natCast, rF_ex ex]
  obtain ⟨a1, a2, a3, a4, a5⟩ := near_self ex
  exact ⟨_, e, a3, by rw [a5]; congr 2; omega⟩
theorem addV_up {s b : Nat} (hs : s < 9218868437227405312) (hb : b < 9218868437227405312) : addV s b 2 = 9218868437227405312 ∨ (addV s b 2 < 9218868437227405312 ∧ vmag s + vmag b ≤ vmag (addV s b 2) ∧ (vmag (addV s b 2) - (vmag s + vmag b)) * 4503599627370496 ≤ vmag s + vmag b) := by
  have gs : goodF s := by unfold goodF; omega
  have gb : goodF b := by unfold goodF; omega
  have ms := good_mag gs
  have mb := good_mag gb
  have vs := good_sval gs
  have vb := good_sval gb
  have cc : finF s = true ∧ finF b = true := ⟨by simp [finF, ms, hs], by simp [finF, mb, hb]⟩
  have inf98 : vmag 9218868437227405312 = 2 ^ 2098 := by decide +kernel
  have bs := vmag_lt hs
  have bb := vmag_lt hb
  rw [inf98] at bs bb
  -- the greater and the lesser one
  have hflt : flt (magF s) (magF b) = decide (s < b) := by
    rw [ms, mb]
    unfold flt
    rw [order_good gs gb]
    rcases Nat.lt_trichotomy s b with c | c | c
    · rw [decide_eq_true c, Nat.compare_eq_lt.2 c]; rfl
    · subst c
      rw [decide_eq_false (Nat.lt_irrefl _), Nat.compare_eq_eq.2 rfl]; rfl
    · rw [decide_eq_false (by omega), Nat.compare_eq_gt.2 c]; rfl
  obtain ⟨g, l, hg, hl, hle, hsum, hgs, hls⟩ : ∃ g l, g < 9218868437227405312 ∧ l < 9218868437227405312 ∧ l ≤ g ∧ vmag g + vmag l = vmag s + vmag b ∧ (if flt (magF s) (magF b) = true then b else s) = g ∧ (if flt (magF s) (magF b) = true then s else b) = l := by
    rw [hflt]
    by_cases c : s < b
    · exact ⟨b, s, hb, hs, by omega, by omega, by rw [decide_eq_true c, if_pos rfl], by rw [decide_eq_true c, if_pos rfl]⟩
    · exact ⟨s, b, hs, hb, by omega, rfl, by rw [decide_eq_false c, if_neg (by simp)], by rw [decide_eq_false c, if_neg (by simp)]⟩
  have gg : goodF g := by unfold goodF; omega
  have gl : goodF l := by unfold goodF; omega
  have vg := good_sval gg
  have vl := good_sval gl
  have mg := good_mag gg
  have ml := good_mag gl
  have bg := vmag_lt hg
  rw [inf98] at bg
  have lg := vmag_mono hle
  generalize hE : vmag s + vmag b = E at *
  unfold addV
  rw [if_pos cc, hgs, hls]
  by_cases e0 : E = 0
  · have s0 : s = 0 := (vmag_zero s).1 (by omega)
    have b0 : b = 0 := (vmag_zero b).1 (by omega)
    subst s0; subst b0
    have ef : fadd 0 0 = 0 := by decide +kernel
    right
    rw [ef, if_pos (by decide), if_pos ⟨by decide, rfl⟩, e0]
    decide
  · have hf : fadd s b = rV (E : Int) (-1074) 0 := by
      rw [fadd_v (by omega) (by omega) (by rw [vs, vb]; omega), vs, vb, ← Int.natCast_add, hE]
    -- what is done with a sum that is finite
    have settle : ∀ w, fadd s b = w → w < 9218868437227405312 → w ≠ 0 → (vmag w ≤ 2 * vmag g) → vmag g ≤ vmag w → settleV w (sgnV (fsub l (fsub w g))) 2 = if vmag w < E then w + 1 else w := fun w hw hwf hw0 hw2 hwg => by
      have gw : goodF w := by unfold goodF; omega
      have mw := good_mag gw
      have vw := good_sval gw
      have nw := good_neg gw
      -- the first difference is exact
      have hD : ∃ t, fsub w g = t ∧ magF t < 9218868437227405312 ∧ t < 18446744073709551616 ∧ sval t = (vmag w : Int) - (vmag g : Int) := by
        by_cases d0 : vmag w = vmag g
        · have h1 := fsub_0 (x := w) (y := g) (by omega) (by omega) (by rw [vw, vg, d0])
          refine ⟨_, rfl, by omega, ?_, ?_⟩
          · obtain ⟨r, h2, h3, _⟩ := fin_sum (x := w) (y := fneg g) (by omega) (by rw [fneg_mag]; omega)
            rw [fsub_fneg (by omega), h2]; exact word_bound _ _ (by omega)
          · rw [(sval_zero _).2 h1]; omega
        · have hgw : g ≤ w := vmag_le_of hwg
          have hk := sP_mono hgw
          have e1 := sM_vmag w
          have e2 := sM_vmag g
          obtain ⟨d, hd⟩ : ∃ d, sP w = sP g + d := ⟨sP w - sP g, by omega⟩
          rw [hd, Nat.add_comm, Nat.pow_add, ← Nat.mul_assoc] at e1
          have hj : vmag w - vmag g = (sM w * 2 ^ d - sM g) * 2 ^ sP g := by rw [e1, e2, ← Nat.sub_mul]
          have hj2 : sM w * 2 ^ d - sM g ≤ sM g := by
            refine Nat.le_of_mul_le_mul_right ?_ (Nat.two_pow_pos (sP g))
            rw [← hj, ← e2]; omega
          have hjl := sM_lt g
          have hj0 : sM w * 2 ^ d - sM g ≠ 0 := fun k => by rw [k, Nat.zero_mul] at hj; omega
          obtain ⟨r, r1, r2, r3⟩ := rV_ex hj0 (by omega) (by rw [← hj]; omega)
          have gr : goodF r := by unfold goodF; omega
          refine ⟨r, ?_, by rw [good_mag gr]; exact r2, by omega, ?_⟩
          · rw [fsub_v (by omega) (by omega) (by omega) (by rw [vw, vg]; omega), vw, vg, ← r1, ← hj]
            congr 1; omega
          · rw [good_sval gr, r3, ← hj]; omega
      obtain ⟨t, t1, t2, t3, t4⟩ := hD
      rw [t1, sgn_fsub (by omega) t2, t4, vl]
      have sm : sideM w 2 = 2 := by unfold sideM; rw [if_neg (by decide)]
      unfold settleV
      rw [if_neg (show ¬ magF w = 9218868437227405312 by omega), sm]
      by_cases c : vmag w < E
      · rw [if_pos c, if_neg (show ¬ (vmag l : Int) = (vmag w : Int) - (vmag g : Int) by omega), if_neg (show ¬ (vmag l : Int) < (vmag w : Int) - (vmag g : Int) by omega), if_pos (.inr ⟨by decide, rfl⟩)]
        unfold stepV
        rw [if_neg (by omega), nw, if_pos (by decide), Nat.mod_eq_of_lt (by omega)]
      · rw [if_neg c]
        by_cases c2 : (vmag l : Int) = (vmag w : Int) - (vmag g : Int)
        · rw [if_pos c2, if_neg (by decide)]
        · have off : (if (vmag l : Int) = (vmag w : Int) - (vmag g : Int) then (0 : Int) else if (vmag l : Int) < (vmag w : Int) - (vmag g : Int) then -1 else 1) = -1 := by
            rw [if_neg c2, if_pos (show (vmag l : Int) < (vmag w : Int) - (vmag g : Int) by omega)]
          rw [off, if_neg (by decide)]
    have main : ∀ w, fadd s b = w → w < 9218868437227405312 → w ≠ 0 → (vmag w ≤ 2 * vmag g) → vmag g ≤ vmag w →
        (if magF (fadd s b) = 0 then (if magF s = 0 ∧ negF s = negF b then fadd s b else if (2 : Int) = 1 then 9223372036854775808 else 0) else if magF (fadd s b) = 9218868437227405312 then settleV (fadd s b) 0 2 else settleV (fadd s b) (sgnV (fsub l (fsub (fadd s b) g))) 2) = if vmag w < E then w + 1 else w := fun w hw hwf hw0 hw2 hwg => by
      have gw : goodF w := by unfold goodF; omega
      have mw := good_mag gw
      rw [hw, if_neg (by omega), if_neg (by omega)]
      exact settle w hw hwf hw0 hw2 hwg
    -- the number in its own odd form
    obtain ⟨k1, k2⟩ := tz_spec e0
    have hn0 : E / 2 ^ tzN E ≠ 0 := by omega
    have hF : rV (E : Int) (-1074) 0 = rF false (E / 2 ^ tzN E) (-1074 + (tzN E : Int)) 0 := by
      unfold rV
      rw [decide_eq_false (by omega), Int.natAbs_natCast]
      conv => lhs; rw [k1]
      exact rF_shift _ _ _ _ _
    by_cases ex : Ex (E / 2 ^ tzN E) (-1074 + (tzN E : Int))
    · obtain ⟨a1, a2, a3, a4, a5⟩ := near_self ex
      rw [← rF_ex (s := false) (m := 0) ex, ← hF, ← hf] at a1 a2 a3 a4 a5
      have hv : vmag (fadd s b) = E := by
        rw [a5]
        conv => rhs; rw [k1]
        congr 2; omega
      right
      rw [main _ rfl a3 a4 (by omega) (by omega), if_neg (by omega), hv, Nat.sub_self, Nat.zero_mul]
      exact ⟨a3, Nat.le_refl _, Nat.zero_le _⟩
    · obtain ⟨T, up, t0, _, _, _, t4, tlow, tv⟩ := between_e false k2 ex (by omega)
      have hA : E / 2 ^ tzN E * 2 ^ (-1074 + (tzN E : Int) + 65536).toNat = E * 2 ^ 64462 := by
        have e1 : (-1074 + (tzN E : Int) + 65536).toNat = tzN E + 64462 := by omega
        rw [e1, Nat.pow_add, ← Nat.mul_assoc, ← k1]
      rw [hA] at tlow
      have hTE : vmag T < E := Nat.lt_of_mul_lt_mul_right tlow
      -- T is no small one
      have hbig : 4503599627370496 ≤ T := by
        rcases Nat.lt_or_ge T 4503599627370496 with c | c
        · exfalso
          obtain ⟨P, r, c', h1, h2, h3, h4, h5, _⟩ := tv (by omega)
          rw [hA] at h4
          have e1 := vmag_low (v := T) (by omega)
          have e2 := vmag_low (v := T + 1) (by omega)
          have h6 : E * 2 ^ 64462 < vmag (T + 1) * 2 ^ 64462 := by
            rw [h4, h5]
            exact Nat.add_lt_add_left (Nat.mul_lt_mul_of_pos_right h2 h3) _
          have := Nat.lt_of_mul_lt_mul_right h6
          omega
        · exact c
      have hT0 : T ≠ 0 := by omega
      have hgT : vmag g ≤ vmag T := by
        have h1 : vmag g < vmag (T + 1) := by
          rcases Nat.lt_or_ge (T + 1) 9218868437227405312 with c | c
          · obtain ⟨P, r, c', h1, h2, h3, h4, h5, _⟩ := tv c
            rw [hA] at h4
            have h6 : E * 2 ^ 64462 < vmag (T + 1) * 2 ^ 64462 := by
              rw [h4, h5]
              exact Nat.add_lt_add_left (Nat.mul_lt_mul_of_pos_right h2 h3) _
            have := Nat.lt_of_mul_lt_mul_right h6
            omega
          · have : T + 1 = 9218868437227405312 := by omega
            rw [this, inf98]; exact bg
        have : g < T + 1 := by
          rcases Nat.lt_or_ge g (T + 1) with c | c
          · exact c
          · have := vmag_mono c; omega
        exact vmag_mono (by omega)
      have hf2 : fadd s b = if up then T + 1 else T := by
        rw [hf, hF, t4, word_good]
      rcases Nat.lt_or_ge (T + 1) 9218868437227405312 with c | c
      · obtain ⟨P, r, c', h1, h2, h3, h4, h5, _⟩ := tv c
        rw [hA] at h4
        have h6 : E * 2 ^ 64462 < vmag (T + 1) * 2 ^ 64462 := by
          rw [h4, h5]
          exact Nat.add_lt_add_left (Nat.mul_lt_mul_of_pos_right h2 h3) _
        have hEU := Nat.lt_of_mul_lt_mul_right h6
        have hnext := vmag_next hbig
        have h2g : vmag (T + 1) ≤ 2 * vmag g := by
          obtain ⟨u, hu⟩ := vmag_twice g
          rw [← hu]
          refine vmag_mono ?_
          rcases Nat.lt_or_ge T u with k | k
          · exact k
          · have := vmag_mono k
            omega
        right
        have res : (if vmag (fadd s b) < E then fadd s b + 1 else fadd s b) = T + 1 := by
          cases up with
          | false =>
            have hf3 : fadd s b = T := by simpa using hf2
            rw [hf3, if_pos hTE]
          | true =>
            have hf3 : fadd s b = T + 1 := by simpa using hf2
            rw [hf3, if_neg (by omega)]
        have hvT : vmag T < vmag (T + 1) := vmag_lt (by omega)
        rw [main _ rfl (by rw [hf2]; split <;> omega) (by rw [hf2]; split <;> omega) (by rw [hf2]; split <;> omega) (by rw [hf2]; split <;> omega), res]
        refine ⟨c, by omega, ?_⟩
        have h7 : (vmag (T + 1) - E) * 4503599627370496 ≤ (vmag (T + 1) - vmag T) * 4503599627370496 := Nat.mul_le_mul_right _ (by omega)
        exact Nat.le_trans h7 (Nat.le_trans hnext (Nat.le_of_lt hTE))
      · have hTi : T + 1 = 9218868437227405312 := by omega
        left
        cases up with
        | true =>
          rw [if_pos rfl, hTi] at hf2
          have m0 : magF 9218868437227405312 = 9218868437227405312 := by decide
          rw [hf2, m0, if_neg (by decide), if_pos rfl]
          decide +kernel
        | false =>
          rw [if_neg (by simp)] at hf2
          have h2g : vmag T ≤ 2 * vmag g := by omega
          rw [main T hf2 t0 hT0 h2g hgT, if_pos hTE, hTi]
theorem up_lin (C R Z : Nat) (h : (R - Z) * C ≤ Z) : R * C ≤ Z * (C + 1) := by
  rw [Nat.sub_mul] at h
  rw [Nat.mul_succ]
  omega
theorem up_lin2 (C D k : Nat) (h : D + k ≤ C) : (D + k) * (C + 1) ≤ (D + (k + 1)) * C := by
  rw [Nat.mul_succ, show D + (k + 1) = D + k + 1 by omega, Nat.succ_mul]
  omega
def sumZ (l : List Nat) : Nat := l.foldl (fun s p => s + vmag (magF p)) 0
theorem sumUp_near {l : List Nat} (h : ∀ p ∈ l, magF p < 9218868437227405312) (hl : l.length ≤ 1024) : sumUp l = 9218868437227405312 ∨ (sumUp l < 9218868437227405312 ∧ sumZ l ≤ vmag (sumUp l) ∧ 2251799813685248 * vmag (sumUp l) ≤ (2251799813685248 + l.length) * sumZ l) := by
  have key : ∀ (l : List Nat) (s E k : Nat), (∀ p ∈ l, magF p < 9218868437227405312) → k + l.length ≤ 1024 → s ≤ 9218868437227405312 → (s < 9218868437227405312 → E ≤ vmag s ∧ 2251799813685248 * vmag s ≤ (2251799813685248 + k) * E) →
      l.foldl (fun s p => addV s (magF p) 2) s = 9218868437227405312 ∨ (l.foldl (fun s p => addV s (magF p) 2) s < 9218868437227405312 ∧ l.foldl (fun s p => s + vmag (magF p)) E ≤ vmag (l.foldl (fun s p => addV s (magF p) 2) s) ∧ 2251799813685248 * vmag (l.foldl (fun s p => addV s (magF p) 2) s) ≤ (2251799813685248 + (k + l.length)) * l.foldl (fun s p => s + vmag (magF p)) E) := by
    intro l
    induction l with
    | nil =>
      intro s E k _ _ hs hi
      rcases Nat.eq_or_lt_of_le hs with c | c
      · exact .inl c
      · exact .inr ⟨c, hi c⟩
    | cons q l ih =>
      intro s E k h hk hs hi
      have hq := h q (List.mem_cons_self ..)
      have hr := fun p hp => h p (List.mem_cons_of_mem _ hp)
      rw [List.foldl_cons, List.foldl_cons, List.length_cons, show k + (l.length + 1) = k + 1 + l.length by omega]
      rw [List.length_cons] at hk
      refine ih _ _ (k + 1) hr (by omega) ?_ ?_
      · rcases Nat.eq_or_lt_of_le hs with c | c
        · have gs : goodF s := by unfold goodF; omega
          have := addV_good gs (b := magF q) (by rw [magF_magF]; exact hq) (sval_mag q)
          exact this
        · rcases addV_up c hq with g | g
          · omega
          · omega
      · intro hfin
        rcases Nat.eq_or_lt_of_le hs with c | c
        · exfalso
          have gs : goodF s := by unfold goodF; omega
          have f1 : finF s = false := by simp [finF, good_mag gs]; omega
          unfold addV at hfin
          rw [if_neg (by rw [f1]; simp), fadd_inf (by rw [good_mag gs]; exact c) (by rw [magF_magF]; exact hq), good_neg gs, word_good] at hfin
          omega
        · obtain ⟨i1, i2⟩ := hi c
          rcases addV_up c hq with g | ⟨g1, g2, g3⟩
          · omega
          · refine ⟨by omega, ?_⟩
            generalize vmag (addV s (magF q) 2) = R at *
            generalize vmag s = S at *
            generalize vmag (magF q) = x at *
            have hkk : k ≤ 1024 := by omega
            have a1 : R * 4503599627370496 ≤ (S + x) * 4503599627370497 := up_lin 4503599627370496 R (S + x) g3
            -- S + x against E + x
            have a2 : 2251799813685248 * (S + x) ≤ (2251799813685248 + k) * (E + x) := by
              rw [Nat.mul_add, Nat.mul_add]
              have : 2251799813685248 * x ≤ (2251799813685248 + k) * x := Nat.mul_le_mul_right _ (by omega)
              omega
            have a3 : 2251799813685248 * (R * 4503599627370496) ≤ (2251799813685248 + k) * (E + x) * 4503599627370497 := by
              have h1 : 2251799813685248 * (R * 4503599627370496) ≤ 2251799813685248 * ((S + x) * 4503599627370497) := Nat.mul_le_mul_left _ a1
              have h2 : 2251799813685248 * (S + x) * 4503599627370497 ≤ (2251799813685248 + k) * (E + x) * 4503599627370497 := Nat.mul_le_mul_right _ a2
              rw [← Nat.mul_assoc] at h1
              rw [← Nat.mul_assoc 2251799813685248 (S + x)] at h1
              rw [← Nat.mul_assoc]
              exact Nat.le_trans h1 h2
            generalize E + x = Y at *
            have a4 : (2251799813685248 + k) * Y * 4503599627370497 ≤ (2251799813685248 + (k + 1)) * Y * 4503599627370496 := by
              have : (2251799813685248 + k) * 4503599627370497 ≤ (2251799813685248 + (k + 1)) * 4503599627370496 := up_lin2 4503599627370496 2251799813685248 k (by omega)
              have := Nat.mul_le_mul_right Y this
              rw [Nat.mul_right_comm, Nat.mul_right_comm (2251799813685248 + (k + 1))]
              exact this
            refine Nat.le_of_mul_le_mul_right (c := 4503599627370496) ?_ (by decide)
            rw [Nat.mul_assoc]
            exact Nat.le_trans a3 a4
  have := key l 0 0 0 h (by omega) (by omega) (fun _ => by decide)
  rw [Nat.zero_add] at this
  exact this
end Go.Eng
