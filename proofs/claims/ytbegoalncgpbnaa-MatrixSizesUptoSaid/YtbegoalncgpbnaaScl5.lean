/-
  Sums rounded up and scaling by a power of two. No condition.
-/
import Derived.Test.YtbegoalncgpbnaaScl4
import Derived.Test.YtbegoalncgpbnaaRnd
set_option linter.unusedVariables false
set_option linter.unusedSimpArgs false
set_option linter.unnecessarySimpa false
set_option linter.unusedSectionVars false
set_option maxRecDepth 100000
set_option maxHeartbeats 4000000
set_option exponentiation.threshold 5000
namespace Go.Eng

theorem near_cap (s : Bool) {w K c N : Nat} (hw : w ≠ 0) (hK : 52 ≤ K) (hc : c ≤ 1024) (hN : N + 10 ≤ 2097) (h : w * 2 ^ K < c * 2 ^ N) : vmag (magF (Ieee.double.nearest s w ((K : Int) - 1074))) ≤ c * 2 ^ N := by
  have hlo : 2 ^ w.log2 ≤ w := Nat.log2_self_le hw
  have lt : w.log2 + K < N + 10 := by
    have h1 : 2 ^ (w.log2 + K) < 2 ^ (N + 10) := by
      rw [Nat.pow_add, Nat.pow_add 2 N, Nat.mul_comm (2 ^ N)]
      refine Nat.lt_of_lt_of_le (Nat.lt_of_le_of_lt (Nat.mul_le_mul_right _ hlo) h) (Nat.mul_le_mul_right _ ?_)
      rw [show (2 : Nat) ^ 10 = 1024 by decide]; exact hc
    exact (Nat.pow_lt_pow_iff_right (by omega)).1 h1
  obtain ⟨_, _, h3, _⟩ := near_vmag s hw (e := (K : Int) - 1074) (by omega) (by omega)
  have e : ((K : Int) - 1074 + (w.log2 : Int) + 1022).toNat = K + w.log2 - 52 := by omega
  rw [e] at h3
  rw [h3]
  by_cases h52 : w.log2 ≤ 52
  · rw [kept_small h52, Nat.mul_assoc, ← Nat.pow_add, show 52 - w.log2 + (K + w.log2 - 52) = K by omega]
    exact Nat.le_of_lt h
  · have hk : keptN s w ≤ c * 2 ^ (N - (K + w.log2 - 52)) := by
      unfold keptN
      rw [show 52 - w.log2 = 0 by omega, Nat.shiftLeft_zero]
      refine cut_le hw (by omega) ?_
      refine Nat.lt_of_mul_lt_mul_right (a := 2 ^ K) ?_
      rw [Nat.mul_assoc, Nat.mul_assoc, ← Nat.pow_add, ← Nat.pow_add, show N - (K + w.log2 - 52) + (w.log2 - 52 + K) = N by omega]
      exact h
    refine Nat.le_trans (Nat.mul_le_mul_right _ hk) ?_
    rw [Nat.mul_assoc, ← Nat.pow_add, show N - (K + w.log2 - 52) + (K + w.log2 - 52) = N by omega]
    exact Nat.le_refl _

/-- A sum of two that are above nought. -/
theorem fadd_form {x y K M : Nat} (hx : Gr K M x) (hy : Gr K M y) (x0 : magF x ≠ 0) (y0 : magF y ≠ 0) (px : negF x = false) (py : negF y = false) :
    ∃ U, U ≠ 0 ∧ U * 2 ^ K = vmag (magF x) + vmag (magF y) ∧ fadd x y = Ieee.double.nearest false U ((K : Int) - 1074) := by
  obtain ⟨m, i, w, hm, hr, hw, hw0, hwM, hvx⟩ := gr_read hx x0
  obtain ⟨n, j, v, hn, hq, hv, hv0, hvM, hvy⟩ := gr_read hy y0
  rw [px] at hr
  rw [py] at hq
  have c : min (-1074 + (i : Int)) (-1074 + (j : Int)) = -1074 + ((min i j : Nat) : Int) := by omega
  have c1 : (-1074 + (i : Int) - (-1074 + ((min i j : Nat) : Int))).toNat = i - min i j := by omega
  have c2 : (-1074 + (j : Int) - (-1074 + ((min i j : Nat) : Int))).toNat = j - min i j := by omega
  have hT : (m * 2 ^ (i - min i j) + n * 2 ^ (j - min i j)) * 2 ^ min i j = (w + v) * 2 ^ K := by
    rw [Nat.add_mul, Nat.add_mul, Nat.mul_assoc, Nat.mul_assoc, ← Nat.pow_add, ← Nat.pow_add, show i - min i j + min i j = i by omega, show j - min i j + min i j = j by omega, hw, hv]
  have hT0 : m * 2 ^ (i - min i j) + n * 2 ^ (j - min i j) ≠ 0 := by
    have : 0 < m * 2 ^ (i - min i j) := Nat.mul_pos (by omega) (Nat.two_pow_pos _)
    omega
  refine ⟨w + v, by omega, by rw [Nat.add_mul, ← hw, ← hv, hvx, hvy], ?_⟩
  have e1 : fadd x y = Ieee.double.nearest false (m * 2 ^ (i - min i j) + n * 2 ^ (j - min i j)) (-1074 + ((min i j : Nat) : Int)) := by
    unfold fadd Ieee.Format.add
    rw [hr, hq]
    simp only [Ieee.Datum.sum, c, c1, c2, Option.map_some, Option.getD_some, signed_val]
    generalize hA : m * 2 ^ (i - min i j) = A
    generalize hB : n * 2 ^ (j - min i j) = B
    have hA0 : 0 < A := by rw [← hA]; exact Nat.mul_pos (by omega) (Nat.two_pow_pos _)
    show Ieee.double.nearest (if (A : Int) + (B : Int) = 0 then false && false else decide ((A : Int) + (B : Int) < 0)) ((A : Int) + (B : Int)).natAbs _ = _
    rw [if_neg (by omega), show decide ((A : Int) + (B : Int) < 0) = false by simp; omega, show ((A : Int) + (B : Int)).natAbs = A + B by omega]
  rw [e1, near_same false hT0 hT (-1074), show -1074 + (K : Int) = (K : Int) - 1074 by omega]

theorem vmag_succ {r : Nat} (h : 4503599627370496 ≤ r) : vmag (r + 1) = vmag r + 2 ^ (r / 4503599627370496 - 1) := by
  unfold vmag
  rw [if_neg (by omega), if_neg (by omega)]
  by_cases c : r % 4503599627370496 = 4503599627370495
  · rw [show (r + 1) % 4503599627370496 = 0 by omega, show (r + 1) / 4503599627370496 - 1 = (r / 4503599627370496 - 1) + 1 by omega, c, Nat.pow_succ]
    generalize 2 ^ (r / 4503599627370496 - 1) = P
    omega
  · rw [show (r + 1) % 4503599627370496 = r % 4503599627370496 + 1 by omega, show (r + 1) / 4503599627370496 - 1 = r / 4503599627370496 - 1 by omega]
    generalize 2 ^ (r / 4503599627370496 - 1) = P
    generalize r % 4503599627370496 = q
    rw [← Nat.add_assoc, Nat.add_mul, Nat.one_mul]

theorem Mg.low {a b x : Nat} (h : Mg a b x) (ha : 52 ≤ a) (h0 : magF x ≠ 0) : 4503599627370496 ≤ magF x := by
  obtain ⟨h1, _⟩ := h.mg.resolve_left h0
  by_cases c : magF x < 4503599627370496
  · unfold vmag at h1
    rw [if_pos c] at h1
    have := Nat.pow_le_pow_right (show 0 < 2 by omega) ha
    have p52 : (2 : Nat) ^ 52 = 4503599627370496 := by decide
    omega
  · omega

/-- A sum above nought: its size, from below and from above. -/
theorem fadd_size {x y K M N c : Nat} (hx : Gr K M x) (hy : Gr K M y) (px : negF x = false) (py : negF y = false) (lx : x < 18446744073709551616) (ly : y < 18446744073709551616) (hK : 52 ≤ K) (hM : M + 2 ≤ 2097) (hc : c ≤ 1024) (hN : N + 10 ≤ 2097)
    (cap : vmag (magF x) + vmag (magF y) < c * 2 ^ N) (lowx : magF x = 0 ∨ 2 ^ (K + 52) ≤ vmag (magF x)) (lowy : magF y = 0 ∨ 2 ^ (K + 52) ≤ vmag (magF y)) :
    magF (fadd x y) < 9218868437227405312 ∧ (magF (fadd x y) = 0 → magF x = 0 ∧ magF y = 0) ∧ (magF (fadd x y) ≠ 0 → negF (fadd x y) = false ∧ 2 ^ (K + 52) ≤ vmag (magF (fadd x y))) ∧ vmag (magF (fadd x y)) ≤ c * 2 ^ N := by
  by_cases x0 : magF x = 0
  · by_cases y0 : magF y = 0
    · have z : magF (fadd x y) = 0 := (fadd_mag_zero hx.fin hy.fin).2 (by rw [(sval_zero x).2 x0, (sval_zero y).2 y0]; rfl)
      exact ⟨by omega, fun _ => ⟨x0, y0⟩, fun h => absurd z h, by rw [z, vm_zero]; exact Nat.zero_le _⟩
    · rw [fadd_comm x y, fadd_nought_right hy.fin y0 ly x0]
      exact ⟨hy.fin, fun h => absurd h y0, fun _ => ⟨py, lowy.resolve_left y0⟩, by omega⟩
  · by_cases y0 : magF y = 0
    · rw [fadd_nought_right hx.fin x0 lx y0]
      exact ⟨hx.fin, fun h => absurd h x0, fun _ => ⟨px, lowx.resolve_left x0⟩, by omega⟩
    · obtain ⟨U, hU, hv, e⟩ := fadd_form hx hy x0 y0 px py
      have hlo : 2 ^ U.log2 ≤ U := Nat.log2_self_le hU
      have hhi : U < 2 ^ (U.log2 + 1) := Nat.lt_log2_self
      have hM2 : U * 2 ^ K ≤ 2 ^ (M + 1) := by
        have := hx.le
        have := hy.le
        rw [hv, Nat.pow_succ]; omega
      have l1 : U.log2 + K ≤ M + 1 := by
        have : 2 ^ (U.log2 + K) ≤ 2 ^ (M + 1) := by
          rw [Nat.pow_add]
          exact Nat.le_trans (Nat.mul_le_mul_right _ hlo) hM2
        exact (Nat.pow_le_pow_iff_right (by omega)).1 this
      have l2 : 52 ≤ U.log2 := by
        have h1 := lowx.resolve_left x0
        have h2 : 2 ^ (K + 52) < 2 ^ (U.log2 + 1 + K) := by
          rw [Nat.pow_add 2 (U.log2 + 1)]
          refine Nat.lt_of_le_of_lt ?_ (Nat.mul_lt_mul_of_pos_right hhi (Nat.two_pow_pos K))
          rw [hv]; omega
        have := (Nat.pow_lt_pow_iff_right (by omega)).1 h2
        omega
      obtain ⟨v1, v2, v3, v4⟩ := near_vmag false hU (e := (K : Int) - 1074) (by omega) (by omega)
      have ee : ((K : Int) - 1074 + (U.log2 : Int) + 1022).toNat = K + U.log2 - 52 := by omega
      rw [ee] at v3
      rw [e]
      refine ⟨v1, fun h => by omega, fun _ => ⟨v2, ?_⟩, near_cap false hU hK hc hN (by rw [hv]; exact cap)⟩
      rw [v3]
      have k1 := (kept_bounds false hU).1
      have : 2 ^ 52 * 2 ^ (K + U.log2 - 52) ≤ keptN false U * 2 ^ (K + U.log2 - 52) := Nat.mul_le_mul_right _ (by rw [show (2 : Nat) ^ 52 = 4503599627370496 by decide]; exact k1)
      rw [← Nat.pow_add] at this
      exact Nat.le_trans (Nat.pow_le_pow_right (by omega) (by omega)) this

theorem sc_flt {p : Int} {s s' b b' : Nat} (hs : Sc p s s') (hb : Sc p b b') (fs : magF s < 9218868437227405312) (fb : magF b < 9218868437227405312) : flt (magF s') (magF b') = flt (magF s) (magF b) := by
  have key : ∀ x y : Nat, x < 9218868437227405312 → y < 9218868437227405312 → flt x y = decide (x < y) := by
    intro x y hx hy
    unfold flt
    rw [order_good (by unfold goodF; omega) (by unfold goodF; omega)]
    rcases Nat.lt_trichotomy x y with h | h | h
    · rw [Nat.compare_eq_lt.2 h]; simp [h]
    · subst h; rw [Nat.compare_eq_eq.2 rfl]; simp
    · rw [Nat.compare_eq_gt.2 h]; simp; omega
  rw [key _ _ (sc_fin hs fs) (sc_fin hb fb), key _ _ fs fb]
  apply decide_eq_decide.2
  rcases hs with ⟨h1, h2⟩ | ⟨h1, h2, h3, h4, _, h6⟩
  · subst h2
    rcases hb with ⟨k1, k2⟩ | ⟨k1, k2, k3, k4, _, k6⟩
    · subst k2; exact Iff.rfl
    · omega
  · rcases hb with ⟨k1, k2⟩ | ⟨k1, k2, k3, k4, _, k6⟩
    · subst k2; omega
    · omega

theorem sc_sgn {p : Int} {x y : Nat} (h : Sc p x y) (hx : magF x < 9218868437227405312) : sgnV y = sgnV x := by
  have hy := sc_fin h hx
  unfold sgnV
  rw [fgt_zero, fgt_zero, flt_zero, flt_zero, sc_neg h, decide_eq_true (Nat.le_of_lt hx), decide_eq_true (Nat.le_of_lt hy)]
  have : decide (magF y ≠ 0) = decide (magF x ≠ 0) := decide_eq_decide.2 (not_congr (sc_zero h))
  rw [this]

/-- A sum rounded up, and the same 2^p times. -/
theorem addV_duo {p : Int} {K N c s s' b b' : Nat} (hp1 : -20 ≤ p) (hp2 : p ≤ 20) (hs : Duo p K (N + 10) s s') (hb : Duo p K (N + 10) b b') (ps : negF s = false) (pb : negF b = false) (hK : 72 ≤ K) (hN : N ≤ 2040) (hc : c + 1 ≤ 1024)
    (cap : vmag (magF s) + vmag (magF b) < c * 2 ^ N) (lows : magF s = 0 ∨ 2 ^ (K + 52) ≤ vmag (magF s)) (lowb : magF b = 0 ∨ 2 ^ (K + 52) ≤ vmag (magF b)) :
    Duo p K (N + 10) (addV s b 2) (addV s' b' 2) ∧ negF (addV s b 2) = false ∧ vmag (magF (addV s b 2)) ≤ (c + 1) * 2 ^ N ∧ (magF (addV s b 2) = 0 ∨ 2 ^ (K + 52) ≤ vmag (magF (addV s b 2))) := by
  have p10 : ∀ d, d ≤ 1024 → d * 2 ^ N ≤ 2 ^ (N + 10) := fun d hd => by
    rw [Nat.pow_add, Nat.mul_comm (2 ^ N)]
    exact Nat.mul_le_mul_right _ (by rw [show (2 : Nat) ^ 10 = 1024 by decide]; exact hd)
  have up : c * 2 ^ N ≤ (c + 1) * 2 ^ N := Nat.mul_le_mul_right _ (by omega)
  have fs := hs.gr.fin
  have fb := hb.gr.fin
  have fs' := sc_fin hs.sc fs
  have fb' := sc_fin hb.sc fb
  obtain ⟨g1, g2⟩ := sc_fadd hs.gr hb.gr hs.sc hb.sc hs.lx hb.lx hs.ly hb.ly (by omega) (by omega) (by omega) (by omega)
  obtain ⟨z1, z2, z3, z4⟩ := fadd_size hs.gr hb.gr ps pb hs.lx hb.lx (by omega) (by omega) (show c ≤ 1024 by omega) (by omega) cap lows lowb
  have lf := fadd_lt fs fb
  have lf' := fadd_lt fs' fb'
  have F : ∀ {x : Nat}, magF x < 9218868437227405312 → finF x = true := fun h => by simp [finF, h]
  have cc : finF s = true ∧ finF b = true := ⟨F fs, F fb⟩
  have cc' : finF s' = true ∧ finF b' = true := ⟨F fs', F fb'⟩
  unfold addV
  rw [if_pos cc, if_pos cc']
  by_cases f0 : magF (fadd s b) = 0
  · obtain ⟨s0, b0⟩ := z2 f0
    have es : s' = s := by
      rcases hs.sc with h | h
      · exact h.2
      · omega
    have eb : b' = b := by
      rcases hb.sc with h | h
      · exact h.2
      · omega
    have sb : magF s = 0 ∧ negF s = negF b := ⟨s0, by rw [ps, pb]⟩
    rw [es, eb, if_pos f0, if_pos sb]
    have es0 : s = 0 := by rw [neg_bound ps hs.lx, s0]
    have eb0 : b = 0 := by rw [neg_bound pb hb.lx, b0]
    have e : fadd s b = 0 := by rw [es0, eb0]; decide +kernel
    have m0 : magF 0 = 0 := by decide
    rw [e]
    refine ⟨⟨.zero m0, .inl ⟨m0, rfl⟩, by omega, by omega⟩, by decide, by rw [m0, vm_zero]; exact Nat.zero_le _, .inl m0⟩
  · have f0' : magF (fadd s' b') ≠ 0 := fun h => f0 ((sc_zero g2).1 h)
    have z1' := sc_fin g2 z1
    obtain ⟨pf, lowf⟩ := z3 f0
    have pf' : negF (fadd s' b') = false := by rw [sc_neg g2]; exact pf
    have ni : ¬ magF (fadd s b) = 9218868437227405312 := by omega
    have ni' : ¬ magF (fadd s' b') = 9218868437227405312 := by omega
    rw [if_neg f0, if_neg ni, if_neg f0', if_neg ni', sc_flt hs.sc hb.sc fs fb]
    -- the parts
    have parts : ∀ (u u' v v' : Nat), Duo p K (N + 10) u u' → Duo p K (N + 10) v v' → sgnV (fsub u' (fsub (fadd s' b') v')) = sgnV (fsub u (fsub (fadd s b) v)) := by
      intro u u' v v' hu hv
      have d1 : Duo p K (N + 14) (fsub (fadd s b) v) (fsub (fadd s' b') v') := duo_sub ⟨g1, g2, lf, lf'⟩ (hv.gr.mono (Nat.le_refl _) (by omega)) hv.sc (by omega) (by omega) (by omega) (by omega) hv.lx hv.ly
      have d2 : Duo p K (N + 16) (fsub u (fsub (fadd s b) v)) (fsub u' (fsub (fadd s' b') v')) := duo_sub (M := N + 14) ⟨hu.gr.mono (Nat.le_refl _) (by omega), hu.sc, hu.lx, hu.ly⟩ d1.gr d1.sc (by omega) (by omega) (by omega) (by omega) d1.lx d1.ly
      exact sc_sgn d2.sc d2.gr.fin
    have off : sgnV (fsub (if flt (magF s) (magF b) = true then s' else b') (fsub (fadd s' b') (if flt (magF s) (magF b) = true then b' else s'))) = sgnV (fsub (if flt (magF s) (magF b) = true then s else b) (fsub (fadd s b) (if flt (magF s) (magF b) = true then b else s))) := by
      cases flt (magF s) (magF b) with
      | true => exact parts _ _ _ _ hs hb
      | false => exact parts _ _ _ _ hb hs
    rw [off]
    generalize sgnV (fsub (if flt (magF s) (magF b) = true then s else b) (fsub (fadd s b) (if flt (magF s) (magF b) = true then b else s))) = o
    have mgf : Mg (K + 52) (N + 10) (fadd s b) := ⟨z1, .inr ⟨lowf, Nat.le_trans z4 (p10 c (by omega))⟩⟩
    have big := mgf.low (by omega) f0
    unfold settleV
    rw [if_neg ni, if_neg ni']
    have sm : ∀ x, sideM x 2 = 2 := fun x => by unfold sideM; rw [if_neg (by decide)]
    rw [sm, sm]
    by_cases ho : 0 < o
    · rw [if_pos (.inr ⟨ho, rfl⟩), if_pos (.inr ⟨ho, rfl⟩), decide_eq_true ho]
      have ef := neg_bound pf lf
      have ef' := neg_bound pf' lf'
      unfold stepV
      rw [if_neg f0, if_neg f0', pf, pf', if_pos (by decide), if_pos (by decide)]
      generalize hr : fadd s b = r at *
      generalize hr' : fadd s' b' = r' at *
      rcases g2 with g2 | ⟨q1, q2, q3, q4, q5, q6⟩
      · exact absurd g2.1 f0
      · -- how great
        have hcap : magF r ≤ 1234 * 4503599627370496 + (N - 1275) * 4503599627370496 := by
          refine vmag_le_iff.1 (Nat.le_trans (Nat.le_trans z4 (p10 c (by omega))) ?_)
          have hv : vmag (1234 * 4503599627370496 + (N - 1275) * 4503599627370496) = 4503599627370496 * 2 ^ (1233 + (N - 1275)) := by
            have e : 1234 * 4503599627370496 + (N - 1275) * 4503599627370496 = (1233 + (N - 1275)) * 4503599627370496 + 4503599627370496 := by omega
            rw [e]
            exact vmag_normal (by omega) (by omega)
          rw [hv, show (4503599627370496 : Nat) = 2 ^ 52 by decide, ← Nat.pow_add]
          exact Nat.pow_le_pow_right (by omega) (by omega)
        have hE : r / 4503599627370496 - 1 ≤ N := by
          have h1 : vmag r = (4503599627370496 + r % 4503599627370496) * 2 ^ (r / 4503599627370496 - 1) := by unfold vmag; rw [if_neg (by omega)]
          have h2 : 2 ^ 52 * 2 ^ (r / 4503599627370496 - 1) ≤ 2 ^ (N + 10) := by
            refine Nat.le_trans ?_ (Nat.le_trans z4 (p10 c (by omega)))
            rw [← ef, h1, show (2 : Nat) ^ 52 = 4503599627370496 by decide]
            exact Nat.mul_le_mul_right _ (by omega)
          rw [← Nat.pow_add] at h2
          have := (Nat.pow_le_pow_iff_right (show 1 < 2 by omega)).1 h2
          omega
        have w1 : (r + 1) % 18446744073709551616 = r + 1 := Nat.mod_eq_of_lt (by omega)
        have w2 : (r' + 1) % 18446744073709551616 = r' + 1 := Nat.mod_eq_of_lt (by omega)
        have m1 : magF (r + 1) = r + 1 := Nat.mod_eq_of_lt (by omega)
        have m2 : magF (r' + 1) = r' + 1 := Nat.mod_eq_of_lt (by omega)
        have n1 : ∀ x, x < 9218868437227405312 → negF x = false := fun x hx => by unfold negF; rw [Nat.div_eq_of_lt (by omega)]; rfl
        rw [w1, w2]
        have hv : vmag (r + 1) ≤ (c + 1) * 2 ^ N := by
          rw [vmag_succ (by omega), Nat.add_mul, Nat.one_mul]
          have := Nat.pow_le_pow_right (show 0 < 2 by omega) hE
          rw [← ef] at z4
          omega
        have hl : 2 ^ (K + 52) ≤ vmag (r + 1) := by
          have := vmag_lt (show r < r + 1 by omega)
          rw [← ef] at lowf
          omega
        have mg : Mg (K + 52) (N + 10) (r + 1) := ⟨by rw [m1]; omega, .inr (by rw [m1]; exact ⟨hl, Nat.le_trans hv (p10 _ hc)⟩)⟩
        refine ⟨⟨(mg.gr (by omega)).mono (by omega) (Nat.le_refl _), .inr ⟨by rw [m1]; omega, by rw [m1]; omega, by rw [m2]; omega, by rw [m2]; omega, by rw [n1 _ (by omega), n1 _ (by omega)], by rw [m1, m2]; omega⟩, by omega, by omega⟩, n1 _ (by omega), by rw [m1]; exact hv, .inr (by rw [m1]; exact hl)⟩
    · have no : ¬ ((o < 0 ∧ (2 : Int) = 1) ∨ (0 < o ∧ (2 : Int) = 2)) := by omega
      rw [if_neg no, if_neg no]
      exact ⟨⟨(mgf.gr (by omega)).mono (by omega) (Nat.le_refl _), g2, lf, lf'⟩, pf, Nat.le_trans z4 up, .inr lowf⟩

end Go.Eng
