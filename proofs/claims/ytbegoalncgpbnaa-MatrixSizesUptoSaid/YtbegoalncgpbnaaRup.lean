/-
  Sums rounded up are not below their parts; of whole numbers they are exact. No condition.
-/
import Derived.Test.YtbegoalncgpbnaaScl5
import Derived.Test.YtbegoalncgpbnaaWhl3
set_option linter.unusedVariables false
set_option linter.unusedSimpArgs false
set_option linter.unnecessarySimpa false
set_option linter.unusedSectionVars false
set_option maxRecDepth 100000
set_option maxHeartbeats 4000000
set_option exponentiation.threshold 5000
namespace Go.Eng

theorem vmag_small {v : Nat} (h : v < 9007199254740992) : vmag v = v := by
  unfold vmag
  by_cases c : v < 4503599627370496
  · rw [if_pos c]
  · rw [if_neg c, show v / 4503599627370496 - 1 = 0 by omega, Nat.pow_zero, Nat.mul_one]; omega

/-- A number that is not below a float is not written below it. -/
theorem near_ge {m k r : Nat} (hm : m ≠ 0) (h : vmag r ≤ m * 2 ^ k) (hr : r < 9218868437227405312) : r ≤ magF (Ieee.double.nearest false m (-1074 + (k : Int))) := by
  have hlo : 2 ^ m.log2 ≤ m := Nat.log2_self_le hm
  have hhi : m < 2 ^ (m.log2 + 1) := Nat.lt_log2_self
  obtain ⟨k1, k2⟩ := kept_bounds false hm
  by_cases c : k + m.log2 < 52
  · have e : Ieee.double.nearest false m (-1074 + (k : Int)) = Ieee.double.word false (min (m * 2 ^ k) 9218868437227405312) := by
      unfold Ieee.Format.nearest
      rw [if_neg hm, lp, fb, bn, ir]
      have e1 : max (-1074 + (k : Int) + (m.log2 : Int) - ((52 : Nat) : Int)) (-1074) = -1074 := by omega
      have e2 : (-1074 + (k : Int) - -1074).toNat = k := by omega
      have e3 : (-1074 - (-1074 + (k : Int))).toNat = 0 := by omega
      simp only [e1, e2, e3, Int.sub_self, Int.toNat_zero, Nat.zero_mul, Nat.zero_add, cut_none, Nat.shiftLeft_eq]
    have hv : m * 2 ^ k < 9007199254740992 := by
      have h1 : m * 2 ^ k < 2 ^ (m.log2 + 1) * 2 ^ k := Nat.mul_lt_mul_of_pos_right hhi (Nat.two_pow_pos k)
      rw [← Nat.pow_add] at h1
      have h2 : 2 ^ (m.log2 + 1 + k) ≤ 2 ^ 53 := Nat.pow_le_pow_right (by omega) (by omega)
      have e53 : (2 : Nat) ^ 53 = 9007199254740992 := by decide
      omega
    rw [e, Nat.min_eq_left (by omega), mag_word (by omega)]
    refine vmag_le_iff.1 ?_
    rw [vmag_small hv]; exact h
  · have e : Ieee.double.nearest false m (-1074 + (k : Int)) = Ieee.double.word false (min ((k + m.log2 - 52) * 4503599627370496 + keptN false m) 9218868437227405312) := by
      unfold Ieee.Format.nearest
      rw [if_neg hm, lp, fb, bn, ir]
      have e1 : max (-1074 + (k : Int) + (m.log2 : Int) - ((52 : Nat) : Int)) (-1074) = -1074 + (k : Int) + (m.log2 : Int) - 52 := by omega
      have e2 : (-1074 + (k : Int) - (-1074 + (k : Int) + (m.log2 : Int) - 52)).toNat = 52 - m.log2 := by omega
      have e3 : (-1074 + (k : Int) + (m.log2 : Int) - 52 - (-1074 + (k : Int))).toNat = m.log2 - 52 := by omega
      have e4 : (-1074 + (k : Int) + (m.log2 : Int) - 52 - -1074).toNat = k + m.log2 - 52 := by omega
      simp only [e1, e2, e3, e4]; rfl
    rw [e, mag_word (Nat.min_le_right _ _)]
    refine Nat.le_min.2 ⟨?_, Nat.le_of_lt hr⟩
    generalize hE : k + m.log2 - 52 = E
    by_cases cr : r < 4503599627370496
    · omega
    · have hv : vmag r = (4503599627370496 + r % 4503599627370496) * 2 ^ (r / 4503599627370496 - 1) := by unfold vmag; rw [if_neg cr]
      rw [hv] at h
      generalize hR : r / 4503599627370496 - 1 = R at h
      have hf : r % 4503599627370496 < 4503599627370496 := Nat.mod_lt _ (by omega)
      have hre : r = (R + 1) * 4503599627370496 + r % 4503599627370496 := by omega
      generalize r % 4503599627370496 = f at *
      rcases Nat.lt_trichotomy R E with g | g | g
      · have := Nat.mul_le_mul_right 4503599627370496 (show R + 1 ≤ E by omega)
        omega
      · subst g
        have hb : 4503599627370496 + f ≤ keptN false m := by
          unfold keptN
          refine cut_ge ?_
          rw [Nat.shiftLeft_eq]
          by_cases l52 : 52 ≤ m.log2
          · rw [show 52 - m.log2 = 0 by omega, Nat.pow_zero, Nat.mul_one]
            refine Nat.le_of_mul_le_mul_right (c := 2 ^ k) ?_ (Nat.two_pow_pos k)
            rw [Nat.mul_assoc, ← Nat.pow_add, show m.log2 - 52 + k = R by omega]
            exact h
          · rw [show m.log2 - 52 = 0 by omega, Nat.pow_zero, Nat.mul_one]
            refine Nat.le_of_mul_le_mul_right (c := 2 ^ R) ?_ (Nat.two_pow_pos R)
            rw [Nat.mul_assoc, ← Nat.pow_add, show 52 - m.log2 + R = k by omega]
            exact h
        omega
      · exfalso
        have h1 : 2 ^ 52 * 2 ^ R ≤ (4503599627370496 + f) * 2 ^ R := Nat.mul_le_mul_right _ (by rw [show (2 : Nat) ^ 52 = 4503599627370496 by decide]; omega)
        have h2 : m * 2 ^ k < 2 ^ (m.log2 + 1) * 2 ^ k := Nat.mul_lt_mul_of_pos_right hhi (Nat.two_pow_pos k)
        rw [← Nat.pow_add] at h1 h2
        have h3 : 2 ^ (m.log2 + 1 + k) ≤ 2 ^ (52 + R) := Nat.pow_le_pow_right (by omega) (by omega)
        omega

theorem fadd_pos {x y : Nat} (hx : magF x < 9218868437227405312) (hy : magF y < 9218868437227405312) (x0 : magF x ≠ 0) (px : negF x = false) (py : negF y = false) :
    ∃ T k : Nat, T ≠ 0 ∧ T * 2 ^ k = vmag (magF x) + vmag (magF y) ∧ fadd x y = Ieee.double.nearest false T (-1074 + (k : Int)) := by
  obtain ⟨m, i, hr, hvx⟩ := read_fin hx
  obtain ⟨n, j, hq, hvy⟩ := read_fin hy
  have hm : m ≠ 0 := by
    rintro rfl
    rw [Nat.zero_mul] at hvx
    exact x0 ((vmag_zero _).1 hvx.symm)
  rw [px] at hr
  rw [py] at hq
  have c : min (-1074 + (i : Int)) (-1074 + (j : Int)) = -1074 + ((min i j : Nat) : Int) := by omega
  have c1 : (-1074 + (i : Int) - (-1074 + ((min i j : Nat) : Int))).toNat = i - min i j := by omega
  have c2 : (-1074 + (j : Int) - (-1074 + ((min i j : Nat) : Int))).toNat = j - min i j := by omega
  have hA0 : 0 < m * 2 ^ (i - min i j) := Nat.mul_pos (by omega) (Nat.two_pow_pos _)
  refine ⟨m * 2 ^ (i - min i j) + n * 2 ^ (j - min i j), min i j, by omega, ?_, ?_⟩
  · rw [Nat.add_mul, Nat.mul_assoc, Nat.mul_assoc, ← Nat.pow_add, ← Nat.pow_add, show i - min i j + min i j = i by omega, show j - min i j + min i j = j by omega, hvx, hvy]
  · unfold fadd Ieee.Format.add
    rw [hr, hq]
    simp only [Ieee.Datum.sum, c, c1, c2, Option.map_some, Option.getD_some, signed_val]
    generalize hA : m * 2 ^ (i - min i j) = A at *
    generalize hB : n * 2 ^ (j - min i j) = B
    show Ieee.double.nearest (if (A : Int) + (B : Int) = 0 then false && false else decide ((A : Int) + (B : Int) < 0)) ((A : Int) + (B : Int)).natAbs _ = _
    rw [if_neg (by omega), show decide ((A : Int) + (B : Int) < 0) = false by simp; omega, show ((A : Int) + (B : Int)).natAbs = A + B by omega]

theorem fadd_ge {s b : Nat} (hs : s < 9218868437227405312) (hb : b < 9218868437227405312) : s ≤ fadd s b ∧ b ≤ fadd s b := by
  have gs : goodF s := by unfold goodF; omega
  have gb : goodF b := by unfold goodF; omega
  have ms := good_mag gs
  have mb := good_mag gb
  by_cases s0 : s = 0
  · by_cases b0 : b = 0
    · subst s0; subst b0; exact ⟨Nat.zero_le _, Nat.zero_le _⟩
    · rw [fadd_comm, fadd_nought_right (by omega) (by omega) (by omega) (by omega)]
      omega
  · obtain ⟨T, k, hT, hv, e⟩ := fadd_pos (x := s) (y := b) (by omega) (by omega) (by omega) (good_neg gs) (good_neg gb)
    rw [ms, mb] at hv
    obtain ⟨r, hr, hg⟩ := fadd_good gs hs (b := b) (by omega) (by rw [good_sval gb]; omega)
    have hm : magF (fadd s b) = fadd s b := by rw [hr]; exact good_mag hg
    rw [← hm, e]
    exact ⟨near_ge hT (by omega) hs, near_ge hT (by omega) hb⟩

theorem addV_ge {s b : Nat} (hs : goodF s) (hb : b < 9218868437227405312) : s ≤ addV s b 2 ∧ b ≤ addV s b 2 := by
  have gb : goodF b := by unfold goodF; omega
  have mb := good_mag gb
  have ms := good_mag hs
  have nb : 0 ≤ sval b := by rw [good_sval gb]; omega
  rcases Nat.lt_or_ge s 9218868437227405312 with h | h
  · obtain ⟨g1, g2⟩ := fadd_ge h hb
    obtain ⟨r, hr, hg⟩ := fadd_good hs h (b := b) (by omega) nb
    have mr := good_mag hg
    have cc : finF s = true ∧ finF b = true := ⟨by simp [finF, ms, h], by simp [finF, mb, hb]⟩
    have key : ∀ o : Int, r ≤ settleV r o 2 := by
      intro o
      have sm : sideM r 2 = 2 := by unfold sideM; rw [if_neg (by decide)]
      unfold settleV
      by_cases hi : magF r = 9218868437227405312
      · rw [if_pos hi, if_neg (by rw [sm, good_neg hg]; simp)]; exact Nat.le_refl _
      · rw [if_neg hi, sm]
        by_cases ho : 0 < o
        · have yes : (o < 0 ∧ (2 : Int) = 1) ∨ (0 < o ∧ (2 : Int) = 2) := .inr ⟨ho, rfl⟩
          rw [if_pos yes, decide_eq_true ho]
          unfold stepV
          by_cases r0 : magF r = 0
          · rw [if_pos r0]; simp; omega
          · rw [if_neg r0, good_neg hg, if_pos (by decide), Nat.mod_eq_of_lt (by unfold goodF at hg; omega)]
            omega
        · have no : ¬ ((o < 0 ∧ (2 : Int) = 1) ∨ (0 < o ∧ (2 : Int) = 2)) := by omega
          rw [if_neg no]; exact Nat.le_refl _
    rw [hr] at g1 g2
    unfold addV
    rw [if_pos cc, hr]
    by_cases r0 : magF r = 0
    · rw [if_pos r0]
      omega
    · rw [if_neg r0]
      by_cases ri : magF r = 9218868437227405312
      · rw [if_pos ri]
        have := key 0
        omega
      · rw [if_neg ri]
        have := key (sgnV (fsub (if flt (magF s) (magF b) = true then s else b) (fsub r (if flt (magF s) (magF b) = true then b else s))))
        omega
  · have hi : s = 9218868437227405312 := by unfold goodF at hs; omega
    have f1 : finF s = false := by simp [finF, ms]; omega
    unfold addV
    rw [if_neg (by rw [f1]; simp), fadd_inf (by omega) (by omega), good_neg hs, word_good]
    omega

theorem sumUp_ge {l : List Nat} (h : ∀ p ∈ l, magF p < 9218868437227405312) : ∀ p ∈ l, magF p ≤ sumUp l := by
  have mono : ∀ (l : List Nat) (s : Nat), goodF s → (∀ p ∈ l, magF p < 9218868437227405312) → s ≤ l.foldl (fun s p => addV s (magF p) 2) s ∧ ∀ p ∈ l, magF p ≤ l.foldl (fun s p => addV s (magF p) 2) s := by
    intro l
    induction l with
    | nil => intro s _ _; exact ⟨Nat.le_refl _, fun p hp => by cases hp⟩
    | cons q l ih =>
      intro s hs h
      have hq := h q (List.mem_cons_self ..)
      have g := addV_good hs (b := magF q) (by rw [magF_magF]; exact hq) (sval_mag q)
      obtain ⟨a1, a2⟩ := addV_ge hs hq
      obtain ⟨i1, i2⟩ := ih _ g fun p hp => h p (List.mem_cons_of_mem _ hp)
      refine ⟨Nat.le_trans a1 i1, fun p hp => ?_⟩
      rcases List.mem_cons.1 hp with rfl | hp
      · exact Nat.le_trans a2 i1
      · exact i2 p hp
  exact (mono l 0 (by unfold goodF; omega) h).2

/-! ### Whole numbers -/

theorem sval_size (x : Nat) : (sval x).natAbs = vmag (magF x) := by
  unfold sval
  cases negF x <;> simp
theorem whl_l (z : Int) : whl z < 18446744073709551616 := nearest_lt _ _ _
theorem mag_whl {z : Int} (h : z.natAbs < 9007199254740992) : magF (whl z) = whl (z.natAbs : Int) := by
  have w := whl_wv h
  by_cases h0 : z = 0
  · subst h0; decide +kernel
  · refine wv_eq ⟨by rw [magF_magF]; exact w.1, ?_⟩ (by omega) (by have := magF_lt (whl z); omega)
    have e : sval (magF (whl z)) = ((sval (whl z)).natAbs : Int) := by
      rw [sval_size]
      unfold sval
      rw [negF_magF, magF_magF]; rfl
    rw [e, w.2, Int.natAbs_mul]; simp
theorem addV_whl {a b : Int} (ha : 0 ≤ a) (hb : 0 ≤ b) (h : a + b < 9007199254740992) : addV (whl a) (whl b) 2 = whl (a + b) := by
  have wa : Wv (whl a) a := whl_wv (by omega)
  have wb : Wv (whl b) b := whl_wv (by omega)
  have wf : Wv (whl (a + b)) (a + b) := whl_wv (by omega)
  have e : fadd (whl a) (whl b) = whl (a + b) := fadd_whl' (by omega) wb
  have cc : finF (whl a) = true ∧ finF (whl b) = true := ⟨by simpa [finF] using wa.1, by simpa [finF] using wb.1⟩
  unfold addV
  rw [if_pos cc, e]
  by_cases f0 : magF (whl (a + b)) = 0
  · have z : a + b = 0 := by
      have := wf.2
      rw [(sval_zero _).2 f0] at this
      rcases Int.mul_eq_zero.1 this.symm with h | h
      · exact h
      · have := big_pos; omega
    have a0 : a = 0 := by omega
    have b0 : b = 0 := by omega
    subst a0; subst b0
    rw [if_pos f0, if_pos ⟨by decide +kernel, rfl⟩]
  · have ni : ¬ magF (whl (a + b)) = 9218868437227405312 := by have := wf.1; omega
    rw [if_neg f0, if_neg ni]
    have off : fsub (if flt (magF (whl a)) (magF (whl b)) = true then whl a else whl b) (fsub (whl (a + b)) (if flt (magF (whl a)) (magF (whl b)) = true then whl b else whl a)) = whl 0 := by
      cases flt (magF (whl a)) (magF (whl b)) with
      | true =>
        rw [if_pos rfl, if_pos rfl, fsub_whl' (by omega) wb, fsub_whl' (by omega) (whl_wv (by omega))]
        congr 1; omega
      | false =>
        rw [if_neg (by simp), if_neg (by simp), fsub_whl' (by omega) wa, fsub_whl' (by omega) (whl_wv (by omega))]
        congr 1; omega
    rw [off, show sgnV (whl 0) = 0 by decide +kernel]
    unfold settleV
    have no : ¬ (((0 : Int) < 0 ∧ sideM (whl (a + b)) 2 = 1) ∨ ((0 : Int) < 0 ∧ sideM (whl (a + b)) 2 = 2)) := by omega
    rw [if_neg ni, if_neg no]

/-- A float is not above one that is not below its size. -/
theorem fgt_not {x s : Nat} (hx : magF x < 9218868437227405312) (hs : goodF s) (h : magF x ≤ s) : fgt x s = false := by
  rcases Nat.lt_or_ge s 9218868437227405312 with g | g
  · unfold fgt
    rw [order_fin hx (by rw [good_mag hs]; exact g), good_sval hs]
    have h1 := vmag_le_iff.2 h
    have h2 := sval_size x
    have h3 : sval x ≤ (vmag s : Int) := by omega
    have : compare (sval x) (vmag s : Int) ≠ .gt := fun c => by have := Int.compare_eq_gt.1 c; omega
    cases c : compare (sval x) (vmag s : Int) with
    | gt => exact absurd c this
    | lt => rfl
    | eq => rfl
  · have e : s = 9218868437227405312 := by unfold goodF at hs; omega
    unfold fgt Ieee.Format.order
    obtain ⟨m, a, hr, _⟩ := read_fin hx
    rw [hr, read_inf (x := s) (by rw [good_mag hs]; exact e), good_neg hs]; rfl

end Go.Eng
