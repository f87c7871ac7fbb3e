/-
  Floats times a power of two: products told by sizes, quotients with both sides scaled. No condition.
-/
import Derived.Test.YtbegoalncgpbnaaScl3
set_option linter.unusedVariables false
set_option linter.unusedSimpArgs false
set_option linter.unnecessarySimpa false
set_option linter.unusedSectionVars false
set_option maxRecDepth 100000
set_option maxHeartbeats 4000000
set_option exponentiation.threshold 5000
namespace Go.Eng

/-- Finite: nought, or of a size from 2^a to 2^b, in units of the least float. -/
structure Mg (a b x : Nat) : Prop where
  fin : magF x < 9218868437227405312
  mg : magF x = 0 ∨ (2 ^ a ≤ vmag (magF x) ∧ vmag (magF x) ≤ 2 ^ b)

theorem vm_zero : vmag 0 = 0 := by decide +kernel

theorem Mg.gr {a b x : Nat} (h : Mg a b x) (ha : 52 ≤ a) : Gr (a - 52) b x := by
  rcases h.mg with h0 | ⟨h1, h2⟩
  · exact .zero h0
  · refine ⟨h.fin, ?_, h2⟩
    have p52 : (2 : Nat) ^ 52 = 4503599627370496 := by decide
    by_cases c : magF x < 4503599627370496
    · unfold vmag at h1
      rw [if_pos c] at h1
      have := Nat.pow_le_pow_right (show 0 < 2 by omega) ha
      omega
    · unfold vmag at h1 ⊢
      rw [if_neg c] at h1 ⊢
      generalize hE : magF x / 4503599627370496 - 1 = E at *
      have hk : 4503599627370496 + magF x % 4503599627370496 < 2 ^ 53 := by
        have := Nat.mod_lt (magF x) (show 0 < 4503599627370496 by omega)
        have e : (2 : Nat) ^ 53 = 9007199254740992 := by decide
        omega
      have h3 : 2 ^ a < 2 ^ (53 + E) := by
        rw [Nat.pow_add]
        exact Nat.lt_of_le_of_lt h1 (Nat.mul_lt_mul_of_pos_right hk (Nat.two_pow_pos E))
      have h4 := (Nat.pow_lt_pow_iff_right (show 1 < 2 by omega)).1 h3
      exact Nat.dvd_trans (Nat.pow_dvd_pow 2 (by omega)) (Nat.dvd_mul_left _ _)

theorem mg_mul {p : Int} {a b a' b' c y y' : Nat} (hc : Mg a b c) (hy : Mg a' b' y) (sy : Sc p y y') (h1 : 1126 ≤ a + a') (h2 : 1126 ≤ (a : Int) + a' + p) (h3 : b + b' ≤ 3170) (h4 : (b : Int) + b' + p ≤ 3170) :
    Mg (a + a' - 1074) (b + b' - 1073) (fmul c y) ∧ Sc p (fmul c y) (fmul c y') := by
  obtain ⟨m, i, hr, hm⟩ := read_fin hc.fin
  obtain ⟨n, j, hq, hn⟩ := read_fin hy.fin
  have e1 := fmul_num hr hq
  have noughts : ∀ s, magF (Ieee.double.word s 0) = 0 := fun s => mag_word (by omega)
  by_cases y0 : magF y = 0
  · have n0 : n = 0 := by
      rw [y0, vm_zero] at hn
      rcases Nat.mul_eq_zero.1 hn with h | h
      · exact h
      · have := Nat.two_pow_pos j; omega
    have ey : y' = y := by
      rcases sy with h | h
      · exact h.2
      · omega
    have z : magF (fmul c y) = 0 := by rw [e1, n0, Nat.mul_zero, nearest_zero]; exact noughts _
    rw [ey]
    exact ⟨⟨by omega, .inl z⟩, .inl ⟨z, rfl⟩⟩
  · have e2 := fmul_num hr (sc_reads sy y0 hq)
    by_cases m0 : m = 0
    · subst m0
      rw [Nat.zero_mul, nearest_zero] at e1 e2
      have z : magF (fmul c y) = 0 := by rw [e1]; exact noughts _
      exact ⟨⟨by omega, .inl z⟩, .inl ⟨z, by rw [e1, e2]⟩⟩
    · have n0 : n ≠ 0 := by
        rintro rfl
        rw [Nat.zero_mul] at hn
        exact y0 ((vmag_zero _).1 hn.symm)
      have c0 : magF c ≠ 0 := by
        intro h
        rw [h, vm_zero] at hm
        rcases Nat.mul_eq_zero.1 hm with h | h
        · exact m0 h
        · have := Nat.two_pow_pos i; omega
      obtain ⟨c1, c2⟩ := hc.mg.resolve_left c0
      obtain ⟨y1, y2⟩ := hy.mg.resolve_left y0
      have hmn : m * n ≠ 0 := Nat.mul_ne_zero m0 n0
      have l1 : 2 ^ (m * n).log2 ≤ m * n := Nat.log2_self_le hmn
      have l2 : m * n < 2 ^ ((m * n).log2 + 1) := Nat.lt_log2_self
      have prod : vmag (magF c) * vmag (magF y) = m * n * 2 ^ (i + j) := by rw [← hm, ← hn, Nat.pow_add]; ac_rfl
      have lo : a + a' < (m * n).log2 + 1 + (i + j) := by
        have h : 2 ^ (a + a') < 2 ^ ((m * n).log2 + 1 + (i + j)) := by
          rw [Nat.pow_add 2 a, Nat.pow_add 2 ((m * n).log2 + 1)]
          refine Nat.lt_of_le_of_lt (Nat.mul_le_mul c1 y1) ?_
          rw [prod]
          exact Nat.mul_lt_mul_of_pos_right l2 (Nat.two_pow_pos _)
        exact (Nat.pow_lt_pow_iff_right (by omega)).1 h
      have hi : (m * n).log2 + (i + j) ≤ b + b' := by
        have h : 2 ^ ((m * n).log2 + (i + j)) ≤ 2 ^ (b + b') := by
          rw [Nat.pow_add 2 b, Nat.pow_add 2 ((m * n).log2)]
          refine Nat.le_trans (Nat.mul_le_mul_right _ l1) ?_
          rw [← prod]
          exact Nat.mul_le_mul c2 y2
        exact (Nat.pow_le_pow_iff_right (by omega)).1 h
      generalize hl : (m * n).log2 = l at *
      obtain ⟨k1, k2⟩ := kept_bounds (negF c ^^ negF y) hmn
      obtain ⟨v1, _, v3, _⟩ := near_vmag (negF c ^^ negF y) hmn (e := -1074 + (i : Int) + (-1074 + (j : Int))) (by rw [hl]; omega) (by rw [hl]; omega)
      rw [hl] at v3
      refine ⟨⟨by rw [e1]; exact v1, .inr ?_⟩, ?_⟩
      · rw [e1, v3]
        generalize hE : (-1074 + (i : Int) + (-1074 + (j : Int)) + (l : Int) + 1022).toNat = E
        generalize keptN (negF c ^^ negF y) (m * n) = k at k1 k2
        have q1 : 2 ^ 52 * 2 ^ E ≤ k * 2 ^ E := Nat.mul_le_mul_right _ (by rw [show (2 : Nat) ^ 52 = 4503599627370496 by decide]; exact k1)
        have q2 : k * 2 ^ E ≤ 2 ^ 53 * 2 ^ E := Nat.mul_le_mul_right _ (by rw [show (2 : Nat) ^ 53 = 9007199254740992 by decide]; exact k2)
        rw [← Nat.pow_add] at q1 q2
        exact ⟨Nat.le_trans (Nat.pow_le_pow_right (by omega) (by omega)) q1, Nat.le_trans q2 (Nat.pow_le_pow_right (by omega) (by omega))⟩
      · have e2' : fmul c y' = Ieee.double.nearest (negF c ^^ negF y) (m * n) (-1074 + (i : Int) + (-1074 + (j : Int)) + p) := by
          rw [e2, Int.add_assoc (-1074 + (i : Int)) (-1074 + (j : Int)) p]
        rw [e1, e2']
        exact sc_nearest _ hmn (by rw [hl]; omega) (by rw [hl]; omega) (by rw [hl]; omega) (by rw [hl]; omega)

/-- A quotient with both sides scaled is the same. -/
theorem fdiv_sc {p : Int} {x x' d d' : Nat} (sx : Sc p x x') (sd : Sc p d d') (hx : magF x < 9218868437227405312) (hd : magF d < 9218868437227405312) (d0 : magF d ≠ 0) : fdiv x' d' = fdiv x d := by
  obtain ⟨m, i, hr, hm⟩ := read_fin hx
  obtain ⟨n, j, hq, hn⟩ := read_fin hd
  have n0 : n ≠ 0 := by
    rintro rfl
    rw [Nat.zero_mul] at hn
    exact d0 ((vmag_zero _).1 hn.symm)
  have hq' := sc_reads sd d0 hq
  by_cases x0 : magF x = 0
  · have m0 : m = 0 := by
      rw [x0, vm_zero] at hm
      rcases Nat.mul_eq_zero.1 hm with h | h
      · exact h
      · have := Nat.two_pow_pos i; omega
    have ex : x' = x := by
      rcases sx with h | h
      · exact h.2
      · omega
    rw [ex]
    unfold fdiv Ieee.Format.div
    rw [hr, hq, hq', m0]
    simp only [Ieee.Datum.quotient, if_neg n0, Option.map_some, Option.getD_some, Nat.zero_shiftLeft, Nat.zero_div, Nat.zero_mod, Nat.mul_zero]
    show Ieee.double.nearest _ 0 _ = Ieee.double.nearest _ 0 _
    rw [nearest_zero, nearest_zero]
  · have hr' := sc_reads sx x0 hr
    unfold fdiv Ieee.Format.div
    rw [hr, hq, hr', hq']
    simp only [Ieee.Datum.quotient, if_neg n0, Option.map_some, Option.getD_some]
    rw [show -1074 + (i : Int) + p - (-1074 + (j : Int) + p) = -1074 + (i : Int) - (-1074 + (j : Int)) by omega]

/-- x, and the same 2^p times. -/
structure Duo (p : Int) (K M : Nat) (x y : Nat) : Prop where
  gr : Gr K M x
  sc : Sc p x y
  lx : x < 18446744073709551616
  ly : y < 18446744073709551616

theorem duo_sub {p : Int} {K M s s' x x' : Nat} (hs : Duo p K M s s') (hx : Gr K M x) (sx : Sc p x x') (hK : 52 ≤ K) (hM : M + 2 ≤ 2097) (hp1 : 52 ≤ (K : Int) + p) (hp2 : (M : Int) + 2 + p ≤ 2097) (lx : x < 18446744073709551616) (lx' : x' < 18446744073709551616) :
    Duo p K (M + 2) (fsub s x) (fsub s' x') := by
  obtain ⟨k1, k2⟩ := sc_fsub hs.gr hx hs.sc sx hs.lx lx hs.ly lx' hK hM hp1 hp2
  exact ⟨k1, k2, fsub_lt hs.gr.fin hx.fin, fsub_lt (sc_fin hs.sc hs.gr.fin) (sc_fin sx hx.fin)⟩

end Go.Eng
