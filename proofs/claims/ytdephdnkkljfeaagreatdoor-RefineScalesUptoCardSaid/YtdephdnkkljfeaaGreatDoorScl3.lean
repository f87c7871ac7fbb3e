/-
  Floats times a power of two: what is normal is scaled exactly. No condition. (Groundwork for SolveScales, LowerScaled, VectorEven, RefineScales.)
-/
import Derived.Test.YtdephdnkkljfeaaGreatDoorOpp
import Derived.Test.YtdephdnkkljfeaaGreatDoorWhl3
import Derived.Test.YtdephdnkkljfeaaGreatDoorFlz3
set_option linter.all false
set_option maxRecDepth 100000
set_option maxHeartbeats 4000000
namespace Go.Eng
def keptN (s : Bool) (m : Nat) : Nat := Ieee.Toward.even.cut s (m <<< (52 - m.log2)) (m.log2 - 52)
theorem cut_ge {s : Bool} {n d b : Nat} (h : b * 2 ^ d ≤ n) : b ≤ Ieee.Toward.even.cut s n d := by
  unfold Ieee.Toward.cut
  dsimp only
  have hg : 0 < 1 <<< min d (n.log2 + 2) := by rw [Nat.shiftLeft_eq, Nat.one_mul]; exact Nat.two_pow_pos _
  have hle : 1 <<< min d (n.log2 + 2) ≤ 2 ^ d := by rw [Nat.shiftLeft_eq, Nat.one_mul]; exact Nat.pow_le_pow_right (by omega) (Nat.min_le_left _ _)
  have : b ≤ n / (1 <<< min d (n.log2 + 2)) := by
    rw [Nat.le_div_iff_mul_le hg]
    exact Nat.le_trans (Nat.mul_le_mul_left b hle) h
  omega
theorem cut_le {s : Bool} {n d b : Nat} (hn : n ≠ 0) (hd : d ≤ n.log2) (h : n < b * 2 ^ d) : Ieee.Toward.even.cut s n d ≤ b := by
  unfold Ieee.Toward.cut
  dsimp only
  rw [Nat.min_eq_left (by omega), Nat.shiftLeft_eq, Nat.one_mul]
  have : n / 2 ^ d < b := (Nat.div_lt_iff_lt_mul (Nat.two_pow_pos d)).2 h
  have h1 : ∀ c : Bool, c.toNat ≤ 1 := fun c => by cases c <;> simp
  have := h1 (decide (2 ^ d < 2 * (n % 2 ^ d)) || (2 ^ d == 2 * (n % 2 ^ d) && n / 2 ^ d % 2 == 1))
  omega
theorem kept_bounds (s : Bool) {m : Nat} (hm : m ≠ 0) : 4503599627370496 ≤ keptN s m ∧ keptN s m ≤ 9007199254740992 := by
  unfold keptN
  have hlo : 2 ^ m.log2 ≤ m := Nat.log2_self_le hm
  have hhi : m < 2 ^ (m.log2 + 1) := Nat.lt_log2_self
  rw [Nat.shiftLeft_eq]
  generalize hT : m.log2 = t at *
  rcases Nat.le_total t 52 with h | h
  · have e : t - 52 = 0 := by omega
    rw [e, cut_none]
    have p1 : 2 ^ t * 2 ^ (52 - t) = 4503599627370496 := by rw [← Nat.pow_add, show t + (52 - t) = 52 by omega]
    have p2 : 2 ^ (t + 1) * 2 ^ (52 - t) = 9007199254740992 := by rw [← Nat.pow_add, show t + 1 + (52 - t) = 53 by omega]
    have q1 : 2 ^ t * 2 ^ (52 - t) ≤ m * 2 ^ (52 - t) := Nat.mul_le_mul_right _ hlo
    have q2 : m * 2 ^ (52 - t) < 2 ^ (t + 1) * 2 ^ (52 - t) := Nat.mul_lt_mul_of_pos_right hhi (Nat.two_pow_pos _)
    omega
  · have e : 52 - t = 0 := by omega
    rw [e, Nat.pow_zero, Nat.mul_one]
    constructor
    · refine cut_ge ?_
      have : (4503599627370496 : Nat) * 2 ^ (t - 52) = 2 ^ t := by
        rw [show (4503599627370496 : Nat) = 2 ^ 52 by decide, ← Nat.pow_add, show 52 + (t - 52) = t by omega]
      omega
    · refine cut_le hm (by omega) ?_
      have : (9007199254740992 : Nat) * 2 ^ (t - 52) = 2 ^ (t + 1) := by
        rw [show (9007199254740992 : Nat) = 2 ^ 53 by decide, ← Nat.pow_add, show 53 + (t - 52) = t + 1 by omega]
      omega
theorem nearest_normal (s : Bool) {m : Nat} (hm : m ≠ 0) {e : Int} (h1 : -1074 ≤ e + (m.log2 : Int) - 52) (h2 : e + (m.log2 : Int) < 1023) :
    Ieee.double.nearest s m e = Ieee.double.word s ((e + (m.log2 : Int) - 52 + 1074).toNat * 4503599627370496 + keptN s m) ∧ (e + (m.log2 : Int) - 52 + 1074).toNat * 4503599627370496 + keptN s m < 9218868437227405312 := by
  obtain ⟨k1, k2⟩ := kept_bounds s hm
  have hr : (e + (m.log2 : Int) - 52 + 1074).toNat * 4503599627370496 + keptN s m < 9218868437227405312 := by
    have : (e + (m.log2 : Int) - 52 + 1074).toNat ≤ 2044 := by omega
    have := Nat.mul_le_mul_right 4503599627370496 this
    omega
  refine ⟨?_, hr⟩
  unfold Ieee.Format.nearest
  rw [if_neg hm, lp, fb, bn, ir]
  have e1 : max (e + (m.log2 : Int) - ((52 : Nat) : Int)) (-1074) = e + (m.log2 : Int) - 52 := by omega
  have e2 : (e - (e + (m.log2 : Int) - 52)).toNat = 52 - m.log2 := by omega
  have e3 : (e + (m.log2 : Int) - 52 - e).toNat = m.log2 - 52 := by omega
  have e4 : (e + (m.log2 : Int) - 52 - -1074).toNat = (e + (m.log2 : Int) - 52 + 1074).toNat := by omega
  simp only [e1, e2, e3, e4]
  show Ieee.double.word s (min ((e + (m.log2 : Int) - 52 + 1074).toNat * 4503599627370496 + keptN s m) 9218868437227405312) = _
  rw [Nat.min_eq_left (by omega)]
def Sc (p : Int) (x y : Nat) : Prop :=
  (magF x = 0 ∧ y = x) ∨ (4503599627370496 ≤ magF x ∧ magF x < 9218868437227405312 ∧ 4503599627370496 ≤ magF y ∧ magF y < 9218868437227405312 ∧ negF y = negF x ∧ (magF y : Int) = (magF x : Int) + p * 4503599627370496)
theorem sc_read {p : Int} {x y : Nat} (h : Sc p x y) : (magF x = 0 ∧ y = x) ∨ ∃ s m, ∃ e : Int, m ≠ 0 ∧ Ieee.double.read x = .number s m e ∧ Ieee.double.read y = .number s m (e + p) := by
  rcases h with h | ⟨h1, h2, h3, h4, h5, h6⟩
  · exact .inl h
  · right
    refine ⟨_, _, _, ?_, read_normal h1 h2, ?_⟩
    · omega
    · rw [read_normal h3 h4, h5]
      have e1 : magF y % 4503599627370496 = magF x % 4503599627370496 := by omega
      have e2 : ((magF y / 4503599627370496 - 1 : Nat) : Int) = ((magF x / 4503599627370496 - 1 : Nat) : Int) + p := by omega
      rw [e1, e2, Int.add_assoc]
theorem sc_nearest {p : Int} (s : Bool) {m : Nat} (hm : m ≠ 0) {e : Int} (h1 : -1074 ≤ e + (m.log2 : Int) - 52) (h2 : e + (m.log2 : Int) < 1023) (h3 : -1074 ≤ e + p + (m.log2 : Int) - 52) (h4 : e + p + (m.log2 : Int) < 1023) :
    Sc p (Ieee.double.nearest s m e) (Ieee.double.nearest s m (e + p)) := by
  obtain ⟨k1, k2⟩ := kept_bounds s hm
  obtain ⟨a1, a2⟩ := nearest_normal s hm h1 h2
  obtain ⟨b1, b2⟩ := nearest_normal s hm h3 h4
  rw [a1, b1]
  right
  rw [mag_word (Nat.le_of_lt a2), mag_word (Nat.le_of_lt b2), neg_word (Nat.le_of_lt a2), neg_word (Nat.le_of_lt b2)]
  refine ⟨by omega, a2, by omega, b2, rfl, ?_⟩
  omega
end Go.Eng
/-
  Floats times a power of two: grids. What is a multiple of a power of two and is not too great stays so under sums, products and quotients, and scaling goes through each of them. No condition. (Groundwork for SolveScales, LowerScaled, VectorEven.)
-/
set_option maxRecDepth 100000
set_option maxHeartbeats 4000000
set_option exponentiation.threshold 5000
namespace Go.Eng
theorem near_same (s : Bool) {m w u v : Nat} (hm : m ≠ 0) (h : m * 2 ^ u = w * 2 ^ v) (c : Int) : Ieee.double.nearest s m (c + u) = Ieee.double.nearest s w (c + v) := by
  have hw : w ≠ 0 := by
    rintro rfl
    rw [Nat.zero_mul] at h
    exact Nat.mul_ne_zero hm (Nat.ne_of_gt (Nat.two_pow_pos u)) h
  have h1 := nearest_shift s hm c u
  have h2 := nearest_shift s hw c v
  rw [← h1, ← h2, h]
structure Gr (K M : Nat) (x : Nat) : Prop where
  fin : magF x < 9218868437227405312
  dv : 2 ^ K ∣ vmag (magF x)
  le : vmag (magF x) ≤ 2 ^ M
theorem Gr.mono {K K' M M' x : Nat} (h : Gr K M x) (hK : K' ≤ K) (hM : M ≤ M') : Gr K' M' x :=
  ⟨h.fin, Nat.dvd_trans (Nat.pow_dvd_pow 2 hK) h.dv, Nat.le_trans h.le (Nat.pow_le_pow_right (by omega) hM)⟩
theorem Gr.zero {K M x : Nat} (h : magF x = 0) : Gr K M x := by
  have : vmag (magF x) = 0 := by rw [h]; decide +kernel
  exact ⟨by omega, by rw [this]; exact Nat.dvd_zero _, by rw [this]; exact Nat.zero_le _⟩
theorem vmag_normal {E k : Nat} (h1 : 4503599627370496 ≤ k) (h2 : k ≤ 9007199254740992) : vmag (E * 4503599627370496 + k) = k * 2 ^ E := by
  unfold vmag
  rw [if_neg (by omega)]
  by_cases h : k = 9007199254740992
  · subst h
    rw [show (E * 4503599627370496 + 9007199254740992) % 4503599627370496 = 0 by omega, show (E * 4503599627370496 + 9007199254740992) / 4503599627370496 = E + 2 by omega, show E + 2 - 1 = E + 1 by omega, Nat.pow_succ]
    generalize 2 ^ E = P
    omega
  · rw [show (E * 4503599627370496 + k) % 4503599627370496 = k - 4503599627370496 by omega, show (E * 4503599627370496 + k) / 4503599627370496 = E + 1 by omega, show E + 1 - 1 = E by omega, show 4503599627370496 + (k - 4503599627370496) = k by omega]
theorem near_vmag (s : Bool) {m : Nat} (hm : m ≠ 0) {e : Int} (h1 : -1074 ≤ e + (m.log2 : Int) - 52) (h2 : e + (m.log2 : Int) < 1023) :
    magF (Ieee.double.nearest s m e) < 9218868437227405312 ∧ negF (Ieee.double.nearest s m e) = s ∧ vmag (magF (Ieee.double.nearest s m e)) = keptN s m * 2 ^ (e + (m.log2 : Int) + 1022).toNat ∧ 4503599627370496 ≤ magF (Ieee.double.nearest s m e) := by
  obtain ⟨k1, k2⟩ := kept_bounds s hm
  obtain ⟨a1, a2⟩ := nearest_normal s hm h1 h2
  rw [a1, mag_word (Nat.le_of_lt a2), neg_word (Nat.le_of_lt a2)]
  refine ⟨a2, rfl, ?_, by omega⟩
  rw [show (e + (m.log2 : Int) + 1022).toNat = (e + (m.log2 : Int) - 52 + 1074).toNat by congr 1; omega]
  exact vmag_normal k1 k2
theorem kept_small {s : Bool} {m : Nat} (h : m.log2 ≤ 52) : keptN s m = m * 2 ^ (52 - m.log2) := by
  unfold keptN
  rw [show m.log2 - 52 = 0 by omega, cut_none, Nat.shiftLeft_eq]
theorem near_gr (s : Bool) {w K M : Nat} (hw : w ≠ 0) (hM : w * 2 ^ K < 2 ^ M) (hK : 52 ≤ K) (hM' : M ≤ 2097) :
    Gr K M (Ieee.double.nearest s w ((K : Int) - 1074)) ∧ (K : Int) - 1074 + (w.log2 : Int) + 1074 < M := by
  have hlo : 2 ^ w.log2 ≤ w := Nat.log2_self_le hw
  have hlt : w.log2 + K < M := by
    have : 2 ^ (w.log2 + K) < 2 ^ M := by
      rw [Nat.pow_add]
      exact Nat.lt_of_le_of_lt (Nat.mul_le_mul_right _ hlo) hM
    exact (Nat.pow_lt_pow_iff_right (by omega)).1 this
  obtain ⟨h1, _, h3, _⟩ := near_vmag s hw (e := (K : Int) - 1074) (by omega) (by omega)
  obtain ⟨k1, k2⟩ := kept_bounds s hw
  have e : ((K : Int) - 1074 + (w.log2 : Int) + 1022).toNat = K + w.log2 - 52 := by omega
  rw [e] at h3
  refine ⟨⟨h1, ?_, ?_⟩, by omega⟩
  · rw [h3]
    by_cases h : w.log2 ≤ 52
    · rw [kept_small h, Nat.mul_assoc, ← Nat.pow_add, show 52 - w.log2 + (K + w.log2 - 52) = K by omega]
      exact Nat.dvd_mul_left _ _
    · exact Nat.dvd_trans (Nat.pow_dvd_pow 2 (by omega)) (Nat.dvd_mul_left _ _)
  · rw [h3]
    have : 9007199254740992 * 2 ^ (K + w.log2 - 52) ≤ 2 ^ M := by
      rw [show (9007199254740992 : Nat) = 2 ^ 53 by decide, ← Nat.pow_add]
      exact Nat.pow_le_pow_right (by omega) (by omega)
    exact Nat.le_trans (Nat.mul_le_mul_right _ k2) this
theorem near_sc (s : Bool) {w K M : Nat} {p : Int} (hw : w ≠ 0) (hM : w * 2 ^ K < 2 ^ M) (hK : 52 ≤ K) (hM' : M ≤ 2097) (hp1 : 52 ≤ (K : Int) + p) (hp2 : (M : Int) + p ≤ 2097) :
    Sc p (Ieee.double.nearest s w ((K : Int) - 1074)) (Ieee.double.nearest s w ((K : Int) - 1074 + p)) := by
  have := (near_gr s hw hM hK hM').2
  exact sc_nearest s hw (by omega) (by omega) (by omega) (by omega)
theorem gr_read {K M x : Nat} (h : Gr K M x) (h0 : magF x ≠ 0) : ∃ m a w : Nat, m ≠ 0 ∧ Ieee.double.read x = .number (negF x) m (-1074 + (a : Int)) ∧ m * 2 ^ a = w * 2 ^ K ∧ w ≠ 0 ∧ w * 2 ^ K ≤ 2 ^ M ∧ m * 2 ^ a = vmag (magF x) := by
  obtain ⟨m, a, hr, hm⟩ := read_fin h.fin
  obtain ⟨w, hw⟩ := h.dv
  have hv : vmag (magF x) ≠ 0 := fun e => h0 ((vmag_zero _).1 e)
  rw [Nat.mul_comm] at hw
  refine ⟨m, a, w, ?_, hr, hm.trans hw, ?_, by rw [← hw]; exact h.le, hm⟩
  · rintro rfl; rw [Nat.zero_mul] at hm; exact hv hm.symm
  · rintro rfl; rw [Nat.zero_mul] at hw; exact hv hw
theorem sc_zero {p : Int} {x y : Nat} (h : Sc p x y) : magF y = 0 ↔ magF x = 0 := by
  rcases h with ⟨h1, h2⟩ | ⟨h1, _, h3, _⟩
  · rw [h2]
  · omega
theorem sc_fneg {p : Int} {x y : Nat} (h : Sc p x y) : Sc p (fneg x) (fneg y) := by
  rcases h with ⟨h1, h2⟩ | ⟨h1, h2, h3, h4, h5, h6⟩
  · exact .inl ⟨by rw [fneg_mag]; exact h1, by rw [h2]⟩
  · right
    simp only [fneg_mag, fneg_neg]
    exact ⟨h1, h2, h3, h4, by rw [h5], h6⟩
theorem Gr.neg {K M x : Nat} (h : Gr K M x) : Gr K M (fneg x) := by
  obtain ⟨h1, h2, h3⟩ := h
  exact ⟨by rw [fneg_mag]; exact h1, by rw [fneg_mag]; exact h2, by rw [fneg_mag]; exact h3⟩
theorem sc_fin {p : Int} {x y : Nat} (h : Sc p x y) (hx : magF x < 9218868437227405312) : magF y < 9218868437227405312 := by
  rcases h with ⟨_, h2⟩ | ⟨_, _, _, h4, _⟩
  · rw [h2]; exact hx
  · exact h4
theorem sc_reads {p : Int} {x y : Nat} (h : Sc p x y) (h0 : magF x ≠ 0) {s : Bool} {m : Nat} {e : Int} (hr : Ieee.double.read x = .number s m e) : Ieee.double.read y = .number s m (e + p) := by
  rcases sc_read h with ⟨h1, _⟩ | ⟨s', m', e', _, h2, h3⟩
  · exact absurd h1 h0
  · rw [hr, Ieee.Datum.number.injEq] at h2
    obtain ⟨rfl, rfl, rfl⟩ := h2
    exact h3
theorem fadd_nought_right {x y : Nat} (hx : magF x < 9218868437227405312) (h0 : magF x ≠ 0) (hl : x < 18446744073709551616) (hy : magF y = 0) : fadd x y = x := by
  obtain ⟨m, a, hr, hm⟩ := read_fin hx
  have ry : Ieee.double.read y = .number (negF y) 0 (-1074) := by rw [read_small (by omega), hy]
  have hm0 : m ≠ 0 := by
    rintro rfl; rw [Nat.zero_mul] at hm
    exact h0 ((vmag_zero _).1 hm.symm)
  have hw := write_read hx hl
  rw [hr] at hw
  have hw : Ieee.double.nearest (negF x) m (-1074 + (a : Int)) = x := hw
  unfold fadd Ieee.Format.add
  rw [hr, ry]
  have c : min (-1074 + (a : Int)) (-1074) = -1074 := by omega
  have c1 : (-1074 + (a : Int) - -1074).toNat = a := by omega
  have c2 : ((-1074 : Int) - -1074).toNat = 0 := by omega
  simp only [Ieee.Datum.sum, c, c1, c2, Option.map_some, Option.getD_some]
  have z : Ieee.signed (negF y) 0 0 = 0 := by unfold Ieee.signed; cases negF y <;> simp
  rw [z, Int.add_zero]
  have hne : m * 2 ^ a ≠ 0 := Nat.mul_ne_zero hm0 (Nat.ne_of_gt (Nat.two_pow_pos a))
  have hT : Ieee.signed (negF x) m a ≠ 0 := by
    rw [signed_val]
    generalize m * 2 ^ a = q at hne
    cases negF x <;> simp <;> omega
  have hn : decide (Ieee.signed (negF x) m a < 0) = negF x := by
    rw [signed_val]
    generalize m * 2 ^ a = q at hne
    cases negF x <;> simp <;> omega
  have ha : (Ieee.signed (negF x) m a).natAbs = m * 2 ^ a := by
    rw [signed_val]
    generalize m * 2 ^ a = q
    cases negF x <;> simp
  show Ieee.double.nearest (if Ieee.signed (negF x) m a = 0 then negF x && negF y else decide (Ieee.signed (negF x) m a < 0)) (Ieee.signed (negF x) m a).natAbs (-1074) = x
  rw [if_neg hT, hn, ha, nearest_shift _ hm0, hw]
theorem sum_comm (a b : Ieee.Datum) : a.sum b = b.sum a := by
  cases a <;> cases b <;> simp only [Ieee.Datum.sum] <;> first | rfl | skip
  · rename_i s m e t n f
    rw [Int.min_comm]
    rw [Int.add_comm, Bool.and_comm]
  all_goals
    rename_i s t
    cases s <;> cases t <;> rfl
theorem fadd_comm (x y : Nat) : fadd x y = fadd y x := by unfold fadd Ieee.Format.add; rw [sum_comm]
theorem sc_fadd {p : Int} {x y x' y' K M : Nat} (hx : Gr K M x) (hy : Gr K M y) (sx : Sc p x x') (sy : Sc p y y') (lx : x < 18446744073709551616) (ly : y < 18446744073709551616) (lx' : x' < 18446744073709551616) (ly' : y' < 18446744073709551616)
    (hK : 52 ≤ K) (hM : M + 2 ≤ 2097) (hp1 : 52 ≤ (K : Int) + p) (hp2 : (M : Int) + 2 + p ≤ 2097) : Gr K (M + 2) (fadd x y) ∧ Sc p (fadd x y) (fadd x' y') := by
  by_cases x0 : magF x = 0
  · by_cases y0 : magF y = 0
    · have e1 : x' = x := by
        rcases sx with h | h
        · exact h.2
        · omega
      have e2 : y' = y := by
        rcases sy with h | h
        · exact h.2
        · omega
      have z : magF (fadd x y) = 0 := (fadd_mag_zero hx.fin hy.fin).2 (by rw [(sval_zero x).2 x0, (sval_zero y).2 y0]; rfl)
      rw [e1, e2]
      exact ⟨.zero z, .inl ⟨z, rfl⟩⟩
    · rw [fadd_comm x y, fadd_comm x' y', fadd_nought_right hy.fin y0 ly x0, fadd_nought_right (sc_fin sy hy.fin) (fun e => y0 ((sc_zero sy).1 e)) ly' ((sc_zero sx).2 x0)]
      exact ⟨hy.mono (Nat.le_refl _) (by omega), sy⟩
  · by_cases y0 : magF y = 0
    · rw [fadd_nought_right hx.fin x0 lx y0, fadd_nought_right (sc_fin sx hx.fin) (fun e => x0 ((sc_zero sx).1 e)) lx' ((sc_zero sy).2 y0)]
      exact ⟨hx.mono (Nat.le_refl _) (by omega), sx⟩
    · obtain ⟨m, i, w, hm, hr, hw, hw0, hwM, _⟩ := gr_read hx x0
      obtain ⟨n, j, v, hn, hq, hv, hv0, hvM, _⟩ := gr_read hy y0
      have hr' := sc_reads sx x0 hr
      have hq' := sc_reads sy y0 hq
      have c : min (-1074 + (i : Int)) (-1074 + (j : Int)) = -1074 + ((min i j : Nat) : Int) := by omega
      have c1 : (-1074 + (i : Int) - (-1074 + ((min i j : Nat) : Int))).toNat = i - min i j := by omega
      have c2 : (-1074 + (j : Int) - (-1074 + ((min i j : Nat) : Int))).toNat = j - min i j := by omega
      have c' : min (-1074 + (i : Int) + p) (-1074 + (j : Int) + p) = -1074 + ((min i j : Nat) : Int) + p := by omega
      have c1' : (-1074 + (i : Int) + p - (-1074 + ((min i j : Nat) : Int) + p)).toNat = i - min i j := by omega
      have c2' : (-1074 + (j : Int) + p - (-1074 + ((min i j : Nat) : Int) + p)).toNat = j - min i j := by omega
      have hV1 : Ieee.signed (negF x) m (i - min i j) * ((2 ^ min i j : Nat) : Int) = Ieee.signed (negF x) w K := by
        rw [← signed_scale, show i - min i j + min i j = i by omega, signed_val, signed_val, hw]
      have hV2 : Ieee.signed (negF y) n (j - min i j) * ((2 ^ min i j : Nat) : Int) = Ieee.signed (negF y) v K := by
        rw [← signed_scale, show j - min i j + min i j = j by omega, signed_val, signed_val, hv]
      have hS : (Ieee.signed (negF x) m (i - min i j) + Ieee.signed (negF y) n (j - min i j)) * ((2 ^ min i j : Nat) : Int) = (Ieee.signed (negF x) w 0 + Ieee.signed (negF y) v 0) * ((2 ^ K : Nat) : Int) := by
        rw [Int.add_mul, Int.add_mul, hV1, hV2, ← signed_scale, ← signed_scale, Nat.zero_add]
      unfold fadd Ieee.Format.add
      rw [hr, hq, hr', hq']
      simp only [Ieee.Datum.sum, c, c1, c2, c', c1', c2', Option.map_some, Option.getD_some]
      have wa : (Ieee.signed (negF x) w 0).natAbs = w := by rw [signed_val]; cases negF x <;> simp
      have va : (Ieee.signed (negF y) v 0).natAbs = v := by rw [signed_val]; cases negF y <;> simp
      generalize Ieee.signed (negF x) m (i - min i j) + Ieee.signed (negF y) n (j - min i j) = T at *
      generalize hU : Ieee.signed (negF x) w 0 + Ieee.signed (negF y) v 0 = U at *
      have hT : T.natAbs * 2 ^ min i j = U.natAbs * 2 ^ K := by
        have := congrArg Int.natAbs hS
        rw [Int.natAbs_mul, Int.natAbs_mul, Int.natAbs_natCast, Int.natAbs_natCast] at this
        exact this
      show Gr K (M + 2) (Ieee.double.nearest (if T = 0 then negF x && negF y else decide (T < 0)) T.natAbs (-1074 + ((min i j : Nat) : Int))) ∧
        Sc p (Ieee.double.nearest (if T = 0 then negF x && negF y else decide (T < 0)) T.natAbs (-1074 + ((min i j : Nat) : Int))) (Ieee.double.nearest (if T = 0 then negF x && negF y else decide (T < 0)) T.natAbs (-1074 + ((min i j : Nat) : Int) + p))
      by_cases h0 : T = 0
      · rw [if_pos h0, h0, Int.natAbs_zero, nearest_zero, nearest_zero]
        have z : magF (Ieee.double.word (negF x && negF y) 0) = 0 := mag_word (by omega)
        exact ⟨.zero z, .inl ⟨z, rfl⟩⟩
      · rw [if_neg h0]
        have hT0 : T.natAbs ≠ 0 := by omega
        have hU0 : U.natAbs ≠ 0 := by
          intro e
          rw [e, Nat.zero_mul] at hT
          exact Nat.mul_ne_zero hT0 (Nat.ne_of_gt (Nat.two_pow_pos _)) hT
        have e1 := near_same (decide (T < 0)) hT0 hT (-1074)
        have e2 := near_same (decide (T < 0)) hT0 hT (-1074 + p)
        rw [show -1074 + ((min i j : Nat) : Int) + p = -1074 + p + ((min i j : Nat) : Int) by omega, e1, e2]
        have hb : U.natAbs * 2 ^ K < 2 ^ (M + 2) := by
          have hle : U.natAbs ≤ w + v := by omega
          have : (w + v) * 2 ^ K ≤ 2 ^ M + 2 ^ M := by rw [Nat.add_mul]; omega
          have h4 : 2 ^ (M + 2) = 2 ^ M * 4 := Nat.pow_add 2 M 2
          have hpos : 0 < 2 ^ M := Nat.two_pow_pos M
          have := Nat.mul_le_mul_right (2 ^ K) hle
          omega
        have g := (near_gr (decide (T < 0)) hU0 hb hK (by omega)).1
        have k := near_sc (p := p) (decide (T < 0)) hU0 hb hK (by omega) hp1 (by omega)
        rw [show -1074 + (K : Int) = (K : Int) - 1074 by omega, show -1074 + p + (K : Int) = (K : Int) - 1074 + p by omega]
        exact ⟨g, k⟩
theorem sc_fsub {p : Int} {x y x' y' K M : Nat} (hx : Gr K M x) (hy : Gr K M y) (sx : Sc p x x') (sy : Sc p y y') (lx : x < 18446744073709551616) (ly : y < 18446744073709551616) (lx' : x' < 18446744073709551616) (ly' : y' < 18446744073709551616)
    (hK : 52 ≤ K) (hM : M + 2 ≤ 2097) (hp1 : 52 ≤ (K : Int) + p) (hp2 : (M : Int) + 2 + p ≤ 2097) : Gr K (M + 2) (fsub x y) ∧ Sc p (fsub x y) (fsub x' y') := by
  rw [fsub_fneg hy.fin, fsub_fneg (sc_fin sy hy.fin)]
  exact sc_fadd hx hy.neg sx (sc_fneg sy) lx (fneg_lt ly) lx' (fneg_lt ly') hK hM hp1 hp2
theorem sc_fmulG {p : Int} {c y y' Kc Mc K M K' M' : Nat} (hc : Gr Kc Mc c) (hy : Gr K M y) (sy : Sc p y y') (hKK : Kc + K = K' + 1074) (hMM : Mc + M + 1 = M' + 1074)
    (hK : 52 ≤ K') (hM : M' ≤ 2097) (hp1 : 52 ≤ (K' : Int) + p) (hp2 : (M' : Int) + p ≤ 2097) : Gr K' M' (fmul c y) ∧ Sc p (fmul c y) (fmul c y') := by
  obtain ⟨m, i, hr, hm⟩ := read_fin hc.fin
  obtain ⟨n, j, hq, hn⟩ := read_fin hy.fin
  have e1 : fmul c y = Ieee.double.nearest (negF c ^^ negF y) (m * n) (-1074 + (i : Int) + (-1074 + (j : Int))) := by unfold fmul Ieee.Format.mul; rw [hr, hq]; rfl
  by_cases y0 : magF y = 0
  · have e2 : y' = y := by
      rcases sy with h | h
      · exact h.2
      · omega
    have n0 : n = 0 := by
      rw [y0] at hn
      rcases Nat.mul_eq_zero.1 (hn.trans (by decide +kernel : vmag 0 = 0)) with h | h
      · exact h
      · exact absurd h (Nat.ne_of_gt (Nat.two_pow_pos j))
    have z : magF (fmul c y) = 0 := by rw [e1, n0, Nat.mul_zero, nearest_zero]; exact mag_word (by omega)
    rw [e2]
    exact ⟨.zero z, .inl ⟨z, rfl⟩⟩
  · have hq' := sc_reads sy y0 hq
    have e2 : fmul c y' = Ieee.double.nearest (negF c ^^ negF y) (m * n) (-1074 + (i : Int) + (-1074 + (j : Int) + p)) := by unfold fmul Ieee.Format.mul; rw [hr, hq']; rfl
    by_cases c0 : magF c = 0
    · have m0 : m = 0 := by
        rw [c0] at hm
        rcases Nat.mul_eq_zero.1 (hm.trans (by decide +kernel : vmag 0 = 0)) with h | h
        · exact h
        · exact absurd h (Nat.ne_of_gt (Nat.two_pow_pos i))
      rw [e1, e2, m0, Nat.zero_mul, nearest_zero, nearest_zero]
      have z : magF (Ieee.double.word (negF c ^^ negF y) 0) = 0 := mag_word (by omega)
      exact ⟨.zero z, .inl ⟨z, rfl⟩⟩
    · obtain ⟨w, hw⟩ := hc.dv
      obtain ⟨v, hv⟩ := hy.dv
      have hv1 : vmag (magF c) ≠ 0 := fun e => c0 ((vmag_zero _).1 e)
      have hv2 : vmag (magF y) ≠ 0 := fun e => y0 ((vmag_zero _).1 e)
      have hmn : m * n ≠ 0 := by
        refine Nat.mul_ne_zero ?_ ?_
        · rintro rfl; rw [Nat.zero_mul] at hm; exact hv1 hm.symm
        · rintro rfl; rw [Nat.zero_mul] at hn; exact hv2 hn.symm
      have hwv : w * v ≠ 0 := by
        refine Nat.mul_ne_zero ?_ ?_
        · rintro rfl; rw [Nat.mul_zero] at hw; exact hv1 hw
        · rintro rfl; rw [Nat.mul_zero] at hv; exact hv2 hv
      have hP : m * n * 2 ^ (i + j) = w * v * 2 ^ (Kc + K) := by
        rw [Nat.pow_add, Nat.pow_add, show m * n * (2 ^ i * 2 ^ j) = (m * 2 ^ i) * (n * 2 ^ j) by ac_rfl, hm, hn, hw, hv]; ac_rfl
      have hb : w * v * 2 ^ K' < 2 ^ M' := by
        have h1 : w * v * 2 ^ (Kc + K) ≤ 2 ^ (Mc + M) := by
          rw [← hP, Nat.pow_add 2 i j, Nat.pow_add 2 Mc M, show m * n * (2 ^ i * 2 ^ j) = (m * 2 ^ i) * (n * 2 ^ j) by ac_rfl, hm, hn]
          exact Nat.mul_le_mul hc.le hy.le
        rw [hKK, Nat.pow_add, ← Nat.mul_assoc] at h1
        have h2 : 2 ^ (Mc + M) < 2 ^ M' * 2 ^ 1074 := by
          rw [← Nat.pow_add, ← hMM]
          exact Nat.pow_lt_pow_right (by omega) (by omega)
        exact Nat.lt_of_mul_lt_mul_right (Nat.lt_of_le_of_lt h1 h2)
      have k1 := near_same (negF c ^^ negF y) hmn hP (-2148)
      have k2 := near_same (negF c ^^ negF y) hmn hP (-2148 + p)
      rw [show -1074 + (i : Int) + (-1074 + (j : Int)) = -2148 + ((i + j : Nat) : Int) by omega] at e1
      rw [show -1074 + (i : Int) + (-1074 + (j : Int) + p) = -2148 + p + ((i + j : Nat) : Int) by omega] at e2
      rw [e1, e2, k1, k2, show -2148 + ((Kc + K : Nat) : Int) = (K' : Int) - 1074 by omega, show -2148 + p + ((Kc + K : Nat) : Int) = (K' : Int) - 1074 + p by omega]
      exact ⟨(near_gr _ hwv hb hK hM).1, near_sc _ hwv hb hK hM hp1 hp2⟩
end Go.Eng
/-
  Floats times a power of two: quotients, products with the power itself, sums of products; comparisons with a constant. No condition. (Groundwork for SolveScales, LowerScaled.)
-/
set_option maxRecDepth 100000
set_option maxHeartbeats 4000000
set_option exponentiation.threshold 5000
namespace Go.Eng
theorem nearest_lt (s : Bool) (m : Nat) (p : Int) : Ieee.double.nearest s m p < 18446744073709551616 := by
  obtain ⟨r, h1, h2, _⟩ := nearest_form s m p
  rw [h1]; exact word_bound s r (by omega)
theorem fadd_lt {x y : Nat} (hx : magF x < 9218868437227405312) (hy : magF y < 9218868437227405312) : fadd x y < 18446744073709551616 := fadd_fin_lt hx hy
theorem fsub_lt {x y : Nat} (hx : magF x < 9218868437227405312) (hy : magF y < 9218868437227405312) : fsub x y < 18446744073709551616 := by
  rw [fsub_fneg hy]; exact fadd_fin_lt hx (by rw [fneg_mag]; exact hy)
theorem fmul_lt {x y : Nat} (hx : magF x < 9218868437227405312) (hy : magF y < 9218868437227405312) : fmul x y < 18446744073709551616 := by
  obtain ⟨m, i, hr, _⟩ := read_fin hx
  obtain ⟨n, j, hq, _⟩ := read_fin hy
  have : fmul x y = Ieee.double.nearest (negF x ^^ negF y) (m * n) (-1074 + (i : Int) + (-1074 + (j : Int))) := by unfold fmul Ieee.Format.mul; rw [hr, hq]; rfl
  rw [this]; exact nearest_lt _ _ _
theorem fdiv_lt {x y : Nat} (hx : magF x < 9218868437227405312) (hy : magF y < 9218868437227405312) (h0 : magF y ≠ 0) : fdiv x y < 18446744073709551616 := by
  obtain ⟨m, i, hr, _⟩ := read_fin hx
  obtain ⟨n, j, hq, hn⟩ := read_fin hy
  have hn0 : n ≠ 0 := by
    rintro rfl; rw [Nat.zero_mul] at hn
    exact h0 ((vmag_zero _).1 hn.symm)
  unfold fdiv Ieee.Format.div
  rw [hr, hq]
  simp only [Ieee.Datum.quotient, if_neg hn0, Option.map_some, Option.getD_some]
  exact nearest_lt _ _ _
theorem sc_fdivG {p : Int} {x x' d K M K' M' a b : Nat} (hx : Gr K M x) (sx : Sc p x x') (hd : magF d < 9218868437227405312) (ha : 2 ^ a ≤ vmag (magF d)) (hb : vmag (magF d) ≤ 2 ^ b)
    (hK : K' + b ≤ K + 1021) (hM : M + 1076 ≤ M' + a) (hK' : 52 ≤ K') (hM' : M' ≤ 2097) (hp1 : 52 ≤ (K' : Int) + p) (hp2 : (M' : Int) + p ≤ 2097) : Gr K' M' (fdiv x d) ∧ Sc p (fdiv x d) (fdiv x' d) := by
  obtain ⟨n, j, hq, hn⟩ := read_fin hd
  have hn0 : n ≠ 0 := by
    rintro rfl
    rw [Nat.zero_mul] at hn
    have := Nat.two_pow_pos a
    omega
  by_cases x0 : magF x = 0
  · have e2 : x' = x := by
      rcases sx with h | h
      · exact h.2
      · omega
    have rx : Ieee.double.read x = .number (negF x) 0 (-1074) := by rw [read_small (by omega), x0]
    have e : fdiv x d = Ieee.double.word (negF x ^^ negF d) 0 := by
      unfold fdiv Ieee.Format.div
      rw [rx, hq]
      simp only [Ieee.Datum.quotient, if_neg hn0, Option.map_some, Option.getD_some, Nat.zero_shiftLeft, Nat.zero_div, Nat.zero_mod, Nat.mul_zero]
      exact nearest_zero _ _
    have z : magF (fdiv x d) = 0 := by rw [e]; exact mag_word (by omega)
    rw [e2]
    exact ⟨.zero z, .inl ⟨z, rfl⟩⟩
  · obtain ⟨m, i, w, hm, hr, hw, hw0, hwM, hv⟩ := gr_read hx x0
    have hr' := sc_reads sx x0 hr
    have hvK : 2 ^ K ≤ m * 2 ^ i := by
      rw [hw]
      exact Nat.le_mul_of_pos_left _ (by omega)
    have hvM : m * 2 ^ i ≤ 2 ^ M := by rw [hw]; exact hwM
    have hna : 2 ^ a ≤ n * 2 ^ j := by rw [hn]; exact ha
    have hnb : n * 2 ^ j ≤ 2 ^ b := by rw [hn]; exact hb
    generalize hmo : 54 + n.log2 - m.log2 = mo
    generalize hD : m * 2 ^ mo = D
    generalize hS : (D % n != 0).toNat = S
    have hS1 : S ≤ 1 := by rw [← hS]; cases (D % n != 0) <;> simp
    have e1 : fdiv x d = Ieee.double.nearest (negF x ^^ negF d) (2 * (D / n) + S) ((i : Int) - j - mo - 1) := by
      unfold fdiv Ieee.Format.div
      rw [hr, hq, fb]
      simp only [Ieee.Datum.quotient, if_neg hn0, Option.map_some, Option.getD_some]
      rw [show 52 + 2 + n.log2 - m.log2 = mo by omega, Nat.shiftLeft_eq, hD, hS]
      rw [show -1074 + (i : Int) - (-1074 + (j : Int)) - (mo : Int) - 1 = (i : Int) - j - mo - 1 by omega]
      rfl
    have e2 : fdiv x' d = Ieee.double.nearest (negF x ^^ negF d) (2 * (D / n) + S) ((i : Int) - j - mo - 1 + p) := by
      unfold fdiv Ieee.Format.div
      rw [hr', hq, fb]
      simp only [Ieee.Datum.quotient, if_neg hn0, Option.map_some, Option.getD_some]
      rw [show 52 + 2 + n.log2 - m.log2 = mo by omega, Nat.shiftLeft_eq, hD, hS]
      rw [show -1074 + (i : Int) + p - (-1074 + (j : Int)) - (mo : Int) - 1 = (i : Int) - j - mo - 1 + p by omega]
      rfl
    have l1 : 2 ^ m.log2 ≤ m := Nat.log2_self_le hm
    have l2 : n < 2 ^ (n.log2 + 1) := Nat.lt_log2_self
    have hDn : 2 ^ 53 * n ≤ D := by
      have h1 : 2 ^ (m.log2 + mo) ≤ D := by rw [← hD, Nat.pow_add]; exact Nat.mul_le_mul_right _ l1
      have h2 : 2 ^ 53 * n ≤ 2 ^ 53 * 2 ^ (n.log2 + 1) := Nat.mul_le_mul_left _ (Nat.le_of_lt l2)
      rw [← Nat.pow_add] at h2
      have h3 : 2 ^ (53 + (n.log2 + 1)) ≤ 2 ^ (m.log2 + mo) := Nat.pow_le_pow_right (by omega) (by omega)
      omega
    have hq53 : 2 ^ 53 ≤ D / n := (Nat.le_div_iff_mul_le (by omega)).2 hDn
    have dm := Nat.div_add_mod D n
    have dl := Nat.mod_lt D (show 0 < n by omega)
    generalize hQ : D / n = Q at *
    have hW0 : 2 * Q + S ≠ 0 := by
      have := Nat.two_pow_pos 53
      omega
    have t1 : 2 ^ (2 * Q + S).log2 ≤ 2 * Q + S := Nat.log2_self_le hW0
    have t2 : 2 * Q + S < 2 ^ ((2 * Q + S).log2 + 1) := Nat.lt_log2_self
    have hup : (2 * Q + S).log2 + a + i ≤ 2 + M + mo + j := by
      generalize (2 * Q + S).log2 = t at *
      have h1 : 2 ^ t * n ≤ 4 * D := by
        have a1 : 2 ^ t * n ≤ (2 * Q + S) * n := Nat.mul_le_mul_right _ t1
        have a2 : (2 * Q + S) * n ≤ 2 * D + n := by
          rw [Nat.add_mul]
          have : S * n ≤ n := by
            have := Nat.mul_le_mul_right n hS1
            omega
          have : 2 * Q * n = 2 * (n * Q) := by rw [Nat.mul_assoc, Nat.mul_comm Q n]
          omega
        have a3 : n ≤ D := by
          have : 1 * n ≤ 2 ^ 53 * n := Nat.mul_le_mul_right _ (by decide)
          omega
        omega
      have h2 : 2 ^ t * 2 ^ a * 2 ^ i ≤ 4 * 2 ^ M * 2 ^ mo * 2 ^ j := by
        calc 2 ^ t * 2 ^ a * 2 ^ i ≤ 2 ^ t * (n * 2 ^ j) * 2 ^ i := Nat.mul_le_mul_right _ (Nat.mul_le_mul_left _ hna)
          _ = (2 ^ t * n) * (2 ^ j * 2 ^ i) := by ac_rfl
          _ ≤ (4 * D) * (2 ^ j * 2 ^ i) := Nat.mul_le_mul_right _ h1
          _ = 4 * (m * 2 ^ i) * 2 ^ mo * 2 ^ j := by rw [← hD]; ac_rfl
          _ ≤ 4 * 2 ^ M * 2 ^ mo * 2 ^ j := Nat.mul_le_mul_right _ (Nat.mul_le_mul_right _ (Nat.mul_le_mul_left _ hvM))
      rw [show (4 : Nat) = 2 ^ 2 by decide, ← Nat.pow_add, ← Nat.pow_add, ← Nat.pow_add, ← Nat.pow_add, ← Nat.pow_add] at h2
      exact (Nat.pow_le_pow_iff_right (by omega)).1 h2
    have hlo : 1 + K + mo + j < (2 * Q + S).log2 + 2 + b + i := by
      generalize (2 * Q + S).log2 = t at *
      have h1 : 2 * D < 2 ^ (t + 2) * n := by
        have a1 : 2 * Q + 2 ≤ 2 ^ (t + 2) := by
          have p1 : 2 ^ (t + 2) = 2 ^ (t + 1) * 2 := Nat.pow_succ 2 (t + 1)
          have p0 : 0 < 2 ^ (t + 1) := Nat.two_pow_pos _
          omega
        have a2 : 2 * D < (2 * Q + 2) * n := by
          have : (2 * Q + 2) * n = 2 * (n * Q) + 2 * n := by rw [Nat.add_mul, Nat.mul_assoc, Nat.mul_comm Q n]
          omega
        exact Nat.lt_of_lt_of_le a2 (Nat.mul_le_mul_right _ a1)
      have h2 : 2 * 2 ^ K * 2 ^ mo * 2 ^ j < 2 ^ (t + 2) * 2 ^ b * 2 ^ i := by
        calc 2 * 2 ^ K * 2 ^ mo * 2 ^ j ≤ 2 * (m * 2 ^ i) * 2 ^ mo * 2 ^ j := Nat.mul_le_mul_right _ (Nat.mul_le_mul_right _ (Nat.mul_le_mul_left _ hvK))
          _ = (2 * D) * (2 ^ j * 2 ^ i) := by rw [← hD]; ac_rfl
          _ < (2 ^ (t + 2) * n) * (2 ^ j * 2 ^ i) := Nat.mul_lt_mul_of_pos_right h1 (Nat.mul_pos (Nat.two_pow_pos j) (Nat.two_pow_pos i))
          _ = 2 ^ (t + 2) * (n * 2 ^ j) * 2 ^ i := by ac_rfl
          _ ≤ 2 ^ (t + 2) * 2 ^ b * 2 ^ i := Nat.mul_le_mul_right _ (Nat.mul_le_mul_left _ hnb)
      rw [show 2 * 2 ^ K * 2 ^ mo * 2 ^ j = 2 ^ (1 + K + mo + j) by rw [Nat.pow_add, Nat.pow_add, Nat.pow_add, Nat.pow_one], ← Nat.pow_add, ← Nat.pow_add] at h2
      exact (Nat.pow_lt_pow_iff_right (by omega)).1 h2
    rw [e1, e2]
    obtain ⟨g1, _, g3, _⟩ := near_vmag (negF x ^^ negF d) hW0 (e := (i : Int) - j - mo - 1) (by omega) (by omega)
    refine ⟨⟨g1, ?_, ?_⟩, sc_nearest _ hW0 (by omega) (by omega) (by omega) (by omega)⟩
    · rw [g3]
      exact Nat.dvd_trans (Nat.pow_dvd_pow 2 (by omega)) (Nat.dvd_mul_left _ _)
    · rw [g3]
      refine Nat.le_trans (Nat.mul_le_mul_right _ (kept_bounds _ hW0).2) ?_
      rw [show (9007199254740992 : Nat) = 2 ^ 53 by decide, ← Nat.pow_add]
      exact Nat.pow_le_pow_right (by omega) (by omega)
def pow2F (p : Int) : Nat := (p + 1023).toNat * 4503599627370496
theorem pow2_read {p : Int} (h1 : -1022 ≤ p) (h2 : p ≤ 1023) : Ieee.double.read (pow2F p) = .number false 4503599627370496 (p - 52) := by
  unfold pow2F
  generalize hE : (p + 1023).toNat = E
  have m : magF (E * 4503599627370496) = E * 4503599627370496 := Nat.mod_eq_of_lt (by omega)
  have n : negF (E * 4503599627370496) = false := by
    unfold negF
    rw [Nat.div_eq_of_lt (by omega)]; rfl
  rw [read_normal (by rw [m]; omega) (by rw [m]; omega), m, n]
  have a1 : 4503599627370496 + E * 4503599627370496 % 4503599627370496 = 4503599627370496 := by omega
  have a2 : -1074 + ((E * 4503599627370496 / 4503599627370496 - 1 : Nat) : Int) = p - 52 := by omega
  rw [a1, a2]
theorem fmul_num {x y m n : Nat} {s t : Bool} {i j : Int} (hx : Ieee.double.read x = .number s m i) (hy : Ieee.double.read y = .number t n j) : fmul x y = Ieee.double.nearest (s ^^ t) (m * n) (i + j) := by unfold fmul Ieee.Format.mul; rw [hx, hy]; rfl
theorem sc_pow2 {p : Int} {x K M : Nat} (hx : Gr K M x) (hl : x < 18446744073709551616) (h1 : -1022 ≤ p) (h2 : p ≤ 1023) (hK : 52 ≤ K) (hM : M + 1 ≤ 2097) (hp1 : 52 ≤ (K : Int) + p) (hp2 : (M : Int) + 1 + p ≤ 2097) : Sc p x (fmul x (pow2F p)) ∧ fmul x (pow2F p) < 18446744073709551616 := by
  have hr2 := pow2_read h1 h2
  by_cases x0 : magF x = 0
  · have rx : Ieee.double.read x = .number (negF x) 0 (-1074) := by rw [read_small (by omega), x0]
    have e : fmul x (pow2F p) = x := by
      have : fmul x (pow2F p) = Ieee.double.word (negF x ^^ false) 0 := by
        rw [fmul_num rx hr2, Nat.zero_mul, nearest_zero]
      rw [this, Bool.xor_false, ← x0, word_self hl]
    rw [e]
    exact ⟨.inl ⟨x0, rfl⟩, hl⟩
  · obtain ⟨m, i, w, hm, hr, hw, hw0, hwM, _⟩ := gr_read hx x0
    have ex := write_read hx.fin hl
    rw [hr] at ex
    have ex : Ieee.double.nearest (negF x) m (-1074 + (i : Int)) = x := ex
    have ey : fmul x (pow2F p) = Ieee.double.nearest (negF x) m (-1074 + p + (i : Int)) := by
      have h52 := nearest_shift (negF x) hm (-1074 + (i : Int) + (p - 52)) 52
      have p52 : (2 : Nat) ^ 52 = 4503599627370496 := by decide
      rw [p52] at h52
      rw [fmul_num hr hr2, Bool.xor_false, h52, show -1074 + (i : Int) + (p - 52) + ((52 : Nat) : Int) = -1074 + p + (i : Int) by omega]
    have k1 := near_same (negF x) hm hw (-1074)
    have k2 := near_same (negF x) hm hw (-1074 + p)
    have hb : w * 2 ^ K < 2 ^ (M + 1) := by
      have := Nat.pow_succ 2 M
      have := Nat.two_pow_pos M
      omega
    have := near_sc (p := p) (negF x) hw0 hb hK hM hp1 hp2
    rw [show -1074 + (K : Int) = (K : Int) - 1074 by omega, ex] at k1
    rw [show -1074 + p + (K : Int) = (K : Int) - 1074 + p by omega] at k2
    rw [ey, k2]
    rw [← k1] at this
    exact ⟨this, nearest_lt _ _ _⟩
theorem sc_uniq {p : Int} {x y y' : Nat} (h : Sc p x y) (h' : Sc p x y') (hl : y < 18446744073709551616) (hl' : y' < 18446744073709551616) : y = y' := by
  rcases h with ⟨h1, h2⟩ | ⟨h1, h2, h3, h4, h5, h6⟩
  · rcases h' with ⟨_, k2⟩ | ⟨k1, _⟩
    · rw [h2, k2]
    · omega
  · rcases h' with ⟨k1, _⟩ | ⟨_, _, _, _, k5, k6⟩
    · omega
    · rw [word_eq hl, word_eq hl', h5, k5]
      congr 1; omega
end Go.Eng
