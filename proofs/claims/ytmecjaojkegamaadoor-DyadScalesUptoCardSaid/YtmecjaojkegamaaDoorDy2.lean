/-
  Dyads on the plain side: which are right, their numbers, sums and products. No condition.
-/
import Derived.Test.YtmecjaojkegamaaDoorDy1
set_option linter.unusedVariables false
set_option linter.unusedSimpArgs false
set_option linter.unnecessarySimpa false
set_option linter.unusedSectionVars false
set_option maxRecDepth 100000
set_option maxHeartbeats 400000
set_option exponentiation.threshold 70000
namespace Go.Eng
open Go

theorem awake02 : T_girderlaw02_awake = some true := by decide +kernel

/-- A dyad that is right. -/
def Gd (s : Bool) (l : List Int) (e : Int) : Prop := (l = [] ∧ s = false ∧ e = 0) ∨ ∃ m, m % 2 = 1 ∧ l = LW m ∧ -65536 ≤ e ∧ e ≤ 65536 ∧ blN m ≤ 16384

theorem blN_le {m k : Nat} : blN m ≤ k ↔ m < 2 ^ k := by
  unfold blN
  by_cases h : m = 0
  · subst h; simp; exact Nat.two_pow_pos k
  · rw [if_neg h, ← Nat.log2_lt h]; omega

theorem Gd.ld {s : Bool} {l : List Int} {e : Int} (h : Gd s l e) : Ld l ∧ l.length ≤ 256 ∧ -65536 ≤ e ∧ e ≤ 65536 ∧ lv l < 2 ^ 16384 := by
  rcases h with ⟨rfl, _, rfl⟩ | ⟨m, _, rfl, h1, h2, h3⟩
  · refine ⟨fun x hx => (by cases hx), by simp, by decide, by decide, ?_⟩
    exact Nat.two_pow_pos 16384
  · have := blN_le.1 h3
    refine ⟨LW_ld m, LW_len (by simpa using this), h1, h2, by rw [lv_LW]; exact this⟩

theorem even1 {x : Int} (h0 : 0 ≤ x) (h : x < 18446744073709551616) : IntKind.u64.wrap (BitVec.ofInt IntKind.u64.bits x &&& BitVec.ofInt IntKind.u64.bits 1).toNat = x % 2 := by
  obtain ⟨n, rfl⟩ := Int.eq_ofNat_of_zero_le h0
  have e : (BitVec.ofInt IntKind.u64.bits ((n : Nat) : Int) &&& BitVec.ofInt IntKind.u64.bits 1).toNat = n % 2 := by
    show (BitVec.ofInt 64 ((n : Nat) : Int) &&& BitVec.ofInt 64 ((1 : Nat) : Int)).toNat = _
    rw [BitVec.toNat_and, BitVec.ofInt_natCast, BitVec.ofInt_natCast, BitVec.toNat_ofNat, BitVec.toNat_ofNat, Nat.mod_eq_of_lt (by omega)]
    exact Nat.and_one_is_mod n
  rw [e, w64n (by omega)]; omega

theorem LW_top {m : Nat} (h : m ≠ 0) : (LW m).getD ((LW m).length - 1) 0 ≠ 0 := by
  induction m using LW_ind with
  | h0 => exact absurd rfl h
  | h n h0 ih =>
    rw [LW_pos h0]
    by_cases e : n / 18446744073709551616 = 0
    · rw [e, LW_zero]
      simp; omega
    · have := ih e
      have hl : (LW (n / 18446744073709551616)) ≠ [] := fun c => e (LW_nil.1 c)
      obtain ⟨x, r, hx⟩ := List.exists_cons_of_ne_nil hl
      rw [hx] at this ⊢
      simpa using this

theorem dright_t {s : Bool} {l : List Int} {e : Int} (hl : Ld l) (hn : l.length ≤ 4294967296) : ∃ b, T_dyad_Right s l e = some b ∧ (b = true ↔ Gd s l e) := by
  unfold T_dyad_Right
  rw [Option.bind_some]
  cases l with
  | nil =>
    rw [cond_t (by rfl)]
    cases s with
    | false =>
      refine ⟨e == 0, rfl, ?_⟩
      constructor
      · intro h; exact .inl ⟨rfl, rfl, by simpa using h⟩
      · rintro (⟨_, _, h⟩ | ⟨m, h1, h2, _⟩)
        · simpa using h
        · have := LW_nil.1 h2.symm; omega
    | true =>
      refine ⟨false, rfl, ?_⟩
      constructor
      · intro h; cases h
      · rintro (⟨_, h, _⟩ | ⟨m, h1, h2, _⟩)
        · cases h
        · have := LW_nil.1 h2.symm; omega
  | cons x r =>
    have hne : ¬ ((x :: r) = []) := by simp
    have none : ¬ Gd s (x :: r) e → ∃ b, some false = some b ∧ (b = true ↔ Gd s (x :: r) e) := fun h => ⟨false, rfl, ⟨fun c => (by cases c), fun c => absurd c h⟩⟩
    have hx := hl x (List.mem_cons_self ..)
    rw [cond_f (by simp; omega)]
    have gdl : Gd s (x :: r) e → (x :: r).length ≤ 256 := fun h => h.ld.2.1
    have split : Gd s (x :: r) e → (x :: r).getD ((x :: r).length - 1) 0 ≠ 0 ∧ x % 2 = 1 ∧ -65536 ≤ e ∧ e ≤ 65536 := by
      rintro (⟨h, _⟩ | ⟨m, h1, h2, h3, h4, _⟩)
      · cases h
      · have hm : m ≠ 0 := by omega
        refine ⟨by rw [h2]; exact LW_top hm, ?_, h3, h4⟩
        rw [LW_pos hm] at h2
        have : x = ((m % 18446744073709551616 : Nat) : Int) := by injection h2
        omega
    by_cases c1 : (x :: r).length ≤ 256
    · rw [cond_t (by simp at c1 ⊢; omega), wrI (by omega) (by omega)]
      have ei : (((x :: r).length : Nat) : Int) - 1 = (((x :: r).length - 1 : Nat) : Int) := by simp
      rw [ei, at_getD 0 (by simp), Option.bind_some]
      by_cases c2 : (x :: r).getD ((x :: r).length - 1) 0 = 0
      · rw [cond_f (by simpa using c2)]
        exact none fun h => (split h).1 c2
      · rw [cond_t (by simpa using c2)]
        have e0 : atI (x :: r) 0 = some x := rfl
        rw [e0, Option.bind_some, even1 hx.1 hx.2]
        by_cases c3 : x % 2 = 1
        · rw [cond_t (by simpa using c3)]
          by_cases c4 : -65536 ≤ e
          · rw [cond_t (by simpa using c4)]
            refine ⟨decide (e ≤ 65536), rfl, ?_⟩
            rw [decide_eq_true_iff]
            constructor
            · intro c5
              have hw := LW_of hl (.inr c2)
              refine .inr ⟨lv (x :: r), ?_, hw, c4, c5, ?_⟩
              · have e0 : lv (x :: r) = x.toNat + 18446744073709551616 * lv r := rfl
                rw [e0]; omega
              · refine blN_le.2 (Nat.lt_of_lt_of_le (lv_lt hl) (Nat.pow_le_pow_right (by omega) (by omega)))
            · intro h; exact (split h).2.2.2
          · rw [cond_f (by simpa using c4)]
            exact none fun h => c4 (split h).2.2.1
        · rw [cond_f (by simpa using c3)]
          exact none fun h => c3 (split h).2.1
    · rw [cond_f (by simp at c1 ⊢; omega)]
      exact none fun h => c1 (gdl h)

theorem right_of {s : Bool} {l : List Int} {e : Int} (h : Gd s l e) : T_dyad_Right s l e = some true := by
  obtain ⟨b, h1, h2⟩ := dright_t (s := s) (e := e) h.ld.1 (by have := h.ld.2.1; omega)
  rw [h1, h2.2 h]

/-- The whole number of a dyad, and its number in units of 2^-65536. -/
def zD (s : Bool) (l : List Int) : Int := sgN s (lv l)
def nD (s : Bool) (l : List Int) (e : Int) : Int := zD s l * ((2 ^ (e + 65536).toNat : Nat) : Int)

theorem sgN_abs (s : Bool) (m : Nat) : (sgN s m).natAbs = m := by unfold sgN; cases s <;> simp
theorem zD_abs (s : Bool) (l : List Int) : (zD s l).natAbs = lv l := sgN_abs s _
theorem Gd.z_zero {s : Bool} {l : List Int} {e : Int} (h : Gd s l e) : zD s l = 0 ↔ l = [] := by
  constructor
  · intro hz
    have hm := zD_abs s l
    rw [hz] at hm
    rcases h with ⟨h, _⟩ | ⟨m, h1, h2, _⟩
    · exact h
    · rw [h2, lv_LW] at hm
      have : m = 0 := hm.symm
      omega
  · rintro rfl; unfold zD sgN lv; cases s <;> rfl

/-- What is right is in the form. -/
theorem cano_gd {s : Bool} {l : List Int} {e : Int} (h : Gd s l e) : cano (zD s l) e = (s, l, e, 0) := by
  rcases h with ⟨rfl, rfl, rfl⟩ | ⟨m, h1, rfl, h3, h4, h5⟩
  · rfl
  · have hm : m ≠ 0 := by omega
    have hz : zD s (LW m) ≠ 0 := by
      intro h
      have := zD_abs s (LW m)
      rw [h, lv_LW] at this
      exact hm this.symm
    have hs : decide (zD s (LW m) < 0) = s := by
      unfold zD sgN
      rw [lv_LW]
      cases s <;> simp <;> omega
    unfold cano
    rw [if_neg hz, zD_abs, lv_LW, hs, tzN_odd h1]
    unfold canoO
    have hc : ¬ (e + ((0 : Nat) : Int) < -65536 ∨ 65536 < e + ((0 : Nat) : Int) ∨ 16384 < blN (m / 2 ^ 0)) := by simp; omega
    rw [if_neg hc, Nat.pow_zero, Nat.div_one, Int.natCast_zero, Int.add_zero]
theorem nD_cano {s : Bool} {l : List Int} {e : Int} (h : Gd s l e) : cano (nD s l e) (-65536) = (s, l, e, 0) := by
  have hb := h.ld
  have := cano_shift (zD s l) e (e + 65536).toNat
  rw [cano_gd h] at this
  unfold nD
  rw [← this]
  congr 1; omega

/-- What the form says: a right dyad of the same number, or too long. -/
theorem cano_out (z e : Int) : (cano z e = longD) ∨ ∃ s l f, cano z e = (s, l, f, 0) ∧ Gd s l f ∧ ∃ j : Nat, zD s l * ((2 ^ j : Nat) : Int) = z ∧ (z ≠ 0 → f = e + j) := by
  unfold cano
  by_cases h0 : z = 0
  · rw [if_pos h0]
    exact .inr ⟨false, [], 0, rfl, .inl ⟨rfl, rfl, rfl⟩, 0, by subst h0; rfl, fun h => absurd h0 h⟩
  · rw [if_neg h0]
    unfold canoO
    by_cases c : e + (tzN z.natAbs : Int) < -65536 ∨ 65536 < e + (tzN z.natAbs : Int) ∨ 16384 < blN (z.natAbs / 2 ^ tzN z.natAbs)
    · rw [if_pos c]; exact .inl rfl
    · rw [if_neg c]
      obtain ⟨k1, k2, _⟩ := tzN_spec (n := z.natAbs) (by omega)
      refine .inr ⟨_, _, _, rfl, .inr ⟨_, k2, rfl, by omega, by omega, by omega⟩, tzN z.natAbs, ?_, fun _ => rfl⟩
      have e1 : (z.natAbs / 2 ^ tzN z.natAbs) * 2 ^ tzN z.natAbs = z.natAbs := by rw [Nat.mul_comm]; exact k1.symm
      unfold zD sgN
      rw [lv_LW]
      generalize z.natAbs / 2 ^ tzN z.natAbs = m at e1
      generalize 2 ^ tzN z.natAbs = P at e1
      have e2 : ((m : Nat) : Int) * ((P : Nat) : Int) = (z.natAbs : Int) := by rw [← e1]; simp
      by_cases hz : z < 0
      · rw [decide_eq_true hz, if_pos rfl, Int.neg_mul, e2]; omega
      · rw [decide_eq_false hz, if_neg (by simp), e2]; omega

theorem cano_num {z : Int} {s : Bool} {l : List Int} {f : Int} {k : Nat} (h : cano z (-65536 - (k : Int)) = (s, l, f, 0)) : Gd s l f ∧ nD s l f * ((2 ^ k : Nat) : Int) = z := by
  rcases cano_out z (-65536 - (k : Int)) with h1 | ⟨s', l', f', h1, hg, j, hj, hf⟩
  · rw [h1] at h; cases h
  · rw [h1] at h
    simp only [Prod.mk.injEq] at h
    obtain ⟨rfl, rfl, rfl, _⟩ := h
    refine ⟨hg, ?_⟩
    by_cases h0 : z = 0
    · subst h0
      have : zD s' l' = 0 := by
        rcases Int.mul_eq_zero.1 hj with h | h
        · exact h
        · have := Nat.two_pow_pos j; omega
      unfold nD
      rw [this]; simp
    · have ef := hf h0
      have hb := hg.ld
      unfold nD
      rw [← hj, Int.mul_assoc]
      congr 1
      have : (f' + 65536).toNat + k = j := by omega
      rw [← this, Nat.pow_add, Int.natCast_mul]

/-! ### Sums and products -/

theorem whole_gd {s : Bool} {l : List Int} {e : Int} (h : Gd s l e) : T_dyad_whole s l e = some (zD s l) := whole_t h.ld.1 (by have := h.ld.2.1; omega)
theorem both_gd {s t : Bool} {l m : List Int} {e f : Int} (h : Gd s l e) (k : Gd t m f) : T_dyad_both s l e t m f = some true := by
  unfold T_dyad_both
  rw [right_of h, Option.bind_some, cT, right_of k]; rfl
theorem pow_lt_abs {z : Int} {m k j : Nat} (h : z.natAbs = m) (hm : m < 2 ^ k) : (z * ((2 ^ j : Nat) : Int)).natAbs < 2 ^ (k + j) := by
  rw [Int.natAbs_mul, Int.natAbs_natCast, h, Nat.pow_add]
  exact Nat.mul_lt_mul_of_pos_right hm (Nat.two_pow_pos j)

theorem dmul_t {s t : Bool} {l m : List Int} {e f : Int} (h : Gd s l e) (k : Gd t m f) : T_dyad_Mul s l e t m f = some (cano (nD s l e * nD t m f) (-131072)) := by
  have b1 := h.ld
  have b2 := k.ld
  have a1 := zD_abs s l
  have a2 := zD_abs t m
  have p0 : (zD s l * zD t m).natAbs < 2 ^ 32768 := by
    rw [Int.natAbs_mul, a1, a2, show (32768 : Nat) = 16384 + 16384 by omega, Nat.pow_add]
    exact Nat.mul_lt_mul'' b1.2.2.2.2 b2.2.2.2.2
  have e1 : bigMul (zD s l) (zD t m) = some (zD s l * zD t m) := by
    unfold bigMul
    rw [bgOk_b (k := 16384) (by rw [a1]; exact b1.2.2.2.2) (by omega), bgOk_b (k := 16384) (by rw [a2]; exact b2.2.2.2.2) (by omega)]; rfl
  unfold T_dyad_Mul
  rw [both_gd h k, Option.bind_some, Bool.not_true, cF, whole_gd h, Option.bind_some, whole_gd k, Option.bind_some, e1, Option.bind_some, wrI (by omega) (by omega), made_t p0 (by omega), Option.bind_some]
  have e2 : cano (nD s l e * nD t m f) (-131072) = cano (zD s l * zD t m) (e + f) := by
    have := cano_shift (zD s l * zD t m) (e + f) (e + f + 131072).toNat
    rw [← this]
    have q : nD s l e * nD t m f = zD s l * zD t m * ((2 ^ (e + f + 131072).toNat : Nat) : Int) := by
      unfold nD
      have : (e + f + 131072).toNat = (e + 65536).toNat + (f + 65536).toNat := by omega
      rw [this, Nat.pow_add, Int.natCast_mul]
      generalize ((2 ^ (e + 65536).toNat : Nat) : Int) = A
      generalize ((2 ^ (f + 65536).toNat : Nat) : Int) = B
      generalize zD s l = X
      generalize zD t m = Y
      ac_rfl
    rw [q]; congr 1; omega
  rw [e2]

theorem nD_shift {s : Bool} {l : List Int} {e : Int} (h1 : -65536 ≤ e) : cano (nD s l e) (-65536) = cano (zD s l) e := by
  rw [← cano_shift (zD s l) e (e + 65536).toNat]
  unfold nD
  congr 1; omega

theorem dadd_core {z1 z2 e1 e2 : Int} (h1 : z1.natAbs < 2 ^ 16384) (h2 : z2.natAbs < 2 ^ 16384) (o1 : z1.natAbs % 2 = 1) (n2 : z2 ≠ 0) (he : e1 ≤ e2) (b1 : -65536 ≤ e1) (b2 : e2 ≤ 65536) :
    (cond (decide ((IntKind.i64.wrap (e2 - e1)) > 16385)) (some (false, ([] : List Int), (0 : Int), (3 : Int)))
      ((bigLsh z2 (IntKind.u64.wrap (IntKind.i64.wrap (e2 - e1)))).bind fun t20 => (bigAdd t20 z1).bind fun t21 => (T_dyad_made t21 e1).bind fun o => match o with
        | (t22, t23, t24, t25) => some (t22, t23, t24, t25))) = some (cano (z1 * ((2 ^ (e1 + 65536).toNat : Nat) : Int) + z2 * ((2 ^ (e2 + 65536).toNat : Nat) : Int)) (-65536)) := by
  obtain ⟨d, hd⟩ : ∃ d : Nat, e2 - e1 = d := ⟨(e2 - e1).toNat, by omega⟩
  have hV : cano (z1 * ((2 ^ (e1 + 65536).toNat : Nat) : Int) + z2 * ((2 ^ (e2 + 65536).toNat : Nat) : Int)) (-65536) = cano (z2 * ((2 ^ d : Nat) : Int) + z1) e1 := by
    rw [← cano_shift (z2 * ((2 ^ d : Nat) : Int) + z1) e1 (e1 + 65536).toNat]
    have q : (e2 + 65536).toNat = d + (e1 + 65536).toNat := by omega
    rw [q, Nat.pow_add, Int.natCast_mul, Int.add_mul, Int.mul_assoc, Int.add_comm]
    congr 1; omega
  rw [hV, hd, wrN (by omega), w64n (by omega)]
  have hP : 0 < 2 ^ 16384 := Nat.two_pow_pos 16384
  have hlt : (z2 * ((2 ^ d : Nat) : Int)).natAbs < 2 ^ (16384 + d) := pow_lt_abs rfl h2
  refine eq_cond (fun hc => ?_) (fun hc => ?_)
  · simp only [decide_eq_true_eq] at hc
    have h4 : 4 * 2 ^ 16384 ≤ 2 ^ d := by
      have := Nat.pow_le_pow_right (show 0 < 2 by omega) (show 2 + 16384 ≤ d by omega)
      rw [Nat.pow_add] at this
      exact this
    have hev : 2 ^ d % 2 = 0 := by
      rw [show d = (d - 1) + 1 by omega, Nat.pow_succ]; omega
    have hz : (z2 * ((2 ^ d : Nat) : Int)).natAbs = z2.natAbs * 2 ^ d := by rw [Int.natAbs_mul, Int.natAbs_natCast]
    have hge : 2 ^ d ≤ z2.natAbs * 2 ^ d := Nat.le_mul_of_pos_left _ (by omega)
    have hpar : z2.natAbs * 2 ^ d % 2 = 0 := by rw [Nat.mul_mod, hev]; simp
    generalize hA : z2 * ((2 ^ d : Nat) : Int) = A at *
    generalize z2.natAbs * 2 ^ d = B at *
    generalize 2 ^ d = D at *
    have big : 2 ^ 16384 ≤ (A + z1).natAbs := by
      generalize 2 ^ 16384 = P at *
      omega
    have odd : (A + z1).natAbs % 2 = 1 := by omega
    unfold cano
    rw [if_neg (by omega), tzN_odd odd]
    unfold canoO
    have hbl : 16384 < blN ((A + z1).natAbs / 2 ^ 0) := by
      rw [Nat.pow_zero, Nat.div_one]
      rcases Nat.lt_or_ge 16384 (blN (A + z1).natAbs) with g | g
      · exact g
      · have := blN_le.1 g; omega
    rw [if_pos (.inr (.inr hbl))]; rfl
  · simp only [decide_eq_false_iff_not] at hc
    have e3 : bigLsh z2 (d : Int) = some (z2 * ((2 ^ d : Nat) : Int)) := by
      unfold bigLsh
      rw [if_pos ⟨by omega, by omega⟩, bgOk_b h2 (by omega), Option.bind_some, Int.toNat_natCast, bgOk_b hlt (by omega)]
    have e4 : bigAdd (z2 * ((2 ^ d : Nat) : Int)) z1 = some (z2 * ((2 ^ d : Nat) : Int) + z1) := by
      unfold bigAdd
      rw [bgOk_b hlt (by omega), bgOk_b h1 (by omega)]; rfl
    have hs : (z2 * ((2 ^ d : Nat) : Int) + z1).natAbs < 2 ^ (16384 + d + 1) := by
      have := Nat.pow_le_pow_right (show 0 < 2 by omega) (show 16384 ≤ 16384 + d by omega)
      rw [Nat.pow_succ]
      generalize 2 ^ (16384 + d) = Q at *
      generalize 2 ^ 16384 = P at *
      omega
    rw [e3, Option.bind_some, e4, Option.bind_some, made_t hs (by omega), Option.bind_some]

theorem sign_t (z : Int) : ∃ y, bigSign z = some y ∧ (y == 0) = decide (z = 0) := by
  unfold bigSign
  refine ⟨_, rfl, ?_⟩
  by_cases h : z < 0
  · rw [if_pos h]; simp; omega
  · by_cases h0 : z = 0
    · rw [if_neg h, if_pos h0, decide_eq_true h0]; rfl
    · rw [if_neg h, if_neg h0, decide_eq_false h0]; rfl

theorem Gd.odd {s : Bool} {l : List Int} {e : Int} (h : Gd s l e) (h0 : zD s l ≠ 0) : (zD s l).natAbs % 2 = 1 := by
  rcases h with ⟨rfl, rfl, rfl⟩ | ⟨m, h1, rfl, _⟩
  · exact absurd rfl h0
  · rw [zD_abs, lv_LW]; exact h1
theorem Gd.nil_e {s : Bool} {l : List Int} {e : Int} (h : Gd s l e) (h0 : zD s l = 0) : e = 0 := by
  have := h.z_zero.1 h0
  rcases h with ⟨_, _, h⟩ | ⟨m, h1, h2, _⟩
  · exact h
  · rw [this] at h2
    have := LW_nil.1 h2.symm
    omega

theorem dadd_t {s t : Bool} {l m : List Int} {e f : Int} (h : Gd s l e) (k : Gd t m f) : T_dyad_Add s l e t m f = some (cano (nD s l e + nD t m f) (-65536)) := by
  have b1 := h.ld
  have b2 := k.ld
  have a1 := zD_abs s l
  have a2 := zD_abs t m
  have z1 : (zD s l).natAbs < 2 ^ 16384 := by rw [a1]; exact b1.2.2.2.2
  have z2 : (zD t m).natAbs < 2 ^ 16384 := by rw [a2]; exact b2.2.2.2.2
  obtain ⟨y1, s1, q1⟩ := sign_t (zD s l)
  obtain ⟨y2, s2, q2⟩ := sign_t (zD t m)
  unfold T_dyad_Add
  rw [both_gd h k, Option.bind_some, Bool.not_true, cF, whole_gd h, Option.bind_some, whole_gd k, Option.bind_some, s1, Option.bind_some, s2, q1]
  have test : (cond (!(decide (zD s l = 0))) ((some y2).bind fun t6 => some (t6 == 0)) (some true)) = some (decide (zD s l = 0) || decide (zD t m = 0)) := by
    rw [Option.bind_some, q2]
    cases decide (zD s l = 0) <;> rfl
  rw [test, Option.bind_some]
  have sum : bigAdd (zD s l) (zD t m) = some (zD s l + zD t m) := by
    unfold bigAdd
    rw [bgOk_b z1 (by omega), bgOk_b z2 (by omega)]; rfl
  have hs : (zD s l + zD t m).natAbs < 2 ^ 16385 := by
    rw [Nat.pow_succ]
    generalize 2 ^ 16384 = P at *
    omega
  by_cases c1 : zD s l = 0
  · have e0 := h.nil_e c1
    have n0 : nD s l e = 0 := by unfold nD; rw [c1, Int.zero_mul]
    rw [cond_t (by simp [c1]), sum, Option.bind_some, wrI (by omega) (by omega), made_t hs (by omega), Option.bind_some, c1, e0, Int.zero_add, Int.zero_add]
    subst e0
    rw [n0, Int.zero_add, nD_shift (by omega)]
  · by_cases c2 : zD t m = 0
    · have f0 := k.nil_e c2
      have n0 : nD t m f = 0 := by unfold nD; rw [c2, Int.zero_mul]
      rw [cond_t (by simp [c2]), sum, Option.bind_some, wrI (by omega) (by omega), made_t hs (by omega), Option.bind_some, c2, f0, Int.add_zero, Int.add_zero]
      subst f0
      rw [n0, Int.add_zero, nD_shift (by omega)]
    · rw [cond_f (by simp [c1, c2])]
      by_cases c : e < f
      · rw [cond_t (by simpa using c), Option.bind_some]
        exact dadd_core z1 z2 (h.odd c1) c2 (by omega) (by omega) (by omega)
      · rw [cond_f (by simpa using c), Option.bind_some]
        refine (dadd_core z2 z1 (k.odd c2) c1 (by omega) (by omega) (by omega)).trans ?_
        rw [Int.add_comm]; rfl

end Go.Eng
