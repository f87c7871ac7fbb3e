/-
  Whole numbers of any size: what each method comes to, on the words of a number. No condition.
-/
import Derived.Test.YtmecjaojkegamaaDoorBw2
set_option linter.unusedVariables false
set_option linter.unusedSimpArgs false
set_option linter.unnecessarySimpa false
set_option linter.unusedSectionVars false
set_option maxRecDepth 100000
set_option maxHeartbeats 4000000
namespace Go.Eng
open Go

theorem ok_len {z : Int} (h : z.natAbs.log2 < 34359738368) : (W z.natAbs).length ≤ 1073741824 := by
  have := W_len_log z.natAbs
  omega
theorem W_some (n : Nat) : decide (0 < (W n).length) = decide (n ≠ 0) := by
  by_cases h : n = 0
  · subst h; rw [W_zero]; rfl
  · have : (W n).length ≠ 0 := fun e => h (W_nil.1 (List.eq_nil_of_length_eq_zero e))
    rw [decide_eq_true h, decide_eq_true (by omega)]

theorem bind_ok {z : Int} {f : Int → Option Int} {y : Int} (h : (bgOk z).bind f = some y) : z.natAbs.log2 < 34359738368 ∧ f z = some y := by
  obtain ⟨a, h1, h2⟩ := bnd h
  obtain ⟨rfl, h3⟩ := bgOk_e h1
  exact ⟨h3, h2⟩

theorem sign_w {z y : Int} (h : bigSign z = some y) : T_p_bignum_Int_Sign (decide (z < 0)) (W z.natAbs) = some y := by
  unfold bigSign at h
  rw [← Option.some.inj h]
  unfold T_p_bignum_Int_Sign
  rw [Option.bind_some]
  by_cases hz : z = 0
  · subst hz
    rw [show (0 : Int).natAbs = 0 from rfl, W_zero]; rfl
  · have : (W z.natAbs).length ≠ 0 := fun e => by have := W_nil.1 (List.eq_nil_of_length_eq_zero e); omega
    rw [cond_f (by rw [beq_eq_false_iff_ne]; omega)]
    by_cases hn : z < 0
    · rw [decide_eq_true hn, cT, if_pos hn]
    · rw [decide_eq_false hn, cF, if_neg hn, if_neg hz]

theorem bitLen_w {z y : Int} (h : bigBitLen z = some y) : T_p_bignum_Int_BitLen (decide (z < 0)) (W z.natAbs) = some y := by
  obtain ⟨h1, h2⟩ := bind_ok h
  unfold T_p_bignum_Int_BitLen
  rw [length_t (by have := ok_len h1; omega)]
  exact h2

theorem uint64_w {z y : Int} (h : bigUint64 z = some y) : T_p_bignum_Int_Uint64 (decide (z < 0)) (W z.natAbs) = some y := by
  unfold bigUint64 at h
  rw [← Option.some.inj h]
  unfold T_p_bignum_Int_Uint64
  generalize z.natAbs = n
  simp only [Option.bind_some]
  have h0 := dg_lt n 0
  have h1 := dg_lt n 1
  have e0 : dg n 0 = n % 4294967296 := dg_zero n
  have e1 : dg n 1 = n / 4294967296 % 4294967296 := by unfold dg; rw [Nat.pow_one]
  have a0 : (cond (decide ((((W n).length : Nat) : Int) > 0)) ((atI (W n) 0).bind fun t3 => some (IntKind.u64.wrap t3)) (some 0)) = some ((dg n 0 : Nat) : Int) := by
    rcases Nat.lt_or_ge 0 (W n).length with k | k
    · rw [cond_t (by rw [decide_eq_true_iff]; omega), show (0 : Int) = ((0 : Nat) : Int) from rfl, at_dg (W_wd n) k, Option.bind_some, wv_W, w64n (by omega)]
    · have : n = 0 := W_nil.1 (List.eq_nil_of_length_eq_zero (by omega))
      subst this
      rw [cond_f (by rw [decide_eq_false_iff_not]; omega)]; rfl
  rw [a0, Option.bind_some]
  rcases Nat.lt_or_ge 1 (W n).length with k | k
  · have ex : ((dg n 1 : Nat) : Int) * 2 ^ 32 = ((dg n 1 * 4294967296 : Nat) : Int) := by simp
    have hor : dg n 0 ||| dg n 1 * 4294967296 = dg n 0 + dg n 1 * 4294967296 := or_apart (s := 32) h0
    rw [cond_t (by rw [decide_eq_true_iff]; omega), show (1 : Int) = ((1 : Nat) : Int) from rfl, at_dg (W_wd n) k, Option.bind_some, wv_W, w64n (n := dg n 1) (by omega), sh32, ex, w64n (n := dg n 1 * 4294967296) (by omega), or64 (by omega) (by omega), hor, w64n (by omega)]
    simp only [Option.bind_some]
    congr 1; omega
  · have hl := Nat.lt_of_lt_of_le (W_len_lt n) (Nat.pow_le_pow_right (n := 4294967296) (by omega) k)
    rw [cond_f (by rw [decide_eq_false_iff_not]; omega)]
    simp only [Option.bind_some]
    congr 1; omega

theorem setUint64_w {n y : Int} (h : bigSetUint64 n = some y) : T_p_bignum_Int_SetUint64 n = some (decide (y < 0), W y.natAbs) := by
  unfold bigSetUint64 at h
  split at h
  · rename_i hn
    obtain rfl := Option.some.inj h
    obtain ⟨k, rfl⟩ : ∃ k : Nat, n = k := ⟨n.toNat, by omega⟩
    unfold T_p_bignum_Int_SetUint64
    rw [words_t (by omega), Option.bind_some, Option.bind_some, Bool.false_and, decide_eq_false (by omega)]
    rfl
  · cases h

theorem setInt64_w {n y : Int} (h : bigSetInt64 n = some y) : T_p_bignum_Int_SetInt64 n = some (decide (y < 0), W y.natAbs) := by
  unfold bigSetInt64 at h
  split at h
  · rename_i hn
    obtain rfl := Option.some.inj h
    unfold T_p_bignum_Int_SetInt64
    have e : (cond (decide (n < 0)) (some (IntKind.u64.wrap (0 - (IntKind.u64.wrap n)))) (some (IntKind.u64.wrap n))) = some ((n.natAbs : Nat) : Int) := by
      by_cases h0 : n < 0
      · rw [cond_t (by simpa using h0), w64, w64]; congr 1; omega
      · rw [cond_f (by simpa using h0), w64]; congr 1; omega
    rw [e, Option.bind_some, words_t (by omega), Option.bind_some, Option.bind_some, W_some]
    have : (decide (n < 0) && decide (n.natAbs ≠ 0)) = decide (n < 0) := by
      by_cases h0 : n < 0
      · rw [decide_eq_true h0, decide_eq_true (by omega)]; rfl
      · rw [decide_eq_false h0]; rfl
    rw [this]
  · cases h

theorem abs_w {z y : Int} (h : bigAbs z = some y) : T_p_bignum_Int_Abs (decide (z < 0)) (W z.natAbs) = some (decide (y < 0), W y.natAbs) := by
  obtain ⟨h1, h2⟩ := bind_ok h
  obtain rfl := Option.some.inj h2
  unfold T_p_bignum_Int_Abs
  rw [twin_t (by have := ok_len h1; omega), Option.bind_some, Option.bind_some, Bool.false_and, decide_eq_false (by omega)]
  rfl

theorem neg_w {z y : Int} (h : bigNeg z = some y) : T_p_bignum_Int_Neg (decide (z < 0)) (W z.natAbs) = some (decide (y < 0), W y.natAbs) := by
  obtain ⟨h1, h2⟩ := bind_ok h
  obtain rfl := Option.some.inj h2
  unfold T_p_bignum_Int_Neg
  rw [twin_t (by have := ok_len h1; omega), Option.bind_some, Option.bind_some, W_some, Int.natAbs_neg]
  have : ((!decide (z < 0)) && decide (z.natAbs ≠ 0)) = decide (-z < 0) := by
    rcases Int.lt_trichotomy z 0 with h | h | h
    · rw [decide_eq_true h, decide_eq_false (by omega : ¬ -z < 0)]; rfl
    · subst h; rfl
    · rw [decide_eq_false (by omega), decide_eq_true (by omega), decide_eq_true (by omega)]; rfl
  rw [this]

theorem lsh_w {z n y : Int} (h : bigLsh z n = some y) : T_p_bignum_Int_Lsh (decide (z < 0)) (W z.natAbs) n = some (decide (y < 0), W y.natAbs) := by
  unfold bigLsh at h
  split at h
  · rename_i hn
    obtain ⟨h1, h2⟩ := bind_ok h
    obtain ⟨rfl, h3⟩ := bgOk_e h2
    obtain ⟨k, rfl⟩ : ∃ k : Nat, n = k := ⟨n.toNat, by omega⟩
    unfold T_p_bignum_Int_Lsh
    have hp : 0 < 2 ^ k := Nat.two_pow_pos k
    rw [left_t (by omega) (by have := ok_len h1; omega), Option.bind_some, Option.bind_some, W_some, Int.toNat_natCast, Int.natAbs_mul, Int.natAbs_natCast]
    generalize 2 ^ k = P at hp
    have : (decide (z < 0) && decide (z.natAbs * P ≠ 0)) = decide (z * (P : Int) < 0) := by
      by_cases h0 : z < 0
      · have h4 : z * (P : Int) < 0 := Int.mul_neg_of_neg_of_pos h0 (by omega)
        have h5 : z.natAbs * P ≠ 0 := Nat.mul_ne_zero (by omega) (by omega)
        rw [decide_eq_true h0, decide_eq_true h4, decide_eq_true h5]; rfl
      · have h4 : ¬ z * (P : Int) < 0 := by have := Int.mul_nonneg (show 0 ≤ z by omega) (show (0 : Int) ≤ P by omega); omega
        rw [decide_eq_false h0, decide_eq_false h4]; rfl
    rw [this]
  · cases h

theorem rsh_w {z n y : Int} (h : bigRsh z n = some y) : T_p_bignum_Int_Rsh (decide (z < 0)) (W z.natAbs) n = some (decide (y < 0), W y.natAbs) := by
  unfold bigRsh at h
  split at h
  · rename_i hn
    obtain ⟨h1, h2⟩ := bind_ok h
    obtain rfl := Option.some.inj h2
    obtain ⟨k, rfl⟩ : ∃ k : Nat, n = k := ⟨n.toNat, by omega⟩
    unfold T_p_bignum_Int_Rsh
    rw [decide_eq_false (show ¬ z < 0 by omega), cF, right_t (by omega) (by have := ok_len h1; omega), Option.bind_some, Option.bind_some, Bool.false_and, Int.toNat_natCast, Int.natAbs_natCast, decide_eq_false (Int.not_lt.2 (Int.natCast_nonneg _))]
  · cases h

/-! ### Sums, products -/

def sgZ (s : Bool) (a : Nat) : Int := if s then -(a : Int) else (a : Int)
theorem sg_of (z : Int) : sgZ (decide (z < 0)) z.natAbs = z := by
  unfold sgZ
  by_cases h : z < 0
  · rw [decide_eq_true h, if_pos rfl]; omega
  · rw [decide_eq_false h, if_neg (by simp)]; omega

theorem sum_t {s t : Bool} {a b : Nat} (ha : (W a).length ≤ 1073741824) (hb : (W b).length ≤ 1073741824) :
    ∃ f, T_bignum_sum s (W a) t (W b) = some (f, W (sgZ s a + sgZ t b).natAbs) ∧ (f && decide ((sgZ s a + sgZ t b).natAbs ≠ 0)) = decide (sgZ s a + sgZ t b < 0) := by
  unfold T_bignum_sum
  by_cases hst : s = t
  · subst hst
    rw [cond_t (by simp), add_t (by omega) (by omega), Option.bind_some]
    have e : (sgZ s a + sgZ s b).natAbs = a + b := by unfold sgZ; cases s <;> simp <;> omega
    rw [e]
    refine ⟨s, rfl, ?_⟩
    unfold sgZ
    cases s
    · simp; omega
    · simp only [if_true, Bool.true_and]
      rw [decide_eq_decide]; omega
  · rw [cond_f (by simpa using hst), cmp_t (by omega) (by omega), Option.bind_some]
    by_cases hab : a < b
    · rw [if_pos hab, cond_f (by decide), sub_t (by omega) (by omega), Option.bind_some]
      have e : (sgZ s a + sgZ t b).natAbs = b - a := by unfold sgZ; cases s <;> cases t <;> simp at hst ⊢ <;> omega
      rw [e]
      refine ⟨t, rfl, ?_⟩
      rw [Bool.eq_iff_iff, Bool.and_eq_true, decide_eq_true_iff, decide_eq_true_iff]
      clear e
      cases s <;> cases t <;> simp only [sgZ, eq_self, false_iff, if_true, Bool.false_eq_true, if_false, true_and, false_and, not_true_eq_false, not_false_eq_true, reduceCtorEq] at hst ⊢ <;> omega
    · have hc : decide ((if a < b then (-1 : Int) else if a = b then 0 else 1) ≥ 0) = true := by
        rw [if_neg hab]; split <;> decide
      rw [hc, cT, sub_t (by omega) (by omega), Option.bind_some]
      have e : (sgZ s a + sgZ t b).natAbs = a - b := by unfold sgZ; cases s <;> cases t <;> simp at hst ⊢ <;> omega
      rw [e]
      refine ⟨s, rfl, ?_⟩
      rw [Bool.eq_iff_iff, Bool.and_eq_true, decide_eq_true_iff, decide_eq_true_iff]
      clear e
      cases s <;> cases t <;> simp only [sgZ, eq_self, false_iff, if_true, Bool.false_eq_true, if_false, true_and, false_and, not_true_eq_false, not_false_eq_true, reduceCtorEq] at hst ⊢ <;> omega

theorem add_w {x y z : Int} (h : bigAdd x y = some z) : T_p_bignum_Int_Add (decide (x < 0)) (W x.natAbs) (decide (y < 0)) (W y.natAbs) = some (decide (z < 0), W z.natAbs) := by
  obtain ⟨h1, h⟩ := bind_ok h
  obtain ⟨h2, h⟩ := bind_ok h
  obtain rfl := Option.some.inj h
  unfold T_p_bignum_Int_Add
  obtain ⟨f, e1, e2⟩ := sum_t (s := decide (x < 0)) (t := decide (y < 0)) (ok_len h1) (ok_len h2)
  rw [sg_of, sg_of] at e1 e2
  rw [e1, Option.bind_some]
  dsimp only
  rw [W_some, Option.bind_some, e2]
theorem sub_w {x y z : Int} (h : bigSub x y = some z) : T_p_bignum_Int_Sub (decide (x < 0)) (W x.natAbs) (decide (y < 0)) (W y.natAbs) = some (decide (z < 0), W z.natAbs) := by
  obtain ⟨h1, h⟩ := bind_ok h
  obtain ⟨h2, h⟩ := bind_ok h
  obtain rfl := Option.some.inj h
  unfold T_p_bignum_Int_Sub
  obtain ⟨f, e1, e2⟩ := sum_t (s := decide (x < 0)) (t := !decide (y < 0)) (ok_len h1) (ok_len h2)
  have e3 : sgZ (!decide (y < 0)) y.natAbs = -y := by
    unfold sgZ
    by_cases h : y < 0
    · rw [decide_eq_true h]; simp; omega
    · rw [decide_eq_false h]; simp; omega
  rw [sg_of, e3, ← Int.sub_eq_add_neg] at e1 e2
  rw [e1, Option.bind_some]
  dsimp only
  rw [W_some, Option.bind_some, e2]
theorem mul_w {x y z : Int} (h : bigMul x y = some z) : T_p_bignum_Int_Mul (decide (x < 0)) (W x.natAbs) (decide (y < 0)) (W y.natAbs) = some (decide (z < 0), W z.natAbs) := by
  obtain ⟨h1, h⟩ := bind_ok h
  obtain ⟨h2, h⟩ := bind_ok h
  obtain rfl := Option.some.inj h
  unfold T_p_bignum_Int_Mul
  rw [mul_t (by have := ok_len h1; have := ok_len h2; omega), Option.bind_some, Option.bind_some, W_some, Int.natAbs_mul]
  have : ((!(decide (x < 0) == decide (y < 0))) && decide (x.natAbs * y.natAbs ≠ 0)) = decide (x * y < 0) := by
    rcases Int.lt_trichotomy x 0 with a | a | a <;> rcases Int.lt_trichotomy y 0 with b | b | b
    · have := Int.mul_pos_of_neg_of_neg a b
      rw [decide_eq_true a, decide_eq_true b, decide_eq_false (by omega : ¬ x * y < 0)]; rfl
    · subst b; simp
    · have := Int.mul_neg_of_neg_of_pos a b
      have h5 : x.natAbs * y.natAbs ≠ 0 := Nat.mul_ne_zero (by omega) (by omega)
      rw [decide_eq_true a, decide_eq_false (by omega : ¬ y < 0), decide_eq_true this, decide_eq_true h5]; rfl
    · subst a; simp
    · subst a; simp
    · subst a; simp
    · have := Int.mul_neg_of_pos_of_neg a b
      have h5 : x.natAbs * y.natAbs ≠ 0 := Nat.mul_ne_zero (by omega) (by omega)
      rw [decide_eq_false (by omega : ¬ x < 0), decide_eq_true b, decide_eq_true this, decide_eq_true h5]; rfl
    · subst b; simp
    · have := Int.mul_pos a b
      rw [decide_eq_false (by omega : ¬ x < 0), decide_eq_false (by omega : ¬ y < 0), decide_eq_false (by omega : ¬ x * y < 0)]; rfl
  rw [this]

theorem cmp_w {x y z : Int} (h : bigCmp x y = some z) : T_p_bignum_Int_Cmp (decide (x < 0)) (W x.natAbs) (decide (y < 0)) (W y.natAbs) = some z := by
  obtain ⟨hx, h⟩ := bind_ok h
  obtain ⟨hy, h⟩ := bind_ok h
  obtain rfl := Option.some.inj h
  unfold T_p_bignum_Int_Cmp
  have lx := ok_len hx
  have ly := ok_len hy
  by_cases a : x < 0 <;> by_cases b : y < 0
  · rw [decide_eq_true a, decide_eq_true b, cond_f (by rfl), cmp_t (by omega) (by omega), Option.bind_some, cT]
    congr 1
    by_cases h1 : x.natAbs < y.natAbs
    · rw [if_pos h1, if_neg (by omega), if_neg (by omega)]; decide +kernel
    · by_cases h2 : x.natAbs = y.natAbs
      · rw [if_neg h1, if_pos h2, if_neg (by omega), if_pos (by omega)]; decide +kernel
      · rw [if_neg h1, if_neg h2, if_pos (by omega)]; decide +kernel
  · rw [decide_eq_true a, decide_eq_false b, cond_t (by rfl), cT, if_pos (by omega)]
  · rw [decide_eq_false a, decide_eq_true b, cond_t (by rfl), cF, if_neg (by omega), if_neg (by omega)]
  · rw [decide_eq_false a, decide_eq_false b, cond_f (by rfl), cmp_t (by omega) (by omega), Option.bind_some, cF]
    congr 1
    by_cases h1 : x.natAbs < y.natAbs
    · rw [if_pos h1, if_pos (by omega)]
    · by_cases h2 : x.natAbs = y.natAbs
      · rw [if_neg h1, if_pos h2, if_neg (by omega), if_pos (by omega)]
      · rw [if_neg h1, if_neg h2, if_neg (by omega), if_neg (by omega)]

/-! ### Bits -/

theorem bit_t {a i : Nat} (hi : i < 9223372036854775808) (ha : (W a).length ≤ 1073741824) : T_bignum_bit (W a) (i : Int) = some ((a / 2 ^ i % 2 : Nat) : Int) := by
  unfold T_bignum_bit
  have e0 : (i : Int).tdiv 32 = ((i / 32 : Nat) : Int) := rfl
  rw [cond_t (by simp), Option.bind_some, e0, wrN (by omega)]
  have hpow : (2 : Nat) ^ i = 4294967296 ^ (i / 32) * 2 ^ (i % 32) := by
    rw [show (4294967296 : Nat) = 2 ^ 32 from rfl, ← Nat.pow_mul, ← Nat.pow_add]; congr 1; omega
  rcases Nat.lt_or_ge (i / 32) (W a).length with h | h
  · rw [cond_f (by rw [decide_eq_false_iff_not]; omega), at_dg (W_wd a) h, Option.bind_some, wv_W, w64n (n := i) (by omega)]
    have e1 : (i : Int).tmod 32 = ((i % 32 : Nat) : Int) := rfl
    have e2 : min (i % 32) IntKind.u32.bits = i % 32 := by
      have : IntKind.u32.bits = 32 := rfl
      omega
    have hd := dg_lt a (i / 32)
    have hle : dg a (i / 32) / 2 ^ (i % 32) ≤ dg a (i / 32) := Nat.div_le_self _ _
    rw [e1, nn_ok, Option.bind_some, Int.toNat_natCast, e2, fdn, w64n (n := dg a (i / 32) / 2 ^ (i % 32)) (by omega), show (1 : Int) = ((1 : Nat) : Int) from rfl, and64 (by omega) (by omega), Nat.and_one_is_mod, w64n (by omega)]
    congr 2
    unfold dg
    rw [hpow, ← Nat.div_div_eq_div_mul]
    generalize a / 4294967296 ^ (i / 32) = Z
    have : (4294967296 : Nat) = 2 ^ (i % 32) * (2 * 2 ^ (31 - i % 32)) := by
      rw [show (2 : Nat) * 2 ^ (31 - i % 32) = 2 ^ (32 - i % 32) by rw [show 32 - i % 32 = (31 - i % 32) + 1 by omega, Nat.pow_succ, Nat.mul_comm], ← Nat.pow_add, show i % 32 + (32 - i % 32) = 32 by omega]
    conv => lhs; rw [this]
    rw [Nat.mod_mul_right_div_self, Nat.mod_mul_right_mod]
  · rw [cond_t (by rw [decide_eq_true_iff]; omega)]
    have : a / 2 ^ i = 0 := by
      refine Nat.div_eq_of_lt (Nat.lt_of_lt_of_le (W_len_lt a) ?_)
      rw [show (4294967296 : Nat) = 2 ^ 32 from rfl, ← Nat.pow_mul]
      exact Nat.pow_le_pow_right (by omega) (by omega)
    rw [this]; rfl

theorem tzN_odd {n : Nat} (h : n % 2 = 1) : tzN n = 0 := by rw [tzN_eq, if_neg (by omega), if_pos h]
theorem tzN_even {n : Nat} (h0 : n ≠ 0) (h : n % 2 = 0) : tzN n = tzN (n / 2) + 1 := by rw [tzN_eq, if_neg h0, if_neg (by omega)]
theorem tzN_zero : tzN 0 = 0 := by rw [tzN_eq, if_pos rfl]
/-- A number without its noughts at the low end is odd. -/
theorem tzN_spec {n : Nat} (h : n ≠ 0) : n = 2 ^ tzN n * (n / 2 ^ tzN n) ∧ n / 2 ^ tzN n % 2 = 1 ∧ ∀ i, i < tzN n → n / 2 ^ i % 2 = 0 := by
  induction n using Nat.strongRecOn with
  | ind n ih =>
    by_cases h1 : n % 2 = 1
    · rw [tzN_odd h1]
      exact ⟨by simp, by simpa using h1, fun i hi => by omega⟩
    · have h0 : n % 2 = 0 := by omega
      obtain ⟨k1, k2, k3⟩ := ih (n / 2) (by omega) (by omega)
      rw [tzN_even h h0]
      have e : n / 2 ^ (tzN (n / 2) + 1) = n / 2 / 2 ^ tzN (n / 2) := by rw [Nat.pow_succ, Nat.mul_comm, ← Nat.div_div_eq_div_mul]
      rw [e]
      refine ⟨?_, k2, fun i hi => ?_⟩
      · rw [Nat.pow_succ, Nat.mul_comm (2 ^ tzN (n / 2)) 2, Nat.mul_assoc, ← k1]; omega
      · cases i with
        | zero => simpa using h0
        | succ i =>
          rw [Nat.pow_succ, Nat.mul_comm, ← Nat.div_div_eq_div_mul]
          exact k3 i (by omega)
theorem tzN_lt {n : Nat} (h : n ≠ 0) : tzN n < blN n := by
  obtain ⟨k1, k2, _⟩ := tzN_spec h
  have : 2 ^ tzN n ≤ n := by
    have g : 0 < n / 2 ^ tzN n := by
      rcases Nat.eq_zero_or_pos (n / 2 ^ tzN n) with g | g
      · rw [g] at k2; cases k2
      · exact g
    conv => rhs; rw [k1]
    exact Nat.le_mul_of_pos_right _ g
  rcases Nat.lt_or_ge (tzN n) (blN n) with g | g
  · exact g
  · have := blN_lt.1 g; omega

theorem tz_w {z y : Int} (h : bigTrailingZeroBits z = some y) : T_p_bignum_Int_TrailingZeroBits (decide (z < 0)) (W z.natAbs) = some y := by
  obtain ⟨h1, h2⟩ := bind_ok h
  obtain rfl := Option.some.inj h2
  have hl := ok_len h1
  unfold T_p_bignum_Int_TrailingZeroBits
  rw [Option.bind_some]
  generalize z.natAbs = n at *
  by_cases h0 : n = 0
  · subst h0; rw [W_zero, tzN_zero]; rfl
  · have : (W n).length ≠ 0 := fun e => h0 (W_nil.1 (List.eq_nil_of_length_eq_zero e))
    rw [cond_f (by rw [beq_eq_false_iff_ne]; omega)]
    obtain ⟨_, k2, k3⟩ := tzN_spec h0
    have kl := tzN_lt h0
    have hb : blN n ≤ 34359738368 := by unfold blN; rw [if_neg h0]; omega
    have loop := iter_nat (b := T_p_bignum_Int_TrailingZeroBits_b2 (W n)) (fun i => (i : Int)) (o := ((tzN n : Nat) : Int)) (tzN n) (by rw [FU_eq]; omega) (fun i hi => by
      unfold T_p_bignum_Int_TrailingZeroBits_b2
      dsimp only
      rw [wrN (by omega), bit_t (by omega) hl, Option.bind_some, k3 i hi, cond_t (by rfl), ← Int.natCast_succ, w64n (by omega)]) (by
      unfold T_p_bignum_Int_TrailingZeroBits_b2
      dsimp only
      rw [wrN (by omega), bit_t (by omega) hl, Option.bind_some, k2, cond_f (by rfl)])
    rw [show ((0 : Nat) : Int) = 0 from rfl] at loop
    rw [loop]; rfl

/-! ### Both, either -/

theorem dg_or (a b k : Nat) : dg (a ||| b) k = dg a k ||| dg b k := by
  unfold dg
  rw [show (4294967296 : Nat) = 2 ^ 32 from rfl, ← Nat.pow_mul, ← Nat.shiftRight_eq_div_pow, ← Nat.shiftRight_eq_div_pow, ← Nat.shiftRight_eq_div_pow, Nat.shiftRight_or_distrib, Nat.or_mod_two_pow]
theorem dg_and (a b k : Nat) : dg (a &&& b) k = dg a k &&& dg b k := by
  unfold dg
  rw [show (4294967296 : Nat) = 2 ^ 32 from rfl, ← Nat.pow_mul, ← Nat.shiftRight_eq_div_pow, ← Nat.shiftRight_eq_div_pow, ← Nat.shiftRight_eq_div_pow, Nat.shiftRight_and_distrib, Nat.and_mod_two_pow]

/-- The words of a number, with noughts behind. -/
def pw (a m : Nat) : List Int := dl m m a
theorem low_w {a m : Nat} (h : (W a).length ≤ m) (hm : m ≤ 1099511627776) : T_p_bignum_Int_low false (W a) (m : Int) = some (pw a m) := by
  unfold T_p_bignum_Int_low
  rw [mk_nat hm, Option.bind_some, Option.bind_some, cF, Option.bind_some]
  congr 1
  unfold copL
  refine ext_getD 0 (by simp [pw, dl_len]; omega) fun k hk => ?_
  have hkm : k < m := by simp at hk; omega
  unfold pw
  rw [dl_at hkm, if_pos hkm]
  rw [List.length_replicate, List.take_of_length_le h]
  rcases Nat.lt_or_ge k (W a).length with g | g
  · rw [List.getD_eq_getElem?_getD, List.getElem?_append_left g, ← List.getD_eq_getElem?_getD, W_getD]
  · rw [dg_big (Nat.lt_of_lt_of_le (W_len_lt a) (Nat.pow_le_pow_right (by omega) g)), List.getD_eq_getElem?_getD, List.getElem?_append_right g]
    rw [List.drop_replicate, List.getElem?_replicate]
    split <;> rfl

theorem of_w {l : List Int} (h : Wd l) (hl : l.length ≤ 1099511627776) (h0 : l = [] ∨ l.getD (l.length - 1) 0 < 2147483648) : T_p_bignum_Int_of l = some (false, W (wv l)) := by
  unfold T_p_bignum_Int_of
  have e : ((some ((l.length : Nat) : Int)).bind fun t2 => cond (decide (t2 > 0)) ((some ((l.length : Nat) : Int)).bind fun t3 => (atI l (IntKind.i64.wrap (t3 - 1))).bind fun t4 => some ((t4.fdiv (2 ^ (min (31 : Int).toNat IntKind.u32.bits))) == 1)) (some false)) = some false := by
    rw [Option.bind_some]
    rcases h0 with h0 | h0
    · subst h0; rfl
    · by_cases hz : l.length = 0
      · have : l = [] := List.eq_nil_of_length_eq_zero hz
        subst this; rfl
      · have e1 : IntKind.i64.wrap (((l.length : Nat) : Int) - 1) = ((l.length - 1 : Nat) : Int) := by rw [wrI (by omega) (by omega)]; omega
        have hw := wd_get h (l.length - 1)
        rw [cond_t (by rw [decide_eq_true_iff]; omega), Option.bind_some, e1, at_getD 0 (by omega), Option.bind_some, show min (31 : Int).toNat IntKind.u32.bits = 31 by decide, Int.fdiv_eq_ediv_of_nonneg _ (by decide)]
        congr 1
        rw [beq_eq_false_iff_ne]
        omega
  rw [e, Option.bind_some, cF]
  have := trim_sub h hl (fun t19 => (some (false && decide (0 < t19.length))).bind fun t20 => some (t20, t19))
  rw [this, Option.bind_some, Bool.false_and]

theorem and_or_loop {op : Nat → Nat → Nat} {a b m : Nat} {bd : Int × List Int → Option ((Int × List Int) ⊕ List Int)} (hm : m ≤ 1099511627776)
    (step : ∀ (i : Nat) (l : List Int), i < m → l.length = m → l.getD i 0 = ((dg a i : Nat) : Int) → bd ((i : Int), l) = some (.inl (((i + 1 : Nat) : Int), l.set i ((op (dg a i) (dg b i) : Nat) : Int)))) (stop : ∀ l, bd ((m : Int), l) = some (.inr l)) :
    iter bd FU (0, pw a m) = some ((List.range m).map fun k => ((op (dg a k) (dg b k) : Nat) : Int)) := by
  have := iter_nat (b := bd) (fun i => ((i : Int), (List.range m).map fun k => if k < i then ((op (dg a k) (dg b k) : Nat) : Int) else ((dg a k : Nat) : Int))) (o := (List.range m).map fun k => ((op (dg a k) (dg b k) : Nat) : Int)) m (by rw [FU_eq]; omega) (fun i hi => by
    rw [step i _ hi (by simp) (by simp [List.getD_eq_getElem?_getD, hi])]
    congr 4
    refine ext_getD 0 (by simp) fun k hk => ?_
    have hkm : k < m := by simpa using hk
    by_cases e : k = i
    · subst e
      rw [List.getD_eq_getElem?_getD, List.getElem?_set_self (by simpa using hkm)]
      simp [List.getD_eq_getElem?_getD, hkm]
    · rw [List.getD_eq_getElem?_getD, List.getElem?_set_ne (Ne.symm e)]
      simp only [List.getD_eq_getElem?_getD, List.getElem?_map, List.getElem?_range hkm, Option.map_some, Option.getD_some]
      by_cases h : k < i
      · rw [if_pos h, if_pos (by omega)]
      · rw [if_neg h, if_neg (by omega)]) (by
    rw [stop]
    congr 2
    refine List.map_congr_left fun k hk => ?_
    rw [if_pos (List.mem_range.1 hk)])
  have e : (List.range m).map (fun k => if k < 0 then ((op (dg a k) (dg b k) : Nat) : Int) else ((dg a k : Nat) : Int)) = pw a m := by
    unfold pw dl
    refine List.map_congr_left fun k hk => ?_
    rw [if_neg (by omega), if_pos (List.mem_range.1 hk)]
  rw [e] at this
  exact this

theorem maxI (x y : Nat) : (if (y : Int) > (x : Int) then (y : Int) else (x : Int)) = ((max x y : Nat) : Int) := by
  split <;> omega

theorem or_w {x y z : Int} (h : bigOr x y = some z) : T_p_bignum_Int_Or (decide (x < 0)) (W x.natAbs) (decide (y < 0)) (W y.natAbs) = some (decide (z < 0), W z.natAbs) := by
  unfold bigOr at h
  split at h
  · rename_i hp
    obtain ⟨h1, h⟩ := bind_ok h
    obtain ⟨h2, h⟩ := bind_ok h
    obtain rfl := Option.some.inj h
    have lx := ok_len h1
    have ly := ok_len h2
    rw [decide_eq_false (show ¬ x < 0 by omega), decide_eq_false (show ¬ y < 0 by omega)]
    unfold T_p_bignum_Int_Or
    simp only [Option.bind_some, maxI]
    generalize hM : max (W x.natAbs).length (W y.natAbs).length = M
    generalize x.natAbs = a at *
    generalize y.natAbs = b at *
    rw [wrU (by omega), low_w (by omega) (by omega), Option.bind_some, low_w (by omega) (by omega), Option.bind_some]
    have loop := and_or_loop (op := fun p q => p ||| q) (a := a) (b := b) (m := M + 1) (bd := T_p_bignum_Int_Or_b2 (((W b).length : Nat) : Int) (((W a).length : Nat) : Int) (pw b (M + 1))) (by omega) (fun i l hi hl hg => by
      unfold T_p_bignum_Int_Or_b2
      dsimp only
      have h3 := dg_lt a i
      have h4 := dg_lt b i
      rw [maxI, hM, wrU (by omega), cond_t (by rw [decide_eq_true_iff]; omega), at_getD 0 (by omega), hg]
      simp only [Option.bind_some, Int.toNat_natCast]
      rw [at_getD 0 (by unfold pw; rw [dl_len]; omega), show (pw b (M + 1)).getD i 0 = ((dg b i : Nat) : Int) by unfold pw; rw [dl_at (by omega), if_pos (by omega)]]
      simp only [Option.bind_some]
      rw [or32 h3 h4, w32n, Nat.mod_eq_of_lt (or_lt32 h3 h4), wrU (by omega)]) (fun l => by
      unfold T_p_bignum_Int_Or_b2
      dsimp only
      rw [maxI, hM, wrU (by omega), cond_f (by simp)])
    rw [loop, Option.bind_some]
    have ha : a < 4294967296 ^ M := Nat.lt_of_lt_of_le (W_len_lt a) (Nat.pow_le_pow_right (by omega) (by omega))
    have hb : b < 4294967296 ^ M := Nat.lt_of_lt_of_le (W_len_lt b) (Nat.pow_le_pow_right (by omega) (by omega))
    have hab : a ||| b < 4294967296 ^ M := by
      rw [show (4294967296 : Nat) = 2 ^ 32 from rfl, ← Nat.pow_mul] at ha hb ⊢
      exact Nat.or_lt_two_pow ha hb
    have e : (List.range (M + 1)).map (fun k => ((dg a k ||| dg b k : Nat) : Int)) = dl (M + 1) (M + 1) (a ||| b) := by
      unfold dl
      refine List.map_congr_left fun k hk => ?_
      rw [if_pos (List.mem_range.1 hk), dg_or]
    rw [e, of_w (dl_wd _ _ _) (by rw [dl_len]; omega) (.inr (by rw [dl_len, Nat.add_sub_cancel, dl_at (by omega), if_pos (by omega), dg_big hab]; decide)), Option.bind_some]
    dsimp only
    rw [dl_wv (Nat.lt_of_lt_of_le hab (Nat.pow_le_pow_right (by omega) (by omega))), decide_eq_false (by omega), Int.natAbs_natCast]
  · cases h

theorem and_w {x y z : Int} (h : bigAnd x y = some z) : T_p_bignum_Int_And (decide (x < 0)) (W x.natAbs) (decide (y < 0)) (W y.natAbs) = some (decide (z < 0), W z.natAbs) := by
  unfold bigAnd at h
  split at h
  · rename_i hp
    obtain ⟨h1, h⟩ := bind_ok h
    obtain ⟨h2, h⟩ := bind_ok h
    obtain rfl := Option.some.inj h
    have lx := ok_len h1
    have ly := ok_len h2
    rw [decide_eq_false (show ¬ x < 0 by omega), decide_eq_false (show ¬ y < 0 by omega)]
    unfold T_p_bignum_Int_And
    simp only [Option.bind_some, maxI]
    generalize hM : max (W x.natAbs).length (W y.natAbs).length = M
    generalize x.natAbs = a at *
    generalize y.natAbs = b at *
    rw [wrU (by omega), low_w (by omega) (by omega), Option.bind_some, low_w (by omega) (by omega), Option.bind_some]
    have loop := and_or_loop (op := fun p q => p &&& q) (a := a) (b := b) (m := M + 1) (bd := T_p_bignum_Int_And_b2 (((W b).length : Nat) : Int) (((W a).length : Nat) : Int) (pw b (M + 1))) (by omega) (fun i l hi hl hg => by
      unfold T_p_bignum_Int_And_b2
      dsimp only
      have h3 := dg_lt a i
      have h4 := dg_lt b i
      have h5 : dg a i &&& dg b i ≤ dg a i := Nat.and_le_left
      rw [maxI, hM, wrU (by omega), cond_t (by rw [decide_eq_true_iff]; omega), at_getD 0 (by omega), hg]
      simp only [Option.bind_some, Int.toNat_natCast]
      rw [at_getD 0 (by unfold pw; rw [dl_len]; omega), show (pw b (M + 1)).getD i 0 = ((dg b i : Nat) : Int) by unfold pw; rw [dl_at (by omega), if_pos (by omega)]]
      simp only [Option.bind_some]
      rw [and32 h3 h4, w32n, Nat.mod_eq_of_lt (by omega), wrU (by omega)]) (fun l => by
      unfold T_p_bignum_Int_And_b2
      dsimp only
      rw [maxI, hM, wrU (by omega), cond_f (by simp)])
    rw [loop, Option.bind_some]
    have ha : a < 4294967296 ^ M := Nat.lt_of_lt_of_le (W_len_lt a) (Nat.pow_le_pow_right (by omega) (by omega))
    have hab : a &&& b < 4294967296 ^ M := Nat.lt_of_le_of_lt Nat.and_le_left ha
    have e : (List.range (M + 1)).map (fun k => ((dg a k &&& dg b k : Nat) : Int)) = dl (M + 1) (M + 1) (a &&& b) := by
      unfold dl
      refine List.map_congr_left fun k hk => ?_
      rw [if_pos (List.mem_range.1 hk), dg_and]
    rw [e, of_w (dl_wd _ _ _) (by rw [dl_len]; omega) (.inr (by rw [dl_len, Nat.add_sub_cancel, dl_at (by omega), if_pos (by omega), dg_big hab]; decide)), Option.bind_some]
    dsimp only
    rw [dl_wv (Nat.lt_of_lt_of_le hab (Nat.pow_le_pow_right (by omega) (by omega))), decide_eq_false (by omega), Int.natAbs_natCast]
  · cases h

end Go.Eng
