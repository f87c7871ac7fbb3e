/-
  Words of 32 bits: shifts, lengths, comparisons, bits. No condition.
-/
import Derived.Test.YtmecjaojkegamaaDoorBw1
import Derived.Test.YtmecjaojkegamaaDoorBgo
set_option linter.unusedVariables false
set_option linter.unusedSimpArgs false
set_option linter.unnecessarySimpa false
set_option linter.unusedSectionVars false
set_option maxRecDepth 100000
set_option maxHeartbeats 4000000
namespace Go.Eng
open Go

theorem or32 {a b : Nat} (ha : a < 4294967296) (hb : b < 4294967296) : ((BitVec.ofInt IntKind.u32.bits (a : Int) ||| BitVec.ofInt IntKind.u32.bits (b : Int)).toNat) = a ||| b := by
  show (BitVec.ofInt 32 (a : Int) ||| BitVec.ofInt 32 (b : Int)).toNat = _
  rw [BitVec.toNat_or, BitVec.ofInt_natCast, BitVec.ofInt_natCast, BitVec.toNat_ofNat, BitVec.toNat_ofNat, Nat.mod_eq_of_lt (by omega), Nat.mod_eq_of_lt (by omega)]
theorem and32 {a b : Nat} (ha : a < 4294967296) (hb : b < 4294967296) : ((BitVec.ofInt IntKind.u32.bits (a : Int) &&& BitVec.ofInt IntKind.u32.bits (b : Int)).toNat) = a &&& b := by
  show (BitVec.ofInt 32 (a : Int) &&& BitVec.ofInt 32 (b : Int)).toNat = _
  rw [BitVec.toNat_and, BitVec.ofInt_natCast, BitVec.ofInt_natCast, BitVec.toNat_ofNat, BitVec.toNat_ofNat, Nat.mod_eq_of_lt (by omega), Nat.mod_eq_of_lt (by omega)]
theorem or64 {a b : Nat} (ha : a < 18446744073709551616) (hb : b < 18446744073709551616) : ((BitVec.ofInt IntKind.u64.bits (a : Int) ||| BitVec.ofInt IntKind.u64.bits (b : Int)).toNat) = a ||| b := by
  show (BitVec.ofInt 64 (a : Int) ||| BitVec.ofInt 64 (b : Int)).toNat = _
  rw [BitVec.toNat_or, BitVec.ofInt_natCast, BitVec.ofInt_natCast, BitVec.toNat_ofNat, BitVec.toNat_ofNat, Nat.mod_eq_of_lt (by omega), Nat.mod_eq_of_lt (by omega)]
theorem and64 {a b : Nat} (ha : a < 18446744073709551616) (hb : b < 18446744073709551616) : ((BitVec.ofInt IntKind.u64.bits (a : Int) &&& BitVec.ofInt IntKind.u64.bits (b : Int)).toNat) = a &&& b := by
  show (BitVec.ofInt 64 (a : Int) &&& BitVec.ofInt 64 (b : Int)).toNat = _
  rw [BitVec.toNat_and, BitVec.ofInt_natCast, BitVec.ofInt_natCast, BitVec.toNat_ofNat, BitVec.toNat_ofNat, Nat.mod_eq_of_lt (by omega), Nat.mod_eq_of_lt (by omega)]
theorem or_lt32 {a b : Nat} (ha : a < 4294967296) (hb : b < 4294967296) : a ||| b < 4294967296 := Nat.or_lt_two_pow (n := 32) ha hb
/-- Bits that lie apart. -/
theorem or_apart {a b s : Nat} (h : a < 2 ^ s) : a ||| b * 2 ^ s = a + b * 2 ^ s := by
  rw [Nat.or_comm, ← Nat.shiftLeft_eq, ← Nat.shiftLeft_add_eq_or_of_lt h, Nat.add_comm]

/-- How many words, and how many bits beside. -/
theorem shift_w {n : Nat} (h : n < 34359738368) : IntKind.i64.wrap (IntKind.u64.wrap ((n : Int).tdiv 32)) = ((n / 32 : Nat) : Int) ∧ (n : Int).tmod 32 = ((n % 32 : Nat) : Int) := by
  have e : (n : Int).tdiv 32 = ((n / 32 : Nat) : Int) := rfl
  refine ⟨?_, rfl⟩
  rw [e, w64n (by omega), wrN (by omega)]
theorem min32 {n : Nat} : min ((n % 32 : Nat) : Int).toNat IntKind.u64.bits = n % 32 := by
  rw [Int.toNat_natCast]
  have : IntKind.u64.bits = 64 := rfl
  omega
theorem nn_ok (n : Nat) : nn (n : Int) = some () := by unfold nn; rw [if_pos (by omega)]

theorem left_t {a n : Nat} (hn : n < 34359738368) (ha : (W a).length ≤ 4294967296) : T_bignum_left (W a) (n : Int) = some (W (a * 2 ^ n)) := by
  unfold T_bignum_left
  obtain ⟨e1, e2⟩ := shift_w hn
  simp only [Option.bind_some, e1]
  by_cases h0 : a = 0
  · subst h0
    rw [W_zero, Nat.zero_mul, W_zero]; rfl
  have hne : (W a).length ≠ 0 := fun e => h0 (W_nil.1 (List.eq_nil_of_length_eq_zero e))
  rw [cond_f (by simpa using fun e => hne (by simp [e])), wrAdd (by omega), wrU (by omega), mk_nat (by omega), Option.bind_some]
  generalize hw : n / 32 = w at *
  generalize hs : n % 32 = s at *
  have hs32 : s < 32 := by omega
  have hpow : (2 : Nat) ^ n = 2 ^ s * 4294967296 ^ w := by
    rw [show (4294967296 : Nat) = 2 ^ 32 from rfl, ← Nat.pow_mul, ← Nat.pow_add]; congr 1; omega
  have p32 : (2 : Nat) ^ s * 2 ^ (32 - s) = 4294967296 := by rw [← Nat.pow_add, show s + (32 - s) = 32 by omega]
  have ps : 0 < 2 ^ s := Nat.two_pow_pos s
  have ps2 : 0 < 2 ^ (32 - s) := Nat.two_pow_pos (32 - s)
  have ple : (2 : Nat) ^ s ≤ 4294967296 := by
    rw [← p32]; exact Nat.le_mul_of_pos_right _ ps2
  obtain ⟨o, ho, hwd, hl, hv⟩ := iter_inv (b := T_bignum_left_b2 (W a) (n : Int)) (fun i t => ∃ r, t = ((i : Int), r) ∧ Wd r ∧ r.length = (W a).length + w + 1 ∧ wv r = (a % 4294967296 ^ i) * 2 ^ s * 4294967296 ^ w ∧ r.getD (i + w) 0 < (2 ^ s : Nat) ∧ ∀ k, i + w < k → r.getD k 0 = 0) (W a).length (fun o => Wd o ∧ o.length = (W a).length + w + 1 ∧ wv o = a * 2 ^ n) (by rw [FU_eq]; omega) (fun i t hi => by
    rintro ⟨r, rfl, hr, hl, hv, hb, hz⟩
    unfold T_bignum_left_b2
    simp only [Option.bind_some, e1, e2]
    have hd := dg_lt a i
    generalize hx : dg a i = x at *
    have hiw : i + w < r.length := by omega
    have hiw1 : i + w + 1 < r.length := by omega
    have hr0 := wd_get hr (i + w)
    generalize hg : (r.getD (i + w) 0).toNat = g
    have hg' : r.getD (i + w) 0 = (g : Int) := by omega
    have hg2 : g < 2 ^ s := by omega
    have hxs : x * 2 ^ s < 18446744073709551616 := by
      have : x * 2 ^ s ≤ 4294967295 * 4294967296 := Nat.mul_le_mul (by omega) ple
      omega
    have hlo : g + x * 2 ^ s % 4294967296 < 4294967296 := by
      have e : x * 2 ^ s % 4294967296 = (x % 2 ^ (32 - s)) * 2 ^ s := by
        rw [← p32, Nat.mul_comm (2 ^ s), Nat.mul_mod_mul_right]
      have : x % 2 ^ (32 - s) < 2 ^ (32 - s) := Nat.mod_lt _ ps2
      have : (x % 2 ^ (32 - s) + 1) * 2 ^ s ≤ 2 ^ (32 - s) * 2 ^ s := Nat.mul_le_mul_right _ this
      rw [Nat.add_mul, Nat.mul_comm (2 ^ (32 - s)), p32] at this
      omega
    have hor : g ||| x * 2 ^ s % 4294967296 = g + x * 2 ^ s % 4294967296 := by
      have e : x * 2 ^ s % 4294967296 = (x % 2 ^ (32 - s)) * 2 ^ s := by
        rw [← p32, Nat.mul_comm (2 ^ s), Nat.mul_mod_mul_right]
      rw [e, or_apart hg2]
    rw [cond_t (by simp; omega), at_dg (W_wd a) hi, Option.bind_some, wv_W, hx, nn_ok, Option.bind_some, wrAdd (by omega), at_getD 0 hiw]
    simp only [Option.bind_some, Int.toNat_natCast]
    rw [hg', w64n (n := x) (by omega)]
    have eb : min (s : Nat) IntKind.u64.bits = s := by
      have : IntKind.u64.bits = 64 := rfl
      omega
    rw [eb]
    have ex : ((x : Int) * 2 ^ s) = ((x * 2 ^ s : Nat) : Int) := by simp
    rw [ex, w64n hxs, w32n (x * 2 ^ s), sh32, fdn, or32 (by omega) (by omega), hor, w32n (g + x * 2 ^ s % 4294967296), Nat.mod_eq_of_lt hlo, wrU (by omega), at_getD 0 (by rw [List.length_set]; exact hiw1)]
    have hset1 : (r.set (i + w) ((g + x * 2 ^ s % 4294967296 : Nat) : Int)).getD (i + w + 1) 0 = 0 := by
      rw [List.getD_eq_getElem?_getD, List.getElem?_set_ne (by omega), ← List.getD_eq_getElem?_getD]
      exact hz _ (by omega)
    have hhi : x * 2 ^ s / 2 ^ 32 < 2 ^ s := by
      rw [show (2 : Nat) ^ 32 = 4294967296 from rfl]
      refine (Nat.div_lt_iff_lt_mul (by omega)).2 ?_
      rw [Nat.mul_comm]
      exact Nat.mul_lt_mul_of_pos_left hd ps
    rw [hset1]
    simp only [Option.bind_some, Int.toNat_natCast]
    rw [show (0 : Int) = ((0 : Nat) : Int) from rfl, w32n (x * 2 ^ s / 2 ^ 32), Nat.mod_eq_of_lt (Nat.lt_of_lt_of_le hhi ple), or32 (by omega) (Nat.lt_of_lt_of_le hhi ple), Nat.zero_or, w32n (x * 2 ^ s / 2 ^ 32), Nat.mod_eq_of_lt (Nat.lt_of_lt_of_le hhi ple), wrU (by omega)]
    have w1 : Wd (r.set (i + w) ((g + x * 2 ^ s % 4294967296 : Nat) : Int)) := wd_set hr (by omega) (by omega)
    refine ⟨_, rfl, _, rfl, wd_set w1 (by omega) (by have := Nat.lt_of_lt_of_le hhi ple; omega), by rw [List.length_set, List.length_set]; exact hl, ?_, ?_, fun k hk => ?_⟩
    · have s1 := wv_set (l := r) ((g + x * 2 ^ s % 4294967296 : Nat) : Int) hiw
      have s2 := wv_set (l := r.set (i + w) ((g + x * 2 ^ s % 4294967296 : Nat) : Int)) ((x * 2 ^ s / 2 ^ 32 : Nat) : Int) (k := i + w + 1) (by rw [List.length_set]; exact hiw1)
      rw [hg, Int.toNat_natCast, Nat.add_mul] at s1
      rw [hset1, Int.toNat_natCast, show (2 : Nat) ^ 32 = 4294967296 from rfl, Nat.pow_succ] at s2
      simp only [Int.toNat_zero, Nat.zero_mul, Nat.add_zero] at s2
      rw [show (2 : Nat) ^ 32 = 4294967296 from rfl, s2, mod_succ32, hx]
      have hdm := Nat.div_add_mod (x * 2 ^ s) 4294967296
      generalize hS : x * 2 ^ s = S at *
      have e3 : S / 4294967296 * (4294967296 ^ (i + w) * 4294967296) + S % 4294967296 * 4294967296 ^ (i + w) = S * 4294967296 ^ (i + w) := by
        conv => rhs; rw [← hdm]
        rw [Nat.add_mul]
        congr 1
        ac_rfl
      have e4 : (a % 4294967296 ^ i + x * 4294967296 ^ i) * 2 ^ s * 4294967296 ^ w = a % 4294967296 ^ i * 2 ^ s * 4294967296 ^ w + S * 4294967296 ^ (i + w) := by
        rw [Nat.add_mul, Nat.add_mul, ← hS, Nat.pow_add]
        congr 1
        ac_rfl
      rw [e4]
      omega
    · rw [show i + 1 + w = i + w + 1 by omega, List.getD_eq_getElem?_getD, List.getElem?_set_self (by rw [List.length_set]; exact hiw1)]
      simp only [Option.getD_some]
      omega
    · rw [List.getD_eq_getElem?_getD, List.getElem?_set_ne (by omega), List.getElem?_set_ne (by omega), ← List.getD_eq_getElem?_getD]
      exact hz k (by omega)) (fun t => by
    rintro ⟨r, rfl, hr, hl, hv, hb, hz⟩
    unfold T_bignum_left_b2
    simp only [Option.bind_some]
    rw [cond_f (by simp)]
    exact ⟨r, rfl, hr, hl, by rw [hv, mod_full (W_len_lt a), hpow, Nat.mul_assoc]⟩) (s0 := (0, List.replicate ((W a).length + w + 1) 0)) ⟨_, rfl, wd_rep _, by simp, by rw [wv_rep, Nat.pow_zero, Nat.mod_one]; simp, by
      rw [List.getD_eq_getElem?_getD]
      simp only [Nat.zero_add]
      rcases Nat.lt_or_ge w ((W a).length + w + 1) with hk | hk
      · have e : ((List.replicate ((W a).length + w + 1) (0 : Int))[w]?).getD 0 = 0 := by simp [hk]
        rw [e]
        exact Int.ofNat_lt.2 ps
      · omega, fun k _ => by
      rw [List.getD_eq_getElem?_getD]
      rcases Nat.lt_or_ge k ((W a).length + w + 1) with hk | hk
      · simp [hk]
      · rw [List.getElem?_eq_none (by simpa using hk)]; rfl⟩
  rw [ho, Option.bind_some, trim_sub hwd (by omega), hv]

/-- A word of a number shifted down. -/
theorem dg_right (a n i : Nat) : dg (a / 2 ^ n) i = (dg a (i + n / 32) + dg a (i + n / 32 + 1) * 4294967296) / 2 ^ (n % 32) % 4294967296 := by
  generalize hs : n % 32 = s
  generalize hw : n / 32 = w
  have hn : n = 32 * w + s := by omega
  have e1 : a / 2 ^ n / 4294967296 ^ i = a / 4294967296 ^ (i + w) / 2 ^ s := by
    rw [Nat.div_div_eq_div_mul, Nat.div_div_eq_div_mul, show (4294967296 : Nat) = 2 ^ 32 from rfl, ← Nat.pow_mul, ← Nat.pow_mul, ← Nat.pow_add, ← Nat.pow_add]
    congr 2; omega
  have e2 : dg a (i + w + 1) = a / 4294967296 ^ (i + w) / 4294967296 % 4294967296 := by
    unfold dg; rw [Nat.pow_succ, Nat.div_div_eq_div_mul]
  unfold dg at *
  rw [e1, e2]
  generalize a / 4294967296 ^ (i + w) = Z
  have hs32 : s < 32 := by omega
  have p32 : (2 : Nat) ^ s * 2 ^ (32 - s) = 4294967296 := by rw [← Nat.pow_add, show s + (32 - s) = 32 by omega]
  have hZ : Z = (Z % 4294967296 + Z / 4294967296 % 4294967296 * 4294967296) + 2 ^ s * (2 ^ (32 - s) * 4294967296 * (Z / 18446744073709551616)) := by
    have : 2 ^ s * (2 ^ (32 - s) * 4294967296 * (Z / 18446744073709551616)) = 18446744073709551616 * (Z / 18446744073709551616) := by
      rw [← Nat.mul_assoc, ← Nat.mul_assoc, p32]
    rw [this]; omega
  generalize hY : Z % 4294967296 + Z / 4294967296 % 4294967296 * 4294967296 = Y at *
  conv => lhs; rw [hZ]
  rw [Nat.add_mul_div_left _ _ (Nat.two_pow_pos s)]
  have : 2 ^ (32 - s) * 4294967296 * (Z / 18446744073709551616) = 4294967296 * (2 ^ (32 - s) * (Z / 18446744073709551616)) := by ac_rfl
  rw [this, Nat.add_mul_mod_self_left]

theorem right_t {a n : Nat} (hn : n < 18446744073709551616) (ha : (W a).length ≤ 4294967296) : T_bignum_right (W a) (n : Int) = some (W (a / 2 ^ n)) := by
  unfold T_bignum_right
  have e0 : (n : Int).tdiv 32 = ((n / 32 : Nat) : Int) := rfl
  have e1 : IntKind.i64.wrap (IntKind.u64.wrap ((n : Int).tdiv 32)) = ((n / 32 : Nat) : Int) := by rw [e0, w64n (by omega), wrN (by omega)]
  have e2 : (n : Int).tmod 32 = ((n % 32 : Nat) : Int) := rfl
  simp only [Option.bind_some, e1]
  rcases Nat.lt_or_ge (n / 32) (W a).length with h | h
  · rw [cond_f (by simp; omega)]
    have e3 : IntKind.i64.wrap ((((W a).length : Nat) : Int) - ((n / 32 : Nat) : Int)) = (((W a).length - n / 32 : Nat) : Int) := by rw [wrI (by omega) (by omega)]; omega
    rw [e3, mk_nat (by omega), Option.bind_some]
    have loop := iter_nat (b := T_bignum_right_b2 (W a) (n : Int)) (fun i => ((i : Int), dl ((W a).length - n / 32) i (a / 2 ^ n))) (o := dl ((W a).length - n / 32) ((W a).length - n / 32) (a / 2 ^ n)) ((W a).length - n / 32) (by rw [FU_eq]; omega) (fun i hi => by
      unfold T_bignum_right_b2
      simp only [Option.bind_some, e1, e2, dl_len]
      have h1 := dg_lt a (i + n / 32)
      have h2 := dg_lt a (i + n / 32 + 1)
      rw [cond_t (by simp; omega), wrAdd (by omega), at_dg (W_wd a) (by omega), Option.bind_some, wv_W, wrU (by omega)]
      have e4 : (cond (decide (((i + n / 32 + 1 : Nat) : Int) < (((W a).length : Nat) : Int))) ((atI (W a) ((i + n / 32 + 1 : Nat) : Int)).bind fun t11 => some (IntKind.u64.wrap (BitVec.ofInt IntKind.u64.bits (IntKind.u64.wrap ((dg a (i + n / 32) : Nat) : Int)) ||| BitVec.ofInt IntKind.u64.bits (IntKind.u64.wrap ((IntKind.u64.wrap t11) * 2 ^ (min (32 : Int).toNat IntKind.u64.bits)))).toNat)) (some (IntKind.u64.wrap ((dg a (i + n / 32) : Nat) : Int)))) = some ((dg a (i + n / 32) + dg a (i + n / 32 + 1) * 4294967296 : Nat) : Int) := by
        rw [w64n (n := dg a (i + n / 32)) (by omega)]
        rcases Nat.lt_or_ge (i + n / 32 + 1) (W a).length with k | k
        · rw [cond_t (by rw [decide_eq_true_iff]; omega), at_dg (W_wd a) k, Option.bind_some, wv_W, w64n (n := dg a (i + n / 32 + 1)) (by omega), sh32]
          have ex : ((dg a (i + n / 32 + 1) : Nat) : Int) * 2 ^ 32 = ((dg a (i + n / 32 + 1) * 4294967296 : Nat) : Int) := by simp
          have hor : dg a (i + n / 32) ||| dg a (i + n / 32 + 1) * 4294967296 = dg a (i + n / 32) + dg a (i + n / 32 + 1) * 4294967296 := or_apart (s := 32) h1
          rw [ex, w64n (n := dg a (i + n / 32 + 1) * 4294967296) (by omega), or64 (by omega) (by omega), hor, w64n (by omega)]
        · rw [cond_f (by simp; omega), show dg a (i + n / 32 + 1) = 0 from dg_big (Nat.lt_of_lt_of_le (W_len_lt a) (Nat.pow_le_pow_right (by omega) k))]
          simp
      rw [e4, Option.bind_some, nn_ok, Option.bind_some, at_getD 0 (by rw [dl_len]; omega)]
      simp only [Option.bind_some, Int.toNat_natCast]
      have eb : min (n % 32) IntKind.u64.bits = n % 32 := by
        have : IntKind.u64.bits = 64 := rfl
        omega
      rw [eb, fdn, w32n, ← dg_right, dl_set, wrU (by omega)]) (by
      unfold T_bignum_right_b2
      simp only [Option.bind_some, dl_len]
      rw [cond_f (by simp)])
    rw [dl_zero] at loop
    have loop : iter (T_bignum_right_b2 (W a) (n : Int)) FU (0, List.replicate ((W a).length - n / 32) 0) = _ := loop
    rw [loop, Option.bind_some, trim_sub (dl_wd _ _ _) (by rw [dl_len]; omega), dl_wv]
    refine Nat.lt_of_le_of_lt (Nat.div_le_div_left (Nat.pow_le_pow_right (by omega) (show 32 * (n / 32) ≤ n by omega)) (Nat.two_pow_pos _)) ?_
    refine (Nat.div_lt_iff_lt_mul (Nat.two_pow_pos _)).2 ?_
    rw [Nat.pow_mul, show (2 : Nat) ^ 32 = 4294967296 from rfl, ← Nat.pow_add, show (W a).length - n / 32 + n / 32 = (W a).length by omega]
    exact W_len_lt a
  · rw [cond_t (by simp; omega)]
    have : a / 2 ^ n = 0 := by
      refine Nat.div_eq_of_lt (Nat.lt_of_lt_of_le (W_len_lt a) ?_)
      rw [show (4294967296 : Nat) = 2 ^ 32 from rfl, ← Nat.pow_mul]
      exact Nat.pow_le_pow_right (by omega) (by omega)
    rw [this, W_zero]

/-! ### Lengths -/

theorem blN_zero : blN 0 = 0 := rfl
theorem blN_pos {n : Nat} (h : n ≠ 0) : blN n = blN (n / 2) + 1 := by
  unfold blN
  rw [if_neg h]
  by_cases h1 : n / 2 = 0
  · have : n = 1 := by omega
    subst this; decide
  · rw [if_neg h1, Nat.log2_def n, if_pos (by omega)]
theorem blN_div (n k : Nat) (h : 2 ^ k ≤ n) : blN (n / 2 ^ k) + k = blN n := by
  induction k generalizing n with
  | zero => simp
  | succ k ih =>
    have hp : 0 < 2 ^ k := Nat.two_pow_pos k
    rw [Nat.pow_succ] at h
    have hn : n ≠ 0 := by omega
    rw [Nat.pow_succ, Nat.mul_comm, ← Nat.div_div_eq_div_mul, ← Nat.add_assoc, ih (n / 2) (by omega), ← blN_pos hn]
theorem blN_lt {n k : Nat} : blN n ≤ k ↔ n < 2 ^ k := by
  unfold blN
  by_cases h : n = 0
  · subst h; simp; exact Nat.two_pow_pos k
  · rw [if_neg h]
    constructor
    · intro hk; exact Nat.lt_of_lt_of_le Nat.lt_log2_self (Nat.pow_le_pow_right (by omega) hk)
    · intro hk; have := (Nat.log2_lt h).2 hk; omega

theorem len_loop {t : Nat} (ht : t < 4294967296) : iter T_bignum_length_b2 FU (0, (t : Int)) = some ((blN t : Nat) : Int) := by
  have hb : blN t ≤ 32 := blN_lt.2 (by simpa using ht)
  have := iter_nat (b := T_bignum_length_b2) (fun i => ((i : Int), ((t / 2 ^ i : Nat) : Int))) (o := ((blN t : Nat) : Int)) (blN t) (by rw [FU_eq]; omega) (fun i hi => by
    unfold T_bignum_length_b2
    dsimp only
    have hne : t / 2 ^ i ≠ 0 := by
      intro e
      have : t < 2 ^ i := by
        rcases Nat.lt_or_ge t (2 ^ i) with k | k
        · exact k
        · have := Nat.div_pos k (Nat.two_pow_pos i); omega
      have := blN_lt.2 this
      omega
    rw [cond_t (by rw [bne_iff_ne]; omega), show min (1 : Int).toNat IntKind.u32.bits = 1 by decide, fdn, wrU (by omega), Nat.div_div_eq_div_mul, ← Nat.pow_add]) (by
    unfold T_bignum_length_b2
    dsimp only
    have : t / 2 ^ blN t = 0 := Nat.div_eq_of_lt (blN_lt.1 (Nat.le_refl _))
    rw [this]
    rfl)
  simpa using this

theorem W_top {a : Nat} (h : a ≠ 0) : (W a).length ≠ 0 ∧ dg a ((W a).length - 1) = a / 4294967296 ^ ((W a).length - 1) ∧ 4294967296 ^ ((W a).length - 1) ≤ a := by
  have hl : (W a).length ≠ 0 := fun e => h (W_nil.1 (List.eq_nil_of_length_eq_zero e))
  refine ⟨hl, ?_, W_len_ge h⟩
  unfold dg
  refine Nat.mod_eq_of_lt ((Nat.div_lt_iff_lt_mul (pow_pos32 _)).2 ?_)
  have := W_len_lt a
  rw [show (W a).length = ((W a).length - 1) + 1 by omega, Nat.pow_succ, Nat.mul_comm] at this
  exact this

theorem length_t {a : Nat} (ha : (W a).length ≤ 4294967296) : T_bignum_length (W a) = some ((blN a : Nat) : Int) := by
  unfold T_bignum_length
  simp only [Option.bind_some]
  by_cases h0 : a = 0
  · subst h0; rw [W_zero]; rfl
  · obtain ⟨hl, ht, hge⟩ := W_top h0
    have e : IntKind.i64.wrap ((((W a).length : Nat) : Int) - 1) = (((W a).length - 1 : Nat) : Int) := by rw [wrI (by omega) (by omega)]; omega
    have hb := blN_div a (32 * ((W a).length - 1)) (by rw [Nat.pow_mul]; exact hge)
    have hd : a / 2 ^ (32 * ((W a).length - 1)) = dg a ((W a).length - 1) := by rw [ht, Nat.pow_mul]
    rw [hd] at hb
    have hb32 : blN (dg a ((W a).length - 1)) ≤ 32 := blN_lt.2 (by have := dg_lt a ((W a).length - 1); simpa using this)
    rw [cond_f (by rw [beq_eq_false_iff_ne]; omega), e, at_dg (W_wd a) (by omega), Option.bind_some, wv_W, len_loop (dg_lt _ _), Option.bind_some, wrI (n := (((W a).length - 1 : Nat) : Int) * 32) (by omega) (by omega), wrI (by omega) (by omega)]
    congr 1; omega

/-! ### Comparison -/

theorem cmp_t {a b : Nat} (ha : (W a).length ≤ 4294967296) (hb : (W b).length ≤ 4294967296) : T_bignum_cmp (W a) (W b) = some (if a < b then -1 else if a = b then 0 else 1) := by
  unfold T_bignum_cmp
  simp only [Option.bind_some]
  by_cases hl : (W a).length = (W b).length
  · rw [cond_f (by simp [hl])]
    -- the first word from above that parts
    rcases first_mark (fun i => dg a ((W a).length - 1 - i) != dg b ((W a).length - 1 - i)) (W a).length with h | ⟨i, hi, h1, h2⟩
    · have hab : a = b := by
        have e : W a = W b := ext_getD 0 hl fun k hk => by
          rw [W_getD, W_getD]
          have := h ((W a).length - 1 - k) (by omega)
          rw [show (W a).length - 1 - ((W a).length - 1 - k) = k by omega] at this
          have : dg a k = dg b k := by simpa using this
          rw [this]
        rw [← wv_W a, ← wv_W b, e]
      subst hab
      have loop := iter_nat (b := T_bignum_cmp_b2 (W a) (W a)) (fun i => (((W a).length : Nat) : Int) - 1 - (i : Int)) (o := .inl ()) (W a).length (by rw [FU_eq]; omega) (fun i hi => by
        unfold T_bignum_cmp_b2
        dsimp only
        have e : (((W a).length : Nat) : Int) - 1 - (i : Int) = (((W a).length - 1 - i : Nat) : Int) := by omega
        have e2 : IntKind.i64.wrap ((((W a).length : Nat) : Int) - 1 - (i : Int) - 1) = (((W a).length : Nat) : Int) - 1 - ((i + 1 : Nat) : Int) := by rw [wrI (by omega) (by omega)]; omega
        rw [cond_t (by simp; omega), e2, e, at_dg (W_wd a) (by omega)]
        simp) (by
        unfold T_bignum_cmp_b2
        dsimp only
        rw [cond_f (by rw [decide_eq_false_iff_not]; omega)])
      have e : IntKind.i64.wrap ((((W a).length : Nat) : Int) - 1) = (((W a).length : Nat) : Int) - 1 - ((0 : Nat) : Int) := by rw [wrI (by omega) (by omega)]; omega
      rw [e, loop]
      simp
    · have hj : (W a).length - 1 - i < (W a).length := by omega
      generalize hJ : (W a).length - 1 - i = j at *
      have same : ∀ k, j < k → dg a k = dg b k := fun k hk => by
        rcases Nat.lt_or_ge k (W a).length with hk2 | hk2
        · have := h2 ((W a).length - 1 - k) (by omega)
          rw [show (W a).length - 1 - ((W a).length - 1 - k) = k by omega] at this
          simpa using this
        · rw [dg_big (Nat.lt_of_lt_of_le (W_len_lt a) (Nat.pow_le_pow_right (by omega) hk2)), dg_big (Nat.lt_of_lt_of_le (W_len_lt b) (Nat.pow_le_pow_right (by omega) (by omega)))]
      have high : a / 4294967296 ^ (j + 1) = b / 4294967296 ^ (j + 1) := by
        -- equal words above
        have key : ∀ m, a / 4294967296 ^ (j + 1) % 4294967296 ^ m = b / 4294967296 ^ (j + 1) % 4294967296 ^ m := by
          intro m
          induction m with
          | zero => simp [Nat.mod_one]
          | succ m ih =>
            have d : ∀ x : Nat, dg (x / 4294967296 ^ (j + 1)) m = dg x (j + 1 + m) := fun x => by
              unfold dg; rw [Nat.div_div_eq_div_mul, ← Nat.pow_add]
            rw [mod_succ32, mod_succ32, ih, d, d, same _ (by omega)]
        have la : a / 4294967296 ^ (j + 1) < 4294967296 ^ (W a).length := Nat.lt_of_le_of_lt (Nat.div_le_self _ _) (W_len_lt a)
        have lb : b / 4294967296 ^ (j + 1) < 4294967296 ^ (W a).length := Nat.lt_of_le_of_lt (Nat.div_le_self _ _) (by rw [hl]; exact W_len_lt b)
        have := key (W a).length
        rwa [mod_full la, mod_full lb] at this
      have ea := mod_succ32 a j
      have eb := mod_succ32 b j
      have da := Nat.div_add_mod a (4294967296 ^ (j + 1))
      have db := Nat.div_add_mod b (4294967296 ^ (j + 1))
      have la := Nat.mod_lt a (pow_pos32 j)
      have lb := Nat.mod_lt b (pow_pos32 j)
      rw [high] at da
      have loop := iter_nat (b := T_bignum_cmp_b2 (W a) (W b)) (fun i => (((W a).length : Nat) : Int) - 1 - (i : Int)) (o := .inr (if dg a j < dg b j then -1 else 1)) i (by rw [FU_eq]; omega) (fun k hk => by
        unfold T_bignum_cmp_b2
        dsimp only
        have e : (((W a).length : Nat) : Int) - 1 - (k : Int) = (((W a).length - 1 - k : Nat) : Int) := by omega
        have e2 : IntKind.i64.wrap ((((W a).length : Nat) : Int) - 1 - (k : Int) - 1) = (((W a).length : Nat) : Int) - 1 - ((k + 1 : Nat) : Int) := by rw [wrI (by omega) (by omega)]; omega
        have hs : dg a ((W a).length - 1 - k) = dg b ((W a).length - 1 - k) := same _ (by omega)
        rw [cond_t (by simp; omega), e2, e, at_dg (W_wd a) (by omega), Option.bind_some, at_dg (W_wd b) (by omega), Option.bind_some, wv_W, wv_W, hs]
        simp) (by
        unfold T_bignum_cmp_b2
        dsimp only
        have e : (((W a).length : Nat) : Int) - 1 - (i : Int) = ((j : Nat) : Int) := by omega
        have hne : dg a j ≠ dg b j := by simpa using h1
        rw [cond_t (by simp; omega), e, at_dg (W_wd a) (by omega), Option.bind_some, at_dg (W_wd b) (by omega), Option.bind_some, wv_W, wv_W, cond_t (by rw [bne_iff_ne]; omega)]
        simp only [Option.bind_some]
        by_cases hlt : dg a j < dg b j
        · rw [if_pos hlt, cond_t (by simpa using hlt)]
        · rw [if_neg hlt, cond_f (by simpa using hlt)])
      have e : IntKind.i64.wrap ((((W a).length : Nat) : Int) - 1) = (((W a).length : Nat) : Int) - 1 - ((0 : Nat) : Int) := by rw [wrI (by omega) (by omega)]; omega
      rw [e, loop]
      have hne : dg a j ≠ dg b j := by simpa using h1
      rw [Option.bind_some]
      dsimp only
      congr 1
      generalize 4294967296 ^ (j + 1) * (b / 4294967296 ^ (j + 1)) = H at *
      generalize 4294967296 ^ j = P at *
      by_cases hlt : dg a j < dg b j
      · have : (dg a j + 1) * P ≤ dg b j * P := Nat.mul_le_mul_right _ hlt
        rw [Nat.add_mul] at this
        rw [if_pos hlt, if_pos (by omega)]
      · have : (dg b j + 1) * P ≤ dg a j * P := Nat.mul_le_mul_right _ (by omega)
        rw [Nat.add_mul] at this
        rw [if_neg hlt, if_neg (by omega), if_neg (by omega)]
  · rw [cond_t (by rw [bne_iff_ne]; omega)]
    by_cases hlt : (W a).length < (W b).length
    · have : a < b := by
        rcases Nat.lt_or_ge a b with k | k
        · exact k
        · have := W_len_mono k; omega
      rw [cond_t (by simpa using hlt), if_pos this]
    · have : b < a := by
        rcases Nat.lt_or_ge b a with k | k
        · exact k
        · have := W_len_mono k; omega
      rw [cond_f (by simpa using hlt), if_neg (by omega), if_neg (by omega)]

end Go.Eng
