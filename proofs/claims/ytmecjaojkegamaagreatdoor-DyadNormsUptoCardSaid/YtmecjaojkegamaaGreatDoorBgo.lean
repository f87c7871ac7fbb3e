/-
  What the methods of whole numbers of any size reckon, as functions of whole numbers. No condition.
-/
import Derived.Test.YtmecjaojkegamaaGreatDoorBg
import Derived.Lib.BitFns
set_option linter.unusedVariables false
set_option linter.unusedSimpArgs false
set_option linter.unnecessarySimpa false
set_option linter.unusedSectionVars false
set_option maxRecDepth 100000
set_option maxHeartbeats 4000000
namespace Go.Eng
open Go

def tzF : Nat → Nat → Nat
  | 0, _ => 0
  | f + 1, n => if n % 2 = 1 then 0 else tzF f (n / 2) + 1
/-- How many noughts a number ends in. -/
def tzN (n : Nat) : Nat := if n = 0 then 0 else tzF (n.log2 + 1) n
theorem tzF_more {f : Nat} : ∀ {n : Nat}, n ≠ 0 → n < 2 ^ f → tzF (f + 1) n = tzF f n := by
  induction f with
  | zero => intro n h0 h; have : (2 : Nat) ^ 0 = 1 := rfl; omega
  | succ f ih =>
    intro n h0 h
    rw [tzF]
    conv => rhs; rw [tzF]
    by_cases h1 : n % 2 = 1
    · rw [if_pos h1, if_pos h1]
    · rw [if_neg h1, if_neg h1, ih (by omega) (by rw [Nat.pow_succ] at h; omega)]
theorem tzN_eq (n : Nat) : tzN n = if n = 0 then 0 else if n % 2 = 1 then 0 else tzN (n / 2) + 1 := by
  by_cases h0 : n = 0
  · rw [if_pos h0]; unfold tzN; rw [if_pos h0]
  · rw [if_neg h0]
    have e : tzN n = tzF (n.log2 + 1) n := by unfold tzN; rw [if_neg h0]
    rw [e, tzF]
    by_cases h1 : n % 2 = 1
    · rw [if_pos h1, if_pos h1]
    · have h2 : n / 2 ≠ 0 := by omega
      have el : n.log2 = (n / 2).log2 + 1 := by rw [Nat.log2_def, if_pos (by omega)]
      have e2 : tzN (n / 2) = tzF ((n / 2).log2 + 1) (n / 2) := by unfold tzN; rw [if_neg h2]
      rw [if_neg h1, if_neg h1, e2, el]
def blN (n : Nat) : Nat := if n = 0 then 0 else n.log2 + 1

def bigSign (z : Int) : Option Int := some (if z < 0 then -1 else if z = 0 then 0 else 1)
def bigCmp (x y : Int) : Option Int := (bgOk x).bind fun x => (bgOk y).bind fun y => some (if x < y then -1 else if x = y then 0 else 1)
def bigTrailingZeroBits (z : Int) : Option Int := (bgOk z).bind fun z => some ((tzN z.natAbs : Nat) : Int)
def bigBitLen (z : Int) : Option Int := (bgOk z).bind fun z => some ((blN z.natAbs : Nat) : Int)
def bigUint64 (z : Int) : Option Int := some ((z.natAbs % 18446744073709551616 : Nat) : Int)
def bigSetInt64 (n : Int) : Option Int := if -9223372036854775808 ≤ n ∧ n < 9223372036854775808 then some n else none
def bigSetUint64 (n : Int) : Option Int := if 0 ≤ n ∧ n < 18446744073709551616 then some n else none
def bigNeg (z : Int) : Option Int := (bgOk z).bind fun z => some (-z)
def bigAbs (z : Int) : Option Int := (bgOk z).bind fun z => some (z.natAbs : Int)
def bigLsh (z n : Int) : Option Int := if 0 ≤ n ∧ n < 34359738368 then (bgOk z).bind fun z => bgOk (z * ((2 ^ n.toNat : Nat) : Int)) else none
def bigRsh (z n : Int) : Option Int := if 0 ≤ z ∧ 0 ≤ n ∧ n < 18446744073709551616 then (bgOk z).bind fun z => some ((z.natAbs / 2 ^ n.toNat : Nat) : Int) else none
def bigAdd (x y : Int) : Option Int := (bgOk x).bind fun x => (bgOk y).bind fun y => some (x + y)
def bigSub (x y : Int) : Option Int := (bgOk x).bind fun x => (bgOk y).bind fun y => some (x - y)
def bigMul (x y : Int) : Option Int := (bgOk x).bind fun x => (bgOk y).bind fun y => some (x * y)
def bigAnd (x y : Int) : Option Int := if 0 ≤ x ∧ 0 ≤ y then (bgOk x).bind fun x => (bgOk y).bind fun y => some ((x.natAbs &&& y.natAbs : Nat) : Int) else none
def bigOr (x y : Int) : Option Int := if 0 ≤ x ∧ 0 ≤ y then (bgOk x).bind fun x => (bgOk y).bind fun y => some ((x.natAbs ||| y.natAbs : Nat) : Int) else none

/-! ### The table of bits' own -/

def tab64L : List Int := [0, 1, 56, 2, 57, 49, 28, 3, 61, 58, 42, 50, 38, 29, 17, 4, 62, 47, 59, 36, 45, 43, 51, 22, 53, 39, 33, 30, 24, 18, 12, 5, 63, 55, 48, 27, 60, 41, 37, 16, 46, 35, 44, 21, 52, 32, 23, 11, 54, 26, 40, 15, 34, 20, 31, 10, 25, 14, 19, 9, 13, 8, 7, 6]
/-- The table lies at g. -/
def tab64 (g : Nat) (w : World) : Prop := rdA (tab64L.map (Value.int .u8)) (some ⟨g, 0, none⟩) 64 64 w
def ix64 (q : Int) : Int := (IntKind.u64.wrap ((IntKind.u64.wrap (BitVec.ofInt IntKind.u64.bits q &&& BitVec.ofInt IntKind.u64.bits (IntKind.u64.wrap (0 - q))).toNat) * 285870213051353865)).fdiv (2 ^ (min (58 : Int).toNat IntKind.u64.bits))
def tz64 (q : Int) : Int := if q = 0 then 64 else tab64L.getD (ix64 q).toNat 0

theorem ix64_lt (q : Int) : 0 ≤ ix64 q ∧ ix64 q < 64 := by
  unfold ix64
  generalize IntKind.u64.wrap (BitVec.ofInt IntKind.u64.bits q &&& BitVec.ofInt IntKind.u64.bits (IntKind.u64.wrap (0 - q))).toNat * 285870213051353865 = z
  have e : IntKind.u64.wrap z = z % 18446744073709551616 := by simp [IntKind.wrap, IntKind.bits, IntKind.signed]
  have e2 : min (58 : Int).toNat IntKind.u64.bits = 58 := by decide
  rw [e, e2, Int.fdiv_eq_ediv_of_nonneg _ (by decide)]
  omega
theorem tab64_le : ∀ i : Nat, i < 64 → 0 ≤ tab64L.getD i 0 ∧ tab64L.getD i 0 < 64 := by decide

theorem and2 (a b : Nat) (x y : Bool) : (2 * a + x.toNat) &&& (2 * b + y.toNat) = 2 * (a &&& b) + (x && y).toNat := by
  apply Nat.eq_of_testBit_eq
  intro i
  cases i with
  | zero => rw [Nat.testBit_and]; cases x <;> cases y <;> simp [Nat.testBit_zero] <;> omega
  | succ i =>
    have d : ∀ (c : Nat) (z : Bool), (2 * c + z.toNat) / 2 = c := fun c z => by cases z <;> simp <;> omega
    rw [Nat.testBit_and, Nat.testBit_succ, Nat.testBit_succ, Nat.testBit_succ, d, d, d, Nat.testBit_and]
theorem and_compl {j w : Nat} (h : j < 2 ^ w) : j &&& (2 ^ w - (j + 1)) = 0 := by
  apply Nat.eq_of_testBit_eq
  intro i
  rw [Nat.testBit_and, Nat.testBit_two_pow_sub_succ h]
  cases j.testBit i <;> simp
/-- A number and its opposite share one bit. -/
theorem and_neg {n w : Nat} (h0 : n ≠ 0) (h : n < 2 ^ w) : n &&& (2 ^ w - n) = 2 ^ tzN n := by
  induction n using Nat.strongRecOn generalizing w with
  | ind n ih =>
    obtain ⟨v, rfl⟩ : ∃ v, w = v + 1 := ⟨w - 1, by
      cases w with
      | zero => simp at h; omega
      | succ w => rfl⟩
    rw [Nat.pow_succ] at h ⊢
    by_cases h1 : n % 2 = 1
    · have hz : tzN n = 0 := by rw [tzN_eq, if_neg h0, if_pos h1]
      have e1 : n = 2 * (n / 2) + true.toNat := by simp; omega
      have e2 : 2 ^ v * 2 - n = 2 * (2 ^ v - (n / 2 + 1)) + true.toNat := by simp; omega
      rw [hz, e2]
      conv => lhs; lhs; rw [e1]
      rw [and2, and_compl (by omega)]
      rfl
    · have h2 : n % 2 = 0 := by omega
      have hz : tzN n = tzN (n / 2) + 1 := by rw [tzN_eq, if_neg h0, if_neg (by omega)]
      have e1 : n = 2 * (n / 2) + false.toNat := by simp; omega
      have e2 : 2 ^ v * 2 - n = 2 * (2 ^ v - n / 2) + false.toNat := by simp; omega
      rw [hz, e2]
      conv => lhs; lhs; rw [e1]
      rw [and2, ih (n / 2) (by omega) (by omega) (by omega), Nat.pow_succ]
      simp; omega
theorem tz64_pow : ∀ k : Nat, k < 64 → tab64L.getD (2 ^ k * 285870213051353865 % 18446744073709551616 / 288230376151711744) 0 = k := by decide
theorem tzN_low {n : Nat} (h0 : n ≠ 0) : 2 ^ tzN n ≤ n := by
  induction n using Nat.strongRecOn with
  | ind n ih =>
    by_cases h1 : n % 2 = 1
    · rw [tzN_eq, if_neg h0, if_pos h1]; omega
    · rw [tzN_eq, if_neg h0, if_neg h1, Nat.pow_succ]
      have := ih (n / 2) (by omega) (by omega)
      omega
theorem tz64_t {n : Nat} (h0 : n ≠ 0) (h : n < 18446744073709551616) : tz64 (n : Int) = (tzN n : Int) := by
  unfold tz64
  rw [if_neg (by omega)]
  have w64' : ∀ z : Int, IntKind.u64.wrap z = z % 18446744073709551616 := fun z => by simp [IntKind.wrap, IntKind.bits, IntKind.signed]
  have hk : tzN n < 64 := by
    have := tzN_low h0
    exact (Nat.pow_lt_pow_iff_right (a := 2) (by omega)).1 (Nat.lt_of_le_of_lt this h)
  have e1 : (BitVec.ofInt IntKind.u64.bits (n : Int) &&& BitVec.ofInt IntKind.u64.bits (IntKind.u64.wrap (0 - (n : Int)))).toNat = 2 ^ tzN n := by
    have en : IntKind.u64.wrap (0 - (n : Int)) = ((18446744073709551616 - n : Nat) : Int) := by rw [w64']; omega
    rw [en]
    show (BitVec.ofInt 64 (n : Int) &&& BitVec.ofInt 64 ((18446744073709551616 - n : Nat) : Int)).toNat = _
    rw [BitVec.toNat_and, BitVec.ofInt_natCast, BitVec.ofInt_natCast, BitVec.toNat_ofNat, BitVec.toNat_ofNat, Nat.mod_eq_of_lt (by omega), Nat.mod_eq_of_lt (by omega)]
    exact and_neg (w := 64) h0 h
  have e2 : (ix64 (n : Int)).toNat = 2 ^ tzN n * 285870213051353865 % 18446744073709551616 / 288230376151711744 := by
    unfold ix64
    have hp : 2 ^ tzN n < 18446744073709551616 := Nat.lt_of_le_of_lt (tzN_low h0) h
    rw [e1, w64', w64']
    have e3 : min (58 : Int).toNat IntKind.u64.bits = 58 := by decide
    rw [e3, Int.fdiv_eq_ediv_of_nonneg _ (by decide)]
    generalize 2 ^ tzN n = p at *
    have e4 : ((p : Nat) : Int) % 18446744073709551616 = ((p : Nat) : Int) := by omega
    have e5 : ((p : Nat) : Int) * 285870213051353865 = ((p * 285870213051353865 : Nat) : Int) := by simp
    rw [e4, e5]
    generalize p * 285870213051353865 = z
    have e6 : ((z : Nat) : Int) % 18446744073709551616 / 2 ^ 58 = ((z % 18446744073709551616 / 288230376151711744 : Nat) : Int) := by omega
    rw [e6, Int.toNat_natCast]
  rw [e2]
  exact tz64_pow _ hk

theorem bitLen_bl {x : Nat} (h : x < 18446744073709551616) : Lib.bitLen x = blN x := by
  have key : ∀ f x, x < 2 ^ f → Lib.bitLenAux f x = blN x := by
    intro f
    induction f with
    | zero => intro x hx; have : x = 0 := by simpa using hx
              subst this; rfl
    | succ f ih =>
      intro x hx
      unfold Lib.bitLenAux
      by_cases h0 : x = 0
      · rw [if_pos h0, h0]; rfl
      · rw [if_neg h0, ih (x / 2) (by rw [Nat.pow_succ] at hx; omega)]
        unfold blN
        rw [if_neg h0]
        by_cases h1 : x / 2 = 0
        · have : x = 1 := by omega
          subst this; decide
        · rw [if_neg h1, Nat.log2_def x, if_pos (by omega)]; omega
  exact key 64 x h

/-- What is written over has a length that memory holds. -/
def ovr (l : List Int) : Option Unit := if l.length ≤ 4294967000 then some () else none
theorem ovr_s {l : List Int} {u : Unit} (h : ovr l = some u) : l.length ≤ 4294967000 := by
  unfold ovr at h
  split at h
  · assumption
  · cases h

end Go.Eng
