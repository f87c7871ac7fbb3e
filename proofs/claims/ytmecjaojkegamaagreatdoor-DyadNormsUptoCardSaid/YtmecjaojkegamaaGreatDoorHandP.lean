/-
  Plain facts for the contracts written by hand: fields of floats, marks. No condition.
-/
import Derived.Test.YtmecjaojkegamaaGreatDoorTw3
import Derived.Test.YtmecjaojkegamaaGreatDoorFlz3
set_option linter.unusedVariables false
set_option linter.unusedSimpArgs false
set_option linter.unnecessarySimpa false
set_option linter.unusedSectionVars false
set_option maxRecDepth 100000
set_option maxHeartbeats 4000000
namespace Go.Eng
open Go

theorem nf_zero : nf 0 = 0 := by decide +kernel
theorem wrS {k n : Nat} (h : k < n) (hn : n ≤ 4294967296) : IntKind.i64.wrap ((k : Int) + 1) = ((k + 1 : Nat) : Int) := by rw [← wrN (n := k + 1) (by omega)]; rfl

/-- A float's exponent field and fraction field. -/
def expF (x : Nat) : Nat := x / 4503599627370496 % 2048
def fracF (x : Nat) : Nat := x % 4503599627370496
def finB (x : Nat) : Bool := decide (expF x < 2047)

theorem read_fields (x : Nat) : Ieee.double.read x = Ieee.double.read (x % 18446744073709551616) := by
  unfold Ieee.Format.read
  rw [sw, ir, bn]
  have h1 : x % 18446744073709551616 % 9223372036854775808 = x % 9223372036854775808 := by omega
  have h2 : x % 18446744073709551616 / 9223372036854775808 % 2 = x / 9223372036854775808 % 2 := by omega
  simp only [h1, h2]

theorem isNaN_fields (x : Nat) : isNaN x = (decide (expF x = 2047) && decide (fracF x ≠ 0)) := by
  unfold isNaN Ieee.Format.read
  rw [sw, ir, bn]
  have e : x % 9223372036854775808 = expF x * 4503599627370496 + fracF x := by unfold expF fracF; omega
  have hf : fracF x < 4503599627370496 := Nat.mod_lt _ (by omega)
  have he : expF x < 2048 := Nat.mod_lt _ (by omega)
  rw [Bool.eq_iff_iff]
  simp only [e, Bool.and_eq_true, decide_eq_true_eq]
  constructor
  · intro h
    split at h
    · cases h
    · split at h
      · cases h
      · split at h
        · cases h
        · omega
  · rintro ⟨h1, h2⟩
    rw [if_neg (by omega), if_neg (by omega), if_neg (by omega)]
    rfl

theorem u64_toNat (n : Nat) : (BitVec.ofInt IntKind.u64.bits (n : Int)).toNat = n % 18446744073709551616 := by
  show (BitVec.ofInt 64 (n : Int)).toNat = _
  rw [BitVec.toNat_ofInt]; simp; omega

theorem abs_bits (x : Nat) : (IntKind.u64.wrap ((BitVec.ofInt IntKind.u64.bits (x : Int) &&& ~~~BitVec.ofInt IntKind.u64.bits 9223372036854775808).toNat : Int)).toNat = magF x := by
  have h1 : (BitVec.ofInt IntKind.u64.bits (x : Int) &&& ~~~BitVec.ofInt IntKind.u64.bits 9223372036854775808).toNat = magF x := by
    rw [BitVec.toNat_and, u64_toNat]
    have h2 : (~~~BitVec.ofInt IntKind.u64.bits 9223372036854775808).toNat = 2 ^ 63 - 1 := by decide
    rw [h2, Nat.and_two_pow_sub_one_eq_mod]
    unfold magF; omega
  rw [h1]
  have := magF_lt x
  simp only [IntKind.wrap, IntKind.bits, IntKind.signed]; simp; omega

theorem sign_bits (x : Nat) : decide (IntKind.i64.wrap (x : Int) < 0) = negF x := by
  have h : IntKind.i64.wrap (x : Int) < 0 ↔ x / 9223372036854775808 % 2 = 1 := by
    simp only [IntKind.wrap, IntKind.bits, IntKind.signed]; simp; omega
  unfold negF
  rw [Bool.eq_iff_iff]; simp [h]

theorem copy_bits (x y : Nat) : (IntKind.u64.wrap ((BitVec.ofInt IntKind.u64.bits (IntKind.u64.wrap ((BitVec.ofInt IntKind.u64.bits (x : Int) &&& ~~~BitVec.ofInt IntKind.u64.bits 9223372036854775808).toNat : Int)) ||| BitVec.ofInt IntKind.u64.bits (IntKind.u64.wrap ((BitVec.ofInt IntKind.u64.bits (y : Int) &&& BitVec.ofInt IntKind.u64.bits 9223372036854775808).toNat : Int))).toNat : Int)).toNat = (if negF y then 9223372036854775808 else 0) + magF x := by
  have hm := magF_lt x
  have h1 := abs_bits x
  have h0 : 0 ≤ IntKind.u64.wrap ((BitVec.ofInt IntKind.u64.bits (x : Int) &&& ~~~BitVec.ofInt IntKind.u64.bits 9223372036854775808).toNat : Int) := by
    simp only [IntKind.wrap, IntKind.bits, IntKind.signed]; simp; omega
  have h1' : IntKind.u64.wrap ((BitVec.ofInt IntKind.u64.bits (x : Int) &&& ~~~BitVec.ofInt IntKind.u64.bits 9223372036854775808).toNat : Int) = (magF x : Int) := by omega
  rw [h1']
  have h2 : (BitVec.ofInt IntKind.u64.bits (y : Int) &&& BitVec.ofInt IntKind.u64.bits 9223372036854775808).toNat = (if negF y then 9223372036854775808 else 0) := by
    rw [BitVec.toNat_and, u64_toNat]
    have h3 : (BitVec.ofInt IntKind.u64.bits 9223372036854775808).toNat = 2 ^ 63 := by decide
    rw [h3]
    have e1 := Nat.and_mod_two_pow (a := y % 18446744073709551616) (b := 2 ^ 63) (n := 63)
    have e2 := Nat.and_div_two_pow (a := y % 18446744073709551616) (b := 2 ^ 63) (n := 63)
    rw [Nat.mod_self, Nat.and_zero] at e1
    rw [Nat.div_self (by decide), Nat.and_one_is_mod] at e2
    generalize hz : (y % 18446744073709551616) &&& 2 ^ 63 = z at *
    unfold negF
    by_cases h4 : y / 9223372036854775808 % 2 = 1
    · simp only [h4, beq_self_eq_true, if_true]; omega
    · have h5 : y / 9223372036854775808 % 2 = 0 := by omega
      rw [h5]
      show z = 0
      omega
  rw [h2]
  have h5 : ∀ k : Nat, k < 18446744073709551616 → IntKind.u64.wrap (k : Int) = (k : Int) := by
    intro k hk
    simp only [IntKind.wrap, IntKind.bits, IntKind.signed]; simp; omega
  have h7 : IntKind.u64.wrap (((if negF y then 9223372036854775808 else 0 : Nat)) : Int) = (((if negF y then 9223372036854775808 else 0 : Nat)) : Int) := h5 _ (by split <;> omega)
  rw [h7]
  have h6 : (BitVec.ofInt IntKind.u64.bits (magF x : Int) ||| BitVec.ofInt IntKind.u64.bits (((if negF y then 9223372036854775808 else 0 : Nat)) : Int)).toNat = (if negF y then 9223372036854775808 else 0) + magF x := by
    rw [BitVec.toNat_or, u64_toNat, u64_toNat]
    rw [Nat.mod_eq_of_lt (by omega), Nat.mod_eq_of_lt (by split <;> omega)]
    cases negF y
    · simp
    · simp only [if_true]
      have := Nat.two_pow_add_eq_or_of_lt (i := 63) (b := magF x) (by omega) 1
      rw [Nat.or_comm]
      simpa using this.symm
  rw [h6, h5 _ (by split <;> omega)]
  omega

def markF (i : Nat) : Nat := FloatKind.f64.nearest (8000024 + (i : Int))
def marks : List Nat := (List.range 12).map markF
theorem marks_same : ∀ i, i < 12 → feq (markF i) (markF i) = true := by decide +kernel

theorem slBase0 (a : Option Addr) (c size : Nat) : slBase a 0 c size = a := by
  unfold slBase
  split
  · rfl
  · cases a with
    | none => rfl
    | some x => simp [add_zero']


theorem rdA.reals {w : World} {a : Option Addr} {n c : Nat} {l : List Nat} (h : rdA (l.map (Value.float .f64)) a n c w) : Reals w a n c l := by
  have hn : l.length = n := by rw [h.len, List.length_map]
  refine ⟨hn, h.cap, fun i hi => ?_⟩
  obtain ⟨x, hx, hc⟩ := h.at_ i (by omega)
  refine ⟨x, hx, ?_⟩
  rw [hc]; simp [hi]

/-- The first part of what was lent. -/
theorem Ent.lent {α : Type} {enc : α → Value} {L : List It} {ws ms : List α} {a : Option Addr} {n c m : Nat} (h : Ent L (rdA ((ws ++ ms).map enc) a m c)) (hm : ms.length = 12) (hn : m = n + 12) : Ent L (rdA (ws.map enc) a n c) :=
  h.imp fun w hr => by
    have h1 := hr.len
    have h2 := hr.cap
    rw [List.length_map, List.length_append, hm] at h1
    refine ⟨by rw [List.length_map]; omega, by omega, fun i hi => ?_⟩
    obtain ⟨x, hx, hc⟩ := hr.at_ i (by omega)
    refine ⟨x, hx, ?_⟩
    rw [hc, List.map_append, List.getElem?_append_left (by rw [List.length_map]; omega)]

theorem Ho.gain {w0 w w' : World} {L : List It} {M : List (Nat × Array Value × Nat)} {r t m : Nat} {l : List Nat} (hS : Ho w0 w L) (h : St w w' M) (hm : (r, flts l, t) ∈ M) (hl : m = l.length) : Ho w0 w' (sl (some ⟨r, 0, Option.none⟩) m m (l.map (Value.float .f64)) t :: L) := by
  subst hl
  have h1 := h.own _ hm
  refine hS.more h.below ⟨by simp, .inr ⟨r, [], rfl, ?_, by simp⟩⟩ (fun b hb => ?_) fun b hb => ?_
  · rw [h1.2, List.append_nil]; rfl
  · obtain ⟨x, hx, rfl⟩ := hb
    cases hx
    exact h.lt hm
  · obtain ⟨x, hx, rfl⟩ := hb
    cases hx
    exact h1.1

theorem isNaN_lt {x : Nat} (h : isNaN x = false) : nf x = x := nf_of_not h
theorem nf_magF (x : Nat) : nf (magF (nf x)) = nf (magF x) := by
  cases h : isNaN x with
  | false => rw [nf_of_not h]
  | true =>
    have h1 : isNaN (magF x) = true := by
      have e : magF (magF x) = magF x := by unfold magF; omega
      rw [isNaN_mag] at h ⊢
      rw [e]; exact h
    rw [nf_of_nan h, nf_of_nan h1]
    decide +kernel
theorem nf_copy (s : Bool) (x : Nat) : nf ((if s then 9223372036854775808 else 0) + magF (nf x)) = nf ((if s then 9223372036854775808 else 0) + magF x) := by
  cases h : isNaN x with
  | false => rw [nf_of_not h]
  | true =>
    have hm : ∀ y, magF ((if s then 9223372036854775808 else 0) + magF y) = magF y := by
      intro y
      have := magF_lt y
      unfold magF at *
      split <;> omega
    have h1 : isNaN ((if s then 9223372036854775808 else 0) + magF x) = true := by
      rw [isNaN_mag] at h ⊢
      rw [hm]; exact h
    have h2 : isNaN ((if s then 9223372036854775808 else 0) + magF (nf x)) = true := by
      rw [isNaN_mag, hm, ← isNaN_mag, isNaN_nf]; exact h
    rw [nf_of_nan h1, nf_of_nan h2]

end Go.Eng
