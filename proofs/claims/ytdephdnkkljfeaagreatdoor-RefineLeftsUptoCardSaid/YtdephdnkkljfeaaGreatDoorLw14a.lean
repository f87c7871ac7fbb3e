/-
  RefineLefts, the plain law: what is left of a system is what the document says. Its condition: floats that are floats.
-/
import Derived.Test.YtdephdnkkljfeaaGreatDoorLe
import Derived.Test.YtdephdnkkljfeaaGreatDoorWk
import Derived.Test.YtdephdnkkljfeaaGreatDoorLw0
import Derived.Test.YtdephdnkkljfeaaGreatDoorRow2
set_option linter.all false
set_option maxRecDepth 100000
set_option maxHeartbeats 400000
namespace Go.Eng
open Go
theorem awake14 : T_w14_awake = some true := by decide +kernel
theorem great14 (r c : Int) (A : List Nat) : T_w14_great r c A = some (decide (100 < A.length)) := by
  unfold T_w14_great
  simp only [Option.bind_some]
  congr 1
  rw [Bool.eq_iff_iff]; simp; omega
theorem lentR {l : List Nat} (h : l.length ≤ 100) : T_k_LentReals l = some l := by
  unfold T_k_LentReals
  rw [cond_t (by rw [decide_eq_true_eq]; omega)]
theorem keptR {k l : List Nat} (h : l.length ≤ 100) : T_k_KeptReals k l = some true := by
  unfold T_k_KeptReals
  rw [cond_t (by rw [decide_eq_true_eq]; omega)]
theorem keptM {r c : Int} {l : List Nat} (h : l.length ≤ 100) : T_k_KeptMatrix r c l r c l = some true := by
  unfold T_k_KeptMatrix
  rw [sameMatrix_t (by omega)]
  simp only [beq_self_eq_true, Bool.and_self, Option.bind_some, cT]
  rw [keptR h]; rfl
theorem leftF_len (r c : Int) (A X b : List Nat) : (leftF r c A X b).1.length ≤ 48 := by
  unfold leftF
  split
  · rename_i h
    obtain ⟨m, n, rfl, rfl, h1, _⟩ := fitL_nat h
    split
    · split
      · simp only [leftL_len, Int.toNat_natCast]; exact h1
      · simp
    · simp
  · simp
theorem lefts14 {r c : Int} {A X b : List Nat} (wA : ∀ p ∈ A, p < 18446744073709551616) (wX : ∀ p ∈ X, p < 18446744073709551616) (wb : ∀ p ∈ b, p < 18446744073709551616) : T_w14_RefineLefts r c A X b = some true := by
  unfold T_w14_RefineLefts
  rw [awake14]
  simp only [Option.bind_some, Bool.not_true, cF, great14]
  by_cases gA : 100 < A.length
  · rw [decide_eq_true gA]; rfl
  · rw [decide_eq_false gA, Bool.not_false, cT]
    by_cases gX : 100 < X.length
    · rw [decide_eq_true (show ((X.length : Nat) : Int) > 100 by omega)]; rfl
    · rw [decide_eq_false (show ¬ ((X.length : Nat) : Int) > 100 by omega), Bool.not_false, cT]
      by_cases gb : 100 < b.length
      · rw [decide_eq_true (show ((b.length : Nat) : Int) > 100 by omega)]; rfl
      · rw [decide_eq_false (show ¬ ((b.length : Nat) : Int) > 100 by omega), Option.bind_some, cF]
        unfold T_k_LentMatrix
        rw [lentR (by omega), lentR (by omega), lentR (by omega)]
        simp only [Option.bind_some]
        rw [xleft_t r c (by omega) (by omega) (by omega), rleft_t r c (by omega) (by omega) (by omega) wA wX wb]
        simp only [Option.bind_some, beq_self_eq_true, cT]
        rw [sameReals_t (by have := leftF_len r c A X b; omega)]
        simp only [Option.bind_some, beq_self_eq_true, cT]
        rw [keptM (by omega), keptR (by omega), keptR (by omega)]; rfl
section
variable {N : Nums} {P : Program} (H : AllOk N P)
include H
theorem lefts14_f {r c : Int} {sa sx sb : Option Addr} {na ma nx mx nb mb : Nat} {la lx lb : List Nat} {w : World} (hA : Reals w sa na ma la) (hX : Reals w sx nx mx lx) (hB : Reals w sb nb mb lb)
    (wA : ∀ p ∈ la, p < 18446744073709551616) (wX : ∀ p ∈ lx, p < 18446744073709551616) (wB : ∀ p ∈ lb, p < 18446744073709551616) (hG : tab64 N.g_1 w) :
    CallsX P N.f_w14_RefineLefts #[.agg #[.int .i64 r, .int .i64 c, .slice sa na ma], .slice sx nx mx, .slice sb nb mb] w fun v w' => v = .bool true ∧ ∃ M, St w w' M := by
  have hS := ((((Ho.start w).arg own_nil hG).arg (own_cons rfl own_nil) (.ofReals hB)).arg (own_cons rfl (own_cons rfl own_nil)) (.ofReals hX)).arg (own_cons rfl (own_cons rfl (own_cons rfl own_nil))) (.ofReals hA)
  exact wk_w14_RefineLefts H hS (Ent.rd mp0) (Ent.rd mp1) (Ent.rd mp2) (Ent.rd mp3) (lefts14 (nf_words wA) (nf_words wX) (nf_words wB)) fun w1 h => ⟨rfl, h.some_old⟩
end
end Go.Eng
