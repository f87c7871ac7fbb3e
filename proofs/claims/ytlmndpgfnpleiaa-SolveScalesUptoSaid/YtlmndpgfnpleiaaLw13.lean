/-
  The law SolveTells. No condition.
-/
import Derived.Test.YtlmndpgfnpleiaaWk
import Derived.Test.YtlmndpgfnpleiaaLw0
import Derived.Test.YtlmndpgfnpleiaaPf2
set_option linter.unusedVariables false
set_option linter.unusedSimpArgs false
set_option linter.unnecessarySimpa false
set_option linter.unusedSectionVars false
set_option maxRecDepth 1000000
set_option maxHeartbeats 4000000
namespace Go.Eng
open Go

theorem awake13 : T_girderlaw13_awake = some true := by decide +kernel

theorem lent_t {l : List Nat} (h : l.length ≤ 1048576) : T_girderkit_LentReals l = some l := by
  unfold T_girderkit_LentReals; rw [cond_t (by simp; omega)]
theorem kept_t {l m : List Nat} (h : m.length ≤ 1048576) : T_girderkit_KeptReals l m = some true := by
  unfold T_girderkit_KeptReals; rw [cond_t (by simp; omega)]
theorem is13_t {l m : List Nat} {e f : Int} (hl : l.length ≤ 4294967296) : T_girderlaw13_is l e m f = some (e == f && l == m) := by
  unfold T_girderlaw13_is
  rw [sameReals_t hl]
  cases e == f <;> rfl

theorem tells13 {q : Int} {l d b : List Nat} (h1 : l.length ≤ 1048576) (h2 : d.length ≤ 1048576) (h3 : b.length ≤ 1048576) : T_girderlaw13_SolveTells q l d b = some true := by
  unfold T_girderlaw13_SolveTells
  have lf : T_girderkit_LentFactor q l d = some (q, l, d) := by unfold T_girderkit_LentFactor; rw [lent_t h1, lent_t h2]; rfl
  have kf : T_girderkit_KeptFactor q l d q l d = some true := by
    unfold T_girderkit_KeptFactor T_girderkit_SameFactor
    rw [sameReals_t (by omega), sameReals_t (by omega), kept_t h1, kept_t h2]; simp
  obtain ⟨a1, x1, e1, a2, a3, _⟩ := forward_same q l d (b := b)
  obtain ⟨b1, x2, e2, b2, b3, _⟩ := back_same q l d (b := b)
  obtain ⟨c1, x3, e3, c2, c3, _⟩ := solve_same q l d (b := b)
  obtain ⟨r, c, x4, e4, d1, d2, d3⟩ := inverse_same q l d
  rw [a2] at a1
  rw [b2] at b1
  rw [c2] at c1
  rw [lf, lent_t h3]
  simp only [Option.bind_some, a2, ← a1, b2, ← b1, c2, ← c1, d1, d2]
  rw [is13_t (by omega), is13_t (by omega), is13_t (by omega), sameMatrix_t (by omega), kf, kept_t h3, awake13]
  simp

section
variable {N : Nums} {P : Program} (H : AllOk N P)
include H
theorem tells13_f {q : Int} {sa sb sc : Option Addr} {na ma nb mb nc mc : Nat} {la lb lc : List Nat} {w : World} (hA : Reals w sa na ma la) (hB : Reals w sb nb mb lb) (hC : Reals w sc nc mc lc) (ha : na ≤ 1048576) (hb : nb ≤ 1048576) (hc : nc ≤ 1048576) :
    CallsX P N.f_girderlaw13_SolveTells #[.agg #[.int .i64 q, .slice sa na ma, .slice sb nb mb], .slice sc nc mc] w fun v w' => v = .bool true ∧ ∃ M, St w w' M := by
  have hS := ((Ho.arg1 hC).arg (own_cons rfl own_nil) (.ofReals hB)).arg (own_cons rfl (own_cons rfl own_nil)) (.ofReals hA)
  exact wk_girderlaw13_SolveTells H hS (Ent.rd mp0) (Ent.rd mp1) (Ent.rd mp2) (tells13 (by rw [List.length_map, hA.len]; exact ha) (by rw [List.length_map, hB.len]; exact hb) (by rw [List.length_map, hC.len]; exact hc)) fun w1 h => ⟨rfl, h.some_old⟩
end
end Go.Eng
