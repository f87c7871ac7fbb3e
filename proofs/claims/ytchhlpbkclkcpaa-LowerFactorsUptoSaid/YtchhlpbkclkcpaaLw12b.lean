/-
  The law LowerFactors. No condition.
-/
import Derived.Test.YtchhlpbkclkcpaaLw12
import Derived.Test.YtchhlpbkclkcpaaPl12c
set_option linter.unusedVariables false
set_option linter.unusedSimpArgs false
set_option linter.unnecessarySimpa false
set_option linter.unusedSectionVars false
set_option maxRecDepth 1000000
set_option maxHeartbeats 4000000
namespace Go.Eng
open Go

theorem factors_step (i : Nat) (hi : i < 2) (q r : Int) (l : List Nat) :
    ∃ q' r' l', T_girderlaw12_LowerFactors_b2 ((i : Int), q, r, l) = some (.inl (((i + 1 : Nat) : Int), q', r', l')) := by
  obtain ⟨t, L, D, e, at', h1, h2, h3, h4⟩ := factor_same q r l
  obtain ⟨⟨q', r', l'⟩, hm⟩ := mirrored_some q r l
  have sf : T_girderkit_SameFactor t L D t L D = some true := by
    unfold T_girderkit_SameFactor
    rw [sameReals_t (by omega), sameReals_t (by omega)]; simp
  refine ⟨q', r', l', ?_⟩
  unfold T_girderlaw12_LowerFactors_b2
  dsimp only
  rw [cond_t (by simp; omega), h1, h2]
  simp only [Option.bind_some, sf, beq_self_eq_true, bne_self_eq_false, Bool.not_true, Bool.not_false, cT, cF, hm]
  rw [wrU (by omega)]

theorem factors12 (q r : Int) (l : List Nat) : T_girderlaw12_LowerFactors q r l = some true := by
  obtain ⟨q1, r1, l1, h1⟩ := factors_step 0 (by omega) q r l
  obtain ⟨q2, r2, l2, h2⟩ := factors_step 1 (by omega) q1 r1 l1
  unfold T_girderlaw12_LowerFactors
  have := iter_nat (b := T_girderlaw12_LowerFactors_b2) (fun i => if i = 0 then ((i : Nat), q, r, l) else if i = 1 then (((i : Nat) : Int), q1, r1, l1) else (((i : Nat) : Int), q2, r2, l2)) (o := .inl ()) 2 (by rw [FU_eq]; omega) (fun i hi => by
    rcases (by omega : i = 0 ∨ i = 1) with rfl | rfl
    · exact h1
    · exact h2) rfl
  have this : iter T_girderlaw12_LowerFactors_b2 FU (0, q, r, l) = some (.inl ()) := this
  rw [this]
  simp only [Option.bind_some, awake12]

section
variable {N : Nums} {P : Program} (H : AllOk N P)
include H
theorem factors12_f {q r : Int} {sa : Option Addr} {na ma : Nat} {la : List Nat} {w : World} (hA : Reals w sa na ma la) :
    CallsX P N.f_girderlaw12_LowerFactors #[.agg #[.int .i64 q, .int .i64 r, .slice sa na ma]] w fun v w' => v = .bool true ∧ ∃ M, St w w' M :=
  wk_girderlaw12_LowerFactors H (Ho.arg1 hA) (Ent.rd mp0) (factors12 _ _ _) fun w1 h => ⟨rfl, h.some_old⟩
end
end Go.Eng
