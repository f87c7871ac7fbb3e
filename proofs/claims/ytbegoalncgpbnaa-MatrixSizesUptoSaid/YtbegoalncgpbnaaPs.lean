/-
  Comparing lists of floats on the plain side. No condition.
-/
import Derived.Test.YtbegoalncgpbnaaPl
import Derived.Test.YtbegoalncgpbnaaTp
set_option linter.unusedVariables false
set_option linter.unusedSimpArgs false
set_option linter.unnecessarySimpa false
set_option linter.unusedSectionVars false
set_option maxRecDepth 100000
set_option maxHeartbeats 4000000
namespace Go.Eng
open Go

theorem sameReals_t {l m : List Nat} (hl : l.length ≤ 4294967296) : T_girderkit_SameReals l m = some (l == m) := by
  unfold T_girderkit_SameReals
  simp only [Option.bind_some]
  refine eq_cond (fun h => ?_) (fun h => ?_)
  · have : l ≠ m := fun e => by subst e; simp at h
    simp [this]
  · have hlen : l.length = m.length := by simp at h; omega
    have step : ∀ i, i < l.length → l.getD i 0 = m.getD i 0 → T_girderkit_SameReals_b2 l m ((i : Nat) : Int) = some (.inl ((i + 1 : Nat) : Int)) := by
      intro i hi he
      unfold T_girderkit_SameReals_b2 T_girderkit_SameFloat
      simp only [Option.bind_some, at_getD 0 hi, at_getD 0 (show i < m.length by omega), he, beq_self_eq_true, Bool.not_true, cF]
      rw [cond_t (by simp; omega), wrU (by omega)]
    by_cases he : l = m
    · subst he
      have := iter_nat (b := T_girderkit_SameReals_b2 l l) (fun i => ((i : Nat) : Int)) (o := .inl ()) l.length (by rw [FU_eq]; omega) (fun i hi => step i hi rfl) (by
        unfold T_girderkit_SameReals_b2
        simp only [Option.bind_some]
        rw [cond_f (by simp)])
      rw [show ((0 : Nat) : Int) = 0 from rfl] at this
      rw [this]; simp
    · obtain ⟨i, h1, h2, h3⟩ := first_diff 0 hlen he
      have := iter_nat (b := T_girderkit_SameReals_b2 l m) (fun i => ((i : Nat) : Int)) (o := .inr false) i (by rw [FU_eq]; omega) (fun j hj => step j (by omega) (h3 j hj)) (by
        unfold T_girderkit_SameReals_b2 T_girderkit_SameFloat
        have e : (l.getD i 0 == m.getD i 0) = false := by simpa using h2
        simp only [Option.bind_some, at_getD 0 h1, at_getD 0 (show i < m.length by omega), e, Bool.not_false, cT]
        rw [cond_t (by simp; omega)])
      rw [show ((0 : Nat) : Int) = 0 from rfl] at this
      rw [this]; simp [he]


end Go.Eng
