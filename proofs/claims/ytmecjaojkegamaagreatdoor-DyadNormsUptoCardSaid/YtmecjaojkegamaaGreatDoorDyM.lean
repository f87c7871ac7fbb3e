/-
  Dyads on the plain side: sameness. No condition.
-/
import Derived.Test.YtmecjaojkegamaaGreatDoorDy2
set_option linter.unusedVariables false
set_option linter.unusedSimpArgs false
set_option linter.unnecessarySimpa false
set_option linter.unusedSectionVars false
set_option maxRecDepth 100000
set_option maxHeartbeats 400000
set_option exponentiation.threshold 140000
namespace Go.Eng
open Go

theorem limbs_same {l m : List Int} (hl : l.length ≤ 4294967296) : T_girderkit_SameLimbs l m = some (l == m) := by
  unfold T_girderkit_SameLimbs
  simp only [Option.bind_some]
  refine eq_cond (fun h => ?_) (fun h => ?_)
  · have : l ≠ m := fun e => by subst e; simp at h
    simp [this]
  · have hlen : l.length = m.length := by simp at h; omega
    have step : ∀ i, i < l.length → l.getD i 0 = m.getD i 0 → T_girderkit_SameLimbs_b2 l m ((i : Nat) : Int) = some (.inl ((i + 1 : Nat) : Int)) := by
      intro i hi he
      unfold T_girderkit_SameLimbs_b2
      simp only [Option.bind_some, at_getD 0 hi, at_getD 0 (show i < m.length by omega), he, bne_self_eq_false, cF]
      rw [cond_t (by simp; omega), wrU (by omega)]
    by_cases he : l = m
    · subst he
      have := iter_nat (b := T_girderkit_SameLimbs_b2 l l) (fun i => ((i : Nat) : Int)) (o := .inl ()) l.length (by rw [FU_eq]; omega) (fun i hi => step i hi rfl) (by
        unfold T_girderkit_SameLimbs_b2
        simp only [Option.bind_some]
        rw [cond_f (by simp)])
      rw [show ((0 : Nat) : Int) = 0 from rfl] at this
      rw [this]; simp
    · obtain ⟨i, hi, hne, hbef⟩ := first_diff 0 hlen he
      have := iter_nat (b := T_girderkit_SameLimbs_b2 l m) (fun i => ((i : Nat) : Int)) (o := .inr false) i (by rw [FU_eq]; omega) (fun j hj => step j (by omega) (hbef j hj)) (by
        unfold T_girderkit_SameLimbs_b2
        simp only [Option.bind_some, at_getD 0 hi, at_getD 0 (show i < m.length by omega)]
        rw [cond_t (by simp; omega), cond_t (by simpa using hne)])
      rw [show ((0 : Nat) : Int) = 0 from rfl] at this
      rw [this]; simp [he]
theorem dyad_same {s t : Bool} {l m : List Int} {e f : Int} (hl : l.length ≤ 4294967296) : T_girderkit_SameDyad s l e t m f = some (s == t && l == m && e == f) := by
  unfold T_girderkit_SameDyad
  rw [limbs_same hl]
  cases s == t <;> cases l == m <;> rfl
theorem canoLen {z e : Int} : (cano z e).2.1.length ≤ 256 := by
  rcases cano_out z e with h | ⟨s, l, f, h, hg, _⟩
  · rw [h]; decide
  · rw [h]; exact hg.ld.2.1
theorem cano_same (z e : Int) : T_girderkit_SameDyad (cano z e).1 (cano z e).2.1 (cano z e).2.2.1 (cano z e).1 (cano z e).2.1 (cano z e).2.2.1 = some true := by
  have := canoLen (z := z) (e := e)
  rw [dyad_same (by omega)]; simp

end Go.Eng
