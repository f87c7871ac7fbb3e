/-
  The small whole numbers of the law SolveWhole (and SolveScales). No condition. (Groundwork.)
-/
import Derived.Test.YtlmndpgfnpleiaaPl
import Derived.Test.YtlmndpgfnpleiaaTp
set_option linter.unusedVariables false
set_option linter.unusedSimpArgs false
set_option linter.unnecessarySimpa false
set_option linter.unusedSectionVars false
set_option maxRecDepth 100000
set_option maxHeartbeats 4000000
namespace Go.Eng
open Go

theorem pick_t (x : Int) {n : Nat} (hn : 0 < n) (h : n < 1000000) : ∃ k : Nat, k < n ∧ T_girderkit_Pick x (n : Int) = some (k : Int) := by
  unfold T_girderkit_Pick
  rw [cond_f (by simp; omega)]
  have hz : nz (n : Int) = some () := by unfold nz; simp; omega
  have h1 : (x.tmod (n : Int)).natAbs < n := by
    rw [Int.natAbs_tmod]
    exact Nat.mod_lt _ (by simpa using hn)
  rw [hz, Option.bind_some]
  generalize x.tmod (n : Int) = r at h1
  by_cases hr : r < 0
  · refine ⟨(r + n).toNat, by omega, ?_⟩
    rw [cond_t (by simpa using hr), Option.bind_some, wrI (by omega) (by omega)]
    congr 1; omega
  · refine ⟨r.toNat, by omega, ?_⟩
    rw [cond_f (by simpa using hr), Option.bind_some]
    congr 1; omega

theorem at13_t (l : List Int) (k : Nat) {m : Nat} (h1 : 1 ≤ m) (hm : m ≤ 1000) : ∃ v : Int, T_girderlaw13_at l (k : Int) (m : Int) = some v ∧ -(m : Int) ≤ v ∧ v ≤ m := by
  unfold T_girderlaw13_at
  simp only [Option.bind_some]
  by_cases hl : l.length = 0
  · have : l = [] := List.eq_nil_of_length_eq_zero hl
    subst this
    exact ⟨1, rfl, by omega, by omega⟩
  · have hz : nz ((l.length : Nat) : Int) = some () := if_pos (by omega)
    have e : ((k : Int)).tmod ((l.length : Nat) : Int) = ((k % l.length : Nat) : Int) := rfl
    have hlt : k % l.length < l.length := Nat.mod_lt _ (by omega)
    have hne : (((l.length : Nat) : Int) == 0) = false := by rw [beq_eq_false_iff_ne]; omega
    rw [cond_f hne, hz, Option.bind_some, e, at_getD 0 hlt, Option.bind_some]
    have w : IntKind.i64.wrap ((IntKind.i64.wrap (2 * (m : Int))) + 1) = ((2 * m + 1 : Nat) : Int) := by
      rw [wrI (n := 2 * (m : Int)) (by omega) (by omega), wrI (by omega) (by omega)]; omega
    obtain ⟨p, hp, hpk⟩ := pick_t (l.getD (k % l.length) 0) (n := 2 * m + 1) (by omega) (by omega)
    rw [w, hpk, Option.bind_some, wrI (by omega) (by omega)]
    exact ⟨(p : Int) - m, rfl, by omega, by omega⟩

end Go.Eng
