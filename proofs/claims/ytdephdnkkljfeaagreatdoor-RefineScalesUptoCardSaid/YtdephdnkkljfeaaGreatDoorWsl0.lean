/-
  One of a few, on the plain side. No condition.
-/
import Derived.Test.YtdephdnkkljfeaaGreatDoorOpp
import Derived.Test.YtdephdnkkljfeaaGreatDoorTp
set_option linter.all false
set_option maxRecDepth 100000
set_option maxHeartbeats 4000000
namespace Go.Eng
open Go
theorem pick_t (x : Int) {n : Nat} (hn : 0 < n) (h : n < 1000000) : ∃ k : Nat, k < n ∧ T_k_Pick x (n : Int) = some (k : Int) := by
  unfold T_k_Pick
  rw [cond_f (by simp; omega)]
  have hz : nz (n : Int) = some () := by unfold nz; simp; omega
  have h1 : (x.tmod (n : Int)).natAbs < n := by
    rw [Int.natAbs_tmod]
    exact Nat.mod_lt _ (by simpa using hn)
  rw [hz, Option.bind_some]
  generalize x.tmod (n : Int) = r at h1
  by_cases hr : r < 0
  · refine ⟨(r + n).toNat, by omega, ?_⟩
    rw [cond_t (by simpa using hr), Option.bind_some, wrI (by omega) (by omega)]
    congr 1; omega
  · refine ⟨r.toNat, by omega, ?_⟩
    rw [cond_f (by simpa using hr), Option.bind_some]
    congr 1; omega
end Go.Eng
