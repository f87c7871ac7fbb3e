
/-
  Lists of floats on the plain side: the package vector and its reference. No condition.
-/
import Derived.Test.YtdephdnkkljfeaaDoorPs
import Derived.Test.YtdephdnkkljfeaaDoorOpp
import Derived.Test.YtdephdnkkljfeaaDoorPmR
set_option linter.all false
set_option maxRecDepth 100000
set_option maxHeartbeats 4000000
namespace Go.Eng
open Go
def normN (a : List Nat) : Nat → Nat
  | 0 => 0
  | i + 1 => nf (addV (normN a i) (nf (magF (a.getD i 0))) 2)
theorem vnorm_t {a : List Nat} (ha : a.length ≤ 1048576) : T_vector_Norm a = some (normN a a.length) := by
  unfold T_vector_Norm
  simp only [Option.bind_some]
  have := iter_nat (b := T_vector_Norm_b2 ((a.length : Nat) : Int) a) (fun i => (normN a i, ((i : Nat) : Int))) (o := normN a a.length) a.length (by rw [FU_eq]; omega) (fun i hi => by
    unfold T_vector_Norm_b2
    dsimp only
    rw [cond_t (by simp; omega), at_getD 0 hi]
    simp only [Option.bind_some, abs_t, vsum_t (m := 2) (by decide) (by decide)]
    rw [wrU (by omega)]; rfl) (by
    unfold T_vector_Norm_b2
    dsimp only
    rw [cond_f (by simp)])
  have this : iter (T_vector_Norm_b2 ((a.length : Nat) : Int) a) FU (0, 0) = some (normN a a.length) := this
  rw [nf_zero, this]; rfl
def mostC (s : Int × Nat) (p : Nat) : Bool := fgt p s.2 || (decide (s.1 < 0) && feq p 0)
def mostN (a : List Nat) : Nat → Int × Nat
  | 0 => (-1, 0)
  | i + 1 => if mostC (mostN a i) (nf (magF (a.getD i 0))) then ((i : Int), nf (magF (a.getD i 0))) else mostN a i
theorem most_t {a : List Nat} (ha : a.length ≤ 1048576) : T_vector_Most a = some (mostN a a.length) := by
  unfold T_vector_Most
  simp only [Option.bind_some]
  have := iter_nat (b := T_vector_Most_b2 ((a.length : Nat) : Int) a) (fun i => ((mostN a i).1, (mostN a i).2, ((i : Nat) : Int))) (o := mostN a a.length) a.length (by rw [FU_eq]; omega) (fun i hi => by
    unfold T_vector_Most_b2
    dsimp only
    rw [cond_t (by simp; omega), at_getD 0 hi]
    simp only [Option.bind_some, abs_t, nf_zero]
    rw [wrU (by omega)]
    have : mostN a (i + 1) = if mostC (mostN a i) (nf (magF (a.getD i 0))) then ((i : Int), nf (magF (a.getD i 0))) else mostN a i := rfl
    rw [this]
    unfold mostC
    generalize nf (magF (a.getD i 0)) = p
    generalize mostN a i = s
    obtain ⟨at', sz⟩ := s
    dsimp only
    cases fgt p sz <;> by_cases h : at' < 0 <;> cases feq p 0 <;> simp [h]) (by
    unfold T_vector_Most_b2
    dsimp only
    rw [cond_f (by simp)])
  have this : iter (T_vector_Most_b2 ((a.length : Nat) : Int) a) FU (-1, 0, 0) = some (mostN a a.length) := this
  rw [nf_zero, this]; rfl
theorem fgt_nan {p s : Nat} (h : isNaN p = true) : fgt p s = false := by
  unfold fgt Ieee.Format.order
  obtain ⟨x, f, e⟩ := nan_datum.1 h
  rw [e]; cases Ieee.double.read s <;> rfl
theorem feq_nan {p s : Nat} (h : isNaN p = true) : feq p s = false := by
  unfold feq Ieee.Format.order
  obtain ⟨x, f, e⟩ := nan_datum.1 h
  rw [e]; cases Ieee.double.read s <;> rfl
end Go.Eng
