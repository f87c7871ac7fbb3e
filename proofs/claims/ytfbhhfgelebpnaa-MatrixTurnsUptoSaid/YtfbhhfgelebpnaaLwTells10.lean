/-
  The law of MatrixTells on the plain side. No condition.
-/
import Derived.Test.YtfbhhfgelebpnaaPm3
set_option linter.unusedVariables false
set_option linter.unusedSimpArgs false
set_option maxRecDepth 1000000
set_option maxHeartbeats 4000000
namespace Go.Eng
open Go

theorem awake10 : T_girderlaw10_awake = some true := by decide +kernel

theorem lentMatrix_t {r c : Int} {l : List Nat} (hl : l.length ≤ 4294967000) : T_girderkit_LentMatrix r c l = some (r, c, l) := by
  unfold T_girderkit_LentMatrix T_girderkit_LentReals
  rw [cond_t (by simpa using hl)]; rfl
theorem keptMatrix_t {r c : Int} {l : List Nat} (hl : l.length ≤ 4294967000) : T_girderkit_KeptMatrix r c l r c l = some true := by
  unfold T_girderkit_KeptMatrix T_girderkit_KeptReals
  rw [sameMatrix_t (by omega), cond_t (c := decide (l.length ≤ 4294967000)) (by simpa using hl)]
  simp

theorem tells10 {r c r' c' : Int} {l l' : List Nat} {rows cols : Int} (hl : l.length ≤ 1048576) (hl' : l'.length ≤ 1048576) (hw : ∀ p ∈ l, p < 18446744073709551616) :
    T_girderlaw10_MatrixTells r c l r' c' l' rows cols = some true := by
  have le : ∀ {l : List Nat} {m : Nat}, l.length ≤ m → m ≤ 4294967296 → l.length ≤ 4294967296 := fun h1 h2 => Nat.le_trans h1 h2
  unfold T_girderlaw10_MatrixTells
  simp only [lentMatrix_t (show l.length ≤ 4294967000 by omega), lentMatrix_t (show l'.length ≤ 4294967000 by omega), Option.bind_some, make_t, rmake_t]
  have m1 : ∀ x : Int × Int × List Nat × Int, x.2.2.1.length ≤ 4294967296 → T_girderlaw10_is x.1 x.2.1 x.2.2.1 x.2.2.2 x.1 x.2.1 x.2.2.1 x.2.2.2 = some true := fun x hx => is_self hx
  have mk : (if mayB rows cols = true then (rows, cols, List.replicate (rows * cols).toNat 0, (0 : Int)) else noMat 2).2.2.1.length ≤ 4294967296 := by
    split
    · rename_i h
      obtain ⟨a, b, rfl, rfl, _, _, hab⟩ := mayB_nat h
      have : ((a : Int) * (b : Int)).toNat = a * b := by
        have : ((a * b : Nat) : Int) = (a : Int) * b := by simp
        omega
      simp [this]; omega
    · simp [noMat]
  have idl : (if mayB rows rows = true then (rows, rows, grid rows.toNat rows.toNat idG, (0 : Int)) else noMat 2).2.2.1.length ≤ 4294967296 := by
    split
    · rename_i h
      obtain ⟨a, b, h1, h2, _, _, hab⟩ := mayB_nat h
      have : a = b := by omega
      subst this
      simp [h1, grid_len]; omega
    · simp [noMat]
  have trl : (if rightB r c l.length = true then (c, r, grid c.toNat r.toNat (turnG l c.toNat), (0 : Int)) else noMat 4).2.2.1.length ≤ 4294967296 := by
    split
    · rename_i h
      obtain ⟨a, b, rfl, rfl, _, _, hab, h2⟩ := rightB_nat h
      simp [grid_len]; rw [Nat.mul_comm]; omega
    · simp [noMat]
  have sbl : (if subOk r c l.length r' c' l'.length = true then (r, c, subL' l l', (0 : Int)) else noMat 4).2.2.1.length ≤ 4294967296 := by
    split
    · simp [subL']; omega
    · simp [noMat]
  generalize (if mayB rows cols = true then (rows, cols, List.replicate (rows * cols).toNat 0, (0 : Int)) else noMat 2) = x1 at *
  obtain ⟨a1, b1, c1, d1⟩ := x1
  have i1 := m1 _ mk
  dsimp only at i1 ⊢
  simp only [i1, Option.bind_some, ident_t, rident_t, Bool.not_true, cF]
  generalize (if mayB rows rows = true then (rows, rows, grid rows.toNat rows.toNat idG, (0 : Int)) else noMat 2) = x2 at *
  obtain ⟨a2, b2, c2, d2⟩ := x2
  have i2 := m1 _ idl
  dsimp only at i2 ⊢
  simp only [i2, right_t, rright_t, Option.bind_some, beq_self_eq_true, Bool.not_true, Bool.not_false, cT, msame_t (show l.length ≤ 4294967296 by omega), rsame_t (show l.length ≤ 4294967296 by omega), symm_t, rsymm_t, cF, transp_t, rtransp_t]
  generalize (if rightB r c l.length = true then (c, r, grid c.toNat r.toNat (turnG l c.toNat), (0 : Int)) else noMat 4) = x3 at *
  obtain ⟨a3, b3, c3, d3⟩ := x3
  have i3 := m1 _ trl
  dsimp only at i3 ⊢
  simp only [i3, Option.bind_some, Bool.not_true, cF, msub_t, rsub_t, mnorm_t, rnorm_t r c l hw]
  generalize (if subOk r c l.length r' c' l'.length = true then (r, c, subL' l l', (0 : Int)) else noMat 4) = x4 at *
  obtain ⟨a4, b4, c4, d4⟩ := x4
  have i4 := m1 _ sbl
  dsimp only at i4 ⊢
  generalize normV r c l = x5 at *
  obtain ⟨s, e⟩ := x5
  have i5 : T_girderkit_SameFloat s s = some true := by unfold T_girderkit_SameFloat; simp
  dsimp only
  simp only [i4, i5, Option.bind_some, cT, beq_self_eq_true, keptMatrix_t (show l.length ≤ 4294967000 by omega), keptMatrix_t (show l'.length ≤ 4294967000 by omega), awake10]

end Go.Eng
