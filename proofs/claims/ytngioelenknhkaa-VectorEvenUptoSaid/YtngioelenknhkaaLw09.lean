/-
  The laws VectorTells and VectorSums. No condition.
-/
import Derived.Test.YtngioelenknhkaaWk
import Derived.Test.YtngioelenknhkaaLw0
import Derived.Test.YtngioelenknhkaaPv
set_option linter.unusedVariables false
set_option linter.unusedSimpArgs false
set_option linter.unnecessarySimpa false
set_option linter.unusedSectionVars false
set_option maxRecDepth 1000000
set_option maxHeartbeats 4000000
namespace Go.Eng
open Go

theorem awake09 : T_girderlaw09_awake = some true := by decide +kernel

theorem tells09 {a b : List Nat} (ha : a.length ≤ 1048576) (hb : b.length ≤ 1048576) : T_girderlaw09_VectorTells a b = some true := by
  unfold T_girderlaw09_VectorTells
  rw [most_t ha, rmost_t ha]
  simp only [Option.bind_some, vsame9_t (show a.length ≤ 4294967296 by omega), rsame9_t (show a.length ≤ 4294967296 by omega), vsame9_t (show b.length ≤ 4294967296 by omega), norm_t ha, rnorm9_t ha, beq_self_eq_true, cT, awake09]
  have e : (b == a) = (a == b) := by rw [Bool.eq_iff_iff, beq_iff_eq, beq_iff_eq]; exact eq_comm
  have s : ∀ x, T_girderkit_SameFloat x x = some true := fun x => by unfold T_girderkit_SameFloat; simp
  rw [e]
  simp [s]

theorem eachV_len (g : Nat → Nat → Nat) (a b : List Nat) : (eachV g a b).1.length ≤ 4096 := by
  unfold eachV
  split
  · rename_i h
    have := fit_zero h
    simp [zipV]; omega
  · simp

theorem sums_step (t : Nat) {a b : List Nat} (ha : a.length ≤ 1048576) (hb : b.length ≤ 1048576) (hw : ∀ p ∈ a, p < 18446744073709551616) (i : Nat) (hi : i < 2) :
    T_girderlaw09_VectorSums_b2 t ((i : Int), a, b) = some (.inl (((i + 1 : Nat) : Int), a.take (min a.length b.length), b.take (min a.length b.length))) := by
  unfold T_girderlaw09_VectorSums_b2
  dsimp only
  rw [cond_t (by simp; omega), vadd_t, Option.bind_some, radd9_t a b hw, Option.bind_some, vsub_t, Option.bind_some, rsub9_t, Option.bind_some]
  rw [sameReals_t (by have := eachV_len fadd a b; omega), sameReals_t (by have := eachV_len fsub a b; omega)]
  simp only [beq_self_eq_true, Option.bind_some, Bool.not_true, Bool.not_false, cT, cF, bne_self_eq_false]
  rw [vaxpy_t, Option.bind_some, raxpy_t, Option.bind_some, dot_t, Option.bind_some, rdot_t, Option.bind_some]
  rw [sameReals_t (by have := eachV_len (fun x y => fadd (fmul t x) y) a b; omega), scale_t t ha, Option.bind_some, rscale_t t ha, Option.bind_some]
  dsimp only [Option.bind_some]
  rw [sameReals_t (by simp [scaleV]; omega)]
  have s : ∀ x, T_girderkit_SameFloat x x = some true := fun x => by unfold T_girderkit_SameFloat; simp
  simp only [s, beq_self_eq_true, Option.bind_some, Bool.not_true, Bool.not_false, cT, cF, bne_self_eq_false]
  have e : (if ((b.length : Nat) : Int) < ((a.length : Nat) : Int) then ((b.length : Nat) : Int) else ((a.length : Nat) : Int)) = ((min a.length b.length : Nat) : Int) := by
    split <;> omega
  rw [e]
  have s1 := sub_nat (l := a) (i := 0) (j := min a.length b.length) (by omega) (by omega)
  have s2 := sub_nat (l := b) (i := 0) (j := min a.length b.length) (by omega) (by omega)
  simp only [List.drop_zero, Nat.sub_zero, show ((0 : Nat) : Int) = 0 from rfl] at s1 s2
  rw [s1, Option.bind_some, s2, Option.bind_some, wrU (by omega)]

theorem sums09 (t : Nat) {a b : List Nat} (ha : a.length ≤ 1048576) (hb : b.length ≤ 1048576) (hw : ∀ p ∈ a, p < 18446744073709551616) : T_girderlaw09_VectorSums t a b = some true := by
  unfold T_girderlaw09_VectorSums
  have := iter_nat (b := T_girderlaw09_VectorSums_b2 t) (fun i => (((i : Nat) : Int), if i = 0 then a else a.take (min a.length b.length), if i = 0 then b else b.take (min a.length b.length))) (o := .inl ()) 2 (by rw [FU_eq]; omega) (fun i hi => by
    rcases (by omega : i = 0 ∨ i = 1) with rfl | rfl
    · exact sums_step t ha hb hw 0 (by omega)
    · have := sums_step t (a := a.take (min a.length b.length)) (b := b.take (min a.length b.length)) (by simp; omega) (by simp; omega) (fun p hp => hw p (List.mem_of_mem_take hp)) 1 (by omega)
      refine this.trans ?_
      show some (Sum.inl (((1 + 1 : Nat) : Int), _, _)) = some (Sum.inl (((1 + 1 : Nat) : Int), a.take (min a.length b.length), b.take (min a.length b.length)))
      simp only [List.length_take, List.take_take]
      rw [show min (min (min (min a.length b.length) a.length) (min (min a.length b.length) b.length)) (min a.length b.length) = min a.length b.length by omega]) rfl
  have this : iter (T_girderlaw09_VectorSums_b2 t) FU (0, a, b) = some (.inl ()) := this
  rw [this]
  simp only [Option.bind_some, awake09]

section
variable {N : Nums} {P : Program} (H : AllOk N P)
include H
theorem tells09_f {sa sb : Option Addr} {na ma nb mb : Nat} {la lb : List Nat} {w : World} (hA : Reals w sa na ma la) (hB : Reals w sb nb mb lb) (ha : na ≤ 1048576) (hb : nb ≤ 1048576) :
    CallsX P N.f_girderlaw09_VectorTells #[.slice sa na ma, .slice sb nb mb] w fun v w' => v = .bool true ∧ ∃ M, St w w' M := by
  have hS := (Ho.arg1 hB).arg (own_cons rfl own_nil) (.ofReals hA)
  exact wk_girderlaw09_VectorTells H hS (Ent.rd mp0) (Ent.rd mp1) (tells09 (by rw [List.length_map, hA.len]; exact ha) (by rw [List.length_map, hB.len]; exact hb)) fun w1 h => ⟨rfl, h.some_old⟩
theorem sums09_f {t : Nat} {sa sb : Option Addr} {na ma nb mb : Nat} {la lb : List Nat} {w : World} (hA : Reals w sa na ma la) (hB : Reals w sb nb mb lb) (ha : na ≤ 1048576) (hb : nb ≤ 1048576) (hw : ∀ p ∈ la, p < 18446744073709551616) :
    CallsX P N.f_girderlaw09_VectorSums #[.float .f64 t, .slice sa na ma, .slice sb nb mb] w fun v w' => v = .bool true ∧ ∃ M, St w w' M := by
  have hS := (Ho.arg1 hB).arg (own_cons rfl own_nil) (.ofReals hA)
  exact wk_girderlaw09_VectorSums H hS (Ent.rd mp0) (Ent.rd mp1) (sums09 _ (by rw [List.length_map, hA.len]; exact ha) (by rw [List.length_map, hB.len]; exact hb) (nf_words hw)) fun w1 h => ⟨rfl, h.some_old⟩
end
end Go.Eng
