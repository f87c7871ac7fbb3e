/-
  The law LowerTimes. No condition.
-/
import Derived.Test.YtkbmapgioggadaaWk
import Derived.Test.YtkbmapgioggadaaLw0
import Derived.Test.YtkbmapgioggadaaPl12
set_option linter.unusedVariables false
set_option linter.unusedSimpArgs false
set_option linter.unnecessarySimpa false
set_option linter.unusedSectionVars false
set_option maxRecDepth 1000000
set_option maxHeartbeats 4000000
namespace Go.Eng
open Go

theorem awake12 : T_girderlaw12_awake = some true := by decide +kernel

theorem fit9 (l d : List Nat) : ∃ m : Nat, m ≤ 48 ∧ m ≤ d.length ∧ tri m ≤ l.length ∧ iter (T_girderlaw12_LowerTimes_b9 d l) FU 0 = some (m : Int) := by
  have step : ∀ k : Nat, k < 48 → T_girderlaw12_LowerTimes_b9 d l (k : Int) = cond (decide (k + 1 ≤ d.length ∧ tri (k + 1) ≤ l.length)) (some (.inl ((k + 1 : Nat) : Int))) (some (.inr (k : Int))) := by
    intro k hk
    have hb : (k + 1) * k ≤ 48 * 48 := Nat.mul_le_mul (by omega) (by omega)
    have e2 : ((((k + 1) * k : Nat) : Int)).tdiv 2 = ((tri (k + 1) : Nat) : Int) := rfl
    have ht := tri_le (n := k + 1) (by omega)
    unfold T_girderlaw12_LowerTimes_b9
    simp only [Option.bind_some, wrU (show k + 1 < 9223372036854775808 by omega)]
    rw [cond_t (by simp; omega), wrMul (by omega), e2, wrN (by omega)]
    by_cases h1 : k + 1 ≤ d.length
    · rw [cond_t (by simp; omega)]
      by_cases h2 : tri (k + 1) ≤ l.length
      · rw [cond_t (by simp; omega), cond_t (by simp [h1, h2])]
      · rw [cond_f (by simp; omega), cond_f (by simp [h2])]
    · rw [cond_f (by simp; omega), cond_f (by simp [h1])]
  have inv : ∀ m : Nat, (∀ k, k < m → decide (k + 1 ≤ d.length ∧ tri (k + 1) ≤ l.length) = true) → m ≤ d.length ∧ tri m ≤ l.length := by
    intro m h
    cases m with
    | zero => exact ⟨Nat.zero_le _, Nat.zero_le _⟩
    | succ m => simpa using h m (by omega)
  rcases first_mark (fun k => !decide (k + 1 ≤ d.length ∧ tri (k + 1) ≤ l.length)) 48 with h | ⟨m, h1, h2, h3⟩
  · have h' : ∀ k, k < 48 → decide (k + 1 ≤ d.length ∧ tri (k + 1) ≤ l.length) = true := fun k hk => by simpa using h k hk
    refine ⟨48, Nat.le_refl _, (inv 48 h').1, (inv 48 h').2, ?_⟩
    exact iter_nat (b := T_girderlaw12_LowerTimes_b9 d l) (fun k => ((k : Nat) : Int)) (o := ((48 : Nat) : Int)) 48 (by rw [FU_eq]; omega) (fun k hk => by rw [step k hk, h' k hk, cT]) (by
      unfold T_girderlaw12_LowerTimes_b9
      dsimp only
      rw [cond_f (by simp)])
  · have h' : ∀ k, k < m → decide (k + 1 ≤ d.length ∧ tri (k + 1) ≤ l.length) = true := fun k hk => by simpa using h3 k hk
    refine ⟨m, by omega, (inv m h').1, (inv m h').2, ?_⟩
    exact iter_nat (b := T_girderlaw12_LowerTimes_b9 d l) (fun k => ((k : Nat) : Int)) (o := (m : Int)) m (by rw [FU_eq]; omega) (fun k hk => by rw [step k (by omega), h' k hk, cT]) (by
      have : decide (m + 1 ≤ d.length ∧ tri (m + 1) ≤ l.length) = false := by rw [Bool.not_eq_true'] at h2; exact h2
      rw [step m h1, this, cF])

theorem times_step (i : Nat) (hi : i < 2) (q : Int) (l d : List Nat) :
    ∃ q' l' d', T_girderlaw12_LowerTimes_b7 ((i : Int), q, l, d) = some (.inl (((i + 1 : Nat) : Int), q', l', d')) := by
  obtain ⟨x, hx, r, c, e, h1, h2⟩ := times_same q l d
  obtain ⟨m, m1, m2, m3, m4⟩ := fit9 l d
  have sm : T_girderkit_SameMatrix r c x r c x = some true := by rw [sameMatrix_t (by omega)]; simp
  have s1 := sub_nat (l := l) (i := 0) (j := tri m) (by omega) m3
  have s2 := sub_nat (l := d) (i := 0) (j := m) (by omega) m2
  have hR : ∃ b, T_lower_Right q l d = some b := by
    rcases right_cases q l d with ⟨h, _⟩ | h
    · exact ⟨_, h⟩
    · exact ⟨_, h⟩
  obtain ⟨b, hb⟩ := hR
  rw [show ((0 : Nat) : Int) = 0 from rfl] at s1 s2
  have fin : T_girderlaw12_LowerTimes_b7 ((i : Int), q, l, d) = some (.inl (((i + 1 : Nat) : Int), (m : Int), (l.drop 0).take (tri m - 0), (d.drop 0).take (m - 0))) := by
    unfold T_girderlaw12_LowerTimes_b7
    dsimp only
    rw [cond_t (by simp; omega), h1, h2]
    simp only [Option.bind_some, hb, rright12, sm, beq_self_eq_true, bne_self_eq_false, Bool.not_true, Bool.not_false, cT, cF, m4]
    rw [triInt (by omega)]
    rw [s1, Option.bind_some, s2, Option.bind_some, wrU (by omega)]
  exact ⟨_, _, _, fin⟩

theorem times12 (q : Int) (l d : List Nat) : T_girderlaw12_LowerTimes q l d = some true := by
  obtain ⟨q1, l1, d1, h1⟩ := times_step 0 (by omega) q l d
  obtain ⟨q2, l2, d2, h2⟩ := times_step 1 (by omega) q1 l1 d1
  unfold T_girderlaw12_LowerTimes
  have := iter_nat (b := T_girderlaw12_LowerTimes_b7) (fun i => if i = 0 then ((i : Nat), q, l, d) else if i = 1 then (((i : Nat) : Int), q1, l1, d1) else (((i : Nat) : Int), q2, l2, d2)) (o := .inl ()) 2 (by rw [FU_eq]; omega) (fun i hi => by
    rcases (by omega : i = 0 ∨ i = 1) with rfl | rfl
    · exact h1
    · exact h2) rfl
  have this : iter T_girderlaw12_LowerTimes_b7 FU (0, q, l, d) = some (.inl ()) := this
  rw [this]
  simp only [Option.bind_some, awake12]

section
variable {N : Nums} {P : Program} (H : AllOk N P)
include H
theorem times12_f {q : Int} {sa sb : Option Addr} {na ma nb mb : Nat} {la lb : List Nat} {w : World} (hA : Reals w sa na ma la) (hB : Reals w sb nb mb lb) :
    CallsX P N.f_girderlaw12_LowerTimes #[.agg #[.int .i64 q, .slice sa na ma, .slice sb nb mb]] w fun v w' => v = .bool true ∧ ∃ M, St w w' M := by
  have hS := (Ho.arg1 hB).arg (own_cons rfl own_nil) (.ofReals hA)
  exact wk_girderlaw12_LowerTimes H hS (Ent.rd mp0) (Ent.rd mp1) (times12 _ _ _) fun w1 h => ⟨rfl, h.some_old⟩
end
end Go.Eng
