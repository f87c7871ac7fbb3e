/-
  Turning over, differences, comparisons, norms of matrices on the plain side: the code's and the reference's. No condition.
-/
import Derived.Test.YtfbhhfgelebpnaaPm1
import Derived.Test.YtfbhhfgelebpnaaPmR
set_option linter.unusedVariables false
set_option linter.unusedSimpArgs false
set_option maxRecDepth 100000
set_option maxHeartbeats 4000000
namespace Go.Eng
open Go

theorem grid_put {r c i j x : Nat} {g : Nat → Nat → Nat} (hi : i < r) (hj : j < c) : (grid r c g).set (i * c + j) x = grid r c (fun a b => if a = i ∧ b = j then x else g a b) := by
  have hidx := idxL hi hj
  refine grid_of (by simp [grid_len]) fun a b ha hb => ?_
  rw [set_getD (by rw [grid_len]; exact hidx), grid_at ha hb]
  by_cases h : a = i ∧ b = j
  · obtain ⟨rfl, rfl⟩ := h; simp
  · rw [if_neg h, if_neg (fun e => h (idx_inj' hb hj e))]

def turnG (l : List Nat) (c : Nat) (i j : Nat) : Nat := l.getD (j * c + i) 0

theorem transp_t (r c : Int) (l : List Nat) : T_matrix_Transpose r c l = some (if rightB r c l.length then (c, r, grid c.toNat r.toNat (turnG l c.toNat), 0) else noMat 4) := by
  unfold T_matrix_Transpose
  rw [right_t, Option.bind_some]
  cases hR : rightB r c l.length with
  | false => rfl
  | true =>
    obtain ⟨a, b, rfl, rfl, ha, hb, hl, h2⟩ := rightB_nat hR
    rw [Bool.not_true, cF, laid_t hb ha (g := turnG l b) (fun i j hi hj => by
      unfold T_matrix_Transpose_1
      have := idxL hj hi
      rw [wrIdx hj hi (by omega), at_getD 0 (by omega)]; rfl)]
    simp

theorem rtransp_t (r c : Int) (l : List Nat) : T_girderref10_Transpose r c l = some (if rightB r c l.length then (c, r, grid c.toNat r.toNat (turnG l c.toNat), 0) else noMat 4) := by
  unfold T_girderref10_Transpose
  rw [rright_t, Option.bind_some]
  cases hR : rightB r c l.length with
  | false => rfl
  | true =>
    obtain ⟨a, b, rfl, rfl, ha, hb, hl, h2⟩ := rightB_nat hR
    have hba : b * a = a * b := Nat.mul_comm b a
    have e : ((b : Int) * (a : Int)).toNat = b * a := by
      have : ((b * a : Nat) : Int) = (b : Int) * a := by simp
      omega
    rw [Bool.not_true, cF, rmake_t, mayB_mk hb ha, Option.bind_some]
    simp only [if_true, e, Int.toNat_natCast]
    have e0 : List.replicate (b * a) 0 = grid b a (fun x y => if y < 0 ∨ (y = 0 ∧ x < 0) then turnG l b x y else 0) := by unfold grid; simp [const_range]
    have hin : ∀ i, i < a → iter (T_girderref10_Transpose_b14 b a l i) FU (((0 : Nat) : Int), grid b a (fun x y => if y < i ∨ (y = i ∧ x < 0) then turnG l b x y else 0)) = some (grid b a (fun x y => if y < i + 1 ∨ (y = i + 1 ∧ x < 0) then turnG l b x y else 0)) := by
      intro i hi
      refine iter_nat (fun j => (((j : Nat) : Int), grid b a (fun x y => if y < i ∨ (y = i ∧ x < j) then turnG l b x y else 0))) b (by rw [FU_eq]; omega) (fun j hj => ?_) ?_
      · have hidx := idxL hj hi
        have hidx2 := idxL hi hj
        unfold T_girderref10_Transpose_b14 T_girderref10_At
        dsimp only
        rw [cond_t (by simp; omega), wrIdx hi hj (by omega), at_getD 0 (by omega), Option.bind_some, Option.bind_some, wrIdx hj hi (by omega), at_getD 0 (by rw [grid_len]; exact hidx)]
        simp only [Option.bind_some, Int.toNat_natCast]
        rw [grid_put hj hi, wrU (by omega)]
        congr 3
        refine grid_congr fun x y hx hy => ?_
        by_cases h1 : x = j ∧ y = i
        · obtain ⟨rfl, rfl⟩ := h1; simp [turnG]
        · rw [if_neg h1]
          by_cases h2 : y < i ∨ (y = i ∧ x < j)
          · rw [if_pos h2, if_pos (by omega)]
          · rw [if_neg h2, if_neg (by omega)]
      · unfold T_girderref10_Transpose_b14
        dsimp only
        rw [cond_f (by simp)]
        congr 2
        refine grid_congr fun x y hx hy => ?_
        by_cases h2 : y < i ∨ (y = i ∧ x < b)
        · rw [if_pos h2, if_pos (by omega)]
        · rw [if_neg h2, if_neg (by omega)]
    have hout := iter_nat (b := T_girderref10_Transpose_b12 a b l) (fun i => (((i : Nat) : Int), grid b a (fun x y => if y < i ∨ (y = i ∧ x < 0) then turnG l b x y else 0))) (o := grid b a (turnG l b)) a (by rw [FU_eq]; omega) (fun i hi => by
      unfold T_girderref10_Transpose_b12
      dsimp only
      have h0 := hin i hi
      rw [show ((0 : Nat) : Int) = 0 from rfl] at h0
      rw [cond_t (by simp; omega), h0, Option.bind_some, wrU (by omega)]) (by
      unfold T_girderref10_Transpose_b12
      dsimp only
      rw [cond_f (by simp)]
      congr 2
      refine grid_congr fun x y hx hy => ?_
      rw [if_pos (by omega)])
    rw [e0]
    rw [show ((0 : Nat) : Int) = 0 from rfl] at hout
    rw [hout]
    simp

/-! ### Differences -/

def subOk (ra ca : Int) (na : Nat) (rb cb : Int) (nb : Nat) : Bool := rightB ra ca na && rightB rb cb nb && ra == rb && ca == cb
def subL' (l m : List Nat) : List Nat := (List.range l.length).map fun k => fsub (l.getD k 0) (m.getD k 0)

theorem subTest {ra ca rb cb : Int} {x y : Bool} : (cond (!(!x)) ((some y).bind fun t3 => cond (!(!t3)) (cond (!(ra != rb)) (some (ca != cb)) (some true)) (some true)) (some true)) = some (!(x && y && ra == rb && ca == cb)) := by
  cases x <;> cases y <;> simp [bne] <;> cases ra == rb <;> simp

theorem grid_flat {r c : Nat} (F : Nat → Nat) : grid r c (fun i j => F (i * c + j)) = (List.range (r * c)).map F := by
  unfold grid
  apply List.map_congr_left
  intro k _
  have : k / c * c + k % c = k := by rw [Nat.mul_comm]; exact Nat.div_add_mod k c
  show F (k / c * c + k % c) = F k
  rw [this]

theorem msub_t (ra ca rb cb : Int) (l m : List Nat) : T_matrix_Sub ra ca l rb cb m = some (if subOk ra ca l.length rb cb m.length then (ra, ca, subL' l m, 0) else noMat 4) := by
  unfold T_matrix_Sub
  simp only [right_t, Option.bind_some]
  have := @subTest ra ca rb cb (rightB ra ca l.length) (rightB rb cb m.length)
  simp only [Option.bind_some] at this
  rw [this, Option.bind_some]
  change cond (!subOk ra ca l.length rb cb m.length) _ _ = _
  cases hO : subOk ra ca l.length rb cb m.length with
  | false => rfl
  | true =>
    simp only [subOk, Bool.and_eq_true, beq_iff_eq] at hO
    obtain ⟨⟨⟨h1, h2⟩, rfl⟩, rfl⟩ := hO
    obtain ⟨a, b, rfl, rfl, ha, hb, hl, h3⟩ := rightB_nat h1
    obtain ⟨a', b', e1, e2, _, _, hm, _⟩ := rightB_nat h2
    obtain rfl : a = a' := Int.ofNat.inj e1
    obtain rfl : b = b' := Int.ofNat.inj e2
    rw [Bool.not_true, cF, laid_t ha hb (g := fun i j => fsub (l.getD (i * b + j) 0) (m.getD (i * b + j) 0)) (fun i j hi hj => by
      unfold T_matrix_Sub_1
      have := idxL hi hj
      rw [wrIdx hi hj (by omega), at_getD 0 (by omega), Option.bind_some, at_getD 0 (by omega)]; rfl)]
    simp only [Option.bind_some, if_true]
    rw [grid_flat fun k => fsub (l.getD k 0) (m.getD k 0), ← hl]
    rfl

theorem rsub_t (ra ca rb cb : Int) (l m : List Nat) : T_girderref10_Sub ra ca l rb cb m = some (if subOk ra ca l.length rb cb m.length then (ra, ca, subL' l m, 0) else noMat 4) := by
  unfold T_girderref10_Sub
  simp only [rright_t, Option.bind_some]
  have := @subTest ra ca rb cb (rightB ra ca l.length) (rightB rb cb m.length)
  simp only [Option.bind_some] at this
  rw [this, Option.bind_some]
  change cond (!subOk ra ca l.length rb cb m.length) _ _ = _
  cases hO : subOk ra ca l.length rb cb m.length with
  | false => rfl
  | true =>
    simp only [subOk, Bool.and_eq_true, beq_iff_eq] at hO
    obtain ⟨⟨⟨h1, h2⟩, rfl⟩, rfl⟩ := hO
    obtain ⟨a, b, rfl, rfl, ha, hb, hl, h3⟩ := rightB_nat h1
    obtain ⟨a', b', e1, e2, _, _, hm, _⟩ := rightB_nat h2
    obtain rfl : a = a' := Int.ofNat.inj e1
    obtain rfl : b = b' := Int.ofNat.inj e2
    have e : ((a : Int) * (b : Int)).toNat = a * b := by
      have : ((a * b : Nat) : Int) = (a : Int) * b := by simp
      omega
    rw [Bool.not_true, cF, rmake_t, mayB_mk ha hb, Option.bind_some]
    simp only [if_true, e]
    have hit := iter_nat (b := T_girderref10_Sub_b2 l m) (fun k => (((k : Nat) : Int), filled l.length 0 (fun k => fsub (l.getD k 0) (m.getD k 0)) k)) (o := subL' l m) l.length (by rw [FU_eq]; omega) (fun k hk => by
      unfold T_girderref10_Sub_b2
      simp only [Option.bind_some]
      rw [cond_t (by simp; omega), at_getD 0 hk, Option.bind_some, at_getD 0 (by omega), Option.bind_some, at_getD 0 (by rw [filled_len (by omega)]; exact hk)]
      simp only [Option.bind_some, Int.toNat_natCast]
      rw [filled_set hk, wrU (by omega)]) (by
      unfold T_girderref10_Sub_b2
      simp only [Option.bind_some]
      rw [cond_f (by simp), filled_full]; rfl)
    rw [filled_zero, show ((0 : Nat) : Int) = 0 from rfl, hl] at hit
    rw [hit]
    rfl

/-! ### Same, symmetric -/

theorem vsame_t {l m : List Nat} (hl : l.length ≤ 4294967296) : T_vector_Same l m = some (l == m) := by
  unfold T_vector_Same
  rw [cond_t (by simpa using hl)]
theorem msame_t {r c r' c' : Int} {l m : List Nat} (hl : l.length ≤ 4294967296) : T_matrix_Same r c l r' c' m = some (r == r' && c == c' && l == m) := by
  unfold T_matrix_Same
  simp only [vsame_t hl, Option.bind_some]
  cases r == r' <;> cases c == c' <;> rfl

theorem rsame_t {r c r' c' : Int} {l m : List Nat} (hl : l.length ≤ 4294967296) : T_girderref10_Same r c l r' c' m = some (r == r' && c == c' && l == m) := by
  unfold T_girderref10_Same
  simp only [Option.bind_some]
  by_cases h1 : r = r'
  · by_cases h2 : c = c'
    · by_cases h3 : l.length = m.length
      · subst h1; subst h2
        have step : ∀ i, i < l.length → l.getD i 0 = m.getD i 0 → T_girderref10_Same_b2 l m ((i : Nat) : Int) = some (.inl ((i + 1 : Nat) : Int)) := by
          intro i hi he
          unfold T_girderref10_Same_b2 T_girderref01_Same
          simp only [Option.bind_some, at_getD 0 hi, at_getD 0 (show i < m.length by omega), he, beq_self_eq_true, Bool.not_true, cF]
          rw [cond_t (by simp; omega), wrU (by omega)]
        simp only [h3, bne_self_eq_false, Bool.not_false, cT, Option.bind_some, cF, beq_self_eq_true, Bool.true_and]
        by_cases he : l = m
        · subst he
          have := iter_nat (b := T_girderref10_Same_b2 l l) (fun i => ((i : Nat) : Int)) (o := .inl ()) l.length (by rw [FU_eq]; omega) (fun i hi => step i hi rfl) (by
            unfold T_girderref10_Same_b2
            simp only [Option.bind_some]
            rw [cond_f (by simp)])
          rw [show ((0 : Nat) : Int) = 0 from rfl] at this
          rw [this]; simp
        · obtain ⟨i, q1, q2, q3⟩ := first_diff 0 h3 he
          have := iter_nat (b := T_girderref10_Same_b2 l m) (fun i => ((i : Nat) : Int)) (o := .inr false) i (by rw [FU_eq]; omega) (fun j hj => step j (by omega) (q3 j hj)) (by
            unfold T_girderref10_Same_b2 T_girderref01_Same
            have e : (l.getD i 0 == m.getD i 0) = false := by simpa using q2
            simp only [Option.bind_some, at_getD 0 q1, at_getD 0 (show i < m.length by omega), e, Bool.not_false, cT]
            rw [cond_t (by simp; omega)])
          rw [show ((0 : Nat) : Int) = 0 from rfl] at this
          rw [this]; simp [he]
      · have : l ≠ m := fun e => h3 (by rw [e])
        have e : (((l.length : Nat) : Int) != ((m.length : Nat) : Int)) = true := by simp; omega
        simp [h1, h2, e, this]
    · have e : (c != c') = true := by simpa using h2
      have e' : (c == c') = false := by simpa using h2
      simp [h1, e, e']
  · have e : (r != r') = true := by simpa using h1
    have e' : (r == r') = false := by simpa using h1
    simp [e, e']

def symB (r c : Int) (l : List Nat) : Bool := rightB r c l.length && r == c && grid c.toNat r.toNat (turnG l c.toNat) == l

theorem symm_t (r c : Int) (l : List Nat) : T_matrix_Symmetric r c l = some (symB r c l) := by
  unfold T_matrix_Symmetric
  rw [transp_t, Option.bind_some]
  unfold symB
  cases hR : rightB r c l.length with
  | false => rfl
  | true =>
    obtain ⟨a, b, rfl, rfl, ha, hb, hl, h2⟩ := rightB_nat hR
    simp only [if_true, Int.toNat_natCast]
    rw [cond_t (by rfl), msame_t (by rw [grid_len, Nat.mul_comm]; omega), Option.bind_some]
    congr 1
    by_cases h : a = b
    · subst h; simp
    · have e1 : ((b : Int) == (a : Int)) = false := by simp; omega
      have e2 : ((a : Int) == (b : Int)) = false := by simp; omega
      simp [e1, e2]

theorem rsymm_t (r c : Int) (l : List Nat) : T_girderref10_Symmetric r c l = some (symB r c l) := by
  unfold T_girderref10_Symmetric
  rw [rright_t, Option.bind_some]
  unfold symB
  cases hR : rightB r c l.length with
  | false => rfl
  | true =>
    obtain ⟨a, b, rfl, rfl, ha, hb, hl, h2⟩ := rightB_nat hR
    by_cases h : a = b
    · subst h
      simp only [Bool.not_true, Bool.not_false, cT, bne_self_eq_false, Option.bind_some, cF, beq_self_eq_true, Bool.true_and, Int.toNat_natCast]
      have at1 : ∀ i j, i < a → j < a → T_girderref10_At a a l i j = some (l.getD (i * a + j) 0) := fun i j hi hj => by
        have := idxL hi hj
        unfold T_girderref10_At
        rw [wrIdx hi hj (by omega), at_getD 0 (by omega)]; rfl
      -- a row
      have row : ∀ i, i < a → iter (T_girderref10_Symmetric_b10 i a a l) FU 0 = some (if ∀ j, j < i → l.getD (i * a + j) 0 = l.getD (j * a + i) 0 then .inl () else .inr false) := by
        intro i hi
        have step : ∀ j, j < i → l.getD (i * a + j) 0 = l.getD (j * a + i) 0 → T_girderref10_Symmetric_b10 i a a l ((j : Nat) : Int) = some (.inl ((j + 1 : Nat) : Int)) := by
          intro j hj he
          unfold T_girderref10_Symmetric_b10 T_girderref01_Same
          simp only [at1 i j hi (by omega), at1 j i (by omega) hi, Option.bind_some, he, beq_self_eq_true, Bool.not_true, cF]
          rw [cond_t (by simp; omega), wrU (by omega)]
        rcases first_mark (fun j => !(l.getD (i * a + j) 0 == l.getD (j * a + i) 0)) i with hall | ⟨j, hj, hne, hbef⟩
        · have hall' : ∀ j, j < i → l.getD (i * a + j) 0 = l.getD (j * a + i) 0 := fun j hj => by simpa using hall j hj
          rw [if_pos hall']
          have := iter_nat (b := T_girderref10_Symmetric_b10 i a a l) (fun i => ((i : Nat) : Int)) (o := .inl ()) i (by rw [FU_eq]; omega) (fun j hj => step j hj (hall' j hj)) (by
            unfold T_girderref10_Symmetric_b10
            dsimp only
            rw [cond_f (by simp)])
          exact this
        · rw [if_neg (fun hall => by have := hall j hj; rw [this] at hne; simp at hne)]
          have := iter_nat (b := T_girderref10_Symmetric_b10 i a a l) (fun i => ((i : Nat) : Int)) (o := .inr false) j (by rw [FU_eq]; omega) (fun k hk => step k (by omega) (by simpa using hbef k hk)) (by
            unfold T_girderref10_Symmetric_b10 T_girderref01_Same
            have e : (l.getD (i * a + j) 0 == l.getD (j * a + i) 0) = false := by simpa using hne
            simp only [at1 i j hi (by omega), at1 j i (by omega) hi, Option.bind_some, e, Bool.not_false, cT]
            rw [cond_t (by simp; omega)])
          exact this
      have sym : (grid a a (turnG l a) == l) = decide (∀ i, i < a → ∀ j, j < i → l.getD (i * a + j) 0 = l.getD (j * a + i) 0) := by
        rw [Bool.eq_iff_iff]
        simp only [beq_iff_eq, decide_eq_true_eq]
        constructor
        · intro h i hi j hj
          have := grid_at (r := a) (c := a) (g := turnG l a) hi (show j < a by omega)
          rw [h] at this
          exact this
        · intro h
          refine (grid_of hl fun i j hi hj => ?_).symm
          unfold turnG
          rcases Nat.lt_trichotomy i j with h1 | h1 | h1
          · exact (h j hj i h1).symm
          · subst h1; rfl
          · exact h i hi j h1
      rw [sym]
      rcases first_mark (fun i => !decide (∀ j, j < i → l.getD (i * a + j) 0 = l.getD (j * a + i) 0)) a with hall | ⟨i, hi, hne, hbef⟩
      · have hall' : ∀ i, i < a → ∀ j, j < i → l.getD (i * a + j) 0 = l.getD (j * a + i) 0 := fun i hi => by simpa using hall i hi
        have := iter_nat (b := T_girderref10_Symmetric_b8 a a l) (fun i => ((i : Nat) : Int)) (o := .inl ()) a (by rw [FU_eq]; omega) (fun i hi => by
          unfold T_girderref10_Symmetric_b8
          dsimp only
          rw [cond_t (by simp; omega), row i hi, if_pos (hall' i hi), Option.bind_some, wrU (by omega)]) (by
          unfold T_girderref10_Symmetric_b8
          dsimp only
          rw [cond_f (by simp)])
        rw [show ((0 : Nat) : Int) = 0 from rfl] at this
        rw [this]
        simp only [Option.bind_some]
        rw [decide_eq_true hall']
      · have hne' : ¬ ∀ j, j < i → l.getD (i * a + j) 0 = l.getD (j * a + i) 0 := by
          intro hq
          have : decide (∀ j, j < i → l.getD (i * a + j) 0 = l.getD (j * a + i) 0) = true := decide_eq_true hq
          simp only [this] at hne
          cases hne
        have := iter_nat (b := T_girderref10_Symmetric_b8 a a l) (fun i => ((i : Nat) : Int)) (o := .inr false) i (by rw [FU_eq]; omega) (fun k hk => by
          have hk' : ∀ j, j < k → l.getD (k * a + j) 0 = l.getD (j * a + k) 0 := by simpa using hbef k hk
          unfold T_girderref10_Symmetric_b8
          dsimp only
          rw [cond_t (by simp; omega), row k (by omega), if_pos hk', Option.bind_some, wrU (by omega)]) (by
          unfold T_girderref10_Symmetric_b8
          dsimp only
          rw [cond_t (by simp; omega), row i hi, if_neg hne', Option.bind_some])
        rw [show ((0 : Nat) : Int) = 0 from rfl] at this
        rw [this]
        simp only [Option.bind_some]
        rw [decide_eq_false (fun hq => hne' (hq i hi))]
    · have e1 : ((a : Int) != (b : Int)) = true := by simp; omega
      have e2 : ((a : Int) == (b : Int)) = false := by simp; omega
      simp [e1, e2]

end Go.Eng
