/-
  The package lower on the plain side: Factor, the code's and the reference's. No condition.
-/
import Derived.Test.YtkbmapgioggadaaPl12
import Derived.Test.YtkbmapgioggadaaPd
import Derived.Test.YtkbmapgioggadaaRnd
import Derived.Test.YtkbmapgioggadaaFlz3
import Derived.Test.YtkbmapgioggadaaFl2
set_option linter.unusedVariables false
set_option linter.unusedSimpArgs false
set_option linter.unnecessarySimpa false
set_option linter.unusedSectionVars false
set_option maxRecDepth 100000
set_option maxHeartbeats 4000000
namespace Go.Eng
open Go

theorem may_t (n : Int) : T_girderref10_may n = some (decide (0 ≤ n ∧ n ≤ 48)) := by
  unfold T_girderref10_may
  refine eq_cond (fun h => ?_) (fun h => ?_) <;> simp at h <;> simp <;> omega

theorem rright_t (r c : Int) (l : List Nat) : T_girderref10_Right r c l = some (rightB r c l.length) := by
  unfold T_girderref10_Right
  simp only [may_t, Option.bind_some]
  refine eq_cond (fun h => eq_cond (fun h2 => ?_) (fun h2 => ?_)) (fun h => ?_)
  · simp only [decide_eq_true_eq] at h h2
    have := prod_le ⟨h.1, h.2, h2⟩
    rw [wrI (by omega) (by omega)]
    congr 1
    unfold rightB
    rw [Bool.eq_iff_iff]; simp; omega
  · simp only [decide_eq_false_iff_not] at h h2
    congr 1; unfold rightB; simp; omega
  · simp only [decide_eq_false_iff_not] at h
    congr 1; unfold rightB; simp; omega

theorem vsame_t {l m : List Nat} (hl : l.length ≤ 4294967296) : T_vector_Same l m = some (l == m) := by
  unfold T_vector_Same
  rw [cond_t (by simpa using hl)]
theorem msame_t {r c r' c' : Int} {l m : List Nat} (hl : l.length ≤ 4294967296) : T_matrix_Same r c l r' c' m = some (r == r' && c == c' && l == m) := by
  unfold T_matrix_Same
  simp only [vsame_t hl, Option.bind_some]
  cases r == r' <;> cases c == c' <;> rfl

def symB (r c : Int) (l : List Nat) : Bool := rightB r c l.length && r == c && grid c.toNat r.toNat (turnG l c.toNat) == l

theorem symm_t (r c : Int) (l : List Nat) : T_matrix_Symmetric r c l = some (symB r c l) := by
  unfold T_matrix_Symmetric
  rw [transp_t, Option.bind_some]
  unfold symB
  cases hR : rightB r c l.length with
  | false => rfl
  | true =>
    obtain ⟨a, b, rfl, rfl, ha, hb, hl, h2⟩ := rightB_nat hR
    simp only [if_true, Int.toNat_natCast]
    rw [cond_t (by rfl), msame_t (by rw [grid_len, Nat.mul_comm]; omega), Option.bind_some]
    congr 1
    by_cases h : a = b
    · subst h; simp
    · have e1 : ((b : Int) == (a : Int)) = false := by simp; omega
      have e2 : ((a : Int) == (b : Int)) = false := by simp; omega
      simp [e1, e2]

theorem rsymm_t (r c : Int) (l : List Nat) : T_girderref10_Symmetric r c l = some (symB r c l) := by
  unfold T_girderref10_Symmetric
  rw [rright_t, Option.bind_some]
  unfold symB
  cases hR : rightB r c l.length with
  | false => rfl
  | true =>
    obtain ⟨a, b, rfl, rfl, ha, hb, hl, h2⟩ := rightB_nat hR
    by_cases h : a = b
    · subst h
      simp only [Bool.not_true, Bool.not_false, cT, bne_self_eq_false, Option.bind_some, cF, beq_self_eq_true, Bool.true_and, Int.toNat_natCast]
      have at1 : ∀ i j, i < a → j < a → T_girderref10_At a a l i j = some (l.getD (i * a + j) 0) := fun i j hi hj => by
        have := idxL hi hj
        unfold T_girderref10_At
        rw [wrIdx hi hj (by omega), at_getD 0 (by omega)]; rfl
      -- a row
      have row : ∀ i, i < a → iter (T_girderref10_Symmetric_b7 i a a l) FU 0 = some (if ∀ j, j < i → l.getD (i * a + j) 0 = l.getD (j * a + i) 0 then .inl () else .inr false) := by
        intro i hi
        have step : ∀ j, j < i → l.getD (i * a + j) 0 = l.getD (j * a + i) 0 → T_girderref10_Symmetric_b7 i a a l ((j : Nat) : Int) = some (.inl ((j + 1 : Nat) : Int)) := by
          intro j hj he
          unfold T_girderref10_Symmetric_b7 T_girderref01_Same
          simp only [at1 i j hi (by omega), at1 j i (by omega) hi, Option.bind_some, he, beq_self_eq_true, Bool.not_true, cF]
          rw [cond_t (by simp; omega), wrU (by omega)]
        rcases first_mark (fun j => !(l.getD (i * a + j) 0 == l.getD (j * a + i) 0)) i with hall | ⟨j, hj, hne, hbef⟩
        · have hall' : ∀ j, j < i → l.getD (i * a + j) 0 = l.getD (j * a + i) 0 := fun j hj => by simpa using hall j hj
          rw [if_pos hall']
          have := iter_nat (b := T_girderref10_Symmetric_b7 i a a l) (fun i => ((i : Nat) : Int)) (o := .inl ()) i (by rw [FU_eq]; omega) (fun j hj => step j hj (hall' j hj)) (by
            unfold T_girderref10_Symmetric_b7
            dsimp only
            rw [cond_f (by simp)])
          exact this
        · rw [if_neg (fun hall => by have := hall j hj; rw [this] at hne; simp at hne)]
          have := iter_nat (b := T_girderref10_Symmetric_b7 i a a l) (fun i => ((i : Nat) : Int)) (o := .inr false) j (by rw [FU_eq]; omega) (fun k hk => step k (by omega) (by simpa using hbef k hk)) (by
            unfold T_girderref10_Symmetric_b7 T_girderref01_Same
            have e : (l.getD (i * a + j) 0 == l.getD (j * a + i) 0) = false := by simpa using hne
            simp only [at1 i j hi (by omega), at1 j i (by omega) hi, Option.bind_some, e, Bool.not_false, cT]
            rw [cond_t (by simp; omega)])
          exact this
      have sym : (grid a a (turnG l a) == l) = decide (∀ i, i < a → ∀ j, j < i → l.getD (i * a + j) 0 = l.getD (j * a + i) 0) := by
        rw [Bool.eq_iff_iff]
        simp only [beq_iff_eq, decide_eq_true_eq]
        constructor
        · intro h i hi j hj
          have := grid_at (r := a) (c := a) (g := turnG l a) hi (show j < a by omega)
          rw [h] at this
          exact this
        · intro h
          refine (grid_of hl fun i j hi hj => ?_).symm
          unfold turnG
          rcases Nat.lt_trichotomy i j with h1 | h1 | h1
          · exact (h j hj i h1).symm
          · subst h1; rfl
          · exact h i hi j h1
      rw [sym]
      rcases first_mark (fun i => !decide (∀ j, j < i → l.getD (i * a + j) 0 = l.getD (j * a + i) 0)) a with hall | ⟨i, hi, hne, hbef⟩
      · have hall' : ∀ i, i < a → ∀ j, j < i → l.getD (i * a + j) 0 = l.getD (j * a + i) 0 := fun i hi => by simpa using hall i hi
        have := iter_nat (b := T_girderref10_Symmetric_b5 a a l) (fun i => ((i : Nat) : Int)) (o := .inl ()) a (by rw [FU_eq]; omega) (fun i hi => by
          unfold T_girderref10_Symmetric_b5
          dsimp only
          rw [cond_t (by simp; omega), row i hi, if_pos (hall' i hi), Option.bind_some, wrU (by omega)]) (by
          unfold T_girderref10_Symmetric_b5
          dsimp only
          rw [cond_f (by simp)])
        rw [show ((0 : Nat) : Int) = 0 from rfl] at this
        rw [this]
        simp only [Option.bind_some]
        rw [decide_eq_true hall']
      · have hne' : ¬ ∀ j, j < i → l.getD (i * a + j) 0 = l.getD (j * a + i) 0 := by
          intro hq
          have : decide (∀ j, j < i → l.getD (i * a + j) 0 = l.getD (j * a + i) 0) = true := decide_eq_true hq
          simp only [this] at hne
          cases hne
        have := iter_nat (b := T_girderref10_Symmetric_b5 a a l) (fun i => ((i : Nat) : Int)) (o := .inr false) i (by rw [FU_eq]; omega) (fun k hk => by
          have hk' : ∀ j, j < k → l.getD (k * a + j) 0 = l.getD (j * a + k) 0 := by simpa using hbef k hk
          unfold T_girderref10_Symmetric_b5
          dsimp only
          rw [cond_t (by simp; omega), row k (by omega), if_pos hk', Option.bind_some, wrU (by omega)]) (by
          unfold T_girderref10_Symmetric_b5
          dsimp only
          rw [cond_t (by simp; omega), row i hi, if_neg hne', Option.bind_some])
        rw [show ((0 : Nat) : Int) = 0 from rfl] at this
        rw [this]
        simp only [Option.bind_some]
        rw [decide_eq_false (fun hq => hne' (hq i hi))]
    · have e1 : ((a : Int) != (b : Int)) = true := by simp; omega
      have e2 : ((a : Int) == (b : Int)) = false := by simp; omega
      simp [e1, e2]


/-! ### What is finite -/

theorem lfin_t (x : Nat) : T_lower_finite x = some (decide (magF x < 9218868437227405312)) := by
  unfold T_lower_finite T_math_IsNaN
  simp only [Option.bind_some, feq_self, Bool.not_not]
  cases h : isNaN x with
  | true =>
    rw [isNaN_mag] at h
    have : 9218868437227405312 < magF x := by simpa using h
    simp; omega
  | false =>
    have h1 : isNaN (magF x) = false := by rw [isNaN_mag] at h ⊢; rw [magF_magF]; exact h
    have e : nf 9218868437227405311 = 9218868437227405311 := by decide +kernel
    have hi : T_math_IsInf x 0 = some (decide (magF x = 9218868437227405312)) := by
      unfold T_math_IsInf T_math_Abs
      simp only [nf_of_not h1, Option.bind_some, beq_self_eq_true, cT, isInf_test, e]
    rw [isNaN_mag] at h
    have : ¬ 9218868437227405312 < magF x := by simpa using h
    rw [hi]
    simp only [Bool.not_false, cT, Option.bind_some]
    congr 1
    rw [Bool.eq_iff_iff]; simp; omega
theorem rfin_t (x : Nat) : T_girderref03_Finite x = some (decide (magF x < 9218868437227405312)) := by
  unfold T_girderref03_Finite
  simp only [Option.bind_some, nf_zero, finite_sub]

/-! ### Two loops side by side -/

def Step2 {τ τ' ω ω' : Type} (R : τ → τ' → Prop) (O : ω → ω' → Prop) (x : Option (τ ⊕ ω)) (y : Option (τ' ⊕ ω')) : Prop :=
  (∃ t t', x = some (.inl t) ∧ y = some (.inl t') ∧ R t t') ∨ (∃ o o', x = some (.inr o) ∧ y = some (.inr o') ∧ O o o')
theorem iter_two {τ τ' ω ω' : Type} {b : τ → Option (τ ⊕ ω)} {b' : τ' → Option (τ' ⊕ ω')} (R : Nat → τ → τ' → Prop) (O : ω → ω' → Prop) (n : Nat)
    (hstep : ∀ k s s', k < n → R k s s' → Step2 (R (k + 1)) O (b s) (b' s')) (hstop : ∀ s s', R n s s' → ∃ o o', b s = some (.inr o) ∧ b' s' = some (.inr o') ∧ O o o') :
    ∀ (k m m' : Nat) (s : τ) (s' : τ'), k ≤ n → n - k < m → n - k < m' → R k s s' → ∃ o o', iter b m s = some o ∧ iter b' m' s' = some o' ∧ O o o' := by
  have key : ∀ d k m m' s s', n - k = d → k ≤ n → n - k < m → n - k < m' → R k s s' → ∃ o o', iter b m s = some o ∧ iter b' m' s' = some o' ∧ O o o' := by
    intro d
    induction d with
    | zero =>
      intro k m m' s s' hd hk hm hm' hR
      obtain ⟨m, rfl⟩ : ∃ q, m = q + 1 := ⟨m - 1, by omega⟩
      obtain ⟨m', rfl⟩ : ∃ q, m' = q + 1 := ⟨m' - 1, by omega⟩
      have : k = n := by omega
      subst this
      obtain ⟨o, o', h1, h2, h3⟩ := hstop s s' hR
      rw [iter_succ, iter_succ, h1, h2]
      exact ⟨o, o', rfl, rfl, h3⟩
    | succ d ih =>
      intro k m m' s s' hd hk hm hm' hR
      obtain ⟨m, rfl⟩ : ∃ q, m = q + 1 := ⟨m - 1, by omega⟩
      obtain ⟨m', rfl⟩ : ∃ q, m' = q + 1 := ⟨m' - 1, by omega⟩
      rw [iter_succ, iter_succ]
      rcases hstep k s s' (by omega) hR with ⟨t, t', h1, h2, h3⟩ | ⟨o, o', h1, h2, h3⟩
      · rw [h1, h2]
        exact ih (k + 1) m m' t t' (by omega) (by omega) (by omega) (by omega) h3
      · rw [h1, h2]
        exact ⟨o, o', rfl, rfl, h3⟩
  exact fun k m m' s s' hk hm hm' hR => key (n - k) k m m' s s' rfl hk hm hm' hR

/-! ### The sums of a column -/

def subS (f g : Nat → Nat) (s : Nat) : Nat → Nat
  | 0 => s
  | j + 1 => fsub (subS f g s j) (fmul (f j) (g j))
def vsN (L D : List Nat) (j k : Nat) : Nat := fmul (lowG L j k) (D.getD k 0)
theorem rowL_at {l : List Nat} {n i k : Nat} (hl : l.length = tri n) (hi : i < n) (hk : k < i) : (rowL l i).getD k 0 = lowG l i k := by
  unfold rowL lowG
  simp [List.getD_eq_getElem?_getD, List.getElem?_take, hk]

section
variable {a L D : List Nat} {n : Nat} (hn : n ≤ 48) (ha : a.length = n * n) (hL : L.length = tri n) (hD : D.length = n)
include hn hL

/-- The code's sum for the diagonal; the products stay in the list. -/
theorem diag_t {j s : Nat} {v : List Nat} (hj : j < n) (hv : v.length = n) (hD : D.length = n) :
    ∃ v', v'.length = n ∧ (∀ k, k < j → v'.getD k 0 = vsN L D j k) ∧ iter (T_lower_Factor_b31 (j : Int) (rowL L j) D) FU (s, 0, v) = some (subS (fun k => lowG L j k) (vsN L D j) s j, v') := by
  let G := fun k => if k < j then vsN L D j k else v.getD k 0
  let V := fun k => (List.range k).map (vsN L D j) ++ v.drop k
  have len : ∀ k, k ≤ n → (V k).length = n := fun k hk => by simp [V, hv]; omega
  have := iter_nat (b := T_lower_Factor_b31 (j : Int) (rowL L j) D) (fun k => (subS (fun k => lowG L j k) (vsN L D j) s k, ((k : Nat) : Int), V k)) (o := (subS (fun k => lowG L j k) (vsN L D j) s j, V j)) j (by rw [FU_eq]; omega) (fun k hk => by
    have hset : (V k).set k (vsN L D j k) = V (k + 1) := by
      show ((List.range k).map (vsN L D j) ++ v.drop k).set k _ = _
      rw [drop_cons (l := v) (by omega), app_set (by simp)]
      show _ = (List.range (k + 1)).map (vsN L D j) ++ v.drop (k + 1)
      rw [← map_range_snoc]; simp
    have hget : (V (k + 1)).getD k 0 = vsN L D j k := by
      show ((List.range (k + 1)).map (vsN L D j) ++ v.drop (k + 1)).getD k 0 = _
      rw [app_lt (by simp)]
      simp [List.getD_eq_getElem?_getD]
    unfold T_lower_Factor_b31
    dsimp only
    rw [cond_t (by simp; omega), at_getD 0 (by rw [rowL_len hL hj]; exact hk), Option.bind_some, at_getD 0 (by omega), Option.bind_some, Option.bind_some, at_getD 0 (by rw [len k (by omega)]; omega)]
    simp only [Option.bind_some, Int.toNat_natCast]
    have e : fmul (lowG L j k) (D.getD k 0) = vsN L D j k := rfl
    rw [rowL_at hL hj hk, e, hset, at_getD 0 (by rw [len _ (by omega)]; omega), Option.bind_some, hget, fmul_comm (vsN L D j k), wrU (by omega)]; rfl) (by
    unfold T_lower_Factor_b31
    dsimp only
    rw [cond_f (by simp)])
  refine ⟨V j, len j (by omega), fun k hk => ?_, ?_⟩
  · show ((List.range j).map (vsN L D j) ++ v.drop j).getD k 0 = _
    rw [app_lt (by simpa using hk)]
    simp [List.getD_eq_getElem?_getD, hk]
  · have h0 : V 0 = v := by simp [V]
    rw [h0] at this
    exact this
/-- The code's sum below the diagonal. -/
theorem down_t {i j s : Nat} {v : List Nat} (hi : i < n) (hji : j < i) (hv : v.length = n) (hV : ∀ k, k < j → v.getD k 0 = vsN L D j k) {L' : List Nat} (hL' : L'.length = tri n) :
    iter (T_lower_Factor_b40 (j : Int) (rowL L' i) v) FU (s, 0) = some (subS (fun k => lowG L' i k) (vsN L D j) s j) := by
  have := iter_nat (b := T_lower_Factor_b40 (j : Int) (rowL L' i) v) (fun k => (subS (fun k => lowG L' i k) (vsN L D j) s k, ((k : Nat) : Int))) (o := subS (fun k => lowG L' i k) (vsN L D j) s j) j (by rw [FU_eq]; omega) (fun k hk => by
    unfold T_lower_Factor_b40
    dsimp only
    rw [cond_t (by simp; omega), at_getD 0 (by rw [rowL_len hL' hi]; omega), Option.bind_some, at_getD 0 (by omega)]
    simp only [Option.bind_some]
    rw [rowL_at hL' hi (by omega), hV k hk, wrU (by omega)]; rfl) (by
    unfold T_lower_Factor_b40
    dsimp only
    rw [cond_f (by simp)])
  exact this
/-- The reference's list of products. -/
theorem rvs_t {j : Nat} (hj : j < n) (hD : D.length = n) : iter (T_girderref12_Factor_b31 (j : Int) D L) FU (0, List.replicate j 0) = some ((List.range j).map (vsN L D j)) := by
  have := iter_nat (b := T_girderref12_Factor_b31 (j : Int) D L) (fun k => (((k : Nat) : Int), filled j 0 (vsN L D j) k)) (o := (List.range j).map (vsN L D j)) j (by rw [FU_eq]; omega) (fun k hk => by
    unfold T_girderref12_Factor_b31
    dsimp only
    rw [cond_t (by simp; omega), at_getD 0 (by omega), Option.bind_some, rat_t hn hL hj (by omega), Option.bind_some, Option.bind_some, at_getD 0 (by rw [filled_len (by omega)]; exact hk)]
    simp only [Option.bind_some, Int.toNat_natCast]
    have e : fmul (low1 L j k) (D.getD k 0) = vsN L D j k := by unfold low1; rw [if_neg (by omega)]; rfl
    rw [e, filled_set hk, wrU (by omega)]) (by
    unfold T_girderref12_Factor_b31
    dsimp only
    rw [cond_f (by simp), filled_full])
  rw [filled_zero] at this
  exact this
/-- The reference's sum. -/
theorem rsum_t {i j s : Nat} (hi : i < n) (hji : j ≤ i) {L' : List Nat} (hL' : L'.length = tri n) :
    iter (T_girderref12_Factor_b41 (j : Int) ((List.range j).map (vsN L D j)) L' (i : Int)) FU (s, 0) = some (subS (fun k => lowG L' i k) (vsN L D j) s j) := by
  have := iter_nat (b := T_girderref12_Factor_b41 (j : Int) ((List.range j).map (vsN L D j)) L' (i : Int)) (fun k => (subS (fun k => lowG L' i k) (vsN L D j) s k, ((k : Nat) : Int))) (o := subS (fun k => lowG L' i k) (vsN L D j) s j) j (by rw [FU_eq]; omega) (fun k hk => by
    unfold T_girderref12_Factor_b41
    dsimp only
    rw [cond_t (by simp; omega), at_getD 0 (by simpa using hk), Option.bind_some, rat_t hn hL' hi (by omega)]
    simp only [Option.bind_some]
    have e : low1 L' i k = lowG L' i k := by unfold low1; rw [if_neg (by omega)]
    have g : ((List.range j).map (vsN L D j)).getD k 0 = vsN L D j k := by simp [List.getD_eq_getElem?_getD, hk]
    rw [e, g, wrU (by omega)]; rfl) (by
    unfold T_girderref12_Factor_b41
    dsimp only
    rw [cond_f (by simp)])
  exact this
end


/-! ### Columns -/

def finQ (x : Nat) : Bool := decide (magF x < 9218868437227405312)

abbrev OutC := (Int × Int × List Nat) ⊕ (Int × Int × List Nat × List Nat)
abbrev OutR := (List Nat × List Nat) ⊕ (Int × List Nat × List Nat × Int × Int)
def OutB (n j : Nat) (D2 : List Nat) (o : OutC) (o' : OutR) : Prop :=
  (∃ L' : List Nat, L'.length = tri n ∧ o = .inl (0, 0, L') ∧ o' = .inl (D2, L')) ∨ (∃ L' : List Nat, o = .inr (6, (j : Int), D2, L') ∧ o' = .inr (0, [], [], 6, (j : Int)))

section
variable {a : List Nat} {n : Nat} (hn : n ≤ 48) (ha : a.length = n * n)
include hn ha

/-- Below the diagonal: both go on with the same lists, or both give up in the column. -/
theorem below_two {j : Nat} (hj : j < n) {L D D2 v : List Nat} (hL : L.length = tri n) (hD : D.length = n) (hD2 : D2.length = n) (hv : v.length = n) (hV : ∀ k, k < j → v.getD k 0 = vsN L D j k) (m' : Nat) (hm' : n - (j + 1) < m') :
    ∃ o o', iter (T_lower_Factor_b38 (n : Int) a (j : Int) v D2) FU (0, 0, ((j + 1 : Nat) : Int), L) = some o ∧ iter (T_girderref12_Factor_b38 (n : Int) a (j : Int) ((List.range j).map (vsN L D j))) m' (((j + 1 : Nat) : Int), D2, L) = some o' ∧
      OutB n j D2 o o' := by
  have hnn : n * n ≤ 2304 := Nat.le_trans (Nat.mul_le_mul hn hn) (by omega)
  refine iter_two (b := T_lower_Factor_b38 (n : Int) a (j : Int) v D2) (b' := T_girderref12_Factor_b38 (n : Int) a (j : Int) ((List.range j).map (vsN L D j))) (fun k s s' => j < k ∧ ∃ L' : List Nat, L'.length = tri n ∧ s = (0, 0, ((k : Nat) : Int), L') ∧ s' = (((k : Nat) : Int), D2, L')) (OutB n j D2) n ?_ ?_ (j + 1) FU m' _ _ (by omega) (by rw [FU_eq]; omega) hm' ⟨by omega, L, hL, rfl, rfl⟩
  · intro i s s' hi ⟨hji, L', hL', e1, e2⟩
    subst e1; subst e2
    · have hix := idxL hi hj
      have ht := tri_lt hji hi
      have h1 := tri_mono (show i + 1 ≤ n by omega)
      rw [tri_succ] at h1
      have htl := tri_le hn
      let q := fdiv (subS (fun k => lowG L' i k) (vsN L D j) (a.getD (i * n + j) 0) j) (D2.getD j 0)
      have hset : (L'.set (tri i + j) q).length = tri n := by simpa using hL'
      have c : T_lower_Factor_b38 (n : Int) a (j : Int) v D2 (0, 0, (i : Int), L') = cond (!finQ q) (some (.inr (.inr (6, (j : Int), D2, L'.set (tri i + j) q)))) (some (.inl (0, 0, ((i + 1 : Nat) : Int), L'.set (tri i + j) q))) := by
        unfold T_lower_Factor_b38
        dsimp only
        rw [cond_t (by simp; omega), row_t hn hL' hi, Option.bind_some]
        dsimp only
        rw [rowSub hL' hi, Option.bind_some, wrIdx hi hj (by omega), at_getD 0 (by omega), Option.bind_some, down_t hn hL hi hji hv hV hL', Option.bind_some, at_getD 0 (by omega), Option.bind_some, Option.bind_some, at_getD 0 (by rw [rowL_len hL' hi]; exact hji)]
        simp only [Option.bind_some, Int.toNat_natCast]
        rw [rowSub (l := L'.set (tri i + j) q) hset hi, Option.bind_some, at_getD 0 (by rw [rowL_len hset hi]; exact hji), Option.bind_some, rowL_at hset hi hji, lfin_t, Option.bind_some]
        have g : lowG (L'.set (tri i + j) q) i j = q := by unfold lowG; rw [set_getD (by omega), if_pos rfl]
        rw [g, wrU (by omega)]; rfl
      have r : T_girderref12_Factor_b38 (n : Int) a (j : Int) ((List.range j).map (vsN L D j)) ((i : Int), D2, L') = cond (!finQ q) (some (.inr (.inr (0, [], [], 6, (j : Int))))) (some (.inl (((i + 1 : Nat) : Int), D2, L'.set (tri i + j) q))) := by
        unfold T_girderref12_Factor_b38
        dsimp only
        rw [cond_t (by simp; omega), wrIdx hi hj (by omega), at_getD 0 (by omega), Option.bind_some, rsum_t hn hL hi (by omega) hL', Option.bind_some, cond_f (by simp; omega), at_getD 0 (by omega), Option.bind_some, Option.bind_some, rfin_t, Option.bind_some]
        show ((cond (!finQ q) _ _ : Option _).bind _) = _
        cases finQ q with
        | false => rfl
        | true =>
          rw [Bool.not_true, cF, cF, triIdx hji (by omega), at_getD 0 (by omega)]
          simp only [Option.bind_some, Int.toNat_natCast]
          rw [wrU (by omega)]
      rw [c, r]
      cases finQ q with
      | false => exact .inr ⟨_, _, rfl, rfl, .inr ⟨_, rfl, rfl⟩⟩
      | true => exact .inl ⟨_, _, rfl, rfl, by omega, _, hset, rfl, rfl⟩
  · intro s s' ⟨_, L', hL', e1, e2⟩
    subst e1; subst e2
    refine ⟨.inl (0, 0, L'), .inl (D2, L'), ?_, ?_, .inl ⟨L', hL', rfl, rfl⟩⟩
    · unfold T_lower_Factor_b38
      dsimp only
      rw [cond_f (by simp)]
    · unfold T_girderref12_Factor_b38
      dsimp only
      rw [cond_f (by simp)]
end

end Go.Eng
