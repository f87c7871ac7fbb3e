
/-
  The package lower on the plain side: Factor, the code's and the reference's. No condition.
-/
import Derived.Test.YtdephdnkkljfeaaPl12
import Derived.Test.YtdephdnkkljfeaaRnd
import Derived.Test.YtdephdnkkljfeaaFlz3
import Derived.Test.YtdephdnkkljfeaaFl2
set_option linter.all false
set_option maxRecDepth 100000
set_option maxHeartbeats 4000000
namespace Go.Eng
open Go
theorem vsame_t {l m : List Nat} (hl : l.length ≤ 4294967296) : T_vector_Same l m = some (l == m) := by
  unfold T_vector_Same
  rw [cond_t (by simpa using hl)]
theorem msame_t {r c r' c' : Int} {l m : List Nat} (hl : l.length ≤ 4294967296) : T_matrix_Same r c l r' c' m = some (r == r' && c == c' && l == m) := by
  unfold T_matrix_Same
  simp only [vsame_t hl, Option.bind_some]
  cases r == r' <;> cases c == c' <;> rfl
def symB (r c : Int) (l : List Nat) : Bool := rightB r c l.length && r == c && grid c.toNat r.toNat (turnG l c.toNat) == l
theorem symm_t (r c : Int) (l : List Nat) : T_matrix_Symmetric r c l = some (symB r c l) := by
  unfold T_matrix_Symmetric
  rw [transp_t, Option.bind_some]
  unfold symB
  cases hR : rightB r c l.length with
  | false => rfl
  | true =>
    obtain ⟨a, b, rfl, rfl, ha, hb, hl, h2⟩ := rightB_nat hR
    simp only [if_true, Int.toNat_natCast]
    rw [cond_t (by rfl), msame_t (by rw [grid_len, Nat.mul_comm]; omega), Option.bind_some]
    congr 1
    by_cases h : a = b
    · subst h; simp
    · have e1 : ((b : Int) == (a : Int)) = false := by simp; omega
      have e2 : ((a : Int) == (b : Int)) = false := by simp; omega
      simp [e1, e2]
theorem lfin_t (x : Nat) : T_lower_finite x = some (decide (magF x < 9218868437227405312)) := by
  unfold T_lower_finite T_math_IsNaN
  simp only [Option.bind_some, feq_self, Bool.not_not]
  cases h : isNaN x with
  | true =>
    rw [isNaN_mag] at h
    have : 9218868437227405312 < magF x := by simpa using h
    simp; omega
  | false =>
    have h1 : isNaN (magF x) = false := by rw [isNaN_mag] at h ⊢; rw [magF_magF]; exact h
    have e : nf 9218868437227405311 = 9218868437227405311 := by decide +kernel
    have hi : T_math_IsInf x 0 = some (decide (magF x = 9218868437227405312)) := by
      unfold T_math_IsInf T_math_Abs
      simp only [nf_of_not h1, Option.bind_some, beq_self_eq_true, cT, isInf_test, e]
    rw [isNaN_mag] at h
    have : ¬ 9218868437227405312 < magF x := by simpa using h
    rw [hi]
    simp only [Bool.not_false, cT, Option.bind_some]
    congr 1
    rw [Bool.eq_iff_iff]; simp; omega
def Step2 {τ τ' ω ω' : Type} (R : τ → τ' → Prop) (O : ω → ω' → Prop) (x : Option (τ ⊕ ω)) (y : Option (τ' ⊕ ω')) : Prop :=
  (∃ t t', x = some (.inl t) ∧ y = some (.inl t') ∧ R t t') ∨ (∃ o o', x = some (.inr o) ∧ y = some (.inr o') ∧ O o o')
theorem iter_two {τ τ' ω ω' : Type} {b : τ → Option (τ ⊕ ω)} {b' : τ' → Option (τ' ⊕ ω')} (R : Nat → τ → τ' → Prop) (O : ω → ω' → Prop) (n : Nat)
    (hstep : ∀ k s s', k < n → R k s s' → Step2 (R (k + 1)) O (b s) (b' s')) (hstop : ∀ s s', R n s s' → ∃ o o', b s = some (.inr o) ∧ b' s' = some (.inr o') ∧ O o o') :
    ∀ (k m m' : Nat) (s : τ) (s' : τ'), k ≤ n → n - k < m → n - k < m' → R k s s' → ∃ o o', iter b m s = some o ∧ iter b' m' s' = some o' ∧ O o o' := by
  have key : ∀ d k m m' s s', n - k = d → k ≤ n → n - k < m → n - k < m' → R k s s' → ∃ o o', iter b m s = some o ∧ iter b' m' s' = some o' ∧ O o o' := by
    intro d
    induction d with
    | zero =>
      intro k m m' s s' hd hk hm hm' hR
      obtain ⟨m, rfl⟩ : ∃ q, m = q + 1 := ⟨m - 1, by omega⟩
      obtain ⟨m', rfl⟩ : ∃ q, m' = q + 1 := ⟨m' - 1, by omega⟩
      have : k = n := by omega
      subst this
      obtain ⟨o, o', h1, h2, h3⟩ := hstop s s' hR
      rw [iter_succ, iter_succ, h1, h2]
      exact ⟨o, o', rfl, rfl, h3⟩
    | succ d ih =>
      intro k m m' s s' hd hk hm hm' hR
      obtain ⟨m, rfl⟩ : ∃ q, m = q + 1 := ⟨m - 1, by omega⟩
      obtain ⟨m', rfl⟩ : ∃ q, m' = q + 1 := ⟨m' - 1, by omega⟩
      rw [iter_succ, iter_succ]
      rcases hstep k s s' (by omega) hR with ⟨t, t', h1, h2, h3⟩ | ⟨o, o', h1, h2, h3⟩
      · rw [h1, h2]
        exact ih (k + 1) m m' t t' (by omega) (by omega) (by omega) (by omega) h3
      · rw [h1, h2]
        exact ⟨o, o', rfl, rfl, h3⟩
  exact fun k m m' s s' hk hm hm' hR => key (n - k) k m m' s s' rfl hk hm hm' hR
def subS (f g : Nat → Nat) (s : Nat) : Nat → Nat
  | 0 => s
  | j + 1 => fsub (subS f g s j) (fmul (f j) (g j))
def vsN (L D : List Nat) (j k : Nat) : Nat := fmul (lowG L j k) (D.getD k 0)
theorem rowL_at {l : List Nat} {n i k : Nat} (hl : l.length = tri n) (hi : i < n) (hk : k < i) : (rowL l i).getD k 0 = lowG l i k := by
  unfold rowL lowG
  simp [List.getD_eq_getElem?_getD, List.getElem?_take, hk]
section
variable {a L D : List Nat} {n : Nat} (hn : n ≤ 48) (ha : a.length = n * n) (hL : L.length = tri n) (hD : D.length = n)
include hn hL
theorem diag_t {j s : Nat} {v : List Nat} (hj : j < n) (hv : v.length = n) (hD : D.length = n) :
    ∃ v', v'.length = n ∧ (∀ k, k < j → v'.getD k 0 = vsN L D j k) ∧ iter (T_lower_Factor_b31 (j : Int) (rowL L j) D) FU (s, 0, v) = some (subS (fun k => lowG L j k) (vsN L D j) s j, v') := by
  let G := fun k => if k < j then vsN L D j k else v.getD k 0
  let V := fun k => (List.range k).map (vsN L D j) ++ v.drop k
  have len : ∀ k, k ≤ n → (V k).length = n := fun k hk => by simp [V, hv]; omega
  have := iter_nat (b := T_lower_Factor_b31 (j : Int) (rowL L j) D) (fun k => (subS (fun k => lowG L j k) (vsN L D j) s k, ((k : Nat) : Int), V k)) (o := (subS (fun k => lowG L j k) (vsN L D j) s j, V j)) j (by rw [FU_eq]; omega) (fun k hk => by
    have hset : (V k).set k (vsN L D j k) = V (k + 1) := by
      show ((List.range k).map (vsN L D j) ++ v.drop k).set k _ = _
      rw [drop_cons (l := v) (by omega), app_set (by simp)]
      show _ = (List.range (k + 1)).map (vsN L D j) ++ v.drop (k + 1)
      rw [← map_range_snoc]; simp
    have hget : (V (k + 1)).getD k 0 = vsN L D j k := by
      show ((List.range (k + 1)).map (vsN L D j) ++ v.drop (k + 1)).getD k 0 = _
      rw [app_lt (by simp)]
      simp [List.getD_eq_getElem?_getD]
    unfold T_lower_Factor_b31
    dsimp only
    rw [cond_t (by simp; omega), at_getD 0 (by rw [rowL_len hL hj]; exact hk), Option.bind_some, at_getD 0 (by omega), Option.bind_some, Option.bind_some, at_getD 0 (by rw [len k (by omega)]; omega)]
    simp only [Option.bind_some, Int.toNat_natCast]
    have e : fmul (lowG L j k) (D.getD k 0) = vsN L D j k := rfl
    rw [rowL_at hL hj hk, e, hset, at_getD 0 (by rw [len _ (by omega)]; omega), Option.bind_some, hget, fmul_comm (vsN L D j k), wrU (by omega)]; rfl) (by
    unfold T_lower_Factor_b31
    dsimp only
    rw [cond_f (by simp)])
  refine ⟨V j, len j (by omega), fun k hk => ?_, ?_⟩
  · show ((List.range j).map (vsN L D j) ++ v.drop j).getD k 0 = _
    rw [app_lt (by simpa using hk)]
    simp [List.getD_eq_getElem?_getD, hk]
  · have h0 : V 0 = v := by simp [V]
    rw [h0] at this
    exact this
theorem down_t {i j s : Nat} {v : List Nat} (hi : i < n) (hji : j < i) (hv : v.length = n) (hV : ∀ k, k < j → v.getD k 0 = vsN L D j k) {L' : List Nat} (hL' : L'.length = tri n) :
    iter (T_lower_Factor_b40 (j : Int) (rowL L' i) v) FU (s, 0) = some (subS (fun k => lowG L' i k) (vsN L D j) s j) := by
  have := iter_nat (b := T_lower_Factor_b40 (j : Int) (rowL L' i) v) (fun k => (subS (fun k => lowG L' i k) (vsN L D j) s k, ((k : Nat) : Int))) (o := subS (fun k => lowG L' i k) (vsN L D j) s j) j (by rw [FU_eq]; omega) (fun k hk => by
    unfold T_lower_Factor_b40
    dsimp only
    rw [cond_t (by simp; omega), at_getD 0 (by rw [rowL_len hL' hi]; omega), Option.bind_some, at_getD 0 (by omega)]
    simp only [Option.bind_some]
    rw [rowL_at hL' hi (by omega), hV k hk, wrU (by omega)]; rfl) (by
    unfold T_lower_Factor_b40
    dsimp only
    rw [cond_f (by simp)])
  exact this
end
def finQ (x : Nat) : Bool := decide (magF x < 9218868437227405312)
abbrev OutC := (Int × Int × List Nat) ⊕ (Int × Int × List Nat × List Nat)
section
variable {a : List Nat} {n : Nat} (hn : n ≤ 48) (ha : a.length = n * n)
include hn ha
end
end Go.Eng
