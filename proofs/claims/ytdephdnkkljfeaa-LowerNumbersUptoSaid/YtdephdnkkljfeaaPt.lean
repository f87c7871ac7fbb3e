
/-
  Triangles, factors and lists that grow in the midst (the lemmas of Pf that need no twin of the package solve; for the seat of 12). No condition.
-/
import Derived.Test.YtdephdnkkljfeaaPmy
set_option linter.all false
set_option maxRecDepth 100000
set_option maxHeartbeats 4000000
namespace Go.Eng
open Go
def tri (n : Nat) : Nat := n * (n - 1) / 2
theorem tri_succ (n : Nat) : tri (n + 1) = tri n + n := by
  cases n with
  | zero => rfl
  | succ n =>
    unfold tri
    have : (n + 1 + 1) * (n + 1 + 1 - 1) = (n + 1) * (n + 1 - 1) + (n + 1) * 2 := by
      simp only [Nat.add_sub_cancel]
      rw [← Nat.mul_add, Nat.mul_comm]
    rw [this, Nat.add_mul_div_right _ _ (by omega)]
theorem tri_mono {i n : Nat} (h : i ≤ n) : tri i ≤ tri n := by
  induction n with
  | zero => have : i = 0 := by omega
            subst this; exact Nat.le_refl _
  | succ n ih =>
    by_cases e : i = n + 1
    · subst e; exact Nat.le_refl _
    · have := ih (by omega)
      rw [tri_succ]; omega
theorem tri_lt {i j n : Nat} (hj : j < i) (hi : i < n) : tri i + j < tri n := by
  have := tri_mono (show i + 1 ≤ n by omega)
  rw [tri_succ] at this
  omega
theorem tri_le {n : Nat} (h : n ≤ 48) : tri n ≤ 1128 := tri_mono h
def lowG (l : List Nat) (i j : Nat) : Nat := l.getD (tri i + j) 0
theorem right_cases (q : Int) (l d : List Nat) : (T_lower_Right q l d = some true ∧ ∃ n : Nat, q = n ∧ n ≤ 48 ∧ l.length = tri n ∧ d.length = n) ∨ T_lower_Right q l d = some false := by
  unfold T_lower_Right
  by_cases h0 : 0 ≤ q
  · rw [cond_t (by simpa using h0)]
    by_cases h1 : q ≤ 48
    · rw [cond_t (by simpa using h1)]
      obtain ⟨n, rfl⟩ := Int.eq_ofNat_of_zero_le h0
      have hn : n ≤ 48 := by omega
      simp only [Option.bind_some]
      have e : IntKind.i64.wrap ((IntKind.i64.wrap ((n : Int) * (IntKind.i64.wrap ((n : Int) - 1)))).tdiv 2) = ((tri n : Nat) : Int) := by
        cases n with
        | zero => decide
        | succ n =>
          have e1 : IntKind.i64.wrap (((n + 1 : Nat) : Int) - 1) = ((n + 1 - 1 : Nat) : Int) := by rw [wrI (by omega) (by omega)]; omega
          have hb : (n + 1) * (n + 1 - 1) ≤ 48 * 48 := Nat.mul_le_mul (by omega) (by omega)
          have e2 : ((((n + 1) * (n + 1 - 1) : Nat) : Int)).tdiv 2 = ((tri (n + 1) : Nat) : Int) := rfl
          have := tri_le hn
          rw [e1, wrMul (by omega), e2, wrN (by omega)]
      rw [e]
      by_cases h2 : l.length = tri n
      · rw [cond_t (by simp [h2])]
        by_cases h3 : d.length = n
        · refine .inl ⟨by simp [h3], n, rfl, hn, h2, h3⟩
        · refine .inr ?_
          have : ((d.length : Nat) : Int) ≠ n := by omega
          simp [this]
      · refine .inr ?_
        have : ((l.length : Nat) : Int) ≠ (tri n : Nat) := by omega
        rw [cond_f (by simpa using this)]
    · rw [cond_f (by simpa using h1)]; exact .inr rfl
  · rw [cond_f (by simpa using h0)]; exact .inr rfl
theorem app_lt {p r : List Nat} {j : Nat} (h : j < p.length) : (p ++ r).getD j 0 = p.getD j 0 := by
  simp [List.getD_eq_getElem?_getD, List.getElem?_append_left h]
theorem app_set {p r : List Nat} {x y i : Nat} (h : p.length = i) : (p ++ x :: r).set i y = p ++ y :: r := by
  subst h; simp
theorem drop_cons {l : List Nat} {i : Nat} (h : i < l.length) : l.drop i = l.getD i 0 :: l.drop (i + 1) := by
  rw [List.drop_eq_getElem_cons h, List.getD_eq_getElem?_getD, List.getElem?_eq_getElem h]; rfl
end Go.Eng
