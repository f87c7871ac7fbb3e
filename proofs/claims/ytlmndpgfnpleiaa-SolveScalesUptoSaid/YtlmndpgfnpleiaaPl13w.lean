/-
  The step down and the step up on small whole numbers: what is solved is the number that was begun with. No condition. (For SolveWhole.)
-/
import Derived.Test.YtlmndpgfnpleiaaWhl3
import Derived.Test.YtlmndpgfnpleiaaPf2
set_option linter.unusedVariables false
set_option linter.unusedSimpArgs false
set_option linter.unnecessarySimpa false
set_option linter.unusedSectionVars false
set_option maxRecDepth 100000
set_option maxHeartbeats 4000000
set_option exponentiation.threshold 3000
namespace Go.Eng
open Go

theorem dotZ_bound {A B : Nat → Int} {M : Nat} : ∀ {n : Nat}, (∀ k, k < n → (A k * B k).natAbs ≤ M) → (dotZ A B n).natAbs ≤ n * M
  | 0, _ => by simp [dotZ]
  | n + 1, h => by
    have h1 := dotZ_bound (n := n) fun k hk => h k (by omega)
    have h2 := h n (by omega)
    unfold dotZ
    rw [Nat.succ_mul]
    generalize A n * B n = p at *
    generalize n * M = q at *
    omega
theorem dotZ_congr {A B A' B' : Nat → Int} : ∀ {n : Nat}, (∀ k, k < n → A k * B k = A' k * B' k) → dotZ A B n = dotZ A' B' n
  | 0, _ => rfl
  | n + 1, h => by
    unfold dotZ
    rw [dotZ_congr (n := n) fun k hk => h k (by omega), h n (by omega)]
theorem dotZ_none {A B : Nat → Int} : ∀ {n : Nat}, (∀ k, k < n → A k * B k = 0) → dotZ A B n = 0
  | 0, _ => rfl
  | n + 1, h => by
    unfold dotZ
    rw [dotZ_none (n := n) fun k hk => h k (by omega), h n (by omega)]; rfl
theorem dotZ_split {A B : Nat → Int} (i : Nat) : ∀ m, dotZ A B (i + m) = dotZ A B i + dotZ (fun k => A (i + k)) (fun k => B (i + k)) m
  | 0 => by simp [dotZ]
  | m + 1 => by
    show dotZ A B (i + m) + A (i + m) * B (i + m) = _
    rw [dotZ_split i m]
    simp only [dotZ]; omega
theorem mul_bound {a b : Int} {A B : Nat} (ha : a.natAbs ≤ A) (hb : b.natAbs ≤ B) : (a * b).natAbs ≤ A * B := by
  rw [Int.natAbs_mul]; exact Nat.mul_le_mul ha hb

theorem subN_whl {f g : Nat → Nat} {A C : Nat → Int} {S : Int} {M : Nat} : ∀ {j : Nat}, (∀ k, k < j → Wv (f k) (A k) ∧ Wv (g k) (C k) ∧ (A k * C k).natAbs ≤ M) → S.natAbs + j * M < 9007199254740992 → subN f g (whl S) j = whl (S - dotZ A C j)
  | 0, _, _ => by simp [subN, dotZ]
  | j + 1, h, hb => by
    have hj : (j + 1) * M = j * M + M := Nat.succ_mul ..
    have ih := subN_whl (M := M) (S := S) (A := A) (C := C) (j := j) (fun k hk => h k (by omega)) (by omega)
    obtain ⟨h1, h2, h3⟩ := h j (by omega)
    have hd := dotZ_bound (A := A) (B := C) (M := M) (n := j) fun k hk => (h k (by omega)).2.2
    unfold subN dotZ
    have key : (S - dotZ A C j).natAbs < 9007199254740992 := by omega
    rw [ih, fsub_whl' key (fmul_whl h1 h2 (by omega))]
    congr 1
    generalize A j * C j = p
    omega
theorem subN_wv {f g : Nat → Nat} {A C : Nat → Int} {s : Nat} {S : Int} {M : Nat} (hs : Wv s S) : ∀ {j : Nat}, (∀ k, k < j → Wv (f k) (A k) ∧ Wv (g k) (C k) ∧ (A k * C k).natAbs ≤ M) → S.natAbs + j * M < 9007199254740992 → Wv (subN f g s j) (S - dotZ A C j)
  | 0, _, _ => by simpa [subN, dotZ] using hs
  | j + 1, h, hb => by
    have hj : (j + 1) * M = j * M + M := Nat.succ_mul ..
    have ih := subN_wv (M := M) (A := A) (C := C) hs (j := j) (fun k hk => h k (by omega)) (by omega)
    obtain ⟨h1, h2, h3⟩ := h j (by omega)
    have hd := dotZ_bound (A := A) (B := C) (M := M) (n := j) fun k hk => (h k (by omega)).2.2
    unfold subN dotZ
    have e : S - (dotZ A C j + A j * C j) = (S - dotZ A C j) - A j * C j := by generalize A j * C j = p; omega
    rw [e]
    refine fsub_wv ih (fmul_whl h1 h2 (by omega)) ?_
    generalize A j * C j = p at *
    omega

/-- What the laws of small whole numbers speak of. -/
structure Small (n : Nat) (l d : List Nat) (L : Nat → Nat → Int) (D : Nat → Int) : Prop where
  n6 : n ≤ 6
  hl : l.length = tri n
  hd : d.length = n
  low : ∀ i j, j < i → i < n → Wv (lowG l i j) (L i j) ∧ (L i j).natAbs ≤ 3
  diag : ∀ i, i < n → Wv (d.getD i 0) (D i) ∧ D i ≠ 0 ∧ (D i).natAbs ≤ 50

section
variable {n : Nat} {l d : List Nat} {L : Nat → Nat → Int} {D t x : Nat → Int} (hs : Small n l d L D)
include hs

theorem fw_whl {b : List Nat} (ht : ∀ i, i < n → (t i).natAbs ≤ 800) (hb : ∀ i, i < n → b.getD i 0 = whl (D i * t i + dotZ (L i) (fun k => D k * t k) i)) :
    ∀ m, m ≤ n → ∀ i, i < m → (fw l b m).getD i 0 = whl (D i * t i)
  | 0, _, i, hi => by omega
  | m + 1, hm, i, hi => by
    have ih := fw_whl ht hb m (by omega)
    unfold fw
    by_cases e : i = m
    · subst e
      rw [app_eq (fw_len l b i), hb i (by omega)]
      have hDt : ∀ k, k < n → (D k * t k).natAbs ≤ 50 * 800 := fun k hk => mul_bound (hs.diag k hk).2.2 (ht k hk)
      have hM : ∀ k, k < i → (L i k * (D k * t k)).natAbs ≤ 3 * (50 * 800) := fun k hk => mul_bound (hs.low i k hk (by omega)).2 (hDt k (by omega))
      have hd := dotZ_bound (A := L i) (B := fun k => D k * t k) (M := 3 * (50 * 800)) (n := i) hM
      have hi6 : i ≤ 6 := by have := hs.n6; omega
      have hiM : i * (3 * (50 * 800)) ≤ 6 * (3 * (50 * 800)) := Nat.mul_le_mul_right _ hi6
      have h0 := hDt i (by omega)
      have := subN_whl (f := fun j => lowG l i j) (g := fun j => (fw l b i).getD j 0) (A := L i) (C := fun k => D k * t k) (S := D i * t i + dotZ (L i) (fun k => D k * t k) i) (M := 3 * (50 * 800)) (j := i) (fun k hk => ⟨(hs.low i k hk (by omega)).1, by
        rw [ih k hk]; exact whl_wv (by have := hDt k (by omega); omega), hM k hk⟩) (by
        generalize D i * t i = p at *
        omega)
      rw [this]
      congr 1; omega
    · rw [app_lt (by rw [fw_len]; omega)]
      exact ih i (by omega)

theorem bk_wv {q : Nat → Nat} (hx : ∀ i, i < n → (x i).natAbs ≤ 50) (hq : ∀ i, i < n → Wv (q i) (x i + dotZ (fun m => L (i + 1 + m) i) (fun m => x (i + 1 + m)) (n - 1 - i))) :
    ∀ k, k ≤ n → ∀ m, m < k → Wv ((bk l q n k).getD m 0) (x (n - k + m))
  | 0, _, m, hm => by omega
  | k + 1, hk, m, hm => by
    have ih := bk_wv hx hq k (by omega)
    unfold bk
    cases m with
    | succ m =>
      have := ih m (by omega)
      rw [List.getD_cons_succ, show n - (k + 1) + (m + 1) = n - k + m by omega]
      exact this
    | zero =>
      rw [List.getD_cons_zero, Nat.add_zero, show n - (k + 1) = n - 1 - k by omega]
      have hi : n - 1 - k < n := by omega
      have e1 : ∀ m, n - k + m = n - 1 - k + 1 + m := fun m => by omega
      have h0 := hq (n - 1 - k) hi
      rw [show n - 1 - (n - 1 - k) = k by omega] at h0
      have hM : ∀ m, m < k → (L (n - 1 - k + 1 + m) (n - 1 - k) * x (n - 1 - k + 1 + m)).natAbs ≤ 3 * 50 := fun m hm => mul_bound (hs.low _ _ (by omega) (by omega)).2 (hx _ (by omega))
      have hd := dotZ_bound (A := fun m => L (n - 1 - k + 1 + m) (n - 1 - k)) (B := fun m => x (n - 1 - k + 1 + m)) (M := 3 * 50) (n := k) hM
      have hx0 := hx (n - 1 - k) hi
      have hk6 : k ≤ 6 := by have := hs.n6; omega
      have hkM : k * (3 * 50) ≤ 6 * (3 * 50) := Nat.mul_le_mul_right _ hk6
      have := subN_wv (f := fun m => lowG l (n - 1 - k + 1 + m) (n - 1 - k)) (g := fun m => (bk l q n k).getD m 0) (A := fun m => L (n - 1 - k + 1 + m) (n - 1 - k)) (C := fun m => x (n - 1 - k + 1 + m)) (M := 3 * 50) h0 (j := k) (fun m hm => ⟨(hs.low _ _ (by omega) (by omega)).1, by
        have := ih m hm
        rwa [e1] at this, hM m hm⟩) (by omega)
      rwa [show ∀ a b : Int, a + b - b = a by intro a b; omega] at this

/-- Solved: what was begun with. -/
theorem sol_wv {b : List Nat} (hx : ∀ i, i < n → (x i).natAbs ≤ 50) (ht : ∀ i, i < n → t i = x i + dotZ (fun m => L (i + 1 + m) i) (fun m => x (i + 1 + m)) (n - 1 - i))
    (hb : ∀ i, i < n → b.getD i 0 = whl (D i * t i + dotZ (L i) (fun k => D k * t k) i)) :
    (∀ i, i < n → (fw l b n).getD i 0 = whl (D i * t i)) ∧ ∀ i, i < n → Wv ((bk l (quoG d (fw l b n)) n n).getD i 0) (x i) := by
  have t8 : ∀ i, i < n → (t i).natAbs ≤ 800 := fun i hi => by
    have hM : ∀ m, m < n - 1 - i → (L (i + 1 + m) i * x (i + 1 + m)).natAbs ≤ 3 * 50 := fun m hm => mul_bound (hs.low _ _ (by omega) (by omega)).2 (hx _ (by omega))
    have hd := dotZ_bound (A := fun m => L (i + 1 + m) i) (B := fun m => x (i + 1 + m)) (M := 3 * 50) (n := n - 1 - i) hM
    have := hs.n6
    have hkM : (n - 1 - i) * (3 * 50) ≤ 5 * (3 * 50) := Nat.mul_le_mul_right _ (by omega)
    have := hx i hi
    rw [ht i hi]
    omega
  have f := fw_whl hs t8 hb n (Nat.le_refl _)
  refine ⟨f, fun i hi => ?_⟩
  have := bk_wv hs (q := quoG d (fw l b n)) hx (fun i hi => by
    have hw : Wv ((fw l b n).getD i 0) (t i * D i) := by
      rw [f i hi, Int.mul_comm]
      exact whl_wv (by have := mul_bound (t8 i hi) (hs.diag i hi).2.2; omega)
    have := fdiv_wv hw (hs.diag i hi).1 (hs.diag i hi).2.1 (by have := t8 i hi; omega)
    rw [ht i hi] at this
    exact this) n (Nat.le_refl _) i hi
  rwa [Nat.sub_self, Nat.zero_add] at this
end

/-- A sum over a row of ones below which the numbers stand. -/
def ent (L : Nat → Nat → Int) (i k : Nat) : Int := if i = k then 1 else if i < k then 0 else L i k
theorem ent_col {L : Nat → Nat → Int} {x : Nat → Int} {n i : Nat} (hi : i < n) : dotZ (fun k => ent L k i) x n = x i + dotZ (fun m => L (i + 1 + m) i) (fun m => x (i + 1 + m)) (n - 1 - i) := by
  have e : n = i + 1 + (n - 1 - i) := by omega
  have h0 : dotZ (fun k => ent L k i) x i = 0 := dotZ_none fun k hk => by unfold ent; rw [if_neg (by omega), if_pos hk, Int.zero_mul]
  have h1 : dotZ (fun k => ent L k i) x (i + 1) = x i := by
    unfold dotZ; rw [h0]; unfold ent; rw [if_pos rfl]; omega
  conv => lhs; rw [e]
  rw [dotZ_split, h1]
  congr 1
  exact dotZ_congr fun k _ => by unfold ent; rw [if_neg (by omega), if_neg (by omega)]
theorem ent_row {L : Nat → Nat → Int} {c : Nat → Int} {n i : Nat} (hi : i < n) : dotZ (ent L i) c n = c i + dotZ (L i) c i := by
  have e : n = i + 1 + (n - 1 - i) := by omega
  have h0 : dotZ (ent L i) c i = dotZ (L i) c i := dotZ_congr fun k hk => by unfold ent; rw [if_neg (by omega), if_neg (by omega)]
  have h1 : dotZ (ent L i) c (i + 1) = c i + dotZ (L i) c i := by
    show dotZ (ent L i) c i + ent L i i * c i = _
    rw [h0]; unfold ent; rw [if_pos rfl]; omega
  conv => lhs; rw [e]
  rw [dotZ_split, h1, dotZ_none (n := n - 1 - i) fun k _ => by unfold ent; rw [if_neg (by omega), if_pos (by omega), Int.zero_mul]]
  omega

end Go.Eng
