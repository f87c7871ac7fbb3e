
/-
  Matrices on the plain side: what the twins of the package matrix come to (as Pmx, without Identity). No condition.
-/
import Derived.Test.YtdephdnkkljfeaaPs
set_option linter.all false
set_option maxRecDepth 100000
set_option maxHeartbeats 4000000
namespace Go.Eng
open Go
def rightB (r c : Int) (n : Nat) : Bool := decide (0 ≤ r ∧ r ≤ 48 ∧ 0 ≤ c ∧ c ≤ 48 ∧ (n : Int) = r * c)
theorem fits_t (n : Int) : T_matrix_fits n = some (decide (0 ≤ n ∧ n ≤ 48)) := by
  unfold T_matrix_fits
  refine eq_cond (fun h => ?_) (fun h => ?_) <;> simp at h <;> simp <;> omega
theorem prod_le {r c : Int} (h : 0 ≤ r ∧ r ≤ 48 ∧ 0 ≤ c ∧ c ≤ 48) : 0 ≤ r * c ∧ r * c ≤ 2304 :=
  ⟨Int.mul_nonneg h.1 h.2.2.1, by have := Int.mul_le_mul h.2.1 h.2.2.2 h.2.2.1 (by omega : (0 : Int) ≤ 48); omega⟩
theorem right_t (r c : Int) (l : List Nat) : T_matrix_Right r c l = some (rightB r c l.length) := by
  unfold T_matrix_Right
  simp only [fits_t, Option.bind_some]
  refine eq_cond (fun h => eq_cond (fun h2 => ?_) (fun h2 => ?_)) (fun h => ?_)
  · simp only [decide_eq_true_eq] at h h2
    have := prod_le ⟨h.1, h.2, h2⟩
    rw [wrI (by omega) (by omega)]
    congr 1
    unfold rightB
    rw [Bool.eq_iff_iff]; simp; omega
  · simp only [decide_eq_false_iff_not] at h h2
    congr 1; unfold rightB; simp; omega
  · simp only [decide_eq_false_iff_not] at h
    congr 1; unfold rightB; simp; omega
theorem rightB_nat {r c : Int} {n : Nat} (h : rightB r c n = true) : ∃ a b : Nat, r = a ∧ c = b ∧ a ≤ 48 ∧ b ≤ 48 ∧ n = a * b ∧ a * b ≤ 2304 := by
  unfold rightB at h
  simp only [decide_eq_true_eq] at h
  obtain ⟨h1, h2, h3, h4, h5⟩ := h
  obtain ⟨a, rfl⟩ := Int.eq_ofNat_of_zero_le h1
  obtain ⟨b, rfl⟩ := Int.eq_ofNat_of_zero_le h3
  have : a * b ≤ 48 * 48 := Nat.mul_le_mul (by omega) (by omega)
  refine ⟨a, b, rfl, rfl, by omega, by omega, ?_, by omega⟩
  have : ((a * b : Nat) : Int) = (a : Int) * b := by simp
  omega
def grid (r c : Nat) (g : Nat → Nat → Nat) : List Nat := (List.range (r * c)).map fun k => g (k / c) (k % c)
theorem grid_len (r c : Nat) (g : Nat → Nat → Nat) : (grid r c g).length = r * c := by simp [grid]
theorem div_idx {i j c : Nat} (hj : j < c) : (i * c + j) / c = i := by
  rw [Nat.mul_comm, Nat.mul_add_div (by omega), Nat.div_eq_of_lt hj, Nat.add_zero]
theorem mod_idx {i j c : Nat} (hj : j < c) : (i * c + j) % c = j := by
  rw [Nat.mul_comm, Nat.mul_add_mod, Nat.mod_eq_of_lt hj]
theorem grid_at {r c i j : Nat} {g : Nat → Nat → Nat} (hi : i < r) (hj : j < c) : (grid r c g).getD (i * c + j) 0 = g i j := by
  have := idxL hi hj
  simp [grid, List.getD_eq_getElem?_getD, this, div_idx hj, mod_idx hj]
theorem grid_of {r c : Nat} {g : Nat → Nat → Nat} {l : List Nat} (hl : l.length = r * c) (h : ∀ i j, i < r → j < c → l.getD (i * c + j) 0 = g i j) : l = grid r c g := by
  refine ext_getD 0 (by rw [hl, grid_len]) fun k hk => ?_
  rw [hl] at hk
  have hc : 0 < c := by rcases Nat.eq_zero_or_pos c with h | h; · subst h; simp at hk
                        · exact h
  have h1 : k / c < r := (Nat.div_lt_iff_lt_mul hc).2 hk
  have h2 : k % c < c := Nat.mod_lt _ hc
  have e : k / c * c + k % c = k := by rw [Nat.mul_comm]; exact Nat.div_add_mod k c
  have := h _ _ h1 h2
  rw [← e, this, grid_at h1 h2]
theorem grid_congr {r c : Nat} {g k : Nat → Nat → Nat} (h : ∀ i j, i < r → j < c → g i j = k i j) : grid r c g = grid r c k :=
  grid_of (grid_len ..) fun i j hi hj => by rw [grid_at hi hj, h i j hi hj]
theorem laid_t {r c : Nat} (hr : r ≤ 48) (hc : c ≤ 48) {f : Int → Int → Option Nat} {g : Nat → Nat → Nat} (hf : ∀ i j : Nat, i < r → j < c → f i j = some (g i j)) : T_matrix_laid r c f = some ((r : Int), (c : Int), grid r c g) := by
  have hrc : r * c ≤ 2304 := Nat.le_trans (Nat.mul_le_mul hr hc) (by omega)
  unfold T_matrix_laid
  rw [wrMul (by omega), mk_nat (by omega), Option.bind_some]
  have hin : ∀ i, i < r → iter (T_matrix_laid_b9 c f i) FU (((0 : Nat) : Int), filled (r * c) (nf 0) (fun k => g (k / c) (k % c)) (i * c)) = some (filled (r * c) (nf 0) (fun k => g (k / c) (k % c)) ((i + 1) * c)) := by
    intro i hi
    have hic : (i + 1) * c ≤ r * c := Nat.mul_le_mul_right _ hi
    rw [Nat.succ_mul] at hic
    refine iter_nat (fun j => (((j : Nat) : Int), filled (r * c) (nf 0) (fun k => g (k / c) (k % c)) (i * c + j))) (o := filled (r * c) (nf 0) (fun k => g (k / c) (k % c)) ((i + 1) * c)) c (by rw [FU_eq]; omega) (fun j hj => ?_) ?_
    · have hidx := idxL hi hj
      unfold T_matrix_laid_b9
      dsimp only
      rw [cond_t (by simp; omega), hf i j hi hj, Option.bind_some, wrIdx hi hj (by omega), at_getD 0 (by rw [filled_len (by omega)]; exact hidx)]
      simp only [Option.bind_some, Int.toNat_natCast]
      rw [wrU (by omega)]
      have := filled_set (z := nf 0) (G := fun k => g (k / c) (k % c)) hidx
      rw [div_idx hj, mod_idx hj] at this
      rw [this]; rfl
    · unfold T_matrix_laid_b9
      dsimp only
      rw [cond_f (by simp), Nat.succ_mul]
  rw [← filled_zero (G := fun k => g (k / c) (k % c))]
  have hout : iter (T_matrix_laid_b7 r c f) FU (((0 : Nat) : Int), filled (r * c) (nf 0) (fun k => g (k / c) (k % c)) (0 * c)) = some (filled (r * c) (nf 0) (fun k => g (k / c) (k % c)) (r * c)) := by
    refine iter_nat (fun i => (((i : Nat) : Int), filled (r * c) (nf 0) (fun k => g (k / c) (k % c)) (i * c))) (o := filled (r * c) (nf 0) (fun k => g (k / c) (k % c)) (r * c)) r (by rw [FU_eq]; omega) (fun i hi => ?_) ?_
    · unfold T_matrix_laid_b7
      dsimp only
      have h0 := hin i hi
      rw [cond_t (by simp; omega)]
      rw [show ((0 : Nat) : Int) = 0 from rfl] at h0
      rw [h0, Option.bind_some, wrU (by omega)]
    · unfold T_matrix_laid_b7
      dsimp only
      rw [cond_f (by simp)]
  rw [Nat.zero_mul, show ((0 : Nat) : Int) = 0 from rfl] at hout
  rw [hout, Option.bind_some, filled_full]
  rfl
def noMat (e : Int) : Int × Int × List Nat × Int := (0, 0, [], e)
theorem set_getD {l : List Nat} {i j x : Nat} (hi : i < l.length) : (l.set i x).getD j 0 = if j = i then x else l.getD j 0 := by
  by_cases h : j = i
  · subst h; simp [List.getD_eq_getElem?_getD, hi]
  · rw [if_neg h]; simp [List.getD_eq_getElem?_getD, List.getElem?_set_ne (Ne.symm h)]
theorem idx_inj' {a b i j c : Nat} (hb : b < c) (hj : j < c) (h : a * c + b = i * c + j) : a = i ∧ b = j := by
  have e : a = i := by rw [← div_idx (i := a) hb, h, div_idx hj]
  subst e
  exact ⟨rfl, by omega⟩
theorem grid_put {r c i j x : Nat} {g : Nat → Nat → Nat} (hi : i < r) (hj : j < c) : (grid r c g).set (i * c + j) x = grid r c (fun a b => if a = i ∧ b = j then x else g a b) := by
  have hidx := idxL hi hj
  refine grid_of (by simp [grid_len]) fun a b ha hb => ?_
  rw [set_getD (by rw [grid_len]; exact hidx), grid_at ha hb]
  by_cases h : a = i ∧ b = j
  · obtain ⟨rfl, rfl⟩ := h; simp
  · rw [if_neg h, if_neg (fun e => h (idx_inj' hb hj e))]
def turnG (l : List Nat) (c : Nat) (i j : Nat) : Nat := l.getD (j * c + i) 0
theorem transp_t (r c : Int) (l : List Nat) : T_matrix_Transpose r c l = some (if rightB r c l.length then (c, r, grid c.toNat r.toNat (turnG l c.toNat), 0) else noMat 4) := by
  unfold T_matrix_Transpose
  rw [right_t, Option.bind_some]
  cases hR : rightB r c l.length with
  | false => rfl
  | true =>
    obtain ⟨a, b, rfl, rfl, ha, hb, hl, h2⟩ := rightB_nat hR
    rw [Bool.not_true, cF, laid_t hb ha (g := turnG l b) (fun i j hi hj => by
      unfold T_matrix_Transpose_1
      have := idxL hj hi
      rw [wrIdx hj hi (by omega), at_getD 0 (by omega)]; rfl)]
    simp
end Go.Eng
