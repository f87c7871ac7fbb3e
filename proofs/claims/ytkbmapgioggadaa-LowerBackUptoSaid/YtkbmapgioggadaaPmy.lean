/-
  Matrices on the plain side: what the twins of the package matrix come to (as Pmx, without Identity). No condition.
-/
import Derived.Test.YtkbmapgioggadaaPs
set_option linter.unusedVariables false
set_option linter.unusedSimpArgs false
set_option linter.unnecessarySimpa false
set_option linter.unusedSectionVars false
set_option maxRecDepth 100000
set_option maxHeartbeats 4000000
namespace Go.Eng
open Go

theorem sameMatrix_t {r c r' c' : Int} {l m : List Nat} (hl : l.length ≤ 4294967296) : T_girderkit_SameMatrix r c l r' c' m = some (r == r' && c == c' && l == m) := by
  unfold T_girderkit_SameMatrix
  simp only [sameReals_t hl, Option.bind_some]
  cases r == r' <;> cases c == c' <;> rfl

def rightB (r c : Int) (n : Nat) : Bool := decide (0 ≤ r ∧ r ≤ 48 ∧ 0 ≤ c ∧ c ≤ 48 ∧ (n : Int) = r * c)
def mayB (r c : Int) : Bool := decide (0 ≤ r ∧ r ≤ 48 ∧ 0 ≤ c ∧ c ≤ 48)

theorem fits_t (n : Int) : T_matrix_fits n = some (decide (0 ≤ n ∧ n ≤ 48)) := by
  unfold T_matrix_fits
  refine eq_cond (fun h => ?_) (fun h => ?_) <;> simp at h <;> simp <;> omega
theorem prod_le {r c : Int} (h : 0 ≤ r ∧ r ≤ 48 ∧ 0 ≤ c ∧ c ≤ 48) : 0 ≤ r * c ∧ r * c ≤ 2304 :=
  ⟨Int.mul_nonneg h.1 h.2.2.1, by have := Int.mul_le_mul h.2.1 h.2.2.2 h.2.2.1 (by omega : (0 : Int) ≤ 48); omega⟩

theorem right_t (r c : Int) (l : List Nat) : T_matrix_Right r c l = some (rightB r c l.length) := by
  unfold T_matrix_Right
  simp only [fits_t, Option.bind_some]
  refine eq_cond (fun h => eq_cond (fun h2 => ?_) (fun h2 => ?_)) (fun h => ?_)
  · simp only [decide_eq_true_eq] at h h2
    have := prod_le ⟨h.1, h.2, h2⟩
    rw [wrI (by omega) (by omega)]
    congr 1
    unfold rightB
    rw [Bool.eq_iff_iff]; simp; omega
  · simp only [decide_eq_false_iff_not] at h h2
    congr 1; unfold rightB; simp; omega
  · simp only [decide_eq_false_iff_not] at h
    congr 1; unfold rightB; simp; omega
theorem rightB_nat {r c : Int} {n : Nat} (h : rightB r c n = true) : ∃ a b : Nat, r = a ∧ c = b ∧ a ≤ 48 ∧ b ≤ 48 ∧ n = a * b ∧ a * b ≤ 2304 := by
  unfold rightB at h
  simp only [decide_eq_true_eq] at h
  obtain ⟨h1, h2, h3, h4, h5⟩ := h
  obtain ⟨a, rfl⟩ := Int.eq_ofNat_of_zero_le h1
  obtain ⟨b, rfl⟩ := Int.eq_ofNat_of_zero_le h3
  have : a * b ≤ 48 * 48 := Nat.mul_le_mul (by omega) (by omega)
  refine ⟨a, b, rfl, rfl, by omega, by omega, ?_, by omega⟩
  have : ((a * b : Nat) : Int) = (a : Int) * b := by simp
  omega
theorem mayB_nat {r c : Int} (h : mayB r c = true) : ∃ a b : Nat, r = a ∧ c = b ∧ a ≤ 48 ∧ b ≤ 48 ∧ a * b ≤ 2304 := by
  unfold mayB at h
  simp only [decide_eq_true_eq] at h
  obtain ⟨h1, h2, h3, h4⟩ := h
  obtain ⟨a, rfl⟩ := Int.eq_ofNat_of_zero_le h1
  obtain ⟨b, rfl⟩ := Int.eq_ofNat_of_zero_le h3
  have : a * b ≤ 48 * 48 := Nat.mul_le_mul (by omega) (by omega)
  exact ⟨a, b, rfl, rfl, by omega, by omega, by omega⟩
theorem mayB_mk {a b : Nat} (ha : a ≤ 48) (hb : b ≤ 48) : mayB a b = true := by unfold mayB; simp; omega
theorem rightB_mk {a b n : Nat} (ha : a ≤ 48) (hb : b ≤ 48) (hn : n = a * b) : rightB a b n = true := by
  subst hn; unfold rightB; simp; omega

/-- The numbers of a matrix, row by row. -/
def grid (r c : Nat) (g : Nat → Nat → Nat) : List Nat := (List.range (r * c)).map fun k => g (k / c) (k % c)
theorem grid_len (r c : Nat) (g : Nat → Nat → Nat) : (grid r c g).length = r * c := by simp [grid]
theorem div_idx {i j c : Nat} (hj : j < c) : (i * c + j) / c = i := by
  rw [Nat.mul_comm, Nat.mul_add_div (by omega), Nat.div_eq_of_lt hj, Nat.add_zero]
theorem mod_idx {i j c : Nat} (hj : j < c) : (i * c + j) % c = j := by
  rw [Nat.mul_comm, Nat.mul_add_mod, Nat.mod_eq_of_lt hj]
theorem grid_at {r c i j : Nat} {g : Nat → Nat → Nat} (hi : i < r) (hj : j < c) : (grid r c g).getD (i * c + j) 0 = g i j := by
  have := idxL hi hj
  simp [grid, List.getD_eq_getElem?_getD, this, div_idx hj, mod_idx hj]
theorem grid_of {r c : Nat} {g : Nat → Nat → Nat} {l : List Nat} (hl : l.length = r * c) (h : ∀ i j, i < r → j < c → l.getD (i * c + j) 0 = g i j) : l = grid r c g := by
  refine ext_getD 0 (by rw [hl, grid_len]) fun k hk => ?_
  rw [hl] at hk
  have hc : 0 < c := by rcases Nat.eq_zero_or_pos c with h | h; · subst h; simp at hk
                        · exact h
  have h1 : k / c < r := (Nat.div_lt_iff_lt_mul hc).2 hk
  have h2 : k % c < c := Nat.mod_lt _ hc
  have e : k / c * c + k % c = k := by rw [Nat.mul_comm]; exact Nat.div_add_mod k c
  have := h _ _ h1 h2
  rw [← e, this, grid_at h1 h2]
theorem grid_congr {r c : Nat} {g k : Nat → Nat → Nat} (h : ∀ i j, i < r → j < c → g i j = k i j) : grid r c g = grid r c k :=
  grid_of (grid_len ..) fun i j hi hj => by rw [grid_at hi hj, h i j hi hj]
theorem grid_self {r c : Nat} {l : List Nat} (hl : l.length = r * c) : grid r c (fun i j => l.getD (i * c + j) 0) = l := (grid_of hl fun _ _ _ _ => rfl).symm

theorem laid_t {r c : Nat} (hr : r ≤ 48) (hc : c ≤ 48) {f : Int → Int → Option Nat} {g : Nat → Nat → Nat} (hf : ∀ i j : Nat, i < r → j < c → f i j = some (g i j)) : T_matrix_laid r c f = some ((r : Int), (c : Int), grid r c g) := by
  have hrc : r * c ≤ 2304 := Nat.le_trans (Nat.mul_le_mul hr hc) (by omega)
  unfold T_matrix_laid
  rw [wrMul (by omega), mk_nat (by omega), Option.bind_some]
  have hin : ∀ i, i < r → iter (T_matrix_laid_b9 c f i) FU (((0 : Nat) : Int), filled (r * c) (nf 0) (fun k => g (k / c) (k % c)) (i * c)) = some (filled (r * c) (nf 0) (fun k => g (k / c) (k % c)) ((i + 1) * c)) := by
    intro i hi
    have hic : (i + 1) * c ≤ r * c := Nat.mul_le_mul_right _ hi
    rw [Nat.succ_mul] at hic
    refine iter_nat (fun j => (((j : Nat) : Int), filled (r * c) (nf 0) (fun k => g (k / c) (k % c)) (i * c + j))) (o := filled (r * c) (nf 0) (fun k => g (k / c) (k % c)) ((i + 1) * c)) c (by rw [FU_eq]; omega) (fun j hj => ?_) ?_
    · have hidx := idxL hi hj
      unfold T_matrix_laid_b9
      dsimp only
      rw [cond_t (by simp; omega), hf i j hi hj, Option.bind_some, wrIdx hi hj (by omega), at_getD 0 (by rw [filled_len (by omega)]; exact hidx)]
      simp only [Option.bind_some, Int.toNat_natCast]
      rw [wrU (by omega)]
      have := filled_set (z := nf 0) (G := fun k => g (k / c) (k % c)) hidx
      rw [div_idx hj, mod_idx hj] at this
      rw [this]; rfl
    · unfold T_matrix_laid_b9
      dsimp only
      rw [cond_f (by simp), Nat.succ_mul]
  rw [← filled_zero (G := fun k => g (k / c) (k % c))]
  have hout : iter (T_matrix_laid_b7 r c f) FU (((0 : Nat) : Int), filled (r * c) (nf 0) (fun k => g (k / c) (k % c)) (0 * c)) = some (filled (r * c) (nf 0) (fun k => g (k / c) (k % c)) (r * c)) := by
    refine iter_nat (fun i => (((i : Nat) : Int), filled (r * c) (nf 0) (fun k => g (k / c) (k % c)) (i * c))) (o := filled (r * c) (nf 0) (fun k => g (k / c) (k % c)) (r * c)) r (by rw [FU_eq]; omega) (fun i hi => ?_) ?_
    · unfold T_matrix_laid_b7
      dsimp only
      have h0 := hin i hi
      rw [cond_t (by simp; omega)]
      rw [show ((0 : Nat) : Int) = 0 from rfl] at h0
      rw [h0, Option.bind_some, wrU (by omega)]
    · unfold T_matrix_laid_b7
      dsimp only
      rw [cond_f (by simp)]
  rw [Nat.zero_mul, show ((0 : Nat) : Int) = 0 from rfl] at hout
  rw [hout, Option.bind_some, filled_full]
  rfl

def noMat (e : Int) : Int × Int × List Nat × Int := (0, 0, [], e)

theorem make_t (r c : Int) : T_matrix_Make r c = some (if mayB r c then (r, c, List.replicate (r * c).toNat 0, 0) else noMat 2) := by
  unfold T_matrix_Make
  simp only [fits_t, Option.bind_some]
  have hno : ∀ h : mayB r c = false, some ((0 : Int), (0 : Int), List.map nf [], (2 : Int)) = some (if mayB r c then (r, c, List.replicate (r * c).toNat 0, 0) else noMat 2) := fun h => by rw [h]; rfl
  refine eq_cond (fun h => eq_cond (fun h2 => ?_) (fun h2 => ?_)) (fun h => ?_)
  · exact hno (by simp at h h2; unfold mayB; simp; omega)
  · have hm : mayB r c = true := by simp at h h2; unfold mayB; simp; omega
    obtain ⟨a, b, rfl, rfl, ha, hb, hab⟩ := mayB_nat hm
    rw [laid_t ha hb (g := fun _ _ => 0) (fun i j _ _ => by unfold T_matrix_Make_1; rw [nf_zero]), hm]
    have e : ((a : Int) * (b : Int)).toNat = a * b := by
      have : ((a * b : Nat) : Int) = (a : Int) * b := by simp
      omega
    rw [Option.bind_some, e]
    have : grid a b (fun _ _ => 0) = List.replicate (a * b) 0 := by
      unfold grid; exact const_range _
    simp [this]
  · exact hno (by simp at h; unfold mayB; simp; omega)
theorem set_getD {l : List Nat} {i j x : Nat} (hi : i < l.length) : (l.set i x).getD j 0 = if j = i then x else l.getD j 0 := by
  by_cases h : j = i
  · subst h; simp [List.getD_eq_getElem?_getD, hi]
  · rw [if_neg h]; simp [List.getD_eq_getElem?_getD, List.getElem?_set_ne (Ne.symm h)]

theorem idx_inj' {a b i j c : Nat} (hb : b < c) (hj : j < c) (h : a * c + b = i * c + j) : a = i ∧ b = j := by
  have e : a = i := by rw [← div_idx (i := a) hb, h, div_idx hj]
  subst e
  exact ⟨rfl, by omega⟩

def oneF : Nat := 4607182418800017408
theorem nf_one : nf 4607182418800017408 = oneF := by decide +kernel
def idG (i j : Nat) : Nat := if i = j then oneF else 0

/-- The steps of the identity's loops, the code's and the reference's. -/
theorem ident_put {n i : Nat} (hi : i < n) (h48 : n ≤ 48) :
    (grid n n (fun x y => if x = y ∧ x < i then oneF else 0)).set (i * n + i) oneF = grid n n (fun x y => if x = y ∧ x < i + 1 then oneF else 0) := by
  have hidx := idxL hi hi
  refine grid_of (by simp [grid_len]) fun x y hx hy => ?_
  rw [set_getD (by rw [grid_len]; exact hidx), grid_at hx hy]
  by_cases h1 : x * n + y = i * n + i
  · obtain ⟨rfl, rfl⟩ := idx_inj' hy hi h1
    simp
  · rw [if_neg h1]
    by_cases h2 : x = y
    · subst h2
      have : x ≠ i := fun e => h1 (by rw [e])
      by_cases h3 : x < i
      · simp [h3, show x < i + 1 by omega]
      · simp [h3, show ¬ x < i + 1 by omega]
    · simp [h2]
theorem ident_zero (n : Nat) : List.replicate (n * n) 0 = grid n n (fun x y => if x = y ∧ x < 0 then oneF else 0) := by
  unfold grid; simp [const_range]
theorem ident_done (n : Nat) : grid n n (fun x y => if x = y ∧ x < n then oneF else 0) = grid n n idG :=
  grid_congr fun i j hi hj => by unfold idG; simp [hi]

theorem grid_put {r c i j x : Nat} {g : Nat → Nat → Nat} (hi : i < r) (hj : j < c) : (grid r c g).set (i * c + j) x = grid r c (fun a b => if a = i ∧ b = j then x else g a b) := by
  have hidx := idxL hi hj
  refine grid_of (by simp [grid_len]) fun a b ha hb => ?_
  rw [set_getD (by rw [grid_len]; exact hidx), grid_at ha hb]
  by_cases h : a = i ∧ b = j
  · obtain ⟨rfl, rfl⟩ := h; simp
  · rw [if_neg h, if_neg (fun e => h (idx_inj' hb hj e))]

def turnG (l : List Nat) (c : Nat) (i j : Nat) : Nat := l.getD (j * c + i) 0

theorem transp_t (r c : Int) (l : List Nat) : T_matrix_Transpose r c l = some (if rightB r c l.length then (c, r, grid c.toNat r.toNat (turnG l c.toNat), 0) else noMat 4) := by
  unfold T_matrix_Transpose
  rw [right_t, Option.bind_some]
  cases hR : rightB r c l.length with
  | false => rfl
  | true =>
    obtain ⟨a, b, rfl, rfl, ha, hb, hl, h2⟩ := rightB_nat hR
    rw [Bool.not_true, cF, laid_t hb ha (g := turnG l b) (fun i j hi hj => by
      unfold T_matrix_Transpose_1
      have := idxL hj hi
      rw [wrIdx hj hi (by omega), at_getD 0 (by omega)]; rfl)]
    simp


end Go.Eng
