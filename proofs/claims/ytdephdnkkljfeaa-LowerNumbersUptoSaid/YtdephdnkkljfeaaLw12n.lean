/-
  LowerNumbers: as many rows as there may be, one more, what is refused and at which row. A closed statement. No condition.
-/
import Derived.Test.YtdephdnkkljfeaaPl12d
import Derived.Test.YtdephdnkkljfeaaWk
import Derived.Test.YtdephdnkkljfeaaLw0
set_option linter.all false
set_option maxRecDepth 100000
set_option maxHeartbeats 4000000
namespace Go.Eng
open Go
def twoF : Nat := 4611686018427387904
theorem two_nf : nf 4611686018427387904 = twoF := by decide +kernel
def diaG (i : Nat) (x y : Nat) : Nat := if x = y ∧ x < i then twoF else 0
theorem rep_at (n i : Nat) : (List.replicate n 0).getD i 0 = 0 := by
  rw [List.getD_eq_getElem?_getD]
  by_cases h : i < n
  · simp [h]
  · simp [h]
theorem rep_two {n i : Nat} (h : i < n) : (List.replicate n twoF).getD i 0 = twoF := by
  simp [List.getD_eq_getElem?_getD, h]
theorem two_none : fmul 0 (fmul 0 twoF) = 0 ∧ fsub twoF 0 = twoF ∧ fsub 0 0 = 0 ∧ fdiv 0 twoF = 0 ∧ fgt twoF 0 = true ∧ finQ twoF = true ∧ finQ 0 = true := by decide +kernel
theorem sub_none {f g : Nat → Nat} {s : Nat} (hs : fsub s 0 = s) : ∀ {k : Nat}, (∀ j, j < k → fmul (f j) (g j) = 0) → subS f g s k = s
  | 0, _ => rfl
  | k + 1, h => by
    show fsub (subS f g s k) (fmul (f k) (g k)) = s
    rw [sub_none hs fun j hj => h j (by omega), h k (by omega), hs]
theorem dia_fac {n : Nat} (hn : n ≤ 48) : Fac (grid n n (diaG n)) n (List.replicate (tri n) 0) (List.replicate n twoF) := by
  obtain ⟨t1, t2, t3, t4, t5, t6, t7⟩ := two_none
  have col : ∀ i j, i < n → j ≤ i → colS (grid n n (diaG n)) n (List.replicate (tri n) 0) (List.replicate n twoF) i j = if i = j then twoF else 0 := fun i j hi hj => by
    unfold colS
    have e : (grid n n (diaG n)).getD (i * n + j) 0 = if i = j then twoF else 0 := by
      rw [grid_at hi (by omega)]
      unfold diaG
      by_cases c : i = j
      · rw [if_pos ⟨c, hi⟩, if_pos c]
      · rw [if_neg (fun h => c h.1), if_neg c]
    rw [e]
    refine sub_none (by split <;> assumption) fun k hk => ?_
    unfold vsN lowG
    rw [rep_at, rep_at, rep_two (by omega), t1]
  refine ⟨by simp, by simp, fun j hj => ?_, fun i j hj hi _ => ?_⟩
  · rw [rep_two hj, col j j hj (Nat.le_refl _), if_pos rfl]
    exact ⟨rfl, t5, t6⟩
  · unfold lowG
    rw [rep_at, rep_two (by omega), col i j hi (by omega), if_neg (by omega), t4]
    exact ⟨rfl, t7⟩
theorem dia_squ {n : Nat} (hn : n ≤ 48) : Squ n (grid n n (diaG n)) := by
  obtain ⟨t1, t2, t3, t4, t5, t6, t7⟩ := two_none
  refine ⟨hn, grid_len .., fun i j hi hj => ?_, fun k hk => ?_⟩
  · rw [grid_at hi hj, grid_at hj hi]
    unfold diaG
    by_cases c : i = j
    · subst c; rfl
    · rw [if_neg (fun h => c h.1), if_neg (fun h => c h.1.symm)]
  · rw [grid_len] at hk
    have e : (grid n n (diaG n)).getD k 0 = diaG n (k / n) (k % n) := by
      simp [grid, List.getD_eq_getElem?_getD, hk]
    rw [e]
    unfold diaG
    split <;> assumption
theorem fill_t {n : Nat} (hn : n ≤ 49) : iter (T_w12_LowerNumbers_b7 (n : Int)) FU (0, List.replicate (n * n) 0) = some (grid n n (diaG n)) := by
  have hnn : n * n ≤ 49 * 49 := Nat.mul_le_mul hn hn
  have z : List.replicate (n * n) 0 = grid n n (diaG 0) := grid_of (by simp) fun i j hi hj => by
    rw [rep_at]
    unfold diaG
    rw [if_neg (by omega)]
  have := iter_nat (b := T_w12_LowerNumbers_b7 (n : Int)) (fun i => (((i : Nat) : Int), grid n n (diaG i))) (o := grid n n (diaG n)) n (by rw [FU_eq]; omega) (fun i hi => by
    have hk := idxL hi hi
    unfold T_w12_LowerNumbers_b7
    dsimp only
    rw [cond_t (by rw [decide_eq_true_eq]; omega), wrIdx hi hi (by omega), at_getD 0 (by rw [grid_len]; exact hk)]
    simp only [Option.bind_some, Int.toNat_natCast]
    rw [two_nf, grid_put hi hi, wrU (by omega)]
    congr 3
    refine grid_congr fun x y hx hy => ?_
    unfold diaG
    by_cases c : x = i ∧ y = i
    · rw [if_pos c, if_pos ⟨by omega, by omega⟩]
    · rw [if_neg c]
      by_cases d : x = y ∧ x < i
      · rw [if_pos d, if_pos ⟨d.1, by omega⟩]
      · rw [if_neg d, if_neg (fun h => by omega)]) (by
    unfold T_w12_LowerNumbers_b7
    dsimp only
    rw [cond_f (by rw [decide_eq_false_iff_not]; omega)])
  rw [z]
  exact this
theorem lright_yes {n : Nat} {l d : List Nat} (hn : n ≤ 48) (hl : l.length = tri n) (hd : d.length = n) : T_lower_Right n l d = some true := by
  rcases right_cases (n : Int) l d with ⟨h, _⟩ | h
  · exact h
  · unfold T_lower_Right at h
    rw [cond_t (by rw [decide_eq_true_eq]; omega), cond_t (by rw [decide_eq_true_eq]; omega), triInt (by omega), hl, hd, Option.bind_some, cond_t (by rw [beq_iff_eq]), Option.bind_some, beq_self_eq_true] at h
    cases h
theorem step_in {n : Nat} (h0 : 40 ≤ n) (hn : n ≤ 48) : T_w12_LowerNumbers_b5 (n : Int) = some (.inl ((n + 1 : Nat) : Int)) := by
  have hnn : n * n ≤ 49 * 49 := Nat.mul_le_mul (by omega) (by omega)
  have ht := tri_le hn
  unfold T_w12_LowerNumbers_b5
  dsimp only
  rw [cond_t (by rw [decide_eq_true_eq]; omega), wrMul (by omega), mk_nat (by omega), Option.bind_some, nf_zero, fill_t (by omega), Option.bind_some, factor_of (dia_squ hn) (dia_fac hn), Option.bind_some]
  dsimp only
  have e1 : (((n : Nat) : Int) == 49) = false := by rw [beq_eq_false_iff_ne]; omega
  have e2 : decide (((n : Nat) : Int) ≤ 48) = true := by rw [decide_eq_true_eq]; omega
  have e3 : (((n : Nat) : Int) != ((n : Nat) : Int)) = false := by simp
  have e4 : ((0 : Int) == 0) = true := rfl
  have e5 : ((0 : Int) == 4) = false := rfl
  rw [e1, e2, e3, e4, e5, lright_yes hn (by simp) (by simp)]
  simp only [beq_self_eq_true, Bool.not_true, Bool.not_false, cT, cF, Option.bind_some]
  rw [triInt (by omega), mk_nat (by omega), mk_nat (by omega)]
  simp only [Option.bind_some]
  rw [lright_yes hn (by simp) (by simp)]
  simp only [beq_self_eq_true, Bool.not_true, cF, Option.bind_some]
  rw [wrU (by omega)]
theorem step_49 : T_w12_LowerNumbers_b5 (49 : Int) = some (.inl 50) := by
  have e : ∀ l : List Nat, T_lower_Factor 49 49 l = some (0, [], [], 4, 0) := fun l => by
    unfold T_lower_Factor
    rw [symm_t]
    have : symB 49 49 l = false := by
      unfold symB rightB
      rw [decide_eq_false (by omega)]; rfl
    rw [this]; rfl
  have r : ∀ l d : List Nat, T_lower_Right 49 l d = some false := fun l d => rfl
  have hw : IntKind.i64.wrap ((49 : Int) * 49) = ((49 * 49 : Nat) : Int) := by decide
  unfold T_w12_LowerNumbers_b5
  dsimp only
  rw [cond_t (by decide), hw, mk_nat (by omega), Option.bind_some, nf_zero]
  have f := fill_t (n := 49) (by omega)
  have f : iter (T_w12_LowerNumbers_b7 49) FU (0, List.replicate (49 * 49) 0) = _ := f
  rw [f, Option.bind_some, e, Option.bind_some]
  dsimp only
  have e6 : IntKind.i64.wrap ((IntKind.i64.wrap ((49 : Int) * (IntKind.i64.wrap ((49 : Int) - 1)))).tdiv 2) = ((1176 : Nat) : Int) := by decide
  rw [e6, mk_nat (by omega), show (49 : Int) = ((49 : Nat) : Int) from rfl, mk_nat (by omega)]
  simp only [Option.bind_some]
  have r' : ∀ l d : List Nat, T_lower_Right ((49 : Nat) : Int) l d = some false := r
  rw [r']; rfl
theorem first_half : iter T_w12_LowerNumbers_b5 FU 47 = some (.inl ()) := by
  have := iter_nat (b := T_w12_LowerNumbers_b5) (fun k => ((47 + k : Nat) : Int)) (o := .inl ()) 3 (by rw [FU_eq]; omega) (fun k hk => by
    rcases (by omega : k = 0 ∨ k = 1 ∨ k = 2) with c | c | c
    · subst c; exact step_in (n := 47) (by omega) (by omega)
    · subst c; exact step_in (n := 48) (by omega) (by omega)
    · subst c; exact step_49) (by decide +kernel)
  exact this
theorem numbers12 : T_w12_LowerNumbers = some true := by
  unfold T_w12_LowerNumbers
  rw [first_half, Option.bind_some]
  dsimp only
  decide +kernel
section
variable {N : Nums} {P : Program} (H : AllOk N P)
include H
theorem numbers12_f {w : World} : CallsX P N.f_w12_LowerNumbers #[] w fun v w' => v = .bool true ∧ ∃ M, St w w' M :=
  wk_w12_LowerNumbers H (Ho.start w) numbers12 fun w1 h => ⟨rfl, h.some_old⟩
end
end Go.Eng
