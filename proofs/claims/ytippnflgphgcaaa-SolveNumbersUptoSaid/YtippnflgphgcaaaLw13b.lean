/-
  The law SolveNumbers. No condition.
-/
import Derived.Test.YtippnflgphgcaaaLw13
set_option linter.unusedVariables false
set_option linter.unusedSimpArgs false
set_option linter.unnecessarySimpa false
set_option linter.unusedSectionVars false
set_option maxRecDepth 1000000
set_option maxHeartbeats 4000000
namespace Go.Eng
open Go

/-! ### A factor with no L and with 2 on the diagonal -/

def twoF : Nat := 4611686018427387904
def halfF : Nat := 4602678819172646912
/-- The numbers that come. -/
def fewN (x : Nat) : Prop := x = 0 ∨ x = oneF ∨ x = halfF

theorem few_sub {x y : Nat} (hx : fewN x) (hy : fewN y) : fsub x (fmul 0 y) = x := by
  rcases hx with rfl | rfl | rfl <;> rcases hy with rfl | rfl | rfl <;> decide +kernel
theorem few_div {x : Nat} (hx : x = 0 ∨ x = oneF) : fewN (fdiv x twoF) := by
  rcases hx with rfl | rfl
  · exact .inl (by decide +kernel)
  · exact .inr (.inr (by decide +kernel))
theorem few_subN {f g : Nat → Nat} {s : Nat} (hf : ∀ k, f k = 0) (hg : ∀ k, fewN (g k)) (hs : fewN s) : ∀ n, subN f g s n = s
  | 0 => rfl
  | n + 1 => by
    unfold subN
    rw [few_subN hf hg hs n, hf, few_sub hs (hg n)]

theorem few_getD {l : List Nat} (h : ∀ x ∈ l, fewN x) (i : Nat) : fewN (l.getD i 0) := by
  rw [List.getD_eq_getElem?_getD]
  rcases Nat.lt_or_ge i l.length with hi | hi
  · rw [List.getElem?_eq_getElem hi]; exact h _ (List.getElem_mem hi)
  · rw [List.getElem?_eq_none hi]; exact .inl rfl
theorem fw_zero {l b : List Nat} (hl : ∀ i j, lowG l i j = 0) (hb : ∀ i, fewN (b.getD i 0)) : ∀ i, fw l b i = (List.range i).map fun k => b.getD k 0
  | 0 => rfl
  | i + 1 => by
    unfold fw
    rw [fw_zero hl hb i, few_subN (hl i) (fun k => few_getD (fun x hx => by
      obtain ⟨k, _, rfl⟩ := List.mem_map.1 hx
      exact hb k) k) (hb i)]
    exact map_range_snoc (G := fun k => b.getD k 0)
theorem bk_zero {l : List Nat} {q : Nat → Nat} {n : Nat} (hl : ∀ i j, lowG l i j = 0) (hq : ∀ i, fewN (q i)) : ∀ k, k ≤ n → bk l q n k = (List.range k).map fun m => q (n - k + m)
  | 0, _ => rfl
  | k + 1, hk => by
    have ih := bk_zero (n := n) hl hq k (by omega)
    unfold bk
    rw [ih, few_subN (fun m => hl _ _) (fun m => few_getD (fun x hx => by
      obtain ⟨k, _, rfl⟩ := List.mem_map.1 hx
      exact hq _) m) (hq _), List.range_succ_eq_map, List.map_cons, List.map_map]
    congr 1
    · rw [show n - (k + 1) + 0 = n - 1 - k by omega]
    · apply List.map_congr_left
      intro m hm
      show q (n - k + m) = q (n - (k + 1) + (m + 1))
      rw [show n - k + m = n - (k + 1) + (m + 1) by omega]

theorem low_zero (n i j : Nat) : lowG (List.replicate n 0) i j = 0 := by
  unfold lowG
  rw [List.getD_eq_getElem?_getD, List.getElem?_replicate]; split <;> rfl
theorem sol_zero {n i r : Nat} {N : Nat} {d : List Nat} (hd : d = List.replicate n twoF) (hi : i < n) (hr : r < n) : (solU (List.replicate N 0) d n i).getD r 0 = fdiv (idG i r) twoF := by
  have ub : ∀ k, k < n → (unitL n i).getD k 0 = idG i k := fun k hk => by simp [unitL, List.getD_eq_getElem?_getD, hk]
  have uo : ∀ k, (unitL n i).getD k 0 = 0 ∨ (unitL n i).getD k 0 = oneF := fun k => by
    rcases Nat.lt_or_ge k n with hk | hk
    · rw [ub k hk]; unfold idG; split
      · exact .inr rfl
      · exact .inl rfl
    · rw [List.getD_eq_getElem?_getD, List.getElem?_eq_none (by simpa [unitL] using hk)]; exact .inl rfl
  have uf : ∀ k, fewN ((unitL n i).getD k 0) := fun k => (uo k).elim .inl fun h => .inr (.inl h)
  have hfw : fw (List.replicate N 0) (unitL n i) n = unitL n i := by
    rw [fw_zero (low_zero N) uf]
    exact List.map_congr_left fun k hk => ub k (List.mem_range.1 hk)
  have hdk : ∀ k, k < n → d.getD k 0 = twoF := fun k hk => by subst hd; simp [List.getD_eq_getElem?_getD, hk]
  let q' := fun k => if k < n then quoG d (unitL n i) k else 0
  have hq : ∀ k, fewN (q' k) := fun k => by
    show fewN (if k < n then quoG d (unitL n i) k else 0)
    split
    · rename_i hk
      unfold quoG; rw [hdk k hk]; exact few_div (uo k)
    · exact .inl rfl
  have same : ∀ k, k ≤ n → bk (List.replicate N 0) (quoG d (unitL n i)) n k = bk (List.replicate N 0) q' n k := by
    intro k
    induction k with
    | zero => intro _; rfl
    | succ k ih =>
      intro hk
      have e : quoG d (unitL n i) (n - 1 - k) = q' (n - 1 - k) := by show _ = if _ then _ else _; rw [if_pos (by omega)]
      unfold bk
      rw [ih (by omega), e]
  unfold solU
  rw [hfw, same n (Nat.le_refl _), bk_zero (low_zero N) hq n (Nat.le_refl _)]
  have : ((List.range n).map fun m => q' (n - n + m)).getD r 0 = q' r := by simp [List.getD_eq_getElem?_getD, hr]
  rw [this]
  show (if r < n then quoG d (unitL n i) r else 0) = _
  rw [if_pos hr]
  unfold quoG
  rw [ub r hr, hdk r hr]

theorem far_right {l d : List Nat} (hl : l.length = 1128) (hd : d.length = 48) : T_lower_Right 48 l d = some true := by
  unfold T_lower_Right
  simp only [Option.bind_some, hl, hd]
  rfl
theorem far_zero {q : Int} {l : List Nat} : T_girderref13_zero q l (List.replicate 48 twoF) = some false := by
  have : T_girderref13_zero 0 [] (List.replicate 48 twoF) = some false := by decide +kernel
  exact this

theorem far_inverse : ∃ x : List Nat, T_solve_Inverse 48 (List.replicate 1128 0) (List.replicate 48 twoF) = some (48, 48, x, 0) ∧ x.length = 2304 ∧ x.getD 0 0 = halfF ∧ x.getD 2303 0 = halfF := by
  have hR := far_right (l := List.replicate 1128 0) (d := List.replicate 48 twoF) (by simp) (by simp)
  obtain ⟨h1, _⟩ := inverse_good (n := 48) hR rfl (Nat.le_refl _) (by rw [List.length_replicate]; rfl) (by simp) far_zero
  have g : ∀ i j, i < 48 → j < 48 → (grid 48 48 (invG (List.replicate 1128 0) (List.replicate 48 twoF) 48)).getD (i * 48 + j) 0 = fdiv (idG j i) twoF := fun i j hi hj => by
    rw [grid_at hi hj]; unfold invG; exact sol_zero rfl hj hi
  refine ⟨_, h1, by rw [grid_len], ?_, ?_⟩
  · exact (g 0 0 (by omega) (by omega)).trans (by decide +kernel)
  · exact (g 47 47 (by omega) (by omega)).trans (by decide +kernel)

theorem too_far {l d : List Nat} : T_solve_Inverse 49 l d = some (0, 0, [], 4) := by
  have : T_lower_Right 49 l d = some false := rfl
  unfold T_solve_Inverse
  rw [fits_no this]; rfl
theorem below_none : T_solve_Solve (-1) (List.map nf []) (List.map nf []) (List.map nf []) = some ([], 4) := by decide +kernel

/-- The loop that fills the diagonal. -/
theorem fill_two : iter T_girderlaw13_SolveNumbers_b2 FU (0, List.replicate 48 0) = some (List.replicate 48 twoF) := by
  have e : nf 4611686018427387904 = twoF := by decide +kernel
  have := iter_nat (b := T_girderlaw13_SolveNumbers_b2) (fun k => (((k : Nat) : Int), filled 48 0 (fun _ => twoF) k)) (o := List.replicate 48 twoF) 48 (by rw [FU_eq]; omega) (fun k hk => by
    unfold T_girderlaw13_SolveNumbers_b2
    dsimp only
    rw [cond_t (by simp; omega), at_getD 0 (by rw [filled_len (by omega)]; exact hk)]
    simp only [Option.bind_some, Int.toNat_natCast]
    rw [e, filled_set (G := fun _ => twoF) hk, wrU (by omega)]) (by
    unfold T_girderlaw13_SolveNumbers_b2
    dsimp only
    rw [cond_f (by simp), filled_full, const_range])
  rw [filled_zero] at this
  exact this

theorem bind_eq {α β : Type} {x : Option α} {f : α → Option β} {a : α} {y : Option β} (h : x = some a) (h2 : f a = y) : x.bind f = y := by subst h; exact h2

theorem numbers13 : T_girderlaw13_SolveNumbers = some true := by
  unfold T_girderlaw13_SolveNumbers
  refine bind_eq (a := (1, [], [0])) (by decide +kernel) ?_
  try dsimp only
  refine bind_eq (a := [4617315517961601024]) (by decide +kernel) ?_
  try dsimp only
  refine bind_eq (a := ([4617315517961601024], 0)) (by decide +kernel) ?_
  try dsimp only
  refine bind_eq (a := (1, [], [0])) (by decide +kernel) ?_
  try dsimp only
  refine bind_eq (a := [4617315517961601024]) (by decide +kernel) ?_
  try dsimp only
  refine bind_eq (a := ([], 7)) (by decide +kernel) ?_
  try dsimp only
  refine bind_eq (a := 9223372036854775808) (by decide +kernel) ?_
  try dsimp only
  refine bind_eq (a := (1, [], [9223372036854775808])) (by decide +kernel) ?_
  try dsimp only
  refine bind_eq (a := [4617315517961601024]) (by decide +kernel) ?_
  try dsimp only
  refine bind_eq (a := ([], 7)) (by decide +kernel) ?_
  try dsimp only
  refine bind_eq (a := 9218868437227405312) (by decide +kernel) ?_
  try dsimp only
  refine bind_eq (a := (1, [], [9218868437227405312])) (by decide +kernel) ?_
  try dsimp only
  refine bind_eq (a := [13840687554816376832]) (by decide +kernel) ?_
  try dsimp only
  refine bind_eq (a := ([9223372036854775808], 0)) (by decide +kernel) ?_
  try dsimp only
  refine bind_eq (a := qnan) (by decide +kernel) ?_
  try dsimp only
  refine bind_eq (a := (1, [], [qnan])) (by decide +kernel) ?_
  try dsimp only
  refine bind_eq (a := [4617315517961601024]) (by decide +kernel) ?_
  try dsimp only
  refine bind_eq (a := ([qnan], 0)) (by decide +kernel) ?_
  try dsimp only
  refine bind_eq (a := (1, [], [4607182418800017408])) (by decide +kernel) ?_
  try dsimp only
  refine bind_eq (a := [4617315517961601024, 4617315517961601024]) (by decide +kernel) ?_
  try dsimp only
  refine bind_eq (a := ([], 4)) (by decide +kernel) ?_
  try dsimp only
  refine bind_eq (a := [4607182418800017408, 4607182418800017408]) (by decide +kernel) ?_
  try dsimp only
  refine bind_eq (a := [4617315517961601024, 4617315517961601024]) (by decide +kernel) ?_
  try dsimp only
  refine bind_eq (a := ([], 4)) (by decide +kernel) ?_
  try dsimp only
  refine bind_eq (a := ([], 0)) (by decide +kernel) ?_
  try dsimp only
  refine bind_eq (a := (0, 0, [], 0)) (by decide +kernel) ?_
  try dsimp only
  refine bind_eq (a := (1, [], [0])) (by decide +kernel) ?_
  try dsimp only
  refine bind_eq (a := (0, 0, [], 7)) (by decide +kernel) ?_
  try dsimp only
  refine bind_eq (a := true) (by decide +kernel) ?_
  try dsimp only
  refine bind_eq (a := true) (by decide +kernel) ?_
  try dsimp only
  have m1 : mkL (nf 0) 1128 1128 = some (List.replicate 1128 0) := by
    rw [nf_zero]
    exact mk_nat (d := 0) (n := 1128) (by omega)
  have m2 : mkL (nf 0) 48 48 = some (List.replicate 48 0) := by
    rw [nf_zero]
    exact mk_nat (d := 0) (n := 48) (by omega)
  have m3 : mkL (nf 0) 1176 1176 = some (List.replicate 1176 0) := by
    rw [nf_zero]
    exact mk_nat (d := 0) (n := 1176) (by omega)
  have m4 : mkL (nf 0) 49 49 = some (List.replicate 49 0) := by
    rw [nf_zero]
    exact mk_nat (d := 0) (n := 49) (by omega)
  refine bind_eq (a := (List.replicate 48 0, List.replicate 1128 0)) (by rw [m1, m2]; rfl) ?_
  dsimp only
  obtain ⟨x, h1, h2, h3, h4⟩ := far_inverse
  refine bind_eq fill_two ?_
  refine bind_eq h1 ?_
  dsimp only
  refine bind_eq (a := (4, 0, 0, [])) (by rw [m3, m4, Option.bind_some, Option.bind_some, too_far]; rfl) ?_
  dsimp only
  refine bind_eq below_none ?_
  dsimp only
  have e0 := at_getD (l := x) (i := 0) 0 (by omega)
  have e1 := at_getD (l := x) (i := 2303) 0 (by omega)
  rw [h3] at e0
  rw [h4] at e1
  have e0 : atI x 0 = some halfF := e0
  have e1 : atI x 2303 = some halfF := e1
  have f0 : feq halfF (nf 4602678819172646912) = true := by decide +kernel
  have hx : ((x.length : Nat) : Int) = 2304 := by rw [h2]; rfl
  simp only [Option.bind_some, hx, e0, e1, f0, awake13, cT, beq_self_eq_true, List.length_nil]
  rfl

section
variable {N : Nums} {P : Program} (H : AllOk N P)
include H
theorem numbers13_f {w : World} : CallsX P N.f_girderlaw13_SolveNumbers #[] w fun v w' => v = .bool true ∧ ∃ M, St w w' M :=
  wk_girderlaw13_SolveNumbers H (Ho.start w) numbers13 fun w1 h => ⟨rfl, h.some_old⟩
end
end Go.Eng
