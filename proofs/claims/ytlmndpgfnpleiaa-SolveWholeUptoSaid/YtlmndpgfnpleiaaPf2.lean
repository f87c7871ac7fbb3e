/-
  Solving with a factor on the plain side: the code and its reference are one. No condition.
-/
import Derived.Test.YtlmndpgfnpleiaaPf
set_option linter.unusedVariables false
set_option linter.unusedSimpArgs false
set_option linter.unnecessarySimpa false
set_option linter.unusedSectionVars false
set_option maxRecDepth 100000
set_option maxHeartbeats 4000000
namespace Go.Eng
open Go

theorem datum_swap (a b : Ieee.Datum) : a.order b = (b.order a).map Ordering.swap := by
  cases a with
  | nan => cases b <;> rfl
  | infinity s =>
    cases b with
    | nan => rfl
    | infinity t => cases s <;> cases t <;> rfl
    | number t n j => cases s <;> rfl
  | number s m i =>
    cases b with
    | nan => rfl
    | infinity t => cases t <;> rfl
    | number t n j =>
      simp only [Ieee.Datum.order, Option.map_some]
      rw [Int.min_comm j i, Int.compare_swap]
theorem feq_comm (x y : Nat) : feq x y = feq y x := by
  unfold feq Ieee.Format.order
  rw [datum_swap]
  cases (Ieee.double.read y).order (Ieee.double.read x) with
  | none => rfl
  | some o => cases o <;> rfl

theorem zero_both (q : Int) (l : List Nat) {d : List Nat} (hd : d.length ≤ 4096) :
    ∃ z, T_slices_Contains___float64_float64 d (nf 0) = some z ∧ T_girderref13_zero q l d = some z ∧ (z = true → 0 < d.length) := by
  unfold T_slices_Contains___float64_float64 T_slices_Index___float64_float64 T_girderref13_zero
  simp only [Option.bind_some]
  have s1 : ∀ i, i < d.length → feq (d.getD i 0) (nf 0) = false → T_slices_Index___float64_float64_b2 ((d.length : Nat) : Int) d (nf 0) (i : Int) = some (.inl ((i + 1 : Nat) : Int)) := fun i hi h => by
    unfold T_slices_Index___float64_float64_b2
    dsimp only
    rw [cond_t (by simp; omega), at_getD 0 hi, Option.bind_some, Option.bind_some, feq_comm, h, cF, wrU (by omega)]
  have s2 : ∀ i, i < d.length → feq (d.getD i 0) (nf 0) = false → T_girderref13_zero_b2 d (i : Int) = some (.inl ((i + 1 : Nat) : Int)) := fun i hi h => by
    unfold T_girderref13_zero_b2
    simp only [Option.bind_some]
    rw [cond_t (by simp; omega), at_getD 0 hi, Option.bind_some, h, cF, wrU (by omega)]
  rcases first_mark (fun i => feq (d.getD i 0) (nf 0)) d.length with h | ⟨i, hi, h1, h2⟩
  · have t1 := iter_nat (b := T_slices_Index___float64_float64_b2 ((d.length : Nat) : Int) d (nf 0)) (fun i => ((i : Nat) : Int)) (o := .inl ()) d.length (by rw [FU_eq]; omega) (fun i hi => s1 i hi (h i hi)) (by
      unfold T_slices_Index___float64_float64_b2
      dsimp only
      rw [cond_f (by simp)])
    have t2 := iter_nat (b := T_girderref13_zero_b2 d) (fun i => ((i : Nat) : Int)) (o := .inl ()) d.length (by rw [FU_eq]; omega) (fun i hi => s2 i hi (h i hi)) (by
      unfold T_girderref13_zero_b2
      simp only [Option.bind_some]
      rw [cond_f (by simp)])
    rw [show ((0 : Nat) : Int) = 0 from rfl] at t1 t2
    rw [t1, t2]
    exact ⟨false, rfl, rfl, fun h => by cases h⟩
  · have t1 := iter_nat (b := T_slices_Index___float64_float64_b2 ((d.length : Nat) : Int) d (nf 0)) (fun i => ((i : Nat) : Int)) (o := .inr (i : Int)) i (by rw [FU_eq]; omega) (fun j hj => s1 j (by omega) (h2 j hj)) (by
      unfold T_slices_Index___float64_float64_b2
      dsimp only
      rw [cond_t (by simp; omega), at_getD 0 hi, Option.bind_some, Option.bind_some, feq_comm, h1, cT])
    have t2 := iter_nat (b := T_girderref13_zero_b2 d) (fun i => ((i : Nat) : Int)) (o := .inr true) i (by rw [FU_eq]; omega) (fun j hj => s2 j (by omega) (h2 j hj)) (by
      unfold T_girderref13_zero_b2
      simp only [Option.bind_some]
      rw [cond_t (by simp; omega), at_getD 0 hi, Option.bind_some, h1, cT])
    rw [show ((0 : Nat) : Int) = 0 from rfl] at t1 t2
    rw [t1, t2]
    refine ⟨true, ?_, rfl, fun _ => by omega⟩
    simp

theorem fits_no {q k : Int} {l d : List Nat} (h : T_lower_Right q l d = some false) : T_solve_fits q l d k = some 4 := by
  unfold T_solve_fits; rw [h]; rfl
theorem fits_off {q k : Int} {l d : List Nat} (h : T_lower_Right q l d = some true) (hk : k ≠ q) : T_solve_fits q l d k = some 4 := by
  unfold T_solve_fits; rw [h, Option.bind_some]; rw [cond_t (by rfl), cond_t (by simpa using hk)]
theorem fits_yes {q k : Int} {l d : List Nat} (h : T_lower_Right q l d = some true) (hk : k = q) : T_solve_fits q l d k = some 0 := by
  unfold T_solve_fits; rw [h, Option.bind_some]; rw [cond_t (by rfl), cond_f (by simpa using hk)]

theorem clone_t {l : List Nat} (h : l.length ≤ 4294967296) : T_slices_Clone___float64_float64 l = some l := by
  unfold T_slices_Clone___float64_float64; rw [cond_t (by simpa using h)]

/-! ### What is the same in code and reference -/

theorem forward_good {q : Int} {l d b : List Nat} {n : Nat} (hR : T_lower_Right q l d = some true) (hq : q = n) (hn : n ≤ 48) (hl : l.length = tri n) (hb : b.length = n) :
    T_solve_Forward q l d b = some (fw l b n, 0) ∧ T_girderref13_Forward q l d b = some (fw l b n, 0) := by
  constructor
  · unfold T_solve_Forward
    rw [Option.bind_some, fits_yes hR (by omega), Option.bind_some, cond_f (by rfl), clone_t (by omega), Option.bind_some, Option.bind_some, forward_t hn hl hb]; rfl
  · unfold T_girderref13_Forward
    rw [rright13, hR]
    simp only [Option.bind_some, Bool.not_true, Bool.not_false, cT]
    subst hq
    rw [cond_f (by simp [hb]), mk_nat (by omega), Option.bind_some, nf_zero, rforward_t hn hl hb]; rfl
theorem forward_bad {q : Int} {l d b : List Nat} (h : T_lower_Right q l d = some false ∨ T_lower_Right q l d = some true ∧ ((b.length : Nat) : Int) ≠ q) :
    T_solve_Forward q l d b = some ([], 4) ∧ T_girderref13_Forward q l d b = some ([], 4) := by
  rcases h with h | ⟨h, hb⟩
  · constructor
    · unfold T_solve_Forward; rw [Option.bind_some, fits_no h]; rfl
    · unfold T_girderref13_Forward; rw [rright13, h]; rfl
  · constructor
    · unfold T_solve_Forward; rw [Option.bind_some, fits_off h hb]; rfl
    · unfold T_girderref13_Forward; rw [rright13, h]
      simp only [Option.bind_some, Bool.not_true, Bool.not_false, cT]
      rw [cond_t (by simpa using hb)]; rfl
theorem back_good {q : Int} {l d b : List Nat} {n : Nat} (hR : T_lower_Right q l d = some true) (hq : q = n) (hn : n ≤ 48) (hl : l.length = tri n) (hd : d.length = n) (hb : b.length = n) :
    (0 < n ∧ T_slices_Contains___float64_float64 d (nf 0) = some true ∧ T_girderref13_zero q l d = some true ∧ T_solve_Back q l d b = some ([], 7) ∧ T_girderref13_Back q l d b = some ([], 7)) ∨
    (T_slices_Contains___float64_float64 d (nf 0) = some false ∧ T_girderref13_zero q l d = some false ∧ T_solve_Back q l d b = some (bk l (quoG d b) n n, 0) ∧ T_girderref13_Back q l d b = some (bk l (quoG d b) n n, 0)) := by
  obtain ⟨z, h1, h2, h3⟩ := zero_both q l (d := d) (by omega)
  have c : T_solve_Back q l d b = cond z (some ([], 7)) (some (bk l (quoG d b) n n, 0)) := by
    unfold T_solve_Back
    rw [Option.bind_some, fits_yes hR (by omega), Option.bind_some, cond_f (by rfl), h1, Option.bind_some, clone_t (by omega)]
    cases z
    · rw [cF, cF, Option.bind_some, Option.bind_some, quo_t hn hd hb, Option.bind_some, Option.bind_some, back_t hn hl (by simp), Option.bind_some]
      have key : ∀ k, k ≤ n → bk l (fun i => ((List.range n).map (quoG d b)).getD i 0) n k = bk l (quoG d b) n k := by
        intro k
        induction k with
        | zero => intro _; rfl
        | succ k ih =>
          intro hk
          have e : ((List.range n).map (quoG d b)).getD (n - 1 - k) 0 = quoG d b (n - 1 - k) := by
            simp [List.getD_eq_getElem?_getD, show n - 1 - k < n by omega]
          unfold bk
          rw [ih (by omega), e]
      have this := key n (Nat.le_refl _)
      rw [this]
    · rfl
  have r : T_girderref13_Back q l d b = cond z (some ([], 7)) (some (bk l (quoG d b) n n, 0)) := by
    unfold T_girderref13_Back
    rw [rright13, hR]
    simp only [Option.bind_some, Bool.not_true, Bool.not_false, cT]
    rw [cond_f (by simp; omega), h2, Option.bind_some]
    cases z
    · subst hq
      rw [cF, cF, mk_nat (by omega), Option.bind_some, nf_zero, wrI (by omega) (by omega), rback_t hn hl hd hb]; rfl
    · rfl
  cases z
  · exact .inr ⟨h1, h2, c, r⟩
  · exact .inl ⟨by have := h3 rfl; omega, h1, h2, c, r⟩

/-- What both answer: a list and an error, the same. -/
structure Same2 (f g : Option (List Nat × Int)) (n : Nat) : Prop where
  eq : f = g
  is : ∃ x e, f = some (x, e) ∧ x.length ≤ 48 ∧ (e = 0 → x.length = n)

theorem forward_same (q : Int) (l d : List Nat) {b : List Nat} : Same2 (T_solve_Forward q l d b) (T_girderref13_Forward q l d b) b.length := by
  rcases right_cases q l d with ⟨hR, n, hq, hn, hl, hd⟩ | hR
  · by_cases hb : b.length = n
    · obtain ⟨h1, h2⟩ := forward_good hR hq hn hl hb
      exact ⟨h1.trans h2.symm, _, _, h1, by rw [fw_len]; exact hn, fun _ => by rw [fw_len, hb]⟩
    · obtain ⟨h1, h2⟩ := forward_bad (q := q) (l := l) (d := d) (b := b) (.inr ⟨hR, by omega⟩)
      exact ⟨h1.trans h2.symm, _, _, h1, by simp, fun h => by cases h⟩
  · obtain ⟨h1, h2⟩ := forward_bad (q := q) (l := l) (d := d) (b := b) (.inl hR)
    exact ⟨h1.trans h2.symm, _, _, h1, by simp, fun h => by cases h⟩

theorem back_bad {q : Int} {l d b : List Nat} (h : T_lower_Right q l d = some false ∨ T_lower_Right q l d = some true ∧ ((b.length : Nat) : Int) ≠ q) :
    T_solve_Back q l d b = some ([], 4) ∧ T_girderref13_Back q l d b = some ([], 4) := by
  rcases h with h | ⟨h, hb⟩
  · constructor
    · unfold T_solve_Back; rw [Option.bind_some, fits_no h]; rfl
    · unfold T_girderref13_Back; rw [rright13, h]; rfl
  · constructor
    · unfold T_solve_Back; rw [Option.bind_some, fits_off h hb]; rfl
    · unfold T_girderref13_Back; rw [rright13, h]
      simp only [Option.bind_some, Bool.not_true, Bool.not_false, cT]
      rw [cond_t (by simpa using hb)]; rfl

theorem back_same (q : Int) (l d : List Nat) {b : List Nat} : Same2 (T_solve_Back q l d b) (T_girderref13_Back q l d b) b.length := by
  rcases right_cases q l d with ⟨hR, n, hq, hn, hl, hd⟩ | hR
  · by_cases hb : b.length = n
    · rcases back_good hR hq hn hl hd hb with ⟨_, _, _, h1, h2⟩ | ⟨_, _, h1, h2⟩
      · exact ⟨h1.trans h2.symm, _, _, h1, by simp, fun h => by cases h⟩
      · exact ⟨h1.trans h2.symm, _, _, h1, by rw [bk_len]; exact hn, fun _ => by rw [bk_len, hb]⟩
    · obtain ⟨h1, h2⟩ := back_bad (q := q) (l := l) (d := d) (b := b) (.inr ⟨hR, by omega⟩)
      exact ⟨h1.trans h2.symm, _, _, h1, by simp, fun h => by cases h⟩
  · obtain ⟨h1, h2⟩ := back_bad (q := q) (l := l) (d := d) (b := b) (.inl hR)
    exact ⟨h1.trans h2.symm, _, _, h1, by simp, fun h => by cases h⟩

theorem solve_same (q : Int) (l d : List Nat) {b : List Nat} : Same2 (T_solve_Solve q l d b) (T_girderref13_Solve q l d b) b.length := by
  unfold T_solve_Solve T_girderref13_Solve
  obtain ⟨h1, x, e, h2, h3, h4⟩ := forward_same q l d (b := b)
  rw [← h1, h2, Option.bind_some, Option.bind_some]
  dsimp only
  by_cases he : e = 0
  · subst he
    rw [cond_f (by rfl), cond_f (by rfl)]
    obtain ⟨k1, y, f, k2, k3, k4⟩ := back_same q l d (b := x)
    rw [← k1, k2]
    exact ⟨rfl, y, f, rfl, k3, fun h => by rw [k4 h, h4 rfl]⟩
  · rw [cond_t (by simpa using he), cond_t (by simpa using he)]
    exact ⟨rfl, [], e, rfl, by simp, fun h => absurd h he⟩

/-! ### The inverse -/

def unitL (n i : Nat) : List Nat := (List.range n).map (idG i)
theorem unit_put {n i : Nat} (hi : i < n) : (List.replicate n 0).set i oneF = unitL n i := by
  refine ext_getD 0 (by simp [unitL]) fun j hj0 => ?_
  have hj : j < n := by simpa using hj0
  clear hj0
  rw [set_getD (by simpa using hi)]
  unfold unitL
  by_cases h : j = i
  · subst h; simp [List.getD_eq_getElem?_getD, hj, idG]
  · rw [if_neg h]; simp [List.getD_eq_getElem?_getD, hj, idG, Ne.symm h]
theorem unit_part {n i : Nat} (hi : i < n) : ((grid n n idG).drop (i * n)).take n = unitL n i := by
  have hb : i * n + n ≤ n * n := by rw [← Nat.succ_mul]; exact Nat.mul_le_mul_right _ hi
  refine ext_getD 0 (by simp [unitL, grid_len]; omega) fun j hj => ?_
  have hj : j < n := by simp [grid_len] at hj; omega
  have e : (((grid n n idG).drop (i * n)).take n).getD j 0 = (grid n n idG).getD (i * n + j) 0 := by
    simp [List.getD_eq_getElem?_getD, List.getElem?_take, hj]
  rw [e, grid_at hi hj]
  simp [unitL, List.getD_eq_getElem?_getD, hj]

/-- The solution for the unit list i. -/
def solU (l d : List Nat) (n i : Nat) : List Nat := bk l (quoG d (fw l (unitL n i) n)) n n
theorem solU_len (l d : List Nat) (n i : Nat) : (solU l d n i).length = n := bk_len ..
def rowsU (l d : List Nat) (n : Nat) : Nat → List Nat
  | 0 => []
  | i + 1 => rowsU l d n i ++ solU l d n i
theorem rowsU_len (l d : List Nat) (n : Nat) : ∀ i, (rowsU l d n i).length = i * n
  | 0 => by simp [rowsU]
  | i + 1 => by simp [rowsU, rowsU_len l d n i, solU_len, Nat.succ_mul]
theorem rowsU_at {l d : List Nat} {n i j : Nat} (hj : j < n) : ∀ {k}, i < k → (rowsU l d n k).getD (i * n + j) 0 = (solU l d n i).getD j 0
  | 0, h => by omega
  | k + 1, h => by
    unfold rowsU
    by_cases e : i = k
    · subst e
      rw [List.getD_eq_getElem?_getD, List.getElem?_append_right (by rw [rowsU_len]; omega), rowsU_len, ← List.getD_eq_getElem?_getD, Nat.add_sub_cancel_left]
    · rw [app_lt (by rw [rowsU_len]; exact idxL (by omega) hj)]
      exact rowsU_at hj (by omega)

theorem solve_unit {q : Int} {l d b : List Nat} {n : Nat} (hR : T_lower_Right q l d = some true) (hq : q = n) (hn : n ≤ 48) (hl : l.length = tri n) (hd : d.length = n) (hb : b.length = n) :
    (T_girderref13_zero q l d = some true → T_solve_Solve q l d b = some ([], 7) ∧ T_girderref13_Solve q l d b = some ([], 7)) ∧
    (T_girderref13_zero q l d = some false → T_solve_Solve q l d b = some (bk l (quoG d (fw l b n)) n n, 0) ∧ T_girderref13_Solve q l d b = some (bk l (quoG d (fw l b n)) n n, 0)) := by
  unfold T_solve_Solve T_girderref13_Solve
  obtain ⟨h1, h2⟩ := forward_good hR hq hn hl hb
  rw [h1, h2]
  simp only [Option.bind_some]
  rw [cond_f (by rfl), cond_f (by rfl)]
  rcases back_good hR hq hn hl hd (fw_len l b n) with ⟨_, _, z, k1, k2⟩ | ⟨_, z, k1, k2⟩
  · rw [z, k1, k2]
    exact ⟨fun _ => ⟨rfl, rfl⟩, fun h => (by cases h)⟩
  · rw [z, k1, k2]
    exact ⟨fun h => (by cases h), fun _ => ⟨rfl, rfl⟩⟩

def invG (l d : List Nat) (n i j : Nat) : Nat := (solU l d n j).getD i 0

theorem inverse_good {q : Int} {l d : List Nat} {n : Nat} (hR : T_lower_Right q l d = some true) (hq : q = n) (hn : n ≤ 48) (hl : l.length = tri n) (hd : d.length = n) (hz : T_girderref13_zero q l d = some false) :
    T_solve_Inverse q l d = some ((n : Int), (n : Int), grid n n (invG l d n), 0) ∧ T_girderref13_Inverse q l d = some ((n : Int), (n : Int), grid n n (invG l d n), 0) := by
  have hnn : n * n ≤ 2304 := Nat.le_trans (Nat.mul_le_mul hn hn) (by omega)
  have hul : ∀ i, (unitL n i).length = n := fun i => by simp [unitL]
  constructor
  · unfold T_solve_Inverse
    rw [fits_yes hR rfl, Option.bind_some, cond_f (by rfl), ident_t]
    subst hq
    rw [mayB_mk hn hn]
    simp only [if_true, Option.bind_some, Int.toNat_natCast]
    rw [cond_f (by rfl)]
    have := iter_nat (b := T_solve_Inverse_b2 (n : Int) (grid n n idG) l d) (fun i => (((i : Nat) : Int), rowsU l d n i)) (o := .inl (rowsU l d n n)) n (by rw [FU_eq]; omega) (fun i hi => by
      have hb : i * n + n ≤ n * n := by rw [← Nat.succ_mul]; exact Nat.mul_le_mul_right _ hi
      unfold T_solve_Inverse_b2
      dsimp only
      have w1 : IntKind.i64.wrap ((i : Int) * (n : Int)) = ((i * n : Nat) : Int) := wrMul (by omega)
      have w2 : IntKind.i64.wrap ((IntKind.i64.wrap ((i : Int) + 1)) * (n : Int)) = ((i * n + n : Nat) : Int) := by rw [wrU (by omega), wrMul (by rw [Nat.succ_mul]; omega), Nat.succ_mul]
      rw [cond_t (by simp; omega), w1, w2, sub_nat (by omega) (by rw [grid_len]; omega), Option.bind_some, Nat.add_sub_cancel_left, unit_part hi, ((solve_unit hR rfl hn hl hd (hul i)).2 hz).1, Option.bind_some]
      dsimp only
      rw [cond_f (by rfl), app_le (by rw [rowsU_len, bk_len]; omega), Option.bind_some, wrU (by omega)]; rfl) (by
      unfold T_solve_Inverse_b2
      dsimp only
      rw [cond_f (by simp)])
    have this : iter (T_solve_Inverse_b2 (n : Int) (grid n n idG) l d) FU (0, []) = some (.inl (rowsU l d n n)) := this
    rw [show List.map nf [] = ([] : List Nat) from rfl, this, Option.bind_some]
    dsimp only
    rw [transp_t, rowsU_len, rightB_mk hn hn rfl]
    simp only [if_true, Option.bind_some, Int.toNat_natCast]
    rw [grid_congr (k := invG l d n) fun i j hi hj => by unfold turnG invG; exact rowsU_at hi hj]
  · unfold T_girderref13_Inverse
    rw [rright13, hR, Option.bind_some, cond_f (by rfl), hz, Option.bind_some, cF]
    subst hq
    rw [wrMul (by omega), mk_nat (by omega), Option.bind_some, Option.bind_some, nf_zero]
    have st0 : List.replicate (n * n) 0 = grid n n (fun a b => if b < 0 then invG l d n a b else 0) := by
      unfold grid; simp [const_range]
    have := iter_nat (b := T_girderref13_Inverse_b7 (n : Int) l d) (fun k => (((k : Nat) : Int), grid n n (fun a b => if b < k then invG l d n a b else 0))) (o := grid n n (invG l d n)) n (by rw [FU_eq]; omega) (fun k hk => by
      unfold T_girderref13_Inverse_b7
      dsimp only
      rw [cond_t (by simp; omega), mk_nat (by omega), Option.bind_some, nf_zero, at_getD 0 (by simpa using hk)]
      simp only [Option.bind_some, Int.toNat_natCast]
      rw [nf_one, unit_put hk, ((solve_unit hR rfl hn hl hd (hul k)).2 hz).2, Option.bind_some]
      dsimp only
      have inner := iter_nat (b := T_girderref13_Inverse_b9 (n : Int) (solU l d n k) (k : Int)) (fun i => (((i : Nat) : Int), grid n n (fun a b => if b < k ∨ b = k ∧ a < i then invG l d n a b else 0))) (o := grid n n (fun a b => if b < k + 1 then invG l d n a b else 0)) n (by rw [FU_eq]; omega) (fun i hi => by
        unfold T_girderref13_Inverse_b9
        dsimp only
        rw [cond_t (by simp; omega), at_getD 0 (by rw [solU_len]; exact hi), Option.bind_some, wrIdx hi hk (by omega), at_getD 0 (by rw [grid_len]; exact idxL hi hk)]
        simp only [Option.bind_some, Int.toNat_natCast]
        rw [grid_put hi hk, wrU (by omega), grid_congr fun a b ha hb => by
          show _ = (fun a b => if b < k ∨ b = k ∧ a < i + 1 then invG l d n a b else 0) a b
          dsimp only
          by_cases h : a = i ∧ b = k
          · obtain ⟨rfl, rfl⟩ := h
            rw [if_pos ⟨rfl, rfl⟩, if_pos (by omega)]; rfl
          · rw [if_neg h]
            by_cases h2 : b < k ∨ b = k ∧ a < i
            · rw [if_pos h2, if_pos (by omega)]
            · rw [if_neg h2, if_neg (by omega)]]) (by
        unfold T_girderref13_Inverse_b9
        dsimp only
        rw [cond_f (by simp)]
        rw [grid_congr fun a b ha hb => by
          show _ = (fun a b => if b < k + 1 then invG l d n a b else 0) a b
          dsimp only
          by_cases h2 : b < k ∨ b = k ∧ a < n
          · rw [if_pos h2, if_pos (by omega)]
          · rw [if_neg h2, if_neg (by omega)]])
      rw [show ((0 : Nat) : Int) = 0 from rfl, grid_congr (g := fun a b => if b < k ∨ b = k ∧ a < 0 then invG l d n a b else 0) (k := fun a b => if b < k then invG l d n a b else 0) fun a b _ _ => by simp] at inner
      show ((iter (T_girderref13_Inverse_b9 (n : Int) (solU l d n k) (k : Int)) FU (0, _)).bind _) = _
      rw [inner, Option.bind_some, wrU (by omega)]) (by
      unfold T_girderref13_Inverse_b7
      dsimp only
      rw [cond_f (by simp)]
      rw [grid_congr fun a b ha hb => by
        show _ = invG l d n a b
        rw [if_pos hb]])
    rw [show ((0 : Nat) : Int) = 0 from rfl, ← st0] at this
    rw [this]; rfl

theorem inverse_same (q : Int) (l d : List Nat) : ∃ r c x e, T_solve_Inverse q l d = some (r, c, x, e) ∧ T_girderref13_Inverse q l d = some (r, c, x, e) ∧ x.length ≤ 2304 := by
  rcases right_cases q l d with ⟨hR, n, hq, hn, hl, hd⟩ | hR
  · obtain ⟨z, h1, h2, h3⟩ := zero_both q l (d := d) (by omega)
    cases z with
    | false =>
      obtain ⟨k1, k2⟩ := inverse_good hR hq hn hl hd h2
      exact ⟨_, _, _, _, k1, k2, by rw [grid_len]; exact Nat.le_trans (Nat.mul_le_mul hn hn) (by omega)⟩
    | true =>
      have hpos := h3 rfl
      have hnn : n * n ≤ 2304 := Nat.le_trans (Nat.mul_le_mul hn hn) (by omega)
      refine ⟨0, 0, [], 7, ?_, ?_, by simp⟩
      · unfold T_solve_Inverse
        rw [fits_yes hR rfl, Option.bind_some, cond_f (by rfl), ident_t]
        subst hq
        rw [mayB_mk hn hn]
        simp only [if_true, Option.bind_some, Int.toNat_natCast]
        rw [cond_f (by rfl)]
        have hb : 0 * n + n ≤ n * n := by rw [Nat.zero_mul, Nat.zero_add]; exact Nat.le_mul_of_pos_left n (by omega)
        have := iter_nat (b := T_solve_Inverse_b2 (n : Int) (grid n n idG) l d) (fun i => (((i : Nat) : Int), List.map nf [])) (o := .inr (0, 0, [], 7)) 0 (by rw [FU_eq]; omega) (fun i hi => by omega) (by
          unfold T_solve_Inverse_b2
          dsimp only
          have w1 : IntKind.i64.wrap (((0 : Nat) : Int) * (n : Int)) = ((0 * n : Nat) : Int) := wrMul (by omega)
          have w2 : IntKind.i64.wrap ((IntKind.i64.wrap (((0 : Nat) : Int) + 1)) * (n : Int)) = ((0 * n + n : Nat) : Int) := by rw [wrU (by omega), wrMul (by rw [Nat.succ_mul]; omega), Nat.succ_mul]
          rw [cond_t (by simp; omega), w1, w2, sub_nat (by omega) (by rw [grid_len]; omega), Option.bind_some, Nat.add_sub_cancel_left, unit_part (by omega), ((solve_unit hR rfl hn hl hd (by simp [unitL])).1 h2).1, Option.bind_some]
          rfl)
        rw [show ((0 : Nat) : Int) = 0 from rfl] at this
        rw [this]; rfl
      · unfold T_girderref13_Inverse
        rw [rright13, hR, Option.bind_some, cond_f (by rfl), h2]; rfl
  · refine ⟨0, 0, [], 4, ?_, ?_, by simp⟩
    · unfold T_solve_Inverse; rw [fits_no hR]; rfl
    · unfold T_girderref13_Inverse; rw [rright13, hR]; rfl

end Go.Eng
