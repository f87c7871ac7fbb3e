/-
  The law of MatrixTurns on the plain side. No condition.
-/
import Derived.Test.YtfbhhfgelebpnaaPm4
import Derived.Test.YtfbhhfgelebpnaaLwTells10
set_option linter.unusedVariables false
set_option linter.unusedSimpArgs false
set_option maxRecDepth 1000000
set_option maxHeartbeats 4000000
namespace Go.Eng
open Go

def layL (l : List Nat) (k : Nat) : Nat := if l.length = 0 then oneF else l.getD (k % l.length) 0
theorem layV_f (l : List Nat) (k : Nat) : layV l false k = some (layL l k) := rfl

theorem column_t {r c : Nat} {l : List Nat} (hr : r ≤ 48) (hc : c ≤ 48) (hl : l.length = r * c) {j : Nat} (hj : j < c) :
    iter (T_girderlaw10_MatrixTurns_b16 r l c j) FU (0, []) = some ((List.range r).map fun q => l.getD (q * c + j) 0) := by
  have h1 : r * c ≤ 2304 := Nat.le_trans (Nat.mul_le_mul hr hc) (by omega)
  have := iter_nat (b := T_girderlaw10_MatrixTurns_b16 r l c j) (fun q => (((q : Nat) : Int), (List.range q).map fun q => l.getD (q * c + j) 0)) (o := (List.range r).map fun q => l.getD (q * c + j) 0) r (by rw [FU_eq]; omega) (fun q hq => by
    have e1 := idxL hq hj
    unfold T_girderlaw10_MatrixTurns_b16
    dsimp only
    rw [cond_t (by simp; omega), wrIdx hq hj (by omega), at_getD 0 (by omega), Option.bind_some, Option.bind_some, app_le (by simp; omega), Option.bind_some, map_range_snoc, wrU (by omega)]) (by
    unfold T_girderlaw10_MatrixTurns_b16
    dsimp only
    rw [cond_f (by simp)])
  exact this
theorem column2_t {r c : Nat} {l : List Nat} (hr : r ≤ 48) (hc : c ≤ 48) (hl : l.length = r * c) {j : Nat} (hj : j < c) :
    iter (T_girderlaw10_MatrixTurns_b18 r l c j) FU (0, []) = some ((List.range r).map fun q => l.getD (q * c + j) 0) := by
  have h1 : r * c ≤ 2304 := Nat.le_trans (Nat.mul_le_mul hr hc) (by omega)
  have := iter_nat (b := T_girderlaw10_MatrixTurns_b18 r l c j) (fun q => (((q : Nat) : Int), (List.range q).map fun q => l.getD (q * c + j) 0)) (o := (List.range r).map fun q => l.getD (q * c + j) 0) r (by rw [FU_eq]; omega) (fun q hq => by
    have e1 := idxL hq hj
    unfold T_girderlaw10_MatrixTurns_b18
    dsimp only
    rw [cond_t (by simp; omega), wrIdx hq hj (by omega), at_getD 0 (by omega), Option.bind_some, Option.bind_some, app_le (by simp; omega), Option.bind_some, map_range_snoc, wrU (by omega)]) (by
    unfold T_girderlaw10_MatrixTurns_b18
    dsimp only
    rw [cond_f (by simp)])
  exact this

theorem turns10 {n m k : Int} {l r : List Nat} (hl : l.length ≤ 1048576) (hr : r.length ≤ 1048576) : T_girderlaw10_MatrixTurns n m k l r = some true := by
  unfold T_girderlaw10_MatrixTurns
  have pn := pk_le n
  have pm := pk_le m
  have pK := pk_le k
  rw [laidLaw_t (wh := false) (G := layL l) (by omega) (fun k _ => layV_f l k), Option.bind_some]
  dsimp only
  rw [laidLaw_t (wh := false) (G := layL r) (by omega) (fun k _ => layV_f r k), Option.bind_some]
  dsimp only
  generalize hA : (List.range (pk n * pk m)).map (layL l) = A
  generalize hB : (List.range (pk m * pk k)).map (layL r) = B
  have lA : A.length = pk n * pk m := by rw [← hA]; simp
  have lB : B.length = pk m * pk k := by rw [← hB]; simp
  generalize pk n = a at *
  generalize pk m = d at *
  generalize pk k = b at *
  have q1 : a * b ≤ 36 := Nat.le_trans (Nat.mul_le_mul pn pK) (by omega)
  have q2 : a * d ≤ 36 := Nat.le_trans (Nat.mul_le_mul pn pm) (by omega)
  have q3 : d * b ≤ 36 := Nat.le_trans (Nat.mul_le_mul pm pK) (by omega)
  rw [mul_t (by omega) (by omega) (by omega) lA lB, Option.bind_some]
  dsimp only
  rw [transp_t, grid_len, rightB_mk (by omega) (by omega) rfl, Option.bind_some]
  simp only [if_true, Int.toNat_natCast]
  rw [transp_t, rightB_mk (by omega) (by omega) lA, Option.bind_some]
  simp only [if_true, Int.toNat_natCast]
  rw [transp_t, rightB_mk (by omega) (by omega) lB, Option.bind_some]
  simp only [if_true, Int.toNat_natCast]
  rw [mul_t (by omega) (by omega) (by omega) (grid_len ..) (grid_len ..), Option.bind_some]
  dsimp only
  rw [transp_t, grid_len, rightB_mk (by omega) (by omega) rfl, Option.bind_some]
  simp only [if_true, Int.toNat_natCast]
  have back : grid a d (turnG (grid d a (turnG A d)) a) = A := by
    refine (grid_of lA fun i j hi hj => ?_).symm
    unfold turnG
    rw [grid_at hj hi]
  rw [back, ← turn_mul, sameMatrix_t (by rw [grid_len]; rw [Nat.mul_comm]; omega), sameMatrix_t (by omega), msame_t (by rw [grid_len]; rw [Nat.mul_comm]; omega)]
  simp only [bne_self_eq_false, Bool.not_false, cT, beq_self_eq_true, Bool.and_self, Bool.not_true, Option.bind_some, cF]
  have loop := iter_nat (b := T_girderlaw10_MatrixTurns_b14 b d B a (grid a b (mulG A B d b)) d A) (fun i => ((i : Nat) : Int)) (o := .inl ()) b (by rw [FU_eq]; omega) (fun j hj => by
    unfold T_girderlaw10_MatrixTurns_b14
    dsimp only
    rw [cond_t (by simp; omega)]
    have e1 := column_t (r := d) (c := b) (by omega) (by omega) lB hj
    have e2 := column2_t (r := a) (c := b) (by omega) (by omega) (grid_len a b (mulG A B d b)) hj
    simp only [List.map_nil]
    rw [e1, Option.bind_some, e2, Option.bind_some, apply_t (by omega) (by omega) lA (by simp), Option.bind_some]
    simp only [bne_self_eq_false, Bool.not_false, cT]
    have e3 : ((List.range a).map fun i => dotN (fun k => A.getD (i * d + k) 0) (fun k => ((List.range d).map fun q => B.getD (q * b + j) 0).getD k 0) d) = (List.range a).map fun q => (grid a b (mulG A B d b)).getD (q * b + j) 0 := by
      apply List.map_congr_left
      intro i hi
      have hi : i < a := by simpa using hi
      rw [grid_at hi hj]
      unfold mulG
      exact dotN_congr fun k hk => ⟨rfl, by simp [List.getD_eq_getElem?_getD, hk]⟩
    rw [e3, sameReals_t (by simp; omega)]
    simp only [beq_self_eq_true, Option.bind_some, Bool.not_true, cF]
    rw [wrU (by omega)]) (by
    unfold T_girderlaw10_MatrixTurns_b14
    dsimp only
    rw [cond_f (by simp)])
  rw [show ((0 : Nat) : Int) = 0 from rfl] at loop
  rw [loop]
  simp only [Option.bind_some, awake10]
  refine eq_cond (fun h => ?_) (fun h => rfl)
  have hab : a = b := by simp at h; omega
  subst hab
  rw [sameMatrix_t (by rw [grid_len]; rw [Nat.mul_comm]; omega), Option.bind_some]
  refine eq_cond (fun h2 => ?_) (fun h2 => rfl)
  simp only [Bool.and_eq_true, beq_iff_eq] at h2
  obtain ⟨⟨_, h3⟩, h4⟩ := h2
  refine eq_cond (fun h5 => ?_) (fun _ => rfl)
  have had : d = a := by simp at h5; omega
  subst had
  have hsym : symB d d (grid d d (mulG A B d d)) = true := by
    unfold symB
    rw [grid_len, rightB_mk (by omega) (by omega) rfl]
    simp only [Int.toNat_natCast, beq_self_eq_true, Bool.true_and, beq_iff_eq]
    refine grid_congr fun i j hi hj => ?_
    unfold turnG
    rw [grid_at hj hi]
    unfold mulG
    have hb : ∀ x y, x < d → y < d → B.getD (x * d + y) 0 = A.getD (y * d + x) 0 := fun x y hx hy => by
      rw [← h4, grid_at hy hx]; rfl
    rw [dotN_comm]
    exact dotN_congr fun k hk => ⟨hb k i hk hi, (hb k j hk hj).symm⟩
  rw [symm_t, hsym]
  rfl

end Go.Eng
