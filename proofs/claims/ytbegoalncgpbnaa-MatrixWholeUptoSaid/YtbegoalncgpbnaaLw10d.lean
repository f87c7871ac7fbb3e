/-
  The law MatrixWhole is true: of small whole numbers all is exact; the identity leaves a matrix as it is; a matrix less itself is nought. No condition.
-/
import Derived.Test.YtbegoalncgpbnaaPmz
import Derived.Test.YtbegoalncgpbnaaLw0
import Derived.Test.YtbegoalncgpbnaaWk
import Derived.Test.YtbegoalncgpbnaaScl3
set_option linter.unusedVariables false
set_option linter.unusedSimpArgs false
set_option linter.unnecessarySimpa false
set_option linter.unusedSectionVars false
set_option maxRecDepth 100000
set_option maxHeartbeats 4000000
set_option exponentiation.threshold 3000
namespace Go.Eng
open Go

theorem cutz_le (s : Bool) (n d : Nat) : Ieee.Toward.zero.cut s n d * 2 ^ d ≤ n := by
  unfold Ieee.Toward.cut
  dsimp only
  have : (Ieee.Toward.zero.cut s n d) = (Ieee.Toward.zero.cut s n d) := rfl
  rcases Nat.le_total d (n.log2 + 2) with h | h
  · rw [Nat.min_eq_left h, Nat.shiftLeft_eq, Nat.one_mul]
    have := Nat.div_mul_le_self n (2 ^ d)
    simpa using this
  · rw [Nat.min_eq_right h, Nat.shiftLeft_eq, Nat.one_mul]
    have hlt : n < 2 ^ (n.log2 + 2) := Nat.lt_trans Nat.lt_log2_self (Nat.pow_lt_pow_right (by omega) (by omega))
    rw [Nat.div_eq_of_lt hlt]
    simp

/-- A float of size 1000 at most, cut to a whole number. -/
theorem f2i_small {x : Nat} {B : Nat} (hx : magF x < 9218868437227405312) (h : vmag (magF x) ≤ B * 2 ^ 1074) (hB : B < 9007199254740992) : ∃ z : Int, f2i x .i64 = some z ∧ z.natAbs ≤ B := by
  obtain ⟨m, a, hr, hm⟩ := read_fin hx
  generalize hn : Ieee.Toward.zero.cut (negF x) (m <<< (-1074 + (a : Int)).toNat) (-(-1074 + (a : Int))).toNat = n
  have hb : n ≤ B := by
    have hp : 0 < (2 : Nat) ^ 1074 := Nat.two_pow_pos 1074
    have hc := cutz_le (negF x) (m <<< (-1074 + (a : Int)).toNat) (-(-1074 + (a : Int))).toNat
    rw [hn, Nat.shiftLeft_eq] at hc
    have key : n * 2 ^ 1074 ≤ m * 2 ^ a := by
      rcases Nat.le_total a 1074 with k | k
      · rw [show (-1074 + (a : Int)).toNat = 0 by omega, show (-(-1074 + (a : Int))).toNat = 1074 - a by omega, Nat.pow_zero, Nat.mul_one] at hc
        have := Nat.mul_le_mul_right (2 ^ a) hc
        rwa [Nat.mul_assoc, ← Nat.pow_add, show 1074 - a + a = 1074 by omega] at this
      · rw [show (-1074 + (a : Int)).toNat = a - 1074 by omega, show (-(-1074 + (a : Int))).toNat = 0 by omega, Nat.pow_zero, Nat.mul_one] at hc
        have := Nat.mul_le_mul_right (2 ^ 1074) hc
        rwa [Nat.mul_assoc, ← Nat.pow_add, show a - 1074 + 1074 = a by omega] at this
    rw [hm] at key
    exact Nat.le_of_mul_le_mul_right (Nat.le_trans key h) hp
  have ht : (Ieee.double.read x).toInt .zero = some (Ieee.signed (negF x) n 0) := by
    rw [hr, ← hn]; rfl
  have hz : (Ieee.signed (negF x) n 0).natAbs = n := by rw [signed_val]; cases negF x <;> simp
  refine ⟨Ieee.signed (negF x) n 0, ?_, by omega⟩
  unfold f2i
  rw [ht]
  have : IntKind.min .i64 ≤ Ieee.signed (negF x) n 0 ∧ Ieee.signed (negF x) n 0 ≤ IntKind.max .i64 := by
    simp [IntKind.min, IntKind.max, IntKind.signed, IntKind.bits]
    omega
  exact if_pos this

/-- A whole number of size 1000 at most, out of a list. -/
def layZ (l : List Nat) (k : Nat) : Int :=
  (f2i (if (fgt (layL l k) 13875379345695965184 || feq (layL l k) 13875379345695965184) && (flt (layL l k) 4652007308841189376 || feq (layL l k) 4652007308841189376) then layL l k else 4613937818241073152) .i64).getD 0
theorem layZ_t (l : List Nat) (k : Nat) : layV l true k = some (whl (layZ l k)) ∧ (layZ l k).natAbs ≤ 1000 := by
  have e : layV l true k = (f2i (if (fgt (layL l k) 13875379345695965184 || feq (layL l k) 13875379345695965184) && (flt (layL l k) 4652007308841189376 || feq (layL l k) 4652007308841189376) then layL l k else 4613937818241073152) .i64).map fun n => nf (FloatKind.f64.nearest n) := rfl
  have key : ∃ z : Int, f2i (if (fgt (layL l k) 13875379345695965184 || feq (layL l k) 13875379345695965184) && (flt (layL l k) 4652007308841189376 || feq (layL l k) 4652007308841189376) then layL l k else 4613937818241073152) .i64 = some z ∧ z.natAbs ≤ 1000 := by
    generalize layL l k = x
    by_cases h : ((fgt x 13875379345695965184 || feq x 13875379345695965184) && (flt x 4652007308841189376 || feq x 4652007308841189376)) = true
    · rw [if_pos h]
      obtain ⟨h1, h2⟩ := Bool.and_eq_true_iff.1 h
      have s1 : sval 13875379345695965184 = -(1000 * ((2 ^ 1074 : Nat) : Int)) := by decide +kernel
      have s2 : sval 4652007308841189376 = 1000 * ((2 ^ 1074 : Nat) : Int) := by decide +kernel
      have k1 := fge_some (by decide +kernel) h1
      have k2 := fle_some (by decide +kernel) h2
      rw [s1] at k1
      rw [s2] at k2
      rcases k1 with ⟨a1, a2⟩ | ⟨a1, a2⟩
      · rcases k2 with ⟨b1, b2⟩ | ⟨b1, b2⟩
        · refine f2i_small a1 ?_ (by decide)
          have e : vmag (magF x) = (sval x).natAbs := by unfold sval; split <;> simp
          rw [e]
          generalize (2 : Nat) ^ 1074 = K at *
          omega
        · omega
      · rcases k2 with ⟨b1, b2⟩ | ⟨b1, b2⟩
        · omega
        · rw [a2] at b2; cases b2
    · rw [if_neg h]
      exact ⟨3, by decide +kernel, by decide⟩
  obtain ⟨z, h1, h2⟩ := key
  have ez : layZ l k = z := by unfold layZ; rw [h1]; rfl
  rw [e, h1, ez]
  refine ⟨?_, h2⟩
  rw [Option.map_some, nf_whl (by omega)]

/-! ### Sums of sums -/

def sumZ (f : Nat → Int) : Nat → Int
  | 0 => 0
  | n + 1 => sumZ f n + f n
theorem sumZ_succ (f : Nat → Int) (n : Nat) : sumZ f (n + 1) = sumZ f n + f n := rfl
theorem sumZ_congr {f g : Nat → Int} : ∀ {n : Nat}, (∀ k, k < n → f k = g k) → sumZ f n = sumZ g n
  | 0, _ => rfl
  | n + 1, h => by unfold sumZ; rw [sumZ_congr (n := n) fun k hk => h k (by omega), h n (by omega)]
theorem dotZ_sum (A B : Nat → Int) : ∀ n, dotZ A B n = sumZ (fun k => A k * B k) n
  | 0 => rfl
  | n + 1 => by unfold dotZ sumZ; rw [dotZ_sum A B n]
theorem sumZ_add (f g : Nat → Int) : ∀ n, sumZ (fun k => f k + g k) n = sumZ f n + sumZ g n
  | 0 => rfl
  | n + 1 => by unfold sumZ; rw [sumZ_add f g n]; omega
theorem sumZ_nought : ∀ n, sumZ (fun _ => 0) n = 0
  | 0 => rfl
  | n + 1 => by unfold sumZ; rw [sumZ_nought n]; rfl
theorem sumZ_swap (f : Nat → Nat → Int) (m : Nat) : ∀ n, sumZ (fun p => sumZ (fun q => f p q) m) n = sumZ (fun q => sumZ (fun p => f p q) n) m
  | 0 => (sumZ_nought m).symm
  | n + 1 => by
    have : (fun q => sumZ (fun p => f p q) (n + 1)) = fun q => sumZ (fun p => f p q) n + f n q := rfl
    rw [this, sumZ_add, ← sumZ_swap f m n]
    rfl
theorem sumZ_mul (f : Nat → Int) (c : Int) : ∀ n, sumZ (fun k => c * f k) n = c * sumZ f n
  | 0 => by simp [sumZ]
  | n + 1 => by unfold sumZ; rw [sumZ_mul f c n, Int.mul_add]
theorem sumZ_mul' (f : Nat → Int) (c : Int) (n : Nat) : sumZ (fun k => f k * c) n = sumZ f n * c := by
  rw [Int.mul_comm, ← sumZ_mul]
  exact sumZ_congr fun k _ => Int.mul_comm ..
theorem sumZ_bound {f : Nat → Int} {M : Nat} : ∀ {n : Nat}, (∀ k, k < n → (f k).natAbs ≤ M) → (sumZ f n).natAbs ≤ n * M
  | 0, _ => by simp [sumZ]
  | n + 1, h => by
    have h1 := sumZ_bound (n := n) fun k hk => h k (by omega)
    have h2 := h n (by omega)
    unfold sumZ
    rw [Nat.succ_mul]
    omega

/-! ### Products of whole matrices -/

/-- A matrix of whole numbers. -/
structure WM (r c : Nat) (l : List Nat) (Z : Nat → Nat → Int) (B : Nat) : Prop where
  len : l.length = r * c
  at_ : ∀ i j, i < r → j < c → l.getD (i * c + j) 0 = whl (Z i j)
  le : ∀ i j, i < r → j < c → (Z i j).natAbs ≤ B

theorem wm_mul {a d b : Nat} {l m : List Nat} {X Y : Nat → Nat → Int} {B C : Nat} (hl : WM a d l X B) (hm : WM d b m Y C) (hb : d * (B * C) < 9007199254740992) (hB : B < 9007199254740992) (hC : C < 9007199254740992) (hBC : B * C < 9007199254740992) :
    WM a b (grid a b (mulG l m d b)) (fun i j => dotZ (X i) (fun k => Y k j) d) (d * (B * C)) := by
  refine ⟨grid_len .., fun i j hi hj => ?_, fun i j hi hj => ?_⟩
  · rw [grid_at hi hj]
    unfold mulG
    refine dotN_whl d fun k hk => ?_
    have hxy : (X i k * Y k j).natAbs ≤ B * C := mul_bound (hl.le i k hi hk) (hm.le k j hk hj)
    refine ⟨by rw [hl.at_ i k hi hk]; exact whl_wv (by have := hl.le i k hi hk; omega), by rw [hm.at_ k j hk hj]; exact whl_wv (by have := hm.le k j hk hj; omega), by omega, ?_⟩
    have := dotZ_bound (A := X i) (B := fun k => Y k j) (M := B * C) (n := k) fun q hq => mul_bound (hl.le i q hi (by omega)) (hm.le q j (by omega) hj)
    have : k * (B * C) ≤ d * (B * C) := Nat.mul_le_mul_right _ (by omega)
    omega
  · exact dotZ_bound fun k hk => mul_bound (hl.le i k hi hk) (hm.le k j hk hj)

theorem wm_lay {r c : Nat} (l : List Nat) : WM r c ((List.range (r * c)).map fun k => whl (layZ l k)) (fun i j => layZ l (i * c + j)) 1000 :=
  ⟨by simp, fun i j hi hj => by
    have := idxL hi hj
    simp [List.getD_eq_getElem?_getD, this], fun i j _ _ => (layZ_t l _).2⟩
theorem wm_f2i {r c i j : Nat} {l : List Nat} {Z : Nat → Nat → Int} {B : Nat} (h : WM r c l Z B) (hi : i < r) (hj : j < c) (hB : B < 9007199254740992) : f2i (l.getD (i * c + j) 0) .i64 = some (Z i j) := by
  have := h.le i j hi hj
  rw [h.at_ i j hi hj]
  exact f2i_whl (whl_wv (by omega)) (by omega)

theorem wrS3 {a b c d : Int} (h1 : (b * c).natAbs ≤ 1000000) (h2 : (b * c * d).natAbs ≤ 1000000000) (h3 : a.natAbs ≤ 100000000000) : IntKind.i64.wrap (a + IntKind.i64.wrap (IntKind.i64.wrap (b * c) * d)) = a + b * c * d := by
  rw [wrI (n := b * c) (by omega) (by omega), wrI (n := b * c * d) (by omega) (by omega), wrI (by omega) (by omega)]

section
variable {a b c d : Nat} (ha : a ≤ 6) (hb : b ≤ 6) (hc : c ≤ 6) (hd : d ≤ 6) {la lb lc : List Nat} {X Y Z : Nat → Nat → Int} (hX : WM a b la X 1000) (hY : WM b c lb Y 1000) (hZ : WM c d lc Z 1000)
include ha hb hc hd hX hY hZ

theorem term_b {i j p q : Nat} (hi : i < a) (hj : j < d) (hp : p < b) (hq : q < c) : (X i p * Y p q).natAbs ≤ 1000000 ∧ (X i p * Y p q * Z q j).natAbs ≤ 1000000000 := by
  have h1 : (X i p * Y p q).natAbs ≤ 1000 * 1000 := mul_bound (hX.le i p hi hp) (hY.le p q hp hq)
  have h2 : (X i p * Y p q * Z q j).natAbs ≤ 1000000 * 1000 := mul_bound (by omega) (hZ.le q j hq hj)
  exact ⟨by omega, by omega⟩
theorem row_b {i j p m : Nat} (hi : i < a) (hj : j < d) (hp : p < b) (hm : m ≤ c) : (sumZ (fun q => X i p * Y p q * Z q j) m).natAbs ≤ 6000000000 := by
  have := sumZ_bound (f := fun q => X i p * Y p q * Z q j) (M := 1000000000) (n := m) fun q hq => (term_b ha hb hc hd hX hY hZ hi hj hp (by omega)).2
  omega
theorem rows_b {i j m : Nat} (hi : i < a) (hj : j < d) (hm : m ≤ b) : (sumZ (fun p => sumZ (fun q => X i p * Y p q * Z q j) c) m).natAbs ≤ 36000000000 := by
  have := sumZ_bound (f := fun p => sumZ (fun q => X i p * Y p q * Z q j) c) (M := 6000000000) (n := m) fun p hp => row_b ha hb hc hd hX hY hZ hi hj (by omega) (Nat.le_refl _)
  omega

theorem triple_t {i j : Nat} (hi : i < a) (hj : j < d) : iter (T_girderlaw10_MatrixWhole_b39 (b : Int) (c : Int) la (i : Int) (b : Int) lb lc (d : Int) (j : Int)) FU (0, 0) = some (sumZ (fun p => sumZ (fun q => X i p * Y p q * Z q j) c) b) := by
  have hab : a * b ≤ 36 := Nat.mul_le_mul ha hb
  have hbc : b * c ≤ 36 := Nat.mul_le_mul hb hc
  have hcd : c * d ≤ 36 := Nat.mul_le_mul hc hd
  have inner : ∀ p, p < b → iter (T_girderlaw10_MatrixWhole_b41 (c : Int) la (i : Int) (b : Int) (p : Int) lb lc (d : Int) (j : Int)) FU (sumZ (fun p => sumZ (fun q => X i p * Y p q * Z q j) c) p, 0) = some (sumZ (fun p => sumZ (fun q => X i p * Y p q * Z q j) c) (p + 1)) := fun p hp => by
    have := iter_nat (b := T_girderlaw10_MatrixWhole_b41 (c : Int) la (i : Int) (b : Int) (p : Int) lb lc (d : Int) (j : Int)) (fun q => (sumZ (fun p => sumZ (fun q => X i p * Y p q * Z q j) c) p + sumZ (fun q => X i p * Y p q * Z q j) q, ((q : Nat) : Int))) (o := sumZ (fun p => sumZ (fun q => X i p * Y p q * Z q j) c) (p + 1)) c (by rw [FU_eq]; omega) (fun q hq => by
      have e1 := idxL hi hp
      have e2 := idxL hp hq
      have e3 := idxL hq hj
      obtain ⟨t1, t2⟩ := term_b ha hb hc hd hX hY hZ hi hj hp hq
      have t3 := row_b ha hb hc hd hX hY hZ hi hj hp (m := q) (by omega)
      have t4 := rows_b ha hb hc hd hX hY hZ hi hj (m := p) (by omega)
      unfold T_girderlaw10_MatrixWhole_b41
      dsimp only
      rw [cond_t (by simp; omega), wrIdx hi hp (by omega), at_getD 0 (by rw [hX.len]; exact e1), Option.bind_some, wm_f2i hX hi hp (by omega), Option.bind_some, wrIdx hp hq (by omega), at_getD 0 (by rw [hY.len]; exact e2), Option.bind_some, wm_f2i hY hp hq (by omega), Option.bind_some,
        wrIdx hq hj (by omega), at_getD 0 (by rw [hZ.len]; exact e3), Option.bind_some, wm_f2i hZ hq hj (by omega), Option.bind_some, wrS3 t1 t2 (by omega), wrU (by omega)]
      rw [sumZ_succ (fun q => X i p * Y p q * Z q j) q, Int.add_assoc]) (by
      unfold T_girderlaw10_MatrixWhole_b41
      dsimp only
      rw [cond_f (by simp)]
      rfl)
    have z : sumZ (fun p => sumZ (fun q => X i p * Y p q * Z q j) c) p + sumZ (fun q => X i p * Y p q * Z q j) 0 = sumZ (fun p => sumZ (fun q => X i p * Y p q * Z q j) c) p := Int.add_zero _
    rw [z] at this
    exact this
  have := iter_nat (b := T_girderlaw10_MatrixWhole_b39 (b : Int) (c : Int) la (i : Int) (b : Int) lb lc (d : Int) (j : Int)) (fun p => (sumZ (fun p => sumZ (fun q => X i p * Y p q * Z q j) c) p, ((p : Nat) : Int))) (o := sumZ (fun p => sumZ (fun q => X i p * Y p q * Z q j) c) b) b (by rw [FU_eq]; omega) (fun p hp => by
    unfold T_girderlaw10_MatrixWhole_b39
    dsimp only
    rw [cond_t (by simp; omega), inner p hp, Option.bind_some, wrU (by omega)]) (by
    unfold T_girderlaw10_MatrixWhole_b39
    dsimp only
    rw [cond_f (by simp)])
  exact this

/-- Both groupings are the plain sum. -/
theorem both_ways {i j : Nat} (hi : i < a) (hj : j < d) :
    dotZ (fun q => dotZ (X i) (fun p => Y p q) b) (fun q => Z q j) c = sumZ (fun p => sumZ (fun q => X i p * Y p q * Z q j) c) b ∧
    dotZ (X i) (fun p => dotZ (Y p) (fun q => Z q j) c) b = sumZ (fun p => sumZ (fun q => X i p * Y p q * Z q j) c) b := by
  constructor
  · rw [sumZ_swap, dotZ_sum]
    refine sumZ_congr fun q _ => ?_
    rw [dotZ_sum, ← sumZ_mul']
  · rw [dotZ_sum]
    refine sumZ_congr fun p _ => ?_
    rw [dotZ_sum, ← sumZ_mul]
    exact sumZ_congr fun q _ => (Int.mul_assoc ..).symm

theorem wholes_t : iter (T_girderlaw10_MatrixWhole_b23 (a : Int) (d : Int) (b : Int) (c : Int) la (b : Int) lb lc (grid a d (mulG (grid a c (mulG la lb b c)) lc c d)) (grid a d (mulG la (grid b d (mulG lb lc c d)) b d))) FU 0 = some (.inl ()) := by
  have had : a * d ≤ 36 := Nat.mul_le_mul ha hd
  have b6 : b * (1000 * 1000) ≤ 6 * (1000 * 1000) := Nat.mul_le_mul_right _ hb
  have c6 : c * (1000 * 1000) ≤ 6 * (1000 * 1000) := Nat.mul_le_mul_right _ hc
  have q1 : b * (1000 * 1000) < 9007199254740992 := Nat.lt_of_le_of_lt b6 (by decide)
  have q2 : c * (1000 * 1000) < 9007199254740992 := Nat.lt_of_le_of_lt c6 (by decide)
  have m1 := wm_mul hX hY q1 (by decide) (by decide) (by decide)
  have m2 := wm_mul hY hZ q2 (by decide) (by decide) (by decide)
  have g1 : c * (b * (1000 * 1000) * 1000) ≤ 6 * (6 * (1000 * 1000) * 1000) := Nat.mul_le_mul hc (Nat.mul_le_mul_right _ b6)
  have g2 : b * (1000 * (c * (1000 * 1000))) ≤ 6 * (1000 * (6 * (1000 * 1000))) := Nat.mul_le_mul hb (Nat.mul_le_mul_left _ c6)
  have n1 := wm_mul m1 hZ (Nat.lt_of_le_of_lt g1 (by decide)) q1 (by decide) (Nat.lt_of_le_of_lt (Nat.mul_le_mul_right 1000 b6) (by decide))
  have n2 := wm_mul hX m2 (Nat.lt_of_le_of_lt g2 (by decide)) (by decide) q2 (Nat.lt_of_le_of_lt (Nat.mul_le_mul_left 1000 c6) (by decide))
  have rows : ∀ i, i < a → iter (T_girderlaw10_MatrixWhole_b34 (d : Int) (b : Int) (c : Int) la (i : Int) (b : Int) lb lc (grid a d (mulG (grid a c (mulG la lb b c)) lc c d)) (grid a d (mulG la (grid b d (mulG lb lc c d)) b d))) FU 0 = some (.inl ()) := fun i hi =>
    iter_nat (b := T_girderlaw10_MatrixWhole_b34 (d : Int) (b : Int) (c : Int) la (i : Int) (b : Int) lb lc (grid a d (mulG (grid a c (mulG la lb b c)) lc c d)) (grid a d (mulG la (grid b d (mulG lb lc c d)) b d))) (fun j => ((j : Nat) : Int)) (o := .inl ()) d (by rw [FU_eq]; omega) (fun j hj => by
      have e1 := idxL hi hj
      obtain ⟨w1, w2⟩ := both_ways ha hb hc hd hX hY hZ hi hj
      have r3 := rows_b ha hb hc hd hX hY hZ hi hj (m := b) (Nat.le_refl _)
      unfold T_girderlaw10_MatrixWhole_b34
      dsimp only
      rw [cond_t (by simp; omega), triple_t ha hb hc hd hX hY hZ hi hj, Option.bind_some, wrIdx hi hj (by omega), at_getD 0 (by rw [n1.len]; exact e1), Option.bind_some, at_getD 0 (by rw [n2.len]; exact e1), Option.bind_some, n1.at_ i j hi hj, n2.at_ i j hi hj, w1, w2]
      have hw := whl_wv (z := sumZ (fun p => sumZ (fun q => X i p * Y p q * Z q j) c) b) (by omega)
      rw [wv_feq hw hw, nf_whl (by omega), wv_feq hw hw]
      simp only [Option.bind_some, Bool.not_true, Bool.not_false, cT, cF]
      rw [wrU (by omega)]) (by
      unfold T_girderlaw10_MatrixWhole_b34
      dsimp only
      rw [cond_f (by simp)])
  have := iter_nat (b := T_girderlaw10_MatrixWhole_b23 (a : Int) (d : Int) (b : Int) (c : Int) la (b : Int) lb lc (grid a d (mulG (grid a c (mulG la lb b c)) lc c d)) (grid a d (mulG la (grid b d (mulG lb lc c d)) b d))) (fun i => ((i : Nat) : Int)) (o := .inl ()) a (by rw [FU_eq]; omega) (fun i hi => by
    unfold T_girderlaw10_MatrixWhole_b23
    dsimp only
    rw [cond_t (by simp; omega), rows i hi]
    simp only [Option.bind_some]
    rw [wrU (by omega)]) (by
    unfold T_girderlaw10_MatrixWhole_b23
    dsimp only
    rw [cond_f (by simp)])
  exact this
end

/-! ### The identity, a matrix less itself -/

theorem fmul_nought {x : Nat} (hx : magF x < 9218868437227405312) : magF (fmul x 0) = 0 := by
  obtain ⟨m, a, hr, _⟩ := read_fin hx
  rw [fmul_num hr (show Ieee.double.read 0 = .number false 0 (-1074) by decide +kernel), Nat.mul_zero, nearest_zero]
  exact mag_word (by omega)
theorem fadd_zero_left {x : Nat} (hx : magF x < 9218868437227405312) (h0 : magF x ≠ 0) (hl : x < 18446744073709551616) {y : Nat} (hy : magF y = 0) : fadd y x = x := by
  rw [fadd_comm]; exact fadd_nought_right hx h0 hl hy
theorem noughts {x y : Nat} (hx : magF x = 0) (hy : magF y = 0) : magF (fadd x y) = 0 :=
  (fadd_mag_zero (by omega) (by omega)).2 (by rw [(sval_zero x).2 hx, (sval_zero y).2 hy]; rfl)

theorem dot_id {f : Nat → Nat} {j n : Nat} (hj : j < n) (hf : ∀ k, k < n → magF (f k) < 9218868437227405312 ∧ f k < 18446744073709551616) :
    feq (dotN f (fun k => idG k j) n) (f j) = true := by
  have one : ∀ {x}, magF x < 9218868437227405312 → x < 18446744073709551616 → fmul x oneF = x := fun {x} h1 h2 => by
    rw [fmul_comm, show oneF = 4607182418800017408 from rfl, fmul_one h2, nf_of_not (by rw [isNaN_mag]; simp; omega)]
  have pre : ∀ m, m ≤ j → magF (dotN f (fun k => idG k j) m) = 0 := by
    intro m
    induction m with
    | zero => intro _; rfl
    | succ m ih =>
      intro h
      unfold dotN
      refine noughts (ih (by omega)) ?_
      rw [show idG m j = 0 from if_neg (by omega)]
      exact fmul_nought (hf m (by omega)).1
  have post : ∀ m, j + 1 + m ≤ n → (magF (f j) = 0 → magF (dotN f (fun k => idG k j) (j + 1 + m)) = 0) ∧ (magF (f j) ≠ 0 → dotN f (fun k => idG k j) (j + 1 + m) = f j) := by
    intro m
    induction m with
    | zero =>
      intro _
      obtain ⟨h1, h2⟩ := hf j hj
      show (magF (f j) = 0 → magF (fadd (dotN f (fun k => idG k j) j) (fmul (f j) (idG j j))) = 0) ∧ (magF (f j) ≠ 0 → fadd (dotN f (fun k => idG k j) j) (fmul (f j) (idG j j)) = f j)
      rw [show idG j j = oneF from if_pos rfl, one h1 h2]
      exact ⟨fun h => noughts (pre j (Nat.le_refl _)) h, fun h => fadd_zero_left h1 h h2 (pre j (Nat.le_refl _))⟩
    | succ m ih =>
      intro h
      obtain ⟨i1, i2⟩ := ih (by omega)
      have z : magF (fmul (f (j + 1 + m)) (idG (j + 1 + m) j)) = 0 := by
        rw [show idG (j + 1 + m) j = 0 from if_neg (by omega)]
        exact fmul_nought (hf _ (by omega)).1
      show (magF (f j) = 0 → magF (fadd (dotN f (fun k => idG k j) (j + 1 + m)) (fmul (f (j + 1 + m)) (idG (j + 1 + m) j))) = 0) ∧ (magF (f j) ≠ 0 → fadd (dotN f (fun k => idG k j) (j + 1 + m)) (fmul (f (j + 1 + m)) (idG (j + 1 + m) j)) = f j)
      refine ⟨fun g => noughts (i1 g) z, fun g => ?_⟩
      rw [i2 g]
      exact fadd_nought_right (hf j hj).1 g (hf j hj).2 z
  obtain ⟨p1, p2⟩ := post (n - (j + 1)) (by omega)
  rw [show j + 1 + (n - (j + 1)) = n by omega] at p1 p2
  by_cases h : magF (f j) = 0
  · exact wv_feq (wv_zero (p1 h)) (wv_zero h)
  · rw [p2 h, feq_self, isNaN_mag]
    have := (hf j hj).1
    simp; omega

theorem fsub_self {x : Nat} (hx : magF x < 9218868437227405312) : fsub x x = 0 := by
  obtain ⟨m, a, hr, _⟩ := read_fin hx
  unfold fsub Ieee.Format.sub
  rw [hr]
  simp only [Ieee.Datum.opposite, Ieee.Datum.sum, Int.min_self, Int.sub_self, Option.map_some, Option.getD_some]
  have : Ieee.signed (negF x) m (0 : Int).toNat + Ieee.signed (!negF x) m (0 : Int).toNat = 0 := by
    rw [signed_val, signed_val]
    cases negF x <;> simp <;> omega
  rw [this]
  have s : (negF x && !negF x) = false := by cases negF x <;> rfl
  show Ieee.double.nearest (if (0 : Int) = 0 then negF x && !negF x else decide ((0 : Int) < 0)) (0 : Int).natAbs (-1074 + (a : Int)) = 0
  rw [if_pos rfl, s, Int.natAbs_zero, nearest_zero]
  decide +kernel

theorem finite_t {l : List Nat} (hl : l.length ≤ 1048576) : ∃ b, T_girderlaw10_finite l = some b ∧ (b = true → ∀ i, i < l.length → magF (l.getD i 0) < 9218868437227405312) := by
  unfold T_girderlaw10_finite
  have step : ∀ i, i < l.length → T_girderlaw10_finite_b2 l (i : Int) = some (cond (!feq (fsub (l.getD i 0) (l.getD i 0)) 0) (.inr (.inr false)) (.inl ((i + 1 : Nat) : Int))) := fun i hi => by
    unfold T_girderlaw10_finite_b2
    simp only [Option.bind_some]
    rw [cond_t (by simp; omega), at_getD 0 hi]
    simp only [Option.bind_some, nf_zero]
    rw [wrU (by omega)]
    cases (!feq (fsub (l.getD i 0) (l.getD i 0)) 0) <;> rfl
  rcases first_mark (fun i => !feq (fsub (l.getD i 0) (l.getD i 0)) 0) l.length with h | ⟨i, hi, h1, h2⟩
  · have := iter_nat (b := T_girderlaw10_finite_b2 l) (fun i => ((i : Nat) : Int)) (o := .inl ()) l.length (by rw [FU_eq]; omega) (fun i hi => by rw [step i hi, h i hi]; rfl) (by
      unfold T_girderlaw10_finite_b2
      simp only [Option.bind_some]
      rw [cond_f (by simp)])
    rw [show ((0 : Nat) : Int) = 0 from rfl] at this
    rw [this]
    refine ⟨true, rfl, fun _ i hi => ?_⟩
    have := h i hi
    rw [finite_sub] at this
    simpa using this
  · have := iter_nat (b := T_girderlaw10_finite_b2 l) (fun i => ((i : Nat) : Int)) (o := .inr false) i (by rw [FU_eq]; omega) (fun j hj => by rw [step j (by omega), h2 j hj]; rfl) (by rw [step i hi, h1]; rfl)
    rw [show ((0 : Nat) : Int) = 0 from rfl] at this
    rw [this]
    exact ⟨false, rfl, fun h => by cases h⟩

theorem whole10 {n m k o : Int} {l r s : List Nat} (hl : l.length ≤ 1048576) (hr : r.length ≤ 1048576) (hs : s.length ≤ 1048576) (hw : ∀ p ∈ l, p < 18446744073709551616) : T_girderlaw10_MatrixWhole n m k o l r s = some true := by
  have ha := pk_le n
  have hb := pk_le m
  have hc := pk_le k
  have hd := pk_le o
  unfold T_girderlaw10_MatrixWhole
  rw [laidLaw_t (by omega) (fun q _ => (layZ_t l q).1), Option.bind_some]
  dsimp only
  rw [laidLaw_t (by omega) (fun q _ => (layZ_t r q).1), Option.bind_some]
  dsimp only
  rw [laidLaw_t (by omega) (fun q _ => (layZ_t s q).1), Option.bind_some]
  dsimp only
  have hX := wm_lay (r := pk n) (c := pk m) l
  have hY := wm_lay (r := pk m) (c := pk k) r
  have hZ := wm_lay (r := pk k) (c := pk o) s
  rw [mul_t (by omega) (by omega) (by omega) hX.len hY.len, Option.bind_some]
  dsimp only
  rw [mul_t (by omega) (by omega) (by omega) hY.len hZ.len, Option.bind_some]
  dsimp only
  rw [mul_t (by omega) (by omega) (by omega) (grid_len ..) hZ.len, Option.bind_some]
  dsimp only
  rw [mul_t (by omega) (by omega) (by omega) hX.len (grid_len ..), Option.bind_some]
  dsimp only
  have had : pk n * pk o ≤ 36 := Nat.mul_le_mul ha hd
  simp only [Option.bind_some, grid_len, bne_self_eq_false, Bool.not_false, cT]
  rw [wrMul (by omega), bne_self_eq_false, cF, wholes_t ha hb hc hd hX hY hZ, Option.bind_some]
  dsimp only
  -- the second half
  have hab : pk n * pk m ≤ 36 := Nat.mul_le_mul ha hb
  rw [laidLaw_t (by omega) (fun q _ => layV_f l q), Option.bind_some]
  dsimp only
  generalize hdl : (List.range (pk n * pk m)).map (layL l) = dl
  have hlen : dl.length = pk n * pk m := by rw [← hdl]; simp
  have hword : ∀ i, i < pk n * pk m → dl.getD i 0 < 18446744073709551616 := fun i hi => by
    rw [← hdl]
    have : ((List.range (pk n * pk m)).map (layL l)).getD i 0 = layL l i := by simp [List.getD_eq_getElem?_getD, hi]
    rw [this]
    unfold layL
    split
    · decide
    · rename_i h
      have hk : i % l.length < l.length := Nat.mod_lt _ (by omega)
      exact hw _ (by rw [List.getD_eq_getElem?_getD, List.getElem?_eq_getElem hk]; exact List.getElem_mem hk)
  rw [ident_t, if_pos (mayB_mk (a := pk m) (b := pk m) (by omega) (by omega)), Option.bind_some]
  dsimp only
  rw [ident_t, if_pos (mayB_mk (a := pk n) (b := pk n) (by omega) (by omega)), Option.bind_some]
  dsimp only
  rw [Int.toNat_natCast, Int.toNat_natCast, mul_t (by omega) (by omega) (by omega) hlen (grid_len ..), Option.bind_some]
  dsimp only
  rw [mul_t (by omega) (by omega) (by omega) (grid_len ..) hlen, Option.bind_some]
  dsimp only
  simp only [Option.bind_some, grid_len, hlen, bne_self_eq_false, Bool.not_false, cT, cF]
  have hsub : subOk (pk n) (pk m) dl.length (pk n) (pk m) dl.length = true := by
    unfold subOk
    rw [rightB_mk (by omega) (by omega) hlen]; simp
  rw [msub_t, if_pos hsub, Option.bind_some]
  dsimp only
  obtain ⟨fb, hfb, hfin⟩ := finite_t (l := dl) (by omega)
  have chk := iter_nat (b := T_girderlaw10_MatrixWhole_b43 dl (grid (pk n) (pk m) (mulG dl (grid (pk m) (pk m) idG) (pk m) (pk m))) (grid (pk n) (pk m) (mulG (grid (pk n) (pk n) idG) dl (pk n) (pk m))) 0 (subL' dl dl)) (fun i => ((i : Nat) : Int)) (o := .inl ()) (pk n * pk m) (by rw [FU_eq]; omega) (fun i hi => by
    unfold T_girderlaw10_MatrixWhole_b43
    simp only [Option.bind_some]
    rw [cond_t (by simp; omega), hfb, Option.bind_some]
    cases fb with
    | false => rw [cF, wrU (by omega)]
    | true =>
      have fin := hfin rfl
      rw [hlen] at fin
      have hm0 : 0 < pk m := by
        rcases Nat.eq_zero_or_pos (pk m) with h | h
        · rw [h, Nat.mul_zero] at hi; omega
        · exact h
      have hp : i / pk m < pk n := (Nat.div_lt_iff_lt_mul hm0).2 hi
      have hq : i % pk m < pk m := Nat.mod_lt _ hm0
      have hiq : i / pk m * pk m + i % pk m = i := by rw [Nat.mul_comm]; exact Nat.div_add_mod i (pk m)
      have all : ∀ p q, p < pk n → q < pk m → magF (dl.getD (p * pk m + q) 0) < 9218868437227405312 ∧ dl.getD (p * pk m + q) 0 < 18446744073709551616 := fun p q hp hq => ⟨fin _ (idxL hp hq), hword _ (idxL hp hq)⟩
      have u : feq ((grid (pk n) (pk m) (mulG dl (grid (pk m) (pk m) idG) (pk m) (pk m))).getD i 0) (dl.getD i 0) = true := by
        have := dot_id (f := fun k => dl.getD (i / pk m * pk m + k) 0) hq fun k hk => all _ k hp hk
        rw [← hiq, grid_at hp hq]
        unfold mulG
        rw [dotN_congr (f' := fun k => dl.getD (i / pk m * pk m + k) 0) (g' := fun k => idG k (i % pk m)) fun k hk => ⟨rfl, grid_at hk hq⟩]
        exact this
      have v : feq ((grid (pk n) (pk m) (mulG (grid (pk n) (pk n) idG) dl (pk n) (pk m))).getD i 0) (dl.getD i 0) = true := by
        have := dot_id (f := fun k => dl.getD (k * pk m + i % pk m) 0) hp fun k hk => all k _ hk hq
        rw [← hiq, grid_at hp hq]
        unfold mulG
        rw [dotN_comm, dotN_congr (f' := fun k => dl.getD (k * pk m + i % pk m) 0) (g' := fun k => idG k (i / pk m)) fun k hk => ⟨rfl, by rw [grid_at hp hk]; unfold idG; simp [eq_comm]⟩]
        exact this
      have t : (subL' dl dl).getD i 0 = 0 := by
        unfold subL'
        rw [hlen]
        have : ((List.range (pk n * pk m)).map fun k => fsub (dl.getD k 0) (dl.getD k 0)).getD i 0 = fsub (dl.getD i 0) (dl.getD i 0) := by simp [List.getD_eq_getElem?_getD, hi]
        rw [this]
        exact fsub_self (fin i hi)
      rw [cT, at_getD 0 (by rw [grid_len]; exact hi), Option.bind_some, at_getD 0 (by rw [hlen]; exact hi)]
      simp only [Option.bind_some, u, Bool.not_true, Bool.not_false, cT]
      rw [at_getD 0 (by rw [grid_len]; exact hi)]
      simp only [Option.bind_some, v, Bool.not_true, Bool.not_false, cT]
      rw [cond_t (by rfl), at_getD 0 (by unfold subL'; simp [hlen]; exact hi), Option.bind_some, t]
      have : T_girderkit_SameFloat 0 (nf 0) = some true := by decide +kernel
      rw [this, Option.bind_some, Bool.not_true, cF, wrU (by omega)]) (by
    unfold T_girderlaw10_MatrixWhole_b43
    simp only [Option.bind_some]
    rw [cond_f (by simp [hlen])])
  rw [show ((0 : Nat) : Int) = 0 from rfl] at chk
  rw [chk]
  simp only [Option.bind_some, awake10]

section
variable {N : Nums} {P : Program} (H : AllOk N P)
include H
theorem whole10_f {n m k o : Int} {sa sb sc : Option Addr} {na ma nb mb nc mc : Nat} {la lb lc : List Nat} {w : World} (hA : Reals w sa na ma la) (hB : Reals w sb nb mb lb) (hC : Reals w sc nc mc lc) (ha : na ≤ 1048576) (hb : nb ≤ 1048576) (hc : nc ≤ 1048576) (wa : ∀ y ∈ la, y < 18446744073709551616) :
    CallsX P N.f_girderlaw10_MatrixWhole #[.int .i64 n, .int .i64 m, .int .i64 k, .int .i64 o, .slice sa na ma, .slice sb nb mb, .slice sc nc mc] w fun v w' => v = .bool true ∧ ∃ M, St w w' M := by
  have hS := ((Ho.arg1 hC).arg (own_cons rfl own_nil) (.ofReals hB)).arg (own_cons rfl (own_cons rfl own_nil)) (.ofReals hA)
  exact wk_girderlaw10_MatrixWhole H hS (Ent.rd mp0) (Ent.rd mp1) (Ent.rd mp2) (whole10 (by rw [List.length_map, hA.len]; exact ha) (by rw [List.length_map, hB.len]; exact hb) (by rw [List.length_map, hC.len]; exact hc) (nf_words wa)) fun w1 h => ⟨rfl, h.some_old⟩
end
end Go.Eng
