/-
  Matrices out of lists, products, differences: what the laws' own functions come to (taken out of longer texts, for claims of few functions). No condition.
-/
import Derived.Test.YtbegoalncgpbnaaPmx
import Derived.Test.YtbegoalncgpbnaaPd
set_option linter.unusedVariables false
set_option linter.unusedSimpArgs false
set_option linter.unnecessarySimpa false
set_option linter.unusedSectionVars false
set_option maxRecDepth 100000
set_option maxHeartbeats 4000000
namespace Go.Eng
open Go

def subOk (ra ca : Int) (na : Nat) (rb cb : Int) (nb : Nat) : Bool := rightB ra ca na && rightB rb cb nb && ra == rb && ca == cb
def subL' (l m : List Nat) : List Nat := (List.range l.length).map fun k => fsub (l.getD k 0) (m.getD k 0)
theorem subTest {ra ca rb cb : Int} {x y : Bool} : (cond (!(!x)) ((some y).bind fun t3 => cond (!(!t3)) (cond (!(ra != rb)) (some (ca != cb)) (some true)) (some true)) (some true)) = some (!(x && y && ra == rb && ca == cb)) := by
  cases x <;> cases y <;> simp [bne] <;> cases ra == rb <;> simp
theorem grid_flat {r c : Nat} (F : Nat → Nat) : grid r c (fun i j => F (i * c + j)) = (List.range (r * c)).map F := by
  unfold grid
  apply List.map_congr_left
  intro k _
  have : k / c * c + k % c = k := by rw [Nat.mul_comm]; exact Nat.div_add_mod k c
  show F (k / c * c + k % c) = F k
  rw [this]
theorem msub_t (ra ca rb cb : Int) (l m : List Nat) : T_matrix_Sub ra ca l rb cb m = some (if subOk ra ca l.length rb cb m.length then (ra, ca, subL' l m, 0) else noMat 4) := by
  unfold T_matrix_Sub
  simp only [right_t, Option.bind_some]
  have := @subTest ra ca rb cb (rightB ra ca l.length) (rightB rb cb m.length)
  simp only [Option.bind_some] at this
  rw [this, Option.bind_some]
  change cond (!subOk ra ca l.length rb cb m.length) _ _ = _
  cases hO : subOk ra ca l.length rb cb m.length with
  | false => rfl
  | true =>
    simp only [subOk, Bool.and_eq_true, beq_iff_eq] at hO
    obtain ⟨⟨⟨h1, h2⟩, rfl⟩, rfl⟩ := hO
    obtain ⟨a, b, rfl, rfl, ha, hb, hl, h3⟩ := rightB_nat h1
    obtain ⟨a', b', e1, e2, _, _, hm, _⟩ := rightB_nat h2
    obtain rfl : a = a' := Int.ofNat.inj e1
    obtain rfl : b = b' := Int.ofNat.inj e2
    rw [Bool.not_true, cF, laid_t ha hb (g := fun i j => fsub (l.getD (i * b + j) 0) (m.getD (i * b + j) 0)) (fun i j hi hj => by
      unfold T_matrix_Sub_1
      have := idxL hi hj
      rw [wrIdx hi hj (by omega), at_getD 0 (by omega), Option.bind_some, at_getD 0 (by omega)]; rfl)]
    simp only [Option.bind_some, if_true]
    rw [grid_flat fun k => fsub (l.getD k 0) (m.getD k 0), ← hl]
    rfl
def mulG (l m : List Nat) (d b : Nat) (i j : Nat) : Nat := dotN (fun k => l.getD (i * d + k) 0) (fun k => m.getD (k * b + j) 0) d
theorem mul1_t {a d b : Nat} (ha : a ≤ 48) (hd : d ≤ 48) (hb : b ≤ 48) {l m : List Nat} (hl : l.length = a * d) (hm : m.length = d * b) {r : Int} {i j : Nat} (hi : i < a) (hj : j < b) :
    T_matrix_Mul_1 i j r d l (d : Int) b m = some (mulG l m d b i j) := by
  have h1 : a * d ≤ 2304 := Nat.le_trans (Nat.mul_le_mul ha hd) (by omega)
  have h2 : d * b ≤ 2304 := Nat.le_trans (Nat.mul_le_mul hd hb) (by omega)
  unfold T_matrix_Mul_1
  have := iter_nat (b := T_matrix_Mul_1_b2 d l i m b j) (fun k => (dotN (fun k => l.getD (i * d + k) 0) (fun k => m.getD (k * b + j) 0) k, ((k : Nat) : Int))) (o := mulG l m d b i j) d (by rw [FU_eq]; omega) (fun k hk => by
    have e1 := idxL hi hk
    have e2 := idxL hk hj
    unfold T_matrix_Mul_1_b2
    dsimp only
    rw [cond_t (by simp; omega), wrIdx hi hk (by omega), at_getD 0 (by omega), Option.bind_some, wrIdx hk hj (by omega), at_getD 0 (by omega)]
    simp only [Option.bind_some]
    rw [wrU (by omega)]
    rfl) (by
    unfold T_matrix_Mul_1_b2
    dsimp only
    rw [cond_f (by simp)]
    rfl)
  rw [nf_zero]
  rw [show dotN (fun k => l.getD (i * d + k) 0) (fun k => m.getD (k * b + j) 0) 0 = 0 from rfl, show ((0 : Nat) : Int) = 0 from rfl] at this
  rw [this]; rfl
theorem mul_t {a d b : Nat} (ha : a ≤ 48) (hd : d ≤ 48) (hb : b ≤ 48) {l m : List Nat} (hl : l.length = a * d) (hm : m.length = d * b) :
    T_matrix_Mul a d l d b m = some ((a : Int), (b : Int), grid a b (mulG l m d b), 0) := by
  unfold T_matrix_Mul
  simp only [right_t, Option.bind_some, rightB_mk ha hd hl, rightB_mk hd hb hm, Bool.not_true, Bool.not_false, cT, bne_self_eq_false, cF]
  rw [laid_t ha hb (g := mulG l m d b) (fun i j hi hj => mul1_t ha hd hb hl hm hi hj)]
  rfl
def pk (q : Int) : Nat := (q % 7).toNat
theorem pk_le (q : Int) : pk q ≤ 6 := by unfold pk; omega
theorem pick7_t (q : Int) : T_girderkit_Pick q 7 = some (pk q : Int) := by
  unfold T_girderkit_Pick
  rw [cond_f (by decide), show nz 7 = some () from rfl, Option.bind_some]
  have h1 : q.tmod 7 = q % 7 ∨ q.tmod 7 = q % 7 - 7 := by
    rcases Int.le_total 0 q with h | h
    · left; exact Int.tmod_eq_emod_of_nonneg h
    · have e := Int.tmod_eq_emod (a := q) (b := 7)
      split at e
      · left; omega
      · right; simp at e; omega
  have h2 : -7 < q.tmod 7 := by have := Int.lt_tmod_of_pos q (show (0 : Int) < 7 by omega); omega
  have h0 : 0 ≤ q % 7 := Int.emod_nonneg _ (by omega)
  have h7 : q % 7 < 7 := Int.emod_lt_of_pos _ (by omega)
  have e : (pk q : Int) = q % 7 := by unfold pk; omega
  rw [e]
  have key : (cond (decide (q.tmod 7 < 0)) (some (IntKind.i64.wrap (q.tmod 7 + 7))) (some (q.tmod 7))) = some (q % 7) := by
    refine eq_cond (fun h => ?_) (fun h => ?_)
    · have h : q.tmod 7 < 0 := by simpa using h
      rw [wrI (by omega) (by omega)]; congr 1; omega
    · have h : ¬ q.tmod 7 < 0 := by simpa using h
      congr 1; omega
  rw [key]; rfl
def layV (l : List Nat) (whole : Bool) (k : Nat) : Option Nat :=
  let x := if l.length = 0 then oneF else l.getD (k % l.length) 0
  if whole then
    let y := if (fgt x 13875379345695965184 || feq x 13875379345695965184) && (flt x 4652007308841189376 || feq x 4652007308841189376) then x else 4613937818241073152
    (f2i y .i64).map fun n => nf (FloatKind.f64.nearest n)
  else some x
theorem laidLaw_t {q0 q1 : Int} {l : List Nat} {wh : Bool} {G : Nat → Nat} (hl : l.length ≤ 4294967296) (hG : ∀ k, k < pk q0 * pk q1 → layV l wh k = some (G k)) :
    T_girderlaw10_laid q0 q1 l wh = some ((pk q0 : Int), (pk q1 : Int), (List.range (pk q0 * pk q1)).map G) := by
  have h1 := pk_le q0
  have h2 := pk_le q1
  have h3 : pk q0 * pk q1 ≤ 36 := Nat.le_trans (Nat.mul_le_mul h1 h2) (by omega)
  unfold T_girderlaw10_laid T_girderlaw10_of
  simp only [pick7_t, Option.bind_some]
  have := iter_nat (b := T_girderlaw10_laid_b2 (pk q0) (pk q1) l wh) (fun k => (((k : Nat) : Int), (List.range k).map G)) (o := (List.range (pk q0 * pk q1)).map G) (pk q0 * pk q1) (by rw [FU_eq]; omega) (fun k hk => by
    have hg := hG k hk
    have e0 : nf 13875379345695965184 = 13875379345695965184 := by decide +kernel
    have e1 : nf 4652007308841189376 = 4652007308841189376 := by decide +kernel
    have e2 : nf 4613937818241073152 = 4613937818241073152 := by decide +kernel
    unfold T_girderlaw10_laid_b2
    simp only [Option.bind_some]
    rw [cond_t (by rw [wrMul (by omega)]; simp; omega)]
    have hx : (cond (decide (((l.length : Nat) : Int) > 0)) ((nz ((l.length : Nat) : Int)).bind fun _ => (atI l ((k : Int).tmod ((l.length : Nat) : Int))).bind fun t12 => some t12) (some (nf 4607182418800017408))) = some (if l.length = 0 then oneF else l.getD (k % l.length) 0) := by
      refine eq_cond (fun h => ?_) (fun h => ?_)
      · have h : 0 < l.length := by simp at h; omega
        have hz : nz ((l.length : Nat) : Int) = some () := by unfold nz; rw [if_pos (by omega)]
        have hm : k % l.length < l.length := Nat.mod_lt _ h
        have e : ((k : Int).tmod ((l.length : Nat) : Int)) = ((k % l.length : Nat) : Int) := by
          rw [Int.tmod_eq_emod_of_nonneg (by omega)]; simp
        rw [hz, Option.bind_some, e, at_getD 0 hm, if_neg (by omega)]; rfl
      · have h : l.length = 0 := by simp at h; simp [h]
        rw [if_pos h, nf_one]
    rw [hx, Option.bind_some]
    have app : ∀ v, v = G k → ((some [v]).bind fun t19 => (appL ((List.range k).map G) t19).bind fun t20 => some (Sum.inl (α := Int × List Nat) (β := List Nat) (IntKind.i64.wrap ((k : Int) + 1), t20))) = some (.inl (((k + 1 : Nat) : Int), (List.range (k + 1)).map G)) := fun v hv => by
      subst hv
      rw [Option.bind_some, app_le (by simp; omega), Option.bind_some, map_range_snoc, wrU (by omega)]
    simp only [Option.bind_some] at app
    unfold layV at hg
    cases wh with
    | false =>
      simp only [Bool.false_eq_true, if_false, Option.some.injEq] at hg
      simp only [cF, Option.bind_some, app _ hg]
    | true =>
      simp only [if_true, e0, e1, e2, cT, Option.bind_some] at hg ⊢
      generalize (if l.length = 0 then oneF else l.getD (k % l.length) 0) = x at *
      cases h1 : (fgt x 13875379345695965184 || feq x 13875379345695965184)
      · rw [h1] at hg
        simp only [Bool.false_and, Bool.false_eq_true, if_false] at hg
        obtain ⟨n, hn, hg⟩ := Option.map_eq_some_iff.1 hg
        simp only [cF, hn, Option.bind_some, app _ hg]
      · rw [h1] at hg
        simp only [Bool.true_and] at hg
        cases h2 : (flt x 4652007308841189376 || feq x 4652007308841189376)
        · rw [h2] at hg
          simp only [Bool.false_eq_true, if_false] at hg
          obtain ⟨n, hn, hg⟩ := Option.map_eq_some_iff.1 hg
          simp only [cT, Bool.not_false, hn, Option.bind_some, app _ hg]
        · rw [h2] at hg
          simp only [if_true] at hg
          obtain ⟨n, hn, hg⟩ := Option.map_eq_some_iff.1 hg
          simp only [cT, Bool.not_true, cF, hn, Option.bind_some, app _ hg]) (by
    unfold T_girderlaw10_laid_b2
    dsimp only
    rw [cond_f (by rw [wrMul (by omega)]; simp)])
  simp only [List.range_zero, List.map_nil, show ((0 : Nat) : Int) = 0 from rfl] at this ⊢
  rw [this]; rfl
theorem awake10 : T_girderlaw10_awake = some true := by decide +kernel
def layL (l : List Nat) (k : Nat) : Nat := if l.length = 0 then oneF else l.getD (k % l.length) 0
theorem layV_f (l : List Nat) (k : Nat) : layV l false k = some (layL l k) := rfl

end Go.Eng
