/-
  The law MatrixSizes. No condition.
-/
import Derived.Test.YtbegoalncgpbnaaPsz
import Derived.Test.YtbegoalncgpbnaaLw0
import Derived.Test.YtbegoalncgpbnaaWk
import Derived.Test.YtbegoalncgpbnaaRup
set_option linter.unusedVariables false
set_option linter.unusedSimpArgs false
set_option linter.unnecessarySimpa false
set_option linter.unusedSectionVars false
set_option maxRecDepth 100000
set_option maxHeartbeats 4000000
set_option exponentiation.threshold 5000
namespace Go.Eng
open Go

theorem finite10_t {l : List Nat} (hl : l.length ≤ 1048576) : T_girderlaw10_finite l = some (!l.any (fun x => !finF x)) := by
  have step : ∀ k, k < l.length → T_girderlaw10_finite_b2 l ((k : Nat) : Int) = cond (finF (l.getD k 0)) (some (.inl ((k + 1 : Nat) : Int))) (some (.inr (.inr false))) := by
    intro k hk
    unfold T_girderlaw10_finite_b2
    simp only [Option.bind_some]
    rw [cond_t (by simp; omega), at_getD 0 hk]
    simp only [Option.bind_some, nf_zero, finite_sub, wrU (show k + 1 < 9223372036854775808 by omega)]
    unfold finF
    cases decide (magF (l.getD k 0) < 9218868437227405312) <;> rfl
  have mem : ∀ i, i < l.length → l.getD i 0 ∈ l := fun i hi => by
    rw [List.getD_eq_getElem?_getD, List.getElem?_eq_getElem hi]; exact List.getElem_mem hi
  unfold T_girderlaw10_finite
  rcases first_mark (fun i => !finF (l.getD i 0)) l.length with hall | ⟨i, hi, hne, hbef⟩
  · have hall' : ∀ i, i < l.length → finF (l.getD i 0) = true := fun i hi => by simpa using hall i hi
    have := iter_nat (b := T_girderlaw10_finite_b2 l) (fun k => ((k : Nat) : Int)) (o := .inl ()) l.length (by rw [FU_eq]; omega) (fun k hk => by rw [step k hk, hall' k hk, cT]) (by
      unfold T_girderlaw10_finite_b2
      simp only [Option.bind_some]
      rw [cond_f (by simp)])
    rw [show ((0 : Nat) : Int) = 0 from rfl] at this
    have a : l.any (fun x => !finF x) = false := by
      rw [List.any_eq_false]
      intro x hx
      obtain ⟨i, hi, rfl⟩ := List.getElem_of_mem hx
      have := hall' i hi
      rw [List.getD_eq_getElem?_getD, List.getElem?_eq_getElem hi] at this
      simpa using this
    rw [this, a]; rfl
  · have hf : finF (l.getD i 0) = false := by simpa using hne
    have := iter_nat (b := T_girderlaw10_finite_b2 l) (fun k => ((k : Nat) : Int)) (o := .inr false) i (by rw [FU_eq]; omega) (fun k hk => by rw [step k (by omega), show finF (l.getD k 0) = true by simpa using hbef k hk, cT]) (by rw [step i hi, hf, cF])
    rw [show ((0 : Nat) : Int) = 0 from rfl] at this
    have a : l.any (fun x => !finF x) = true := List.any_eq_true.2 ⟨_, mem i hi, by rw [hf]; rfl⟩
    rw [this, a]; rfl

theorem mostS_ge (l : List Nat) (c : Nat) : ∀ {n i : Nat}, i < n → rowS l c i ≤ mostS l c n
  | 0, i, h => by omega
  | n + 1, i, h => by
    unfold mostS
    by_cases e : i = n
    · subst e; exact Nat.le_max_right _ _
    · exact Nat.le_trans (mostS_ge l c (n := n) (by omega)) (Nat.le_max_left _ _)

theorem normV_of {r c : Nat} {l : List Nat} (hr : r ≤ 48) (hc : c ≤ 48) (hl : l.length = r * c) (h : l.any (fun x => !finF x) = false) : normV r c l = (mostS l c r, 0) := by
  unfold normV
  rw [rightB_mk hr hc hl, if_pos rfl, h]; simp

section
variable {r c : Nat} (hr : r ≤ 6) (hc : c ≤ 6) {d : List Nat} (hd : d.length = r * c) (hf : d.any (fun x => !finF x) = false)
include hr hc hd hf

theorem elem_fin (i : Nat) (hi : i < r * c) : magF (d.getD i 0) < 9218868437227405312 := by
  have hi' : i < d.length := by omega
  have m : d.getD i 0 ∈ d := by rw [List.getD_eq_getElem?_getD, List.getElem?_eq_getElem hi']; exact List.getElem_mem hi'
  exact fin_mem hf m
theorem row_mem {i j : Nat} (hi : i < r) (hj : j < c) : d.getD (i * c + j) 0 ∈ (d.drop (i * c)).take c := by
  have h1 := idxL hi hj
  have : ((d.drop (i * c)).take c)[j]? = some (d.getD (i * c + j) 0) := by
    rw [List.getElem?_take, if_pos hj, List.getElem?_drop, List.getD_eq_getElem?_getD, List.getElem?_eq_getElem (by omega)]; rfl
  exact List.mem_of_getElem? this
theorem row_ge {i j : Nat} (hi : i < r) (hj : j < c) : magF (d.getD (i * c + j) 0) ≤ rowS d c i :=
  sumUp_ge (fun p hp => fin_mem hf (List.mem_of_mem_drop (List.mem_of_mem_take hp))) _ (row_mem hr hc hd hf hi hj)

theorem inner10 {i : Nat} (hi : i < r) : iter (T_girderlaw10_MatrixSizes_b7 (c : Int) d (i : Int) (rowS d c i)) FU 0 = some (.inl ()) := by
  have hrc : r * c ≤ 36 := Nat.mul_le_mul hr hc
  have good := rowS_good (l := d) (fun p hp => fin_mem hf hp) c i
  have := iter_nat (b := T_girderlaw10_MatrixSizes_b7 (c : Int) d (i : Int) (rowS d c i)) (fun j => ((j : Nat) : Int)) (o := .inl ()) c (by rw [FU_eq]; omega) (fun j hj => by
    have h1 := idxL hi hj
    have fin := elem_fin hr hc hd hf _ h1
    have ge := row_ge hr hc hd hf hi hj
    unfold T_girderlaw10_MatrixSizes_b7
    dsimp only
    rw [cond_t (by simp; omega), wrIdx hi hj (by omega), at_getD 0 (by omega), Option.bind_some, Option.bind_some, fgt_not fin good ge, Bool.not_false, cT, Option.bind_some, Option.bind_some]
    have nn : nf (fneg (d.getD (i * c + j) 0)) = fneg (d.getD (i * c + j) 0) := nf_of_not (by rw [isNaN_mag, fneg_mag]; exact decide_eq_false (by omega))
    rw [nn, fgt_not (by rw [fneg_mag]; exact fin) good (by rw [fneg_mag]; exact ge), cF, wrU (by omega)]) (by
    unfold T_girderlaw10_MatrixSizes_b7
    dsimp only
    rw [cond_f (by simp)])
  exact this

theorem rows10 : iter (T_girderlaw10_MatrixSizes_b5 (r : Int) d (c : Int) (mostS d c r)) FU (0, 0) = some (.inl (mostS d c r)) := by
  have hrc : r * c ≤ 36 := Nat.mul_le_mul hr hc
  have fin : ∀ p ∈ d, magF p < 9218868437227405312 := fun p hp => fin_mem hf hp
  have := iter_nat (b := T_girderlaw10_MatrixSizes_b5 (r : Int) d (c : Int) (mostS d c r)) (fun i => (mostS d c i, ((i : Nat) : Int))) (o := .inl (mostS d c r)) r (by rw [FU_eq]; omega) (fun i hi => by
    have h1 : (i + 1) * c ≤ r * c := Nat.mul_le_mul_right c (by omega)
    have h2 : i * c + c = (i + 1) * c := by rw [Nat.add_mul, Nat.one_mul]
    have len : ((d.drop (i * c)).take c).length = c := by simp; omega
    have cp : T_girderkit_CopyReals ((d.drop (i * c)).take c) = some ((d.drop (i * c)).take c) := by
      unfold T_girderkit_CopyReals
      simp only [List.map_nil]
      rw [app_le (by rw [len]; simp; omega)]; rfl
    have anyf : ((d.drop (i * c)).take c).any (fun x => !finF x) = false := by
      rw [List.any_eq_false] at hf ⊢
      exact fun x hx => hf x (List.mem_of_mem_drop (List.mem_of_mem_take hx))
    have nv : normV (1 : Nat) c ((d.drop (i * c)).take c) = (rowS d c i, 0) := by
      rw [normV_of (by omega) (by omega) (by rw [len, Nat.one_mul]) anyf]
      show (max 0 (sumUp ((((d.drop (i * c)).take c).drop (0 * c)).take c)), (0 : Int)) = _
      rw [Nat.zero_mul, List.drop_zero, List.take_take, Nat.min_self, Nat.zero_max]; rfl
    have nv' : normV 1 (c : Int) ((d.drop (i * c)).take c) = (rowS d c i, 0) := nv
    unfold T_girderlaw10_MatrixSizes_b5
    dsimp only
    rw [cond_t (by simp; omega), wrMul (by omega), wrU (show i + 1 < 9223372036854775808 by omega), wrMul (by omega), sub_nat (by omega) (by omega), show (i + 1) * c - i * c = c by omega, Option.bind_some, cp, Option.bind_some]
    have of1 : T_girderlaw10_of 1 (c : Int) ((d.drop (i * c)).take c) = some (1, (c : Int), (d.drop (i * c)).take c) := rfl
    rw [of1, Option.bind_some]
    dsimp only
    rw [mnorm_t, nv', Option.bind_some]
    dsimp only
    have g1 := rowS_good fin c i
    have g2 := mostS_good fin c r
    have g3 := mostS_good fin c i
    have ge := mostS_ge d c hi
    have ng : fgt (rowS d c i) (mostS d c r) = false := by
      rw [fgt_good g1 g2]; simp; exact ge
    rw [cond_t (by rfl), Option.bind_some, ng, cF, Option.bind_some, inner10 hr hc hd hf hi, Option.bind_some, fmx_good g3 g1]; rfl) (by
    unfold T_girderlaw10_MatrixSizes_b5
    dsimp only
    rw [cond_f (by simp)])
  exact this
end

/-! ### Whole numbers -/

def absZ (z : Nat → Int) (k : Nat) : Nat → Int
  | 0 => 0
  | j + 1 => absZ z k j + ((z (k + j)).natAbs : Int)
def sgZ (s : List Bool) (j : Nat) : Int := if s.getD j false then -1 else 1

theorem absZ_bound {z : Nat → Int} (hz : ∀ k, (z k).natAbs ≤ 1000) (k : Nat) : ∀ j, 0 ≤ absZ z k j ∧ absZ z k j ≤ 1000 * j
  | 0 => ⟨Int.le_refl _, by simp [absZ]⟩
  | j + 1 => by
    have := absZ_bound hz k j
    have := hz (k + j)
    unfold absZ
    omega
theorem dot_abs {z : Nat → Int} (s : List Bool) (k : Nat) : ∀ j, (dotZ (fun q => z (k + q)) (sgZ s) j).natAbs ≤ absZ z k j
  | 0 => by simp [dotZ, absZ]
  | j + 1 => by
    have ih := dot_abs (z := z) s k j
    unfold dotZ absZ
    have : (z (k + j) * sgZ s j).natAbs = (z (k + j)).natAbs := by
      rw [Int.natAbs_mul]
      unfold sgZ
      split <;> simp
    omega

section
variable {r c : Nat} (hr : r ≤ 6) (hc : c ≤ 6) {z : Nat → Int} (hz : ∀ k, (z k).natAbs ≤ 1000)
include hr hc hz

theorem whole_at {i : Nat} (hi : i < r * c) : ((List.range (r * c)).map fun k => whl (z k)).getD i 0 = whl (z i) := by
  simp [List.getD_eq_getElem?_getD, hi]
theorem whole_fin : ((List.range (r * c)).map fun k => whl (z k)).any (fun x => !finF x) = false := by
  rw [List.any_eq_false]
  intro x hx
  obtain ⟨k, _, rfl⟩ := List.mem_map.1 hx
  have h := (whl_wv (z := z k) (by have := hz k; omega)).1
  simpa [finF] using h
theorem whole_row {i : Nat} (hi : i < r) : rowS ((List.range (r * c)).map fun k => whl (z k)) c i = whl (absZ z (i * c) c) := by
  have h1 : (i + 1) * c ≤ r * c := Nat.mul_le_mul_right c (by omega)
  have h2 : i * c + c = (i + 1) * c := by rw [Nat.add_mul, Nat.one_mul]
  have key : ∀ j, j ≤ c → sumUp ((((List.range (r * c)).map fun k => whl (z k)).drop (i * c)).take j) = whl (absZ z (i * c) j) := by
    intro j
    induction j with
    | zero =>
      intro _
      rw [List.take_zero]
      show (0 : Nat) = whl 0
      rw [whl_zero]
    | succ j ih =>
      intro hj
      have hi' : i * c + j < r * c := by omega
      rw [take_snoc (by simp; omega), sumUp_snoc, ih (by omega), whole_at hr hc hz hi', mag_whl (by have := hz (i * c + j); omega)]
      have b := absZ_bound hz (i * c) j
      have := hz (i * c + j)
      exact addV_whl b.1 (by omega) (by omega)
  exact key c (Nat.le_refl _)

theorem check10 (s : List Bool) : iter (T_girderlaw10_MatrixSizes_b11 ((List.range r).map fun i => whl (dotZ (fun q => z (i * c + q)) (sgZ s) c)) (mostS ((List.range (r * c)).map fun k => whl (z k)) c r)) FU 0 = some (.inl ()) := by
  have fin : ∀ p ∈ (List.range (r * c)).map (fun k => whl (z k)), magF p < 9218868437227405312 := fun p hp => fin_mem (whole_fin hr hc hz) hp
  have good := mostS_good fin c r
  have := iter_nat (b := T_girderlaw10_MatrixSizes_b11 ((List.range r).map fun i => whl (dotZ (fun q => z (i * c + q)) (sgZ s) c)) (mostS ((List.range (r * c)).map fun k => whl (z k)) c r)) (fun i => ((i : Nat) : Int)) (o := .inl ()) r (by rw [FU_eq]; omega) (fun i hi => by
    have db := dot_abs (z := z) s (i * c) c
    have ab := absZ_bound hz (i * c) c
    have wy : Wv (whl (dotZ (fun q => z (i * c + q)) (sgZ s) c)) (dotZ (fun q => z (i * c + q)) (sgZ s) c) := whl_wv (by omega)
    have wr : Wv (whl (absZ z (i * c) c)) (absZ z (i * c) c) := whl_wv (by omega)
    have gr := rowS_good fin c i
    have ge : magF (whl (dotZ (fun q => z (i * c + q)) (sgZ s) c)) ≤ mostS ((List.range (r * c)).map fun k => whl (z k)) c r := by
      refine Nat.le_trans ?_ (mostS_ge _ c hi)
      rw [whole_row hr hc hz hi] at gr ⊢
      have m := good_mag gr
      refine vmag_le_iff.1 ?_
      rw [← m, ← sval_size, ← sval_size, wy.2, wr.2, Int.natAbs_mul, Int.natAbs_mul]
      exact Nat.mul_le_mul_right _ (by omega)
    have at' : ((List.range r).map fun i => whl (dotZ (fun q => z (i * c + q)) (sgZ s) c)).getD i 0 = whl (dotZ (fun q => z (i * c + q)) (sgZ s) c) := by
      simp [List.getD_eq_getElem?_getD, hi]
    unfold T_girderlaw10_MatrixSizes_b11
    simp only [Option.bind_some]
    rw [cond_t (by simp; omega), at_getD 0 (by simpa using hi), Option.bind_some, at']
    generalize whl (dotZ (fun q => z (i * c + q)) (sgZ s) c) = y at wy ge
    have nn : nf (fneg y) = fneg y := nf_of_not (by rw [isNaN_mag, fneg_mag]; exact decide_eq_false (by have := wy.1; omega))
    rw [fgt_not wy.1 good ge]
    simp only [Bool.not_false, cT, Option.bind_some]
    rw [nn, fgt_not (by rw [fneg_mag]; exact wy.1) good (by rw [fneg_mag]; exact ge), cF, wrU (by omega)]) (by
    unfold T_girderlaw10_MatrixSizes_b11
    simp only [Option.bind_some]
    rw [cond_f (by simp)])
  exact this
end

theorem app_set {p r : List Nat} {x y i : Nat} (h : p.length = i) : (p ++ x :: r).set i y = p ++ y :: r := by
  subst h; simp
theorem signs10 (s : List Bool) {c : Nat} (hc : c ≤ 6) : iter (T_girderlaw10_MatrixSizes_b9 (c : Int) s) FU (0, List.map nf []) = some ((List.range c).map fun j => whl (sgZ s j)) := by
  have w1 : nf 4607182418800017408 = whl 1 := by decide +kernel
  have w2 : nf 13830554455654793216 = whl (-1) := by decide +kernel
  have := iter_nat (b := T_girderlaw10_MatrixSizes_b9 (c : Int) s) (fun k => (((k : Nat) : Int), (List.range k).map fun j => whl (sgZ s j))) (o := (List.range c).map fun j => whl (sgZ s j)) c (by rw [FU_eq]; omega) (fun k hk => by
    have e : (List.range (k + 1)).map (fun j => whl (sgZ s j)) = (List.range k).map (fun j => whl (sgZ s j)) ++ [whl (sgZ s k)] := (map_range_snoc (G := fun j => whl (sgZ s j))).symm
    unfold T_girderlaw10_MatrixSizes_b9
    dsimp only
    rw [cond_t (by simp; omega), Option.bind_some, app_le (by simp; omega), Option.bind_some, Option.bind_some, e]
    by_cases h : k < s.length
    · have g : sgZ s k = if s.getD k false then -1 else 1 := rfl
      rw [cond_t (by simpa using h), at_getD false h, Option.bind_some, g]
      cases s.getD k false with
      | false => simp only [cF, Option.bind_some, w1, wrU (show k + 1 < 9223372036854775808 by omega)]; rfl
      | true =>
        rw [cT, at_getD 0 (by simp), Option.bind_some, Option.bind_some, Option.bind_some]
        simp only [Option.bind_some, Int.toNat_natCast]
        rw [wrU (by omega), w2, app_set (by simp)]; rfl
    · have g : sgZ s k = 1 := by
        unfold sgZ
        rw [List.getD_eq_getElem?_getD, List.getElem?_eq_none (by omega)]; rfl
      rw [cond_f (by simpa using h), g]
      simp only [Option.bind_some, w1, wrU (show k + 1 < 9223372036854775808 by omega)]) (by
    unfold T_girderlaw10_MatrixSizes_b9
    dsimp only
    rw [cond_f (by simp)])
  exact this

theorem sizes10 (q0 q1 : Int) {l : List Nat} (s : List Bool) (hl : l.length ≤ 1048576) : T_girderlaw10_MatrixSizes q0 q1 l s = some true := by
  have hr := pk_le q0
  have hc := pk_le q1
  have hrc : pk q0 * pk q1 ≤ 36 := Nat.mul_le_mul hr hc
  unfold T_girderlaw10_MatrixSizes
  rw [laidLaw_t (G := layL l) (by omega) (fun k _ => layV_f l k), Option.bind_some]
  dsimp only
  have len : ((List.range (pk q0 * pk q1)).map (layL l)).length = pk q0 * pk q1 := by simp
  generalize (List.range (pk q0 * pk q1)).map (layL l) = d at len
  rw [mnorm_t, finite10_t (by omega)]
  cases hf : d.any (fun x => !finF x) with
  | true =>
    have nv : normV (pk q0 : Int) (pk q1 : Int) d = (0, 5) := by
      unfold normV
      rw [rightB_mk (by omega) (by omega) len, if_pos rfl, hf]; simp
    have f0 : feq 0 (nf 0) = true := by decide +kernel
    rw [nv, Option.bind_some, Option.bind_some]
    dsimp only
    simp only [f0, awake10, Option.bind_some, Bool.not_true, Bool.not_false, cT, cF, beq_self_eq_true]
  | false =>
    have nv : normV (pk q0 : Int) (pk q1 : Int) d = (mostS d (pk q1) (pk q0), 0) := normV_of (by omega) (by omega) len hf
    have good := mostS_good (l := d) (fun p hp => fin_mem hf hp) (pk q1) (pk q0)
    rw [nv, Option.bind_some, Option.bind_some]
    dsimp only
    have t9 : (fgt (mostS d (pk q1) (pk q0)) (nf 0) || feq (mostS d (pk q1) (pk q0)) (nf 0)) = true := by
      rw [nf_zero, fgt_zero, feq_zero, good_mag good, good_neg good]
      unfold goodF at good
      by_cases h0 : mostS d (pk q1) (pk q0) = 0
      · simp [h0]
      · simp [h0, good]
    simp only [t9, Bool.not_true, Bool.not_false, cT, cF, bne_self_eq_false, Option.bind_some]
    rw [nf_zero, rows10 hr hc len hf, Option.bind_some]
    dsimp only
    have hz := fun k => (layZ_t l k).2
    rw [laidLaw_t (G := fun k => whl (layZ l k)) (by omega) (fun k _ => (layZ_t l k).1), Option.bind_some]
    dsimp only
    have wf := whole_fin hr hc hz
    have wlen : ((List.range (pk q0 * pk q1)).map fun k => whl (layZ l k)).length = pk q0 * pk q1 := by simp
    rw [mnorm_t, normV_of (by omega) (by omega) wlen wf, Option.bind_some]
    dsimp only
    rw [signs10 s hc, Option.bind_some, apply_t (by omega) (by omega) wlen (by simp), Option.bind_some]
    dsimp only
    have ye : (List.range (pk q0)).map (fun i => dotN (fun k => ((List.range (pk q0 * pk q1)).map fun k => whl (layZ l k)).getD (i * pk q1 + k) 0) (fun k => ((List.range (pk q1)).map fun j => whl (sgZ s j)).getD k 0) (pk q1)) = (List.range (pk q0)).map (fun i => whl (dotZ (fun q => layZ l (i * pk q1 + q)) (sgZ s) (pk q1))) := by
      apply List.map_congr_left
      intro i hi
      have hi : i < pk q0 := by simpa using hi
      refine dotN_whl _ fun k hk => ?_
      have h1 := idxL hi hk
      have sb : (sgZ s k).natAbs ≤ 1 := by unfold sgZ; split <;> decide
      have lb := hz (i * pk q1 + k)
      have mb := mul_bound lb sb
      have db := dot_abs (z := layZ l) s (i * pk q1) k
      have ab := absZ_bound hz (i * pk q1) k
      rw [whole_at hr hc hz h1, show ((List.range (pk q1)).map fun j => whl (sgZ s j)).getD k 0 = whl (sgZ s k) by simp [List.getD_eq_getElem?_getD, hk]]
      exact ⟨whl_wv (by omega), whl_wv (by omega), by omega, by omega⟩
    rw [ye]
    have t46 : ((((List.range (pk q0)).map fun i => whl (dotZ (fun q => layZ l (i * pk q1 + q)) (sgZ s) (pk q1))).length : Nat) : Int) = (pk q0 : Int) := by simp
    simp only [bne_self_eq_false, Bool.not_false, cT, Option.bind_some, t46, cF]
    rw [check10 hr hc hz s, Option.bind_some]
    dsimp only
    have fs : feq (mostS d (pk q1) (pk q0)) (mostS d (pk q1) (pk q0)) = true := by rw [feq_self, good_nan good]; rfl
    rw [fs]
    simp only [cT, Option.bind_some, awake10]

section
variable {N : Nums} {P : Program} (H : AllOk N P)
include H
theorem sizes10_f {q r : Int} {sa sb : Option Addr} {na ma nb mb : Nat} {la : List Nat} {lb : List Bool} {w : World} (hA : Reals w sa na ma la) (hB : rdA (lb.map Value.bool) sb nb mb w) (ha : na ≤ 1048576) :
    CallsX P N.f_girderlaw10_MatrixSizes #[.int .i64 q, .int .i64 r, .slice sa na ma, .slice sb nb mb] w fun v w' => v = .bool true ∧ ∃ M, St w w' M := by
  have hS := ((Ho.start w).arg own_nil hB).arg (own_cons rfl own_nil) (.ofReals hA)
  exact wk_girderlaw10_MatrixSizes H hS (Ent.rd mp0) (Ent.rd mp1) (sizes10 q r lb (by rw [List.length_map, hA.len]; exact ha)) fun w1 h => ⟨rfl, h.some_old⟩
end
end Go.Eng
