/-
  Norms of lists and matrices on the plain side: the code's and the reference's. No condition.
-/
import Derived.Test.YtfbhhfgelebpnaaPm2
set_option linter.unusedVariables false
set_option linter.unusedSimpArgs false
set_option maxRecDepth 100000
set_option maxHeartbeats 4000000
namespace Go.Eng
open Go

theorem sumUp_snoc (l : List Nat) (x : Nat) : sumUp (l ++ [x]) = addV (sumUp l) (magF x) 2 := by simp [sumUp, List.foldl_append]
theorem take_snoc {l : List Nat} {k j : Nat} (h : k + j < l.length) : (l.drop k).take (j + 1) = (l.drop k).take j ++ [l.getD (k + j) 0] := by
  rw [List.take_add_one]
  simp [h, List.getD_eq_getElem?_getD]
theorem fmx_good {a b : Nat} (ha : goodF a) (hb : goodF b) : fmx true a b = max a b := by
  unfold fmx
  rw [order_good ha hb]
  rcases Nat.lt_trichotomy a b with h | h | h
  · rw [Nat.compare_eq_lt.2 h]; simp; omega
  · subst h; rw [Nat.compare_eq_eq.2 rfl]; cases (Ieee.double.read a).neg <;> simp
  · rw [Nat.compare_eq_gt.2 h]; simp; omega
theorem fgt_good {a b : Nat} (ha : goodF a) (hb : goodF b) : fgt a b = decide (b < a) := by
  unfold fgt
  rw [order_good ha hb, Bool.eq_iff_iff]
  rcases Nat.lt_trichotomy a b with h | h | h
  · rw [Nat.compare_eq_lt.2 h]; simp; omega
  · subst h; rw [Nat.compare_eq_eq.2 rfl]; simp
  · rw [Nat.compare_eq_gt.2 h]; simp [h]

theorem norm1_t (x : Nat) : T_matrix_Norm_1 x = some (!finF x) := by
  unfold T_matrix_Norm_1 finF
  simp only [Option.bind_some, nf_zero, finite_sub]

theorem contains_t {l : List Nat} {f : Nat → Option Bool} {p : Nat → Bool} (hf : ∀ x, f x = some (p x)) (hl : l.length ≤ 4294967296) : T_slices_ContainsFunc___float64_float64 l f = some (l.any p) := by
  unfold T_slices_ContainsFunc___float64_float64 T_slices_IndexFunc___float64_float64
  simp only [Option.bind_some]
  have step : ∀ i, i < l.length → p (l.getD i 0) = false → T_slices_IndexFunc___float64_float64_b2 ((l.length : Nat) : Int) l f ((i : Nat) : Int) = some (.inl ((i + 1 : Nat) : Int)) := by
    intro i hi he
    unfold T_slices_IndexFunc___float64_float64_b2
    simp only [at_getD 0 hi, hf, he, Option.bind_some, cF]
    rw [cond_t (by simp; omega), wrU (by omega)]
  rcases first_mark (fun i => p (l.getD i 0)) l.length with hall | ⟨i, hi, hp, hbef⟩
  · have := iter_nat (b := T_slices_IndexFunc___float64_float64_b2 ((l.length : Nat) : Int) l f) (fun i => ((i : Nat) : Int)) (o := .inl ()) l.length (by rw [FU_eq]; omega) (fun i hi => step i hi (hall i hi)) (by
      unfold T_slices_IndexFunc___float64_float64_b2
      dsimp only
      rw [cond_f (by simp)])
    rw [show ((0 : Nat) : Int) = 0 from rfl] at this
    rw [this]
    have e : l.any p = false := by
      rw [List.any_eq_false]
      intro x hx
      obtain ⟨i, hi, rfl⟩ := List.getElem_of_mem hx
      have := hall i hi
      simp only [List.getD_eq_getElem?_getD, List.getElem?_eq_getElem hi] at this
      simpa using this
    rw [e]; rfl
  · have := iter_nat (b := T_slices_IndexFunc___float64_float64_b2 ((l.length : Nat) : Int) l f) (fun i => ((i : Nat) : Int)) (o := .inr ((i : Nat) : Int)) i (by rw [FU_eq]; omega) (fun j hj => step j (by omega) (hbef j hj)) (by
      unfold T_slices_IndexFunc___float64_float64_b2
      simp only [at_getD 0 hi, hf, hp, Option.bind_some, cT]
      rw [cond_t (by simp; omega)])
    rw [show ((0 : Nat) : Int) = 0 from rfl] at this
    rw [this]
    have e : l.any p = true := by
      rw [List.any_eq_true]
      refine ⟨l[i], List.getElem_mem hi, ?_⟩
      simpa [List.getD_eq_getElem?_getD, List.getElem?_eq_getElem hi] using hp
    rw [e]
    simp

theorem fin_mem {l : List Nat} (h : l.any (fun x => !finF x) = false) {p : Nat} (hp : p ∈ l) : magF p < 9218868437227405312 := by
  have := List.any_eq_false.1 h p hp
  simpa [finF] using this

theorem vnorm_t {l : List Nat} (h : ∀ p ∈ l, magF p < 9218868437227405312) (hl : l.length ≤ 4294967296) : T_vector_Norm l = some (sumUp l) := by
  unfold T_vector_Norm
  simp only [Option.bind_some]
  have good : ∀ i, goodF (sumUp (l.take i)) := fun i => sumUp_good fun p hp => h p (List.mem_of_mem_take hp)
  have := iter_nat (b := T_vector_Norm_b2 ((l.length : Nat) : Int) l) (fun i => (sumUp (l.take i), ((i : Nat) : Int))) (o := sumUp l) l.length (by rw [FU_eq]; omega) (fun i hi => by
    have hm : magF (l.getD i 0) < 9218868437227405312 := h _ (by rw [List.getD_eq_getElem?_getD, List.getElem?_eq_getElem hi]; exact List.getElem_mem hi)
    have e1 : nf (magF (l.getD i 0)) = magF (l.getD i 0) := nf_of_not (by rw [isNaN_mag, magF_magF]; exact decide_eq_false (by omega))
    have e2 : sumUp (l.take (i + 1)) = addV (sumUp (l.take i)) (magF (l.getD i 0)) 2 := by
      have := take_snoc (l := l) (k := 0) (j := i) (by omega)
      simp only [List.drop_zero, Nat.zero_add] at this
      rw [this, sumUp_snoc]
    unfold T_vector_Norm_b2
    dsimp only
    rw [cond_t (by simp; omega), at_getD 0 hi]
    simp only [Option.bind_some, abs_t, e1, add_t (m := 2) (by decide) (by decide)]
    rw [← e2, nf_of_not (good_nan (good (i + 1))), wrU (by omega)]) (by
    unfold T_vector_Norm_b2
    dsimp only
    rw [cond_f (by simp), List.take_length])
  simp only [List.take_zero, show ((0 : Nat) : Int) = 0 from rfl] at this
  rw [nf_zero]
  rw [show sumUp [] = 0 from rfl] at this
  rw [this]; rfl

def rowS (l : List Nat) (c i : Nat) : Nat := sumUp ((l.drop (i * c)).take c)
def mostS (l : List Nat) (c : Nat) : Nat → Nat
  | 0 => 0
  | n + 1 => max (mostS l c n) (rowS l c n)
theorem rowS_good {l : List Nat} (h : ∀ p ∈ l, magF p < 9218868437227405312) (c i : Nat) : goodF (rowS l c i) := sumUp_good fun p hp => h p (List.mem_of_mem_drop (List.mem_of_mem_take hp))
theorem mostS_good {l : List Nat} (h : ∀ p ∈ l, magF p < 9218868437227405312) (c : Nat) : ∀ n, goodF (mostS l c n)
  | 0 => by unfold mostS goodF; omega
  | n + 1 => by
    have h1 := mostS_good h c n
    have h2 := rowS_good h c n
    show max (mostS l c n) (rowS l c n) ≤ 9218868437227405312
    unfold goodF at h1 h2
    omega

def normV (r c : Int) (l : List Nat) : Nat × Int := if rightB r c l.length then (if l.any (fun x => !finF x) then (0, 5) else (mostS l c.toNat r.toNat, 0)) else (0, 4)

theorem mnorm_t (r c : Int) (l : List Nat) : T_matrix_Norm r c l = some (normV r c l) := by
  unfold T_matrix_Norm normV
  rw [right_t, Option.bind_some]
  cases hR : rightB r c l.length with
  | false => simp [nf_zero]
  | true =>
    obtain ⟨a, b, rfl, rfl, ha, hb, hl, h2⟩ := rightB_nat hR
    rw [Bool.not_true, cF, contains_t (p := fun x => !finF x) (fun x => norm1_t x) (by omega), Option.bind_some]
    cases hf : l.any (fun x => !finF x) with
    | true => simp [nf_zero]
    | false =>
      have fin : ∀ p ∈ l, magF p < 9218868437227405312 := fun p hp => fin_mem hf hp
      simp only [cF, if_true, Int.toNat_natCast]
      have := iter_nat (b := T_matrix_Norm_b2 a l b) (fun i => (mostS l b i, ((i : Nat) : Int))) (o := mostS l b a) a (by rw [FU_eq]; omega) (fun i hi => by
        have h3 : (i + 1) * b ≤ a * b := Nat.mul_le_mul_right _ hi
        have h4 : i * b ≤ (i + 1) * b := Nat.mul_le_mul_right _ (by omega)
        unfold T_matrix_Norm_b2
        dsimp only
        rw [cond_t (by simp; omega), wrMul (by omega), wrU (by omega), wrMul (by omega), sub_nat h4 (by omega), Option.bind_some]
        have e : (i + 1) * b - i * b = b := by rw [Nat.succ_mul]; omega
        rw [e, vnorm_t (fun p hp => fin p (List.mem_of_mem_drop (List.mem_of_mem_take hp))) (by simp; omega)]
        simp only [Option.bind_some]
        show some (Sum.inl (fmx true (mostS l b i) (rowS l b i), _)) = _
        rw [fmx_good (mostS_good fin b i) (rowS_good fin b i)]
        rfl) (by
        unfold T_matrix_Norm_b2
        dsimp only
        rw [cond_f (by simp)])
      have this : iter (T_matrix_Norm_b2 a l b) FU (0, 0) = some (mostS l b a) := this
      rw [nf_zero, this]
      rfl

theorem rfin1_t (x : Nat) : T_girderref01_Finite x = some (finF x) := by
  unfold T_girderref01_Finite T_girderref01_Kind
  simp only [Option.bind_some]
  congr 1
  have e : magF x = expF x * 4503599627370496 + fracF x := by unfold magF expF fracF; omega
  have hf : fracF x < 4503599627370496 := Nat.mod_lt _ (by omega)
  have he : expF x < 2048 := Nat.mod_lt _ (by omega)
  unfold finF
  rw [e, Bool.eq_iff_iff]
  by_cases h2 : expF x = 2047 <;> by_cases h3 : fracF x = 0 <;> by_cases h4 : expF x = 0 <;> simp [h2, h3, h4] <;> omega

theorem rnorm_t (r c : Int) (l : List Nat) (hw : ∀ p ∈ l, p < 18446744073709551616) : T_girderref10_Norm r c l = some (normV r c l) := by
  unfold T_girderref10_Norm normV
  rw [rright_t, Option.bind_some]
  cases hR : rightB r c l.length with
  | false => simp [nf_zero]
  | true =>
    obtain ⟨a, b, rfl, rfl, ha, hb, hl, h2⟩ := rightB_nat hR
    rw [Bool.not_true, cF]
    have step : ∀ i, i < l.length → finF (l.getD i 0) = true → T_girderref10_Norm_b2 l ((i : Nat) : Int) = some (.inl ((i + 1 : Nat) : Int)) := by
      intro i hi he
      unfold T_girderref10_Norm_b2
      simp only [at_getD 0 hi, rfin1_t, he, Option.bind_some, Bool.not_true, cF]
      rw [cond_t (by simp; omega), wrU (by omega)]
    rcases first_mark (fun i => !finF (l.getD i 0)) l.length with hall | ⟨i, hi, hp, hbef⟩
    · have := iter_nat (b := T_girderref10_Norm_b2 l) (fun i => ((i : Nat) : Int)) (o := .inl ()) l.length (by rw [FU_eq]; omega) (fun i hi => step i hi (by simpa using hall i hi)) (by
        unfold T_girderref10_Norm_b2
        simp only [Option.bind_some]
        rw [cond_f (by simp)])
      rw [show ((0 : Nat) : Int) = 0 from rfl] at this
      rw [this]
      have e : l.any (fun x => !finF x) = false := by
        rw [List.any_eq_false]
        intro x hx
        obtain ⟨i, hi, rfl⟩ := List.getElem_of_mem hx
        have := hall i hi
        simp only [List.getD_eq_getElem?_getD, List.getElem?_eq_getElem hi] at this
        simpa using this
      have fin : ∀ p ∈ l, magF p < 9218868437227405312 := fun p hp => fin_mem e hp
      simp only [e, Option.bind_some, if_true, Int.toNat_natCast]
      have row : ∀ i, i < a → iter (T_girderref10_Norm_b20 b a l i) FU (nf 0, 0) = some (rowS l b i) := by
        intro i hi
        have good : ∀ j, goodF (sumUp ((l.drop (i * b)).take j)) := fun j => sumUp_good fun p hp => fin p (List.mem_of_mem_drop (List.mem_of_mem_take hp))
        have := iter_nat (b := T_girderref10_Norm_b20 b a l i) (fun j => (sumUp ((l.drop (i * b)).take j), ((j : Nat) : Int))) (o := rowS l b i) b (by rw [FU_eq]; omega) (fun j hj => by
          have hidx := idxL hi hj
          have hx : l.getD (i * b + j) 0 ∈ l := by
            rw [List.getD_eq_getElem?_getD, List.getElem?_eq_getElem (show i * b + j < l.length by omega)]
            exact List.getElem_mem _
          have hm := fin _ hx
          have hxw := hw _ hx
          have hnx : isNaN (l.getD (i * b + j) 0) = false := by rw [isNaN_mag]; exact decide_eq_false (by omega)
          have e1 : nf (fneg (l.getD (i * b + j) 0)) = fneg (l.getD (i * b + j) 0) := nf_of_not (by rw [isNaN_fneg]; exact hnx)
          unfold T_girderref10_Norm_b20 T_girderref10_At
          dsimp only
          rw [cond_t (by simp; omega), wrIdx hi hj (by omega), at_getD 0 (by omega)]
          simp only [Option.bind_some, nf_zero, e1]
          have e2 : (cond (flt (l.getD (i * b + j) 0) 0) (some (fneg (l.getD (i * b + j) 0))) (some (l.getD (i * b + j) 0))) = some (if flt (l.getD (i * b + j) 0) 0 = true then fneg (l.getD (i * b + j) 0) else l.getD (i * b + j) 0) := by
            cases flt (l.getD (i * b + j) 0) 0 <;> rfl
          rw [e2, Option.bind_some, radd_t (by split; exact fneg_lt hxw; exact hxw), Option.bind_some, addV_ref (good j) hm hxw, ← sumUp_snoc, ← take_snoc (by omega), nf_of_not (good_nan (good (j + 1))), wrU (by omega)]) (by
          unfold T_girderref10_Norm_b20
          dsimp only
          rw [cond_f (by simp)]
          rfl)
        simp only [List.take_zero, show ((0 : Nat) : Int) = 0 from rfl] at this
        rw [nf_zero]
        rw [show sumUp [] = 0 from rfl] at this
        exact this
      have := iter_nat (b := T_girderref10_Norm_b16 a b l) (fun i => (mostS l b i, ((i : Nat) : Int))) (o := mostS l b a) a (by rw [FU_eq]; omega) (fun i hi => by
        unfold T_girderref10_Norm_b16
        dsimp only
        rw [cond_t (by simp; omega), row i hi]
        simp only [Option.bind_some, fgt_good (rowS_good fin b i) (mostS_good fin b i)]
        have e3 : (cond (decide (mostS l b i < rowS l b i)) (some (rowS l b i)) (some (mostS l b i))) = some (mostS l b (i + 1)) := by
          refine eq_cond (fun h => ?_) (fun h => ?_)
          · have h : mostS l b i < rowS l b i := by simpa using h
            show _ = some (max _ _)
            congr 1; omega
          · have h : ¬ mostS l b i < rowS l b i := by simpa using h
            show _ = some (max _ _)
            congr 1; omega
        rw [e3]
        simp only [Option.bind_some]
        rw [wrU (by omega)]) (by
        unfold T_girderref10_Norm_b16
        dsimp only
        rw [cond_f (by simp)])
      have this : iter (T_girderref10_Norm_b16 a b l) FU (0, 0) = some (mostS l b a) := this
      rw [nf_zero, this]
      rfl
    · have := iter_nat (b := T_girderref10_Norm_b2 l) (fun i => ((i : Nat) : Int)) (o := .inr (nf 0, 5)) i (by rw [FU_eq]; omega) (fun j hj => step j (by omega) (by simpa using hbef j hj)) (by
        have e : finF (l.getD i 0) = false := by simpa using hp
        unfold T_girderref10_Norm_b2
        simp only [at_getD 0 hi, rfin1_t, e, Option.bind_some, Bool.not_false, cT]
        rw [cond_t (by simp; omega)])
      rw [show ((0 : Nat) : Int) = 0 from rfl] at this
      rw [this]
      have e : l.any (fun x => !finF x) = true := by
        rw [List.any_eq_true]
        refine ⟨l[i], List.getElem_mem hi, ?_⟩
        simpa [List.getD_eq_getElem?_getD, List.getElem?_eq_getElem hi] using hp
      simp [e, nf_zero]

end Go.Eng
