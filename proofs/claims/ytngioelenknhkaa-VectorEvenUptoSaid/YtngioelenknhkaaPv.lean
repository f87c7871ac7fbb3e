/-
  Lists of floats on the plain side: the package vector and its reference. No condition.
-/
import Derived.Test.YtngioelenknhkaaPs
import Derived.Test.YtngioelenknhkaaPd
import Derived.Test.YtngioelenknhkaaPmR
import Derived.Test.YtngioelenknhkaaFth
set_option linter.unusedVariables false
set_option linter.unusedSimpArgs false
set_option linter.unnecessarySimpa false
set_option linter.unusedSectionVars false
set_option maxRecDepth 100000
set_option maxHeartbeats 4000000
namespace Go.Eng
open Go

def fitV (a b : List Nat) : Int := if a.length = b.length then (if 4096 < a.length then 3 else 0) else 4
theorem fit_t (a b : List Nat) : T_vector_fit a b = some (fitV a b) := by
  unfold T_vector_fit fitV
  simp only [Option.bind_some]
  refine eq_cond (fun h => ?_) (fun h => ?_)
  · have : ¬ a.length = b.length := by simp at h; omega
    rw [if_neg this]
  · have : a.length = b.length := by simp at h; omega
    rw [if_pos this]
    refine eq_cond (fun h => ?_) (fun h => ?_)
    · rw [if_pos (by simp at h; omega)]
    · rw [if_neg (by simp at h; omega)]
theorem rfit_t (a b : List Nat) : T_girderref09_Fit a b = some (fitV a b) := fit_t a b

def zipV (g : Nat → Nat → Nat) (a b : List Nat) : List Nat := (List.range a.length).map fun i => g (a.getD i 0) (b.getD i 0)
def eachV (g : Nat → Nat → Nat) (a b : List Nat) : List Nat × Int := if fitV a b = 0 then (zipV g a b, 0) else ([], fitV a b)

theorem fit_zero {a b : List Nat} (h : fitV a b = 0) : a.length = b.length ∧ a.length ≤ 4096 := by
  unfold fitV at h
  split at h
  · split at h
    · cases h
    · exact ⟨by assumption, by omega⟩
  · cases h

theorem each_t {f : Nat → Nat → Option Nat} {g : Nat → Nat → Nat} (hf : ∀ x y, f x y = some (g x y)) (a b : List Nat) : T_vector_each a b f = some (eachV g a b) := by
  unfold T_vector_each eachV
  simp only [fit_t, Option.bind_some]
  by_cases h : fitV a b = 0
  · obtain ⟨h1, h2⟩ := fit_zero h
    rw [if_pos h, cond_f (by simp [h]), mk_nat (by omega), Option.bind_some]
    have := iter_nat (b := T_vector_each_b2 ((a.length : Nat) : Int) a b f) (fun i => (((i : Nat) : Int), filled a.length (nf 0) (fun i => g (a.getD i 0) (b.getD i 0)) i)) (o := zipV g a b) a.length (by rw [FU_eq]; omega) (fun i hi => by
      unfold T_vector_each_b2
      dsimp only
      rw [cond_t (by simp; omega), at_getD 0 hi, Option.bind_some, at_getD 0 (by omega), Option.bind_some, hf, Option.bind_some, at_getD 0 (by rw [filled_len (by omega)]; exact hi)]
      simp only [Option.bind_some, Int.toNat_natCast]
      rw [filled_set hi, wrU (by omega)]) (by
      unfold T_vector_each_b2
      dsimp only
      rw [cond_f (by simp), filled_full]; rfl)
    have this : iter (T_vector_each_b2 ((a.length : Nat) : Int) a b f) FU (0, filled a.length (nf 0) (fun i => g (a.getD i 0) (b.getD i 0)) 0) = some (zipV g a b) := this
    rw [filled_zero] at this
    rw [this]; rfl
  · rw [if_neg h, cond_t (by simpa using h)]; rfl

theorem vadd_t (a b : List Nat) : T_vector_Add a b = some (eachV fadd a b) := by
  unfold T_vector_Add
  rw [each_t (f := fun v0 v1 => T_vector_Add_1 v0 v1) (g := fadd) (fun x y => rfl) a b]; rfl
theorem vsub_t (a b : List Nat) : T_vector_Sub a b = some (eachV fsub a b) := by
  unfold T_vector_Sub
  rw [each_t (f := fun v0 v1 => T_vector_Sub_1 v0 v1) (g := fsub) (fun x y => rfl) a b]; rfl
theorem vaxpy_t (t : Nat) (a b : List Nat) : T_vector_Axpy t a b = some (eachV (fun x y => fadd (fmul t x) y) a b) := by
  unfold T_vector_Axpy
  rw [each_t (f := fun v0 v1 => T_vector_Axpy_1 v0 v1 t) (g := fun x y => fadd (fmul t x) y) (fun x y => rfl) a b]; rfl

theorem raxpy_t (t : Nat) (a b : List Nat) : T_girderref09_Axpy t a b = some (eachV (fun x y => fadd (fmul t x) y) a b) := by
  unfold T_girderref09_Axpy eachV
  simp only [rfit_t, Option.bind_some]
  by_cases h : fitV a b = 0
  · obtain ⟨h1, h2⟩ := fit_zero h
    rw [if_pos h, cond_f (by simp [h])]
    have := iter_nat (b := T_girderref09_Axpy_b2 a t b) (fun i => (((i : Nat) : Int), (List.range i).map fun i => fadd (fmul t (a.getD i 0)) (b.getD i 0))) (o := zipV (fun x y => fadd (fmul t x) y) a b) a.length (by rw [FU_eq]; omega) (fun i hi => by
      unfold T_girderref09_Axpy_b2
      simp only [Option.bind_some]
      rw [cond_t (by simp; omega), at_getD 0 hi, Option.bind_some, at_getD 0 (by omega), Option.bind_some, app_le (by simp; omega), Option.bind_some, map_range_snoc (G := fun i => fadd (fmul t (a.getD i 0)) (b.getD i 0)), wrU (by omega)]) (by
      unfold T_girderref09_Axpy_b2
      simp only [Option.bind_some]
      rw [cond_f (by simp)]; rfl)
    have this : iter (T_girderref09_Axpy_b2 a t b) FU (0, []) = some (zipV (fun x y => fadd (fmul t x) y) a b) := this
    rw [show List.map nf [] = ([] : List Nat) from rfl, this]; rfl
  · rw [if_neg h, cond_t (by simpa using h)]; rfl
theorem rsub9_t (a b : List Nat) : T_girderref09_Sub a b = some (eachV fsub a b) := by
  unfold T_girderref09_Sub eachV
  simp only [rfit_t, Option.bind_some]
  by_cases h : fitV a b = 0
  · obtain ⟨h1, h2⟩ := fit_zero h
    rw [if_pos h, cond_f (by simp [h])]
    have := iter_nat (b := T_girderref09_Sub_b2 a b) (fun i => (((i : Nat) : Int), (List.range i).map fun i => fsub (a.getD i 0) (b.getD i 0))) (o := zipV fsub a b) a.length (by rw [FU_eq]; omega) (fun i hi => by
      unfold T_girderref09_Sub_b2
      simp only [Option.bind_some]
      rw [cond_t (by simp; omega), at_getD 0 hi, Option.bind_some, at_getD 0 (by omega), Option.bind_some, app_le (by simp; omega), Option.bind_some, map_range_snoc (G := fun i => fsub (a.getD i 0) (b.getD i 0)), wrU (by omega)]) (by
      unfold T_girderref09_Sub_b2
      simp only [Option.bind_some]
      rw [cond_f (by simp)]; rfl)
    have this : iter (T_girderref09_Sub_b2 a b) FU (0, []) = some (zipV fsub a b) := this
    rw [show List.map nf [] = ([] : List Nat) from rfl, this]; rfl
  · rw [if_neg h, cond_t (by simpa using h)]; rfl
theorem radd9_t (a b : List Nat) (hw : ∀ p ∈ a, p < 18446744073709551616) : T_girderref09_Add a b = some (eachV fadd a b) := by
  unfold T_girderref09_Add
  have e1 : nf 4607182418800017408 = 4607182418800017408 := by decide +kernel
  rw [raxpy_t, e1, Option.bind_some]
  have e : eachV (fun x y => fadd (fmul 4607182418800017408 x) y) a b = eachV fadd a b := by
    unfold eachV
    have : zipV (fun x y => fadd (fmul 4607182418800017408 x) y) a b = zipV fadd a b := by
      unfold zipV
      apply List.map_congr_left
      intro i hi
      have hi : i < a.length := by simpa using hi
      have hx : a.getD i 0 < 18446744073709551616 := hw _ (by rw [List.getD_eq_getElem?_getD, List.getElem?_eq_getElem hi]; exact List.getElem_mem hi)
      show fadd (fmul 4607182418800017408 (a.getD i 0)) (b.getD i 0) = _
      rw [fmul_one hx]
      exact fadd_eq (nf_nf _) rfl
    rw [this]
  rw [e]

def dotV (a b : List Nat) : Nat × Int := if fitV a b = 0 then (dotN (fun i => a.getD i 0) (fun i => b.getD i 0) a.length, 0) else (0, fitV a b)
theorem dot_t (a b : List Nat) : T_vector_Dot a b = some (dotV a b) := by
  unfold T_vector_Dot dotV
  simp only [fit_t, Option.bind_some]
  by_cases h : fitV a b = 0
  · obtain ⟨h1, h2⟩ := fit_zero h
    rw [if_pos h, cond_f (by simp [h])]
    have := iter_nat (b := T_vector_Dot_b2 ((a.length : Nat) : Int) a b) (fun i => (dotN (fun i => a.getD i 0) (fun i => b.getD i 0) i, ((i : Nat) : Int))) (o := dotN (fun i => a.getD i 0) (fun i => b.getD i 0) a.length) a.length (by rw [FU_eq]; omega) (fun i hi => by
      unfold T_vector_Dot_b2
      dsimp only
      rw [cond_t (by simp; omega), at_getD 0 hi, Option.bind_some, at_getD 0 (by omega)]
      simp only [Option.bind_some]
      rw [wrU (by omega)]; rfl) (by
      unfold T_vector_Dot_b2
      dsimp only
      rw [cond_f (by simp)])
    have this : iter (T_vector_Dot_b2 ((a.length : Nat) : Int) a b) FU (0, 0) = some (dotN (fun i => a.getD i 0) (fun i => b.getD i 0) a.length) := this
    rw [nf_zero, this]; rfl
  · rw [if_neg h, cond_t (by simpa using h), nf_zero]
theorem rdot_t (a b : List Nat) : T_girderref09_Dot a b = some (dotV a b) := by
  unfold T_girderref09_Dot dotV
  simp only [rfit_t, Option.bind_some]
  by_cases h : fitV a b = 0
  · obtain ⟨h1, h2⟩ := fit_zero h
    rw [if_pos h, cond_f (by simp [h])]
    have := iter_nat (b := T_girderref09_Dot_b2 a b) (fun i => (dotN (fun i => a.getD i 0) (fun i => b.getD i 0) i, ((i : Nat) : Int))) (o := dotN (fun i => a.getD i 0) (fun i => b.getD i 0) a.length) a.length (by rw [FU_eq]; omega) (fun i hi => by
      unfold T_girderref09_Dot_b2
      simp only [Option.bind_some]
      rw [cond_t (by simp; omega), at_getD 0 hi, Option.bind_some, at_getD 0 (by omega)]
      simp only [Option.bind_some]
      rw [wrU (by omega)]; rfl) (by
      unfold T_girderref09_Dot_b2
      simp only [Option.bind_some]
      rw [cond_f (by simp)])
    have this : iter (T_girderref09_Dot_b2 a b) FU (0, 0) = some (dotN (fun i => a.getD i 0) (fun i => b.getD i 0) a.length) := this
    rw [nf_zero, this]; rfl
  · rw [if_neg h, cond_t (by simpa using h), nf_zero]

def scaleV (t : Nat) (a : List Nat) : List Nat := (List.range a.length).map fun i => fmul t (a.getD i 0)
theorem scale_t (t : Nat) {a : List Nat} (ha : a.length ≤ 1048576) : T_vector_Scale t a = some (scaleV t a) := by
  unfold T_vector_Scale
  have e0 : mkL (nf 0) 0 ((a.length : Nat) : Int) = some [] := by
    unfold mkL
    rw [if_pos ⟨by omega, by omega, by omega⟩]; rfl
  simp only [Option.bind_some, e0]
  have := iter_nat (b := T_vector_Scale_b2 ((a.length : Nat) : Int) a t) (fun i => (((i : Nat) : Int), (List.range i).map fun i => fmul t (a.getD i 0))) (o := scaleV t a) a.length (by rw [FU_eq]; omega) (fun i hi => by
    unfold T_vector_Scale_b2
    dsimp only
    rw [cond_t (by simp; omega), at_getD 0 hi, Option.bind_some, Option.bind_some, Option.bind_some, app_le (by simp; omega), Option.bind_some, map_range_snoc (G := fun i => fmul t (a.getD i 0)), wrU (by omega)]) (by
    unfold T_vector_Scale_b2
    dsimp only
    rw [cond_f (by simp)]; rfl)
  have this : iter (T_vector_Scale_b2 ((a.length : Nat) : Int) a t) FU (0, []) = some (scaleV t a) := this
  rw [this]; rfl
theorem rscale_t (t : Nat) {a : List Nat} (ha : a.length ≤ 1048576) : T_girderref09_Scale t a = some (scaleV t a) := by
  unfold T_girderref09_Scale
  have := iter_nat (b := T_girderref09_Scale_b2 a t) (fun i => (((i : Nat) : Int), (List.range i).map fun i => fmul t (a.getD i 0))) (o := scaleV t a) a.length (by rw [FU_eq]; omega) (fun i hi => by
    unfold T_girderref09_Scale_b2
    simp only [Option.bind_some]
    rw [cond_t (by simp; omega), at_getD 0 hi, Option.bind_some, app_le (by simp; omega), Option.bind_some, map_range_snoc (G := fun i => fmul t (a.getD i 0)), wrU (by omega)]) (by
    unfold T_girderref09_Scale_b2
    simp only [Option.bind_some]
    rw [cond_f (by simp)]; rfl)
  have this : iter (T_girderref09_Scale_b2 a t) FU (0, []) = some (scaleV t a) := this
  rw [show List.map nf [] = ([] : List Nat) from rfl, this]; rfl

/-! ### Norms, the greatest size -/

def normN (a : List Nat) : Nat → Nat
  | 0 => 0
  | i + 1 => nf (addV (normN a i) (nf (magF (a.getD i 0))) 2)
theorem nfmag_lt (x : Nat) : nf (magF x) < 18446744073709551616 := by
  have := magF_lt x
  unfold nf
  cases isNaN (magF x)
  · show magF x < _; omega
  · show qnan < _; decide
theorem norm_t {a : List Nat} (ha : a.length ≤ 1048576) : T_vector_Norm a = some (normN a a.length) := by
  unfold T_vector_Norm
  simp only [Option.bind_some]
  have := iter_nat (b := T_vector_Norm_b2 ((a.length : Nat) : Int) a) (fun i => (normN a i, ((i : Nat) : Int))) (o := normN a a.length) a.length (by rw [FU_eq]; omega) (fun i hi => by
    unfold T_vector_Norm_b2
    dsimp only
    rw [cond_t (by simp; omega), at_getD 0 hi]
    simp only [Option.bind_some, abs_t, add_t (m := 2) (by decide) (by decide)]
    rw [wrU (by omega)]; rfl) (by
    unfold T_vector_Norm_b2
    dsimp only
    rw [cond_f (by simp)])
  have this : iter (T_vector_Norm_b2 ((a.length : Nat) : Int) a) FU (0, 0) = some (normN a a.length) := this
  rw [nf_zero, this]; rfl
theorem rnorm9_t {a : List Nat} (ha : a.length ≤ 1048576) : T_girderref09_Norm a = some (normN a a.length) := by
  unfold T_girderref09_Norm
  have := iter_nat (b := T_girderref09_Norm_b2 a) (fun i => (normN a i, ((i : Nat) : Int))) (o := normN a a.length) a.length (by rw [FU_eq]; omega) (fun i hi => by
    unfold T_girderref09_Norm_b2
    simp only [Option.bind_some]
    rw [cond_t (by simp; omega), at_getD 0 hi]
    simp only [Option.bind_some, abs_t, radd_t (m := 2) (nfmag_lt _)]
    rw [wrU (by omega)]; rfl) (by
    unfold T_girderref09_Norm_b2
    simp only [Option.bind_some]
    rw [cond_f (by simp)])
  have this : iter (T_girderref09_Norm_b2 a) FU (0, 0) = some (normN a a.length) := this
  rw [nf_zero, this]; rfl

def mostC (s : Int × Nat) (p : Nat) : Bool := fgt p s.2 || (decide (s.1 < 0) && feq p 0)
def mostN (a : List Nat) : Nat → Int × Nat
  | 0 => (-1, 0)
  | i + 1 => if mostC (mostN a i) (nf (magF (a.getD i 0))) then ((i : Int), nf (magF (a.getD i 0))) else mostN a i
theorem mostN_inv (a : List Nat) : ∀ i, (mostN a i).1 < 0 → (mostN a i).2 = 0
  | 0, _ => rfl
  | i + 1, h => by
    unfold mostN at h ⊢
    split at h
    · simp at h; omega
    · rename_i hc
      rw [if_neg hc]
      exact mostN_inv a i h

theorem most_t {a : List Nat} (ha : a.length ≤ 1048576) : T_vector_Most a = some (mostN a a.length) := by
  unfold T_vector_Most
  simp only [Option.bind_some]
  have := iter_nat (b := T_vector_Most_b2 ((a.length : Nat) : Int) a) (fun i => ((mostN a i).1, (mostN a i).2, ((i : Nat) : Int))) (o := mostN a a.length) a.length (by rw [FU_eq]; omega) (fun i hi => by
    unfold T_vector_Most_b2
    dsimp only
    rw [cond_t (by simp; omega), at_getD 0 hi]
    simp only [Option.bind_some, abs_t, nf_zero]
    rw [wrU (by omega)]
    have : mostN a (i + 1) = if mostC (mostN a i) (nf (magF (a.getD i 0))) then ((i : Int), nf (magF (a.getD i 0))) else mostN a i := rfl
    rw [this]
    unfold mostC
    generalize nf (magF (a.getD i 0)) = p
    generalize mostN a i = s
    obtain ⟨at', sz⟩ := s
    dsimp only
    cases fgt p sz <;> by_cases h : at' < 0 <;> cases feq p 0 <;> simp [h]) (by
    unfold T_vector_Most_b2
    dsimp only
    rw [cond_f (by simp)])
  have this : iter (T_vector_Most_b2 ((a.length : Nat) : Int) a) FU (-1, 0, 0) = some (mostN a a.length) := this
  rw [nf_zero, this]; rfl

theorem fgt_nan {p s : Nat} (h : isNaN p = true) : fgt p s = false := by
  unfold fgt Ieee.Format.order
  obtain ⟨x, f, e⟩ := nan_datum.1 h
  rw [e]; cases Ieee.double.read s <;> rfl
theorem feq_nan {p s : Nat} (h : isNaN p = true) : feq p s = false := by
  unfold feq Ieee.Format.order
  obtain ⟨x, f, e⟩ := nan_datum.1 h
  rw [e]; cases Ieee.double.read s <;> rfl

theorem mostC_ref (a : List Nat) (i : Nat) : (!isNaN (a.getD i 0) && (decide ((mostN a i).1 < 0) || fgt (nf (magF (a.getD i 0))) (mostN a i).2)) = mostC (mostN a i) (nf (magF (a.getD i 0))) := by
  have hinv := mostN_inv a i
  unfold mostC
  generalize a.getD i 0 = x
  generalize mostN a i = s at *
  have hm : isNaN (nf (magF x)) = isNaN x := by rw [isNaN_nf, isNaN_mag, isNaN_mag, magF_magF]
  cases hn : isNaN x with
  | true =>
    rw [hn] at hm
    rw [fgt_nan hm, feq_nan hm]; simp
  | false =>
    have hx : nf (magF x) = magF x := nf_of_not (by rw [isNaN_mag, magF_magF, ← isNaN_mag]; exact hn)
    rw [hx]
    by_cases h : s.1 < 0
    · rw [hinv h, fgt_zero, feq_zero, magF_magF, negF_magF]
      have : magF x ≤ 9218868437227405312 := by rw [isNaN_mag] at hn; simpa using hn
      by_cases h0 : magF x = 0 <;> simp [h, h0, this]
    · simp [h]

theorem rmost_t {a : List Nat} (ha : a.length ≤ 1048576) : T_girderref09_Most a = some (mostN a a.length) := by
  unfold T_girderref09_Most
  have := iter_nat (b := T_girderref09_Most_b2 a) (fun i => ((mostN a i).1, (mostN a i).2, ((i : Nat) : Int))) (o := mostN a a.length) a.length (by rw [FU_eq]; omega) (fun i hi => by
    unfold T_girderref09_Most_b2
    simp only [Option.bind_some]
    rw [cond_t (by simp; omega)]
    simp only [at_getD 0 hi, Option.bind_some, abs_t, feq_self]
    rw [wrU (by omega)]
    have : mostN a (i + 1) = if mostC (mostN a i) (nf (magF (a.getD i 0))) then ((i : Int), nf (magF (a.getD i 0))) else mostN a i := rfl
    rw [this, ← mostC_ref]
    generalize nf (magF (a.getD i 0)) = p
    generalize isNaN (a.getD i 0) = nn'
    generalize mostN a i = s
    obtain ⟨at', sz⟩ := s
    dsimp only
    cases nn' <;> by_cases h : at' < 0 <;> cases fgt p sz <;> simp [h]) (by
    unfold T_girderref09_Most_b2
    simp only [Option.bind_some]
    rw [cond_f (by simp)])
  have this : iter (T_girderref09_Most_b2 a) FU (-1, 0, 0) = some (mostN a a.length) := this
  rw [nf_zero, this]; rfl

theorem vsame9_t {l m : List Nat} (hl : l.length ≤ 4294967296) : T_vector_Same l m = some (l == m) := by
  unfold T_vector_Same
  rw [cond_t (by simpa using hl)]
theorem rsame9_t {l m : List Nat} (hl : l.length ≤ 4294967296) : T_girderref09_Same l m = some (l == m) := by
  unfold T_girderref09_Same
  rw [cond_t (by simpa using hl)]

end Go.Eng
