/-
  Floats up to which NaN it is (continued): equality, congruence. No condition.
-/
import Derived.Test.YtmecjaojkegamaaGreatDoorFl
set_option linter.unusedVariables false
set_option linter.unusedSimpArgs false
set_option linter.unnecessarySimpa false
set_option linter.unusedSectionVars false
namespace Go.Eng

theorem nan_datum {x : Nat} : isNaN x = true ↔ ∃ s f, Ieee.double.read x = .nan s f := by
  unfold isNaN
  constructor
  · intro h
    cases hr : Ieee.double.read x with
    | nan s f => exact ⟨s, f, rfl⟩
    | number s m e => rw [hr] at h; cases h
    | infinity s => rw [hr] at h; cases h
  · rintro ⟨s, f, h⟩; rw [h]; rfl

theorem order_self (d : Ieee.Datum) (h : d.isNaN = false) : d.order d = some .eq := by
  cases d with
  | nan s f => cases h
  | infinity s => simp [Ieee.Datum.order]
  | number s m e => simp [Ieee.Datum.order]

theorem feq_self (x : Nat) : feq x x = !isNaN x := by
  unfold feq isNaN Ieee.Format.order
  cases h : (Ieee.double.read x).isNaN with
  | false => rw [order_self _ h]; rfl
  | true =>
    obtain ⟨s, f, hr⟩ := nan_datum.1 (show isNaN x = true from h)
    rw [hr]; rfl

theorem nf_eq_iff {x y : Nat} : nf x = nf y ↔ x = y ∨ (isNaN x = true ∧ isNaN y = true) := by
  constructor
  · intro h
    cases hx : isNaN x with
    | false =>
      cases hy : isNaN y with
      | false => rw [nf_of_not hx, nf_of_not hy] at h; exact .inl h
      | true =>
        rw [nf_of_not hx, nf_of_nan hy] at h
        rw [h, isNaN_qnan] at hx; cases hx
    | true =>
      cases hy : isNaN y with
      | true => exact .inr ⟨rfl, rfl⟩
      | false =>
        rw [nf_of_nan hx, nf_of_not hy] at h
        rw [← h, isNaN_qnan] at hy; cases hy
  · rintro (rfl | ⟨hx, hy⟩)
    · rfl
    · rw [nf_of_nan hx, nf_of_nan hy]

/-- The value of the comparison that the program makes of two floats. -/
theorem same_bits (x y : Nat) : (nf x == nf y) = ((x == y) || (isNaN x && isNaN y)) := by
  rw [Bool.eq_iff_iff]
  simp [nf_eq_iff]

section
variable (op : Ieee.Datum → Ieee.Datum → Option Ieee.Datum)
theorem sum_nan (a b : Ieee.Datum) (h : a.isNaN = true ∨ b.isNaN = true) : a.sum b = none := by
  cases a <;> cases b <;> simp_all [Ieee.Datum.isNaN, Ieee.Datum.sum]
theorem product_nan (a b : Ieee.Datum) (h : a.isNaN = true ∨ b.isNaN = true) : a.product b = none := by
  cases a <;> cases b <;> simp_all [Ieee.Datum.isNaN, Ieee.Datum.product]
theorem quotient_nan (k : Nat) (a b : Ieee.Datum) (h : a.isNaN = true ∨ b.isNaN = true) : a.quotient k b = none := by
  cases a <;> cases b <;> simp_all [Ieee.Datum.isNaN, Ieee.Datum.quotient]
end

theorem opposite_nan (d : Ieee.Datum) : d.opposite.isNaN = d.isNaN := by cases d <;> rfl

theorem fadd_nan {x y : Nat} (h : isNaN x = true ∨ isNaN y = true) : fadd x y = qnan := by
  unfold fadd Ieee.Format.add; rw [sum_nan _ _ h]; rfl
theorem fsub_nan {x y : Nat} (h : isNaN x = true ∨ isNaN y = true) : fsub x y = qnan := by
  unfold fsub Ieee.Format.sub; rw [sum_nan _ _ (by rw [opposite_nan]; exact h)]; rfl
theorem fmul_nan {x y : Nat} (h : isNaN x = true ∨ isNaN y = true) : fmul x y = qnan := by
  unfold fmul Ieee.Format.mul; rw [product_nan _ _ h]; rfl
theorem fdiv_nan {x y : Nat} (h : isNaN x = true ∨ isNaN y = true) : fdiv x y = qnan := by
  unfold fdiv Ieee.Format.div; rw [quotient_nan _ _ _ h]; rfl

theorem nf_congr2 {f : Nat → Nat → Nat} (hf : ∀ x y, isNaN x = true ∨ isNaN y = true → f x y = qnan) (x y : Nat) : f (nf x) (nf y) = f x y := by
  cases hx : isNaN x with
  | true => rw [hf x y (.inl hx), hf _ _ (.inl (by rw [isNaN_nf]; exact hx))]
  | false =>
    rw [nf_of_not hx]
    cases hy : isNaN y with
    | true => rw [hf x y (.inr hy), hf _ _ (.inr (by rw [isNaN_nf]; exact hy))]
    | false => rw [nf_of_not hy]
theorem fadd_nf (x y : Nat) : fadd (nf x) (nf y) = fadd x y := nf_congr2 (fun _ _ => fadd_nan) x y
theorem fsub_nf (x y : Nat) : fsub (nf x) (nf y) = fsub x y := nf_congr2 (fun _ _ => fsub_nan) x y
theorem fmul_nf (x y : Nat) : fmul (nf x) (nf y) = fmul x y := nf_congr2 (fun _ _ => fmul_nan) x y
theorem fdiv_nf (x y : Nat) : fdiv (nf x) (nf y) = fdiv x y := nf_congr2 (fun _ _ => fdiv_nan) x y

theorem nf_opt {o : Option Nat} (h : ∀ r, o = some r → isNaN r = false) : nf (o.getD qnan) = o.getD qnan := by
  cases o with
  | none => exact nf_qnan
  | some r => exact nf_of_not (h r rfl)
theorem nf_fadd (x y : Nat) : nf (fadd x y) = fadd x y := nf_opt fun _ => add_notNaN
theorem nf_fsub (x y : Nat) : nf (fsub x y) = fsub x y := nf_opt fun _ => sub_notNaN
theorem nf_fmul (x y : Nat) : nf (fmul x y) = fmul x y := nf_opt fun _ => mul_notNaN
theorem nf_fdiv (x y : Nat) : nf (fdiv x y) = fdiv x y := nf_opt fun _ => div_notNaN

/-- Equal up to which NaN: may be put for one another in sums and products. -/
theorem fadd_eq {x y x' y' : Nat} (hx : nf x = nf x') (hy : nf y = nf y') : fadd x y = fadd x' y' := by rw [← fadd_nf x, ← fadd_nf x', hx, hy]
theorem fsub_eq {x y x' y' : Nat} (hx : nf x = nf x') (hy : nf y = nf y') : fsub x y = fsub x' y' := by rw [← fsub_nf x, ← fsub_nf x', hx, hy]
theorem fmul_eq {x y x' y' : Nat} (hx : nf x = nf x') (hy : nf y = nf y') : fmul x y = fmul x' y' := by rw [← fmul_nf x, ← fmul_nf x', hx, hy]
theorem fdiv_eq {x y x' y' : Nat} (hx : nf x = nf x') (hy : nf y = nf y') : fdiv x y = fdiv x' y' := by rw [← fdiv_nf x, ← fdiv_nf x', hx, hy]

end Go.Eng
