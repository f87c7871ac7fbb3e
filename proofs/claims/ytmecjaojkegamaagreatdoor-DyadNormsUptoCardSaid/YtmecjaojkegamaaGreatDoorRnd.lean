/-
  Sums rounded to a side: plain definitions and laws. No condition.
-/
import Derived.Test.YtmecjaojkegamaaGreatDoorPl
set_option linter.unusedVariables false
set_option linter.unusedSimpArgs false
set_option linter.unnecessarySimpa false
set_option linter.unusedSectionVars false
set_option maxRecDepth 100000
set_option maxHeartbeats 4000000
namespace Go.Eng
open Go

def stepV (x : Nat) (up : Bool) : Nat := if magF x = 0 then (if up then 1 else 9223372036854775809) else if up == (!negF x) then (x + 1) % 18446744073709551616 else (x + 18446744073709551615) % 18446744073709551616
/-- The side that a mode means for a number of that sign. -/
def sideM (s : Nat) (m : Int) : Int := if m = 3 then (if negF s then 2 else 1) else m
def settleV (s : Nat) (off : Int) (m : Int) : Nat :=
  if magF s = 9218868437227405312 then (if (negF s = false ∧ sideM s m = 1) ∨ (negF s = true ∧ sideM s m = 2) then (if negF s then 9223372036854775808 else 0) + 9218868437227405311 else s)
  else if (off < 0 ∧ sideM s m = 1) ∨ (0 < off ∧ sideM s m = 2) then stepV s (decide (0 < off)) else s

theorem u64w (n : Nat) : (IntKind.u64.wrap (n : Int)).toNat = n % 18446744073709551616 := by
  simp only [IntKind.wrap, IntKind.bits, IntKind.signed]; simp; omega

def sgnV (x : Nat) : Int := if fgt x 0 then 1 else if flt x 0 then -1 else 0

theorem flt_gt_not (x : Nat) : flt x 0 = true → fgt x 0 = false := by
  rw [flt_zero, fgt_zero]
  cases negF x <;> simp

theorem neg_bound {x : Nat} (h : negF x = false) (hl : x < 18446744073709551616) : x = magF x := by
  have := word_eq hl
  rw [h] at this
  simpa using this
theorem neg_bound' {x : Nat} (h : negF x = true) (hl : x < 18446744073709551616) : x = 9223372036854775808 + magF x := by
  have := word_eq hl
  rw [h] at this
  simpa using this

/-- One step down is one step up of the opposite. -/
theorem step_down {x : Nat} (hm : magF x < 9218868437227405312) (hz : magF x ≠ 0) (hl : x < 18446744073709551616) : fneg (stepV (fneg x) true) = stepV x false := by
  have e1 := fneg_mag x
  have e2 := fneg_neg x
  unfold stepV
  rw [e1, if_neg hz, if_neg hz, e2]
  cases hn : negF x
  · have hx := neg_bound hn hl
    have hf := fneg_eq hl
    rw [hn] at hf
    simp only [Bool.not_false, Bool.not_true]
    rw [if_neg (by decide), if_neg (by decide)]
    have e3 : (fneg x + 18446744073709551615) % 18446744073709551616 = 9223372036854775808 + (magF x - 1) := by
      rw [hf]; simp; omega
    rw [e3]
    have e4 : magF (9223372036854775808 + (magF x - 1)) = magF x - 1 := by unfold magF; omega
    have e5 : negF (9223372036854775808 + (magF x - 1)) = true := by
      unfold negF
      have : magF x < 9223372036854775808 := magF_lt x
      have : (9223372036854775808 + (magF x - 1)) / 9223372036854775808 = 1 := by omega
      rw [this]; rfl
    rw [fneg_eq (by have := magF_lt x; omega), e4, e5]
    simp; omega
  · have hx := neg_bound' hn hl
    have hf := fneg_eq hl
    rw [hn] at hf
    simp only [Bool.not_false, Bool.not_true]
    rw [if_pos (by decide), if_pos (by decide)]
    have e3 : (fneg x + 1) % 18446744073709551616 = magF x + 1 := by rw [hf]; simp; omega
    rw [e3]
    have e4 : magF (magF x + 1) = magF x + 1 := Nat.mod_eq_of_lt (by omega)
    have e5 : negF (magF x + 1) = false := by
      unfold negF
      rw [Nat.div_eq_of_lt (by omega)]; rfl
    rw [fneg_eq (by omega), e4, e5]
    simp; omega

def finF (x : Nat) : Bool := decide (magF x < 9218868437227405312)
def addV (a b : Nat) (m : Int) : Nat :=
  if finF a = true ∧ finF b = true then
    if magF (fadd a b) = 0 then (if magF a = 0 ∧ negF a = negF b then fadd a b else if m = 1 then 9223372036854775808 else 0)
    else if magF (fadd a b) = 9218868437227405312 then settleV (fadd a b) 0 m
    else settleV (fadd a b) (sgnV (fsub (if flt (magF a) (magF b) then a else b) (fsub (fadd a b) (if flt (magF a) (magF b) then b else a)))) m
  else fadd a b

theorem nf_inj {r x : Nat} (h : nf r = x) (hx : isNaN x = false) : r = x := by
  cases hr : isNaN r
  · rw [nf_of_not hr] at h; exact h
  · rw [nf_of_nan hr] at h; rw [← h, isNaN_qnan] at hx; cases hx
theorem sgnV_nf (x : Nat) : sgnV (nf x) = sgnV x := by
  cases hr : isNaN x
  · rw [nf_of_not hr]
  · rw [nf_of_nan hr]
    have h : 9218868437227405312 < magF x := by rw [isNaN_mag] at hr; simpa using hr
    have q : sgnV qnan = 0 := by decide +kernel
    have r : sgnV x = 0 := by
      unfold sgnV
      rw [fgt_zero, flt_zero]
      simp [show ¬ magF x ≤ 9218868437227405312 by omega]
    rw [q, r]

/-- A word that is no NaN and bears no sign. -/
def goodF (s : Nat) : Prop := s ≤ 9218868437227405312

theorem good_mag {s : Nat} (h : goodF s) : magF s = s := Nat.mod_eq_of_lt (by unfold goodF at h; omega)
theorem good_neg {s : Nat} (h : goodF s) : negF s = false := by
  unfold negF
  rw [Nat.div_eq_of_lt (by unfold goodF at h; omega)]; rfl
theorem good_nan {s : Nat} (h : goodF s) : isNaN s = false := by rw [isNaN_mag, good_mag h]; unfold goodF at h; simp; omega
theorem good_sval {s : Nat} (h : goodF s) : sval s = (vmag s : Int) := by unfold sval; rw [good_neg h, good_mag h]; rfl

theorem word_good {r : Nat} : Ieee.double.word false r = r := by unfold Ieee.Format.word; rfl

theorem order_good {x y : Nat} (hx : goodF x) (hy : goodF y) : Ieee.double.order x y = some (compare x y) := by
  have mx := good_mag hx
  have my := good_mag hy
  have cmp : ∀ a b : Nat, compare (vmag a : Int) (vmag b : Int) = compare a b := fun a b => by
    rcases Nat.lt_trichotomy a b with h | h | h
    · rw [Int.compare_eq_lt.2 (by have := vmag_lt h; omega), Nat.compare_eq_lt.2 h]
    · subst h; rw [Int.compare_eq_eq.2 rfl, Nat.compare_eq_eq.2 rfl]
    · rw [Int.compare_eq_gt.2 (by have := vmag_lt h; omega), Nat.compare_eq_gt.2 h]
  unfold goodF at hx hy
  rcases Nat.lt_or_ge x 9218868437227405312 with h1 | h1
  · rcases Nat.lt_or_ge y 9218868437227405312 with h2 | h2
    · rw [order_fin (by omega) (by omega), good_sval hx, good_sval hy, cmp]
    · have e : y = 9218868437227405312 := by omega
      unfold Ieee.Format.order
      obtain ⟨m, a, hr, _⟩ := read_fin (x := x) (by omega)
      rw [hr, read_inf (x := y) (by omega), good_neg hy, Nat.compare_eq_lt.2 (by omega)]
      rfl
  · have e : x = 9218868437227405312 := by omega
    rcases Nat.lt_or_ge y 9218868437227405312 with h2 | h2
    · unfold Ieee.Format.order
      obtain ⟨m, a, hr, _⟩ := read_fin (x := y) (by omega)
      rw [hr, read_inf (x := x) (by omega), good_neg hx, Nat.compare_eq_gt.2 (by omega)]
      rfl
    · have e2 : y = x := by omega
      subst e2
      unfold Ieee.Format.order
      rw [read_inf (x := y) (by omega), Nat.compare_eq_eq.2 rfl]
      show some (compare (negF y).toNat (negF y).toNat) = _
      rw [Nat.compare_eq_eq.2 rfl]

theorem fadd_inf {s b : Nat} (hs : magF s = 9218868437227405312) (hb : magF b < 9218868437227405312) : fadd s b = Ieee.double.word (negF s) 9218868437227405312 := by
  unfold fadd Ieee.Format.add
  obtain ⟨m, a, hr, _⟩ := read_fin hb
  rw [hr, read_inf hs]
  show (some (Ieee.double.write (.infinity (negF s)))).getD qnan = _
  show Ieee.double.word (negF s) Ieee.double.infRung = _
  rw [ir]

theorem fadd_good {s b : Nat} (hs : goodF s) (hs' : s < 9218868437227405312) (hb : magF b < 9218868437227405312) (hn : 0 ≤ sval b) : ∃ r, fadd s b = r ∧ goodF r := by
  obtain ⟨r, h1, h2, h3⟩ := fin_sum (x := s) (y := b) (by rw [good_mag hs]; exact hs') hb
  have e : (if sval s + sval b = 0 then negF s && negF b else decide (sval s + sval b < 0)) = false := by
    split
    · rw [good_neg hs]; rfl
    · have : 0 ≤ sval s := by rw [good_sval hs]; omega
      simp; omega
  rw [e, word_good] at h1
  exact ⟨r, h1, h2⟩

theorem settle_good {s : Nat} (h : goodF s) (h0 : s ≠ 0) (off : Int) : goodF (settleV s off 2) := by
  have e := good_mag h
  unfold settleV
  by_cases hi : magF s = 9218868437227405312
  · rw [if_pos hi, if_neg (by simp [good_neg h, sideM])]; exact h
  · rw [if_neg hi]
    split
    · have hp : 0 < off := by
        rename_i hc
        rcases hc with ⟨_, hc⟩ | ⟨hc, _⟩
        · simp [sideM] at hc
        · exact hc
      have hd : decide (0 < off) = true := by simpa using hp
      rw [hd]
      unfold stepV
      rw [if_neg (by omega), good_neg h, if_pos (by decide)]
      unfold goodF at *
      omega
    · exact h

theorem addV_good {s b : Nat} (hs : goodF s) (hb : magF b < 9218868437227405312) (hn : 0 ≤ sval b) : goodF (addV s b 2) := by
  unfold addV
  have e := good_mag hs
  rcases Nat.lt_or_ge s 9218868437227405312 with h | h
  · have f1 : finF s = true := by simp [finF, e, h]
    have f2 : finF b = true := by simp [finF, hb]
    rw [if_pos ⟨f1, f2⟩]
    obtain ⟨r, hr, hg⟩ := fadd_good hs h hb hn
    rw [hr, good_mag hg]
    split
    · split
      · exact hg
      · rw [if_neg (by decide)]; unfold goodF; omega
    · split
      · exact settle_good hg (by assumption) _
      · exact settle_good hg (by assumption) _
  · have hi : s = 9218868437227405312 := by unfold goodF at hs; omega
    have f1 : finF s = false := by simp [finF, e]; omega
    rw [if_neg (by rw [f1]; simp), fadd_inf (by omega) hb, good_neg hs, word_good]
    unfold goodF; omega

/-- Of a nought it does not matter which. -/
theorem fadd_nought {s : Nat} (hs : goodF s) : fadd s 9223372036854775808 = fadd s 0 := by
  have e := good_mag hs
  have r0 : Ieee.double.read 0 = .number false 0 (-1074) := read_small (x := 0) (by decide)
  have r1 : Ieee.double.read 9223372036854775808 = .number true 0 (-1074) := read_small (x := 9223372036854775808) (by decide)
  unfold fadd Ieee.Format.add
  rw [r0, r1]
  unfold goodF at hs
  rcases Nat.lt_or_ge s 9218868437227405312 with h | h
  · obtain ⟨m, a, hr, _⟩ := read_fin (x := s) (by omega)
    rw [hr, good_neg hs]
    simp only [Ieee.Datum.sum]
    have z : ∀ k, Ieee.signed true 0 k = Ieee.signed false 0 k := fun k => by unfold Ieee.signed; simp
    rw [z]
    simp
  · rw [read_inf (x := s) (by omega)]; rfl

theorem sgn_nought (t : Nat) : sgnV (fsub 9223372036854775808 t) = sgnV (fsub 0 t) := by
  have r0 : Ieee.double.read 0 = .number false 0 (-1074) := read_small (x := 0) (by decide)
  have r1 : Ieee.double.read 9223372036854775808 = .number true 0 (-1074) := read_small (x := 9223372036854775808) (by decide)
  have z : ∀ k, Ieee.signed true 0 k = Ieee.signed false 0 k := fun k => by unfold Ieee.signed; simp
  unfold fsub Ieee.Format.sub
  rw [r0, r1]
  cases hr : (Ieee.double.read t).opposite with
  | nan s f => rfl
  | infinity s => rfl
  | number s m p =>
    simp only [Ieee.Datum.sum, z]
    by_cases hT : Ieee.signed false 0 (-1074 - min (-1074) p).toNat + Ieee.signed s m (p - min (-1074) p).toNat = 0
    · simp only [hT]
      have : ∀ q : Bool, sgnV (Ieee.double.write (.number q 0 (min (-1074) p))) = 0 := fun q => by
        show sgnV (Ieee.double.nearest q 0 _) = 0
        unfold Ieee.Format.nearest
        rw [if_pos rfl]
        cases q <;> decide +kernel
      simp [this]
    · simp only [if_neg hT]

theorem addV_nought {s : Nat} (hs : goodF s) : addV s 9223372036854775808 2 = addV s 0 2 := by
  have m0 : magF 9223372036854775808 = 0 := by decide
  have m1 : magF 0 = 0 := by decide
  have f0 : finF 9223372036854775808 = true := by decide
  have f1 : finF 0 = true := by decide
  unfold addV
  rw [fadd_nought hs, f0, f1, m0, m1]
  have hc : flt (magF s) 0 = false := by rw [flt_zero, negF_magF]; simp
  rw [hc]
  simp only [Bool.false_eq_true, if_false, sgn_nought]
  by_cases hz : magF (fadd s 0) = 0
  · rw [if_pos hz, if_pos hz]
    by_cases hf : finF s = true ∧ True
    · rw [if_pos hf, if_pos hf]
      have e := good_mag hs
      obtain ⟨r, hr, hg⟩ := fadd_good (b := 0) hs (by have := hf.1; simp [finF, e] at this; exact this) (by decide) (by decide)
      rw [hr, good_mag hg] at hz
      rw [hr, hz]
      rw [if_neg (by decide : ¬ (2 : Int) = 1), ite_self, ite_self]
    · rw [if_neg hf, if_neg hf]
  · rw [if_neg hz, if_neg hz]
/-- The sum of sizes of a row, rounded up. -/
def sumUp (l : List Nat) : Nat := l.foldl (fun s p => addV s (magF p) 2) 0

theorem sval_mag (p : Nat) : 0 ≤ sval (magF p) := by unfold sval; rw [negF_magF]; simp
theorem sumUp_good {l : List Nat} (h : ∀ p ∈ l, magF p < 9218868437227405312) : goodF (sumUp l) := by
  have key : ∀ (l : List Nat) (s : Nat), goodF s → (∀ p ∈ l, magF p < 9218868437227405312) → goodF (l.foldl (fun s p => addV s (magF p) 2) s) := by
    intro l
    induction l with
    | nil => intro s hs _; exact hs
    | cons p l ih =>
      intro s hs h
      exact ih _ (addV_good hs (by rw [magF_magF]; exact h p (List.mem_cons_self ..)) (sval_mag p)) (fun q hq => h q (List.mem_cons_of_mem _ hq))
  exact key l 0 (by unfold goodF; omega) h

/-- What the reference adds comes to the same. -/
theorem addV_ref {s x : Nat} (hs : goodF s) (hx : magF x < 9218868437227405312) (hl : x < 18446744073709551616) : addV s (if flt x 0 = true then fneg x else x) 2 = addV s (magF x) 2 := by
  have hw := word_eq hl
  have hlt : flt x 0 = (decide (magF x ≠ 0) && negF x) := by rw [flt_zero]; simp [show magF x ≤ 9218868437227405312 by omega]
  cases hn : negF x
  · rw [hlt, hn, if_neg (by simp)]
    rw [hn] at hw
    have : x = magF x := by simpa using hw
    rw [← this]
  · by_cases hz : magF x = 0
    · rw [hlt, hn, hz, if_neg (by simp)]
      rw [hn, hz] at hw
      have : x = 9223372036854775808 := by simpa using hw
      rw [this, addV_nought hs]
    · rw [hlt, hn, if_pos (by simp [hz])]
      have := fneg_eq hl
      rw [hn] at this
      have : fneg x = magF x := by simpa using this
      rw [this]


end Go.Eng
