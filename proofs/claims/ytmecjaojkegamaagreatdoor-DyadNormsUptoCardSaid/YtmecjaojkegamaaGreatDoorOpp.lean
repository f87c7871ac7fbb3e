/-
  Floats that are opposite to each other (or both zeros, or both NaN), kept by differences, products and quotients. No condition.
-/
import Derived.Test.YtmecjaojkegamaaGreatDoorFlz3
import Derived.Test.YtmecjaojkegamaaGreatDoorRnd
import Derived.Test.YtmecjaojkegamaaGreatDoorFl2
set_option linter.unusedVariables false
set_option linter.unusedSimpArgs false
set_option linter.unnecessarySimpa false
set_option linter.unusedSectionVars false
set_option maxRecDepth 100000
set_option maxHeartbeats 4000000
namespace Go.Eng

def OppD : Ieee.Datum → Ieee.Datum → Prop
  | .nan _ _, .nan _ _ => True
  | .infinity s, .infinity t => t = !s
  | .number s m i, .number t n j => m = n ∧ i = j ∧ (m = 0 ∨ t = !s)
  | _, _ => False
def OppO : Option Ieee.Datum → Option Ieee.Datum → Prop
  | none, none => True
  | some a, some b => a.isNaN = false ∧ b.isNaN = false ∧ OppD a b
  | _, _ => False

theorem signed_opp {s t : Bool} {m k : Nat} (h : m = 0 ∨ t = !s) : Ieee.signed t m k = - Ieee.signed s m k := by
  unfold Ieee.signed
  rcases h with rfl | rfl
  · cases s <;> cases t <;> simp
  · cases s <;> simp

theorem opp_opposite {a b : Ieee.Datum} (h : OppD a b) : OppD a.opposite b.opposite := by
  cases a <;> cases b <;> simp only [OppD, Ieee.Datum.opposite] at h ⊢
  · obtain ⟨h1, h2, h3⟩ := h
    refine ⟨h1, h2, h3.imp id fun e => by rw [e]⟩
  · rw [h]

theorem opp_sum {a b a' b' : Ieee.Datum} (h : OppD a a') (k : OppD b b') : OppO (a.sum b) (a'.sum b') := by
  cases a <;> cases a' <;> simp only [OppD] at h <;> cases b <;> cases b' <;> simp only [OppD] at k <;> simp only [Ieee.Datum.sum, OppO]
  case number.number.number.number s m i s' m' i' t n j t' n' j' =>
    obtain ⟨rfl, rfl, h3⟩ := h
    obtain ⟨rfl, rfl, k3⟩ := k
    rw [signed_opp h3, signed_opp k3]
    generalize Ieee.signed s m (i - min i j).toNat = A
    generalize Ieee.signed t n (j - min i j).toNat = B
    refine ⟨rfl, rfl, ?_, rfl, ?_⟩
    · omega
    · by_cases e : A + B = 0
      · left; rw [e]; rfl
      · right
        rw [if_neg e, if_neg (by omega)]
        by_cases e2 : A + B < 0
        · have : ¬ (-A + -B < 0) := by omega
          simp [e2, this]
        · have : -A + -B < 0 := by omega
          simp [e2, this]
  case infinity.infinity.infinity.infinity s s' t t' =>
    subst h; subst k
    cases s <;> cases t <;> simp [OppO, OppD, Ieee.Datum.isNaN]
  all_goals first | exact trivial | exact ⟨rfl, rfl, h⟩ | exact ⟨rfl, rfl, k⟩

theorem opp_product {c b b' : Ieee.Datum} (k : OppD b b') : OppO (c.product b) (c.product b') := by
  cases c <;> cases b <;> cases b' <;> simp only [OppD] at k <;> simp only [Ieee.Datum.product, OppO]
  case number.number.number s m i t n j t' n' j' =>
    obtain ⟨rfl, rfl, k3⟩ := k
    refine ⟨rfl, rfl, rfl, rfl, ?_⟩
    rcases k3 with rfl | rfl
    · left; simp
    · right; cases s <;> cases t <;> rfl
  case number.infinity.infinity s m i t t' =>
    subst k
    by_cases hm : m = 0
    · simp [hm, OppO]
    · simp only [if_neg hm, OppO, OppD]
      refine ⟨rfl, rfl, ?_⟩
      cases s <;> cases t <;> rfl
  case infinity.number.number s t n j t' n' j' =>
    obtain ⟨rfl, rfl, k3⟩ := k
    by_cases hm : n = 0
    · simp [hm, OppO]
    · simp only [if_neg hm, OppO, OppD]
      refine ⟨rfl, rfl, ?_⟩
      rcases k3 with h | rfl
      · exact absurd h hm
      · cases s <;> cases t <;> rfl
  case infinity.infinity.infinity s t t' =>
    subst k
    refine ⟨rfl, rfl, ?_⟩
    simp only [OppD]
    cases s <;> cases t <;> rfl

theorem opp_quotient {q : Nat} {a a' c : Ieee.Datum} (h : OppD a a') : OppO (a.quotient q c) (a'.quotient q c) := by
  cases a <;> cases a' <;> simp only [OppD] at h <;> cases c <;> simp only [Ieee.Datum.quotient, OppO]
  case number.number.number s m i s' m' i' t n j =>
    obtain ⟨rfl, rfl, h3⟩ := h
    by_cases hn : n = 0
    · by_cases hm : m = 0
      · simp [hn, hm, OppO]
      · simp only [if_pos hn, if_neg hm, OppO, OppD]
        refine ⟨rfl, rfl, ?_⟩
        rcases h3 with h | rfl
        · exact absurd h hm
        · cases s <;> cases t <;> rfl
    · simp only [if_neg hn, OppO]
      refine ⟨rfl, rfl, rfl, rfl, ?_⟩
      rcases h3 with rfl | rfl
      · left; simp
      · right; cases s <;> cases t <;> rfl
  case number.number.infinity s m i s' m' i' t =>
    simp [Ieee.Datum.isNaN, OppD]
  case infinity.infinity.number s s' t n j =>
    subst h
    refine ⟨rfl, rfl, ?_⟩
    simp only [OppD]
    cases s <;> cases t <;> rfl

/-! ### Words -/

def Opp (x y : Nat) : Prop := (isNaN x = true ∧ isNaN y = true) ∨ (isNaN x = false ∧ magF x = magF y ∧ (magF x = 0 ∨ negF y = !negF x))

theorem opp_read {x y : Nat} (h : Opp x y) : OppD (Ieee.double.read x) (Ieee.double.read y) := by
  rcases h with ⟨h1, h2⟩ | ⟨h1, h2, h3⟩
  · obtain ⟨s, f, e⟩ := nan_datum.1 h1
    obtain ⟨t, g, e2⟩ := nan_datum.1 h2
    rw [e, e2]; trivial
  · rw [isNaN_mag] at h1
    have hm : ¬ 9218868437227405312 < magF x := by simpa using h1
    rcases Nat.lt_or_ge (magF x) 4503599627370496 with h | h
    · rw [read_small h, read_small (by omega)]
      exact ⟨h2, rfl, h3⟩
    · have h3' : negF y = !negF x := h3.resolve_left (by omega)
      rcases Nat.lt_or_ge (magF x) 9218868437227405312 with g | g
      · rw [read_normal h g, read_normal (by omega) (by omega), ← h2]
        exact ⟨rfl, rfl, .inr h3'⟩
      · rw [read_inf (by omega), read_inf (by omega)]
        exact h3'

theorem mag_word {s : Bool} {r : Nat} (h : r ≤ 9218868437227405312) : magF (Ieee.double.word s r) = r := by
  unfold magF Ieee.Format.word
  rw [sw]
  cases s <;> simp <;> omega
theorem neg_word {s : Bool} {r : Nat} (h : r ≤ 9218868437227405312) : negF (Ieee.double.word s r) = s := by
  unfold negF Ieee.Format.word
  rw [sw]
  cases s <;> simp <;> omega

theorem opp_write {a b : Ieee.Datum} (ha : a.isNaN = false) (hb : b.isNaN = false) (h : OppD a b) : Opp (Ieee.double.write a) (Ieee.double.write b) := by
  refine .inr ⟨write_notNaN a ha, ?_⟩
  cases a <;> cases b <;> simp only [OppD] at h
  case number.number s m i t n j =>
    obtain ⟨rfl, rfl, h3⟩ := h
    show magF (Ieee.double.nearest s m i) = magF (Ieee.double.nearest t m i) ∧ (magF (Ieee.double.nearest s m i) = 0 ∨ negF (Ieee.double.nearest t m i) = !negF (Ieee.double.nearest s m i))
    unfold Ieee.Format.nearest
    by_cases hm : m = 0
    · rw [if_pos hm, if_pos hm, mag_word (by omega), mag_word (by omega)]
      exact ⟨rfl, .inl rfl⟩
    · rw [if_neg hm, if_neg hm]
      have ht : t = !s := h3.resolve_left hm
      have e : ∀ n d, Ieee.Toward.even.cut t n d = Ieee.Toward.even.cut s n d := fun n d => by unfold Ieee.Toward.cut; rfl
      dsimp only
      rw [e, ir, mag_word (Nat.min_le_right _ _), mag_word (Nat.min_le_right _ _), neg_word (Nat.min_le_right _ _), neg_word (Nat.min_le_right _ _)]
      exact ⟨rfl, .inr ht⟩
  case infinity.infinity s t =>
    subst h
    show magF (Ieee.double.word s Ieee.double.infRung) = magF (Ieee.double.word (!s) Ieee.double.infRung) ∧ (_ ∨ negF (Ieee.double.word (!s) Ieee.double.infRung) = !negF (Ieee.double.word s Ieee.double.infRung))
    rw [ir, mag_word (Nat.le_refl _), mag_word (Nat.le_refl _), neg_word (Nat.le_refl _), neg_word (Nat.le_refl _)]
    exact ⟨rfl, .inr rfl⟩
  case nan.nan => cases ha

theorem qnan_nan : isNaN qnan = true := by decide +kernel
theorem opp_map {a b : Option Ieee.Datum} (h : OppO a b) : Opp ((a.map Ieee.double.write).getD qnan) ((b.map Ieee.double.write).getD qnan) := by
  cases a <;> cases b <;> simp only [OppO] at h
  · exact .inl ⟨qnan_nan, qnan_nan⟩
  · exact opp_write h.1 h.2.1 h.2.2

theorem opp_fsub {x y x' y' : Nat} (h : Opp x x') (k : Opp y y') : Opp (fsub x y) (fsub x' y') :=
  opp_map (opp_sum (opp_read h) (opp_opposite (opp_read k)))
theorem opp_fmul {c y y' : Nat} (k : Opp y y') : Opp (fmul c y) (fmul c y') := opp_map (opp_product (opp_read k))
theorem opp_fdiv {x x' c : Nat} (h : Opp x x') : Opp (fdiv x c) (fdiv x' c) := opp_map (opp_quotient (opp_read h))
theorem opp_zero : Opp 0 0 := .inr ⟨by decide +kernel, rfl, .inl rfl⟩

end Go.Eng
