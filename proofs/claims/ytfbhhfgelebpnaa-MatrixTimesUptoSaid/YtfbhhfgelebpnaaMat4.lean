/-
  What the reference's matrices, products and applications come to. No condition.
-/
import Derived.Test.YtfbhhfgelebpnaaMat3
set_option maxRecDepth 100000
namespace Go.Eng
open Go

/-- So far filled: the rows below i, and of row i what lies below j. -/
structure Filled (l : List Nat) (rows cols : Nat) (g : Nat → Nat → Nat) (i j : Nat) : Prop where
  len : l.length = rows * cols
  below : ∀ i' j', i' < i → j' < cols → nf (l.getD (i' * cols + j') 0) = g i' j'
  row : ∀ j', j' < j → nf (l.getD (i * cols + j') 0) = g i j'

theorem Filled.start {l : List Nat} {rows cols : Nat} {g : Nat → Nat → Nat} (h : l.length = rows * cols) : Filled l rows cols g 0 0 :=
  ⟨h, fun _ _ h => by omega, fun _ h => by omega⟩
theorem Filled.next {l : List Nat} {rows cols i j : Nat} {g : Nat → Nat → Nat} (h : Filled l rows cols g i j) (hj : cols ≤ j) : Filled l rows cols g (i + 1) 0 :=
  ⟨h.len, fun i' j' h1 h2 => by
    rcases Nat.lt_or_ge i' i with h3 | h3
    · exact h.below i' j' h3 h2
    · have : i' = i := by omega
      subst this
      exact h.row j' (by omega), fun _ h => by omega⟩
theorem Filled.set {l : List Nat} {rows cols i j x : Nat} {g : Nat → Nat → Nat} (h : Filled l rows cols g i j) (hi : i < rows) (hj : j < cols) (hx : nf x = g i j) : Filled (l.set (i * cols + j) x) rows cols g i (j + 1) := by
  have hlt := idx_lt hi hj
  have hlen := h.len
  refine ⟨by simpa using h.len, fun i' j' h1 h2 => ?_, fun j' h1 => ?_⟩
  · have hne : i * cols + j ≠ i' * cols + j' := by
      have : (i' + 1) * cols ≤ i * cols := Nat.mul_le_mul_right _ h1
      rw [Nat.succ_mul] at this
      omega
    have := h.below i' j' h1 h2
    simpa [List.getD_eq_getElem?_getD, List.getElem?_set_ne hne] using this
  · rcases Nat.lt_or_ge j' j with h3 | h3
    · have hne : i * cols + j ≠ i * cols + j' := by omega
      have := h.row j' h3
      simpa [List.getD_eq_getElem?_getD, List.getElem?_set_ne hne] using this
    · have : j' = j := by omega
      subst this
      simpa [List.getD_eq_getElem?_getD, List.getElem?_set_self (show i * cols + j' < l.length by omega)] using hx
theorem Filled.done {l : List Nat} {rows cols i j : Nat} {g : Nat → Nat → Nat} (h : Filled l rows cols g i j) (hi : rows ≤ i) : IsMat l rows cols g :=
  ⟨h.len, fun i' j' h1 h2 => h.below i' j' (by omega) h2⟩

theorem wrS {k n : Nat} (h : k < n) (hn : n ≤ 4294967296) : IntKind.i64.wrap ((k : Int) + 1) = ((k + 1 : Nat) : Int) := by rw [← wrN (n := k + 1) (by omega)]; rfl

def mayB (r c : Int) : Bool := decide (0 ≤ r ∧ r ≤ 48) && decide (0 ≤ c ∧ c ≤ 48)
theorem mayB_nat {r c : Int} (h : mayB r c = true) : ∃ a b : Nat, r = a ∧ c = b ∧ a ≤ 48 ∧ b ≤ 48 := by
  simp only [mayB, Bool.and_eq_true, decide_eq_true_eq] at h
  obtain ⟨a, rfl⟩ := Int.eq_ofNat_of_zero_le h.1.1
  obtain ⟨b, rfl⟩ := Int.eq_ofNat_of_zero_le h.2.1
  exact ⟨a, b, rfl, rfl, by omega, by omega⟩

section
variable {N : Nums} {P : Program} (H : AllOk N P)
include H

theorem rMake_c (r c : Int) (w : World) : CallsX P N.f_girderref10_Make #[.int .i64 r, .int .i64 c] w fun v w' =>
    (mayB r c = true ∧ ∃ (p : Nat) (M : List (Nat × Array Value × Nat)), v = .tuple #[.agg #[.int .i64 r, .int .i64 c, .slice (some ⟨p, 0, none⟩) (r.toNat * c.toNat) (r.toNat * c.toNat)], .int .i64 0] ∧ St w w' M ∧ (p, flts (List.replicate (r.toNat * c.toNat) 0), N.t_float64) ∈ M) ∨
    (mayB r c = false ∧ v = .tuple #[.agg #[.int .i64 0, .int .i64 0, .slice none 0 0], .int .i64 2] ∧ ∃ M, St w w' M) := by
  refine H.girderref10_Make r c w _ ?_
  unfold S_girderref10_Make
  have hS := St.refl w
  generalize hw0 : w = w0 at hS ⊢
  (repeat (first | ((with_reducible first | apply ldI hS | apply ldS hS | apply hldS hS | apply hldI hS | apply ldF hS | apply ldP hS | apply ldB hS | apply hldF hS); (case ha => exact rfl); (case he => (repeat (first | exact .head _ | refine .tail _ ?_))); (case hc => exact rfl)) | (guard_target = newM _ _ _ _; refine newM_i hS ?_; clear hS; intro _ w hS) | (guard_target = drM _ _; refine drM_i hS ?_; clear hS; intro w hS) | (guard_target = stM _ _ _ _; (first | refine st0 hS rfl rfl ?_ | refine st1 hS rfl rfl ?_ | refine st2 hS rfl rfl ?_ | refine st3 hS rfl rfl ?_ | refine st4 hS rfl rfl ?_ | refine st5 hS rfl rfl ?_ | refine st6 hS rfl rfl ?_ | refine st7 hS rfl rfl ?_); clear hS; intro w hS) | (guard_target = optM (some _) _; refine optM_mk rfl ?_) | (with_reducible (refine ⟨_, hS.cell ‹_›, ?_⟩)) | (with_reducible (refine ⟨_, _, _, hS.cell ‹_›, ?_⟩)) | (with_reducible (refine ⟨hS.cell ‹_›, ?_⟩))))
  refine (may_c H _ _).mono ?_
  rintro _ w1 ⟨rfl, h1⟩
  replace hS := hS.next h1
  rw [List.nil_append] at hS
  refine ⟨_, rfl, cond_i (fun hb => ?_) (fun hb => ?_)⟩
  · refine (may_c H _ _).mono ?_
    rintro _ w2 ⟨rfl, h2⟩
    replace hS := hS.next h2
    rw [List.nil_append] at hS
    refine ⟨_, rfl, cond_i (fun hb2 => ?_) (fun hb2 => ?_)⟩
    · (repeat (first | ((with_reducible first | apply ldI hS | apply ldS hS | apply hldS hS | apply hldI hS | apply ldF hS | apply ldP hS | apply ldB hS | apply hldF hS); (case ha => exact rfl); (case he => (repeat (first | exact .head _ | refine .tail _ ?_))); (case hc => exact rfl)) | (guard_target = newM _ _ _ _; refine newM_i hS ?_; clear hS; intro _ w hS) | (guard_target = drM _ _; refine drM_i hS ?_; clear hS; intro w hS) | (guard_target = stM _ _ _ _; (first | refine st0 hS rfl rfl ?_ | refine st1 hS rfl rfl ?_ | refine st2 hS rfl rfl ?_ | refine st3 hS rfl rfl ?_ | refine st4 hS rfl rfl ?_ | refine st5 hS rfl rfl ?_ | refine st6 hS rfl rfl ?_ | refine st7 hS rfl rfl ?_); clear hS; intro w hS) | (guard_target = optM (some _) _; refine optM_mk rfl ?_) | (with_reducible (refine ⟨_, hS.cell ‹_›, ?_⟩)) | (with_reducible (refine ⟨_, _, _, hS.cell ‹_›, ?_⟩)) | (with_reducible (refine ⟨hS.cell ‹_›, ?_⟩))))
      refine .inr ⟨?_, rfl, _, hS⟩
      simp only [Bool.not_not] at hb
      simp only [Bool.not_eq_true'] at hb2
      simp only [mayB, hb, hb2]; rfl
    · have hm : mayB r c = true := by
        simp only [Bool.not_not] at hb
        simp only [Bool.not_eq_false'] at hb2
        simp only [mayB, hb, hb2]; rfl
      obtain ⟨a, b, rfl, rfl, ha, hb'⟩ := mayB_nat hm
      have hrc : a * b ≤ 2304 := Nat.le_trans (Nat.mul_le_mul ha hb') (by omega)
      have e : IntKind.i64.wrap ((a : Int) * (b : Int)) = ((a * b : Nat) : Int) := by
        have h1 : (a : Int) * (b : Int) = ((a * b : Nat) : Int) := by simp
        rw [h1, wrN (by omega)]
      rw [e]
      refine mkM_i hS (by omega) (by omega) (by omega) (by omega) ?_
      clear hS; intro r3 w hS
      rw [Int.toNat_natCast, Nat.mul_one, zrow_flts] at hS
      rw [Int.toNat_natCast]
      (repeat (first | ((with_reducible first | apply ldI hS | apply ldS hS | apply hldS hS | apply hldI hS | apply ldF hS | apply ldP hS | apply ldB hS | apply hldF hS); (case ha => exact rfl); (case he => (repeat (first | exact .head _ | refine .tail _ ?_))); (case hc => exact rfl)) | (guard_target = newM _ _ _ _; refine newM_i hS ?_; clear hS; intro _ w hS) | (guard_target = drM _ _; refine drM_i hS ?_; clear hS; intro w hS) | (guard_target = stM _ _ _ _; (first | refine st0 hS rfl rfl ?_ | refine st1 hS rfl rfl ?_ | refine st2 hS rfl rfl ?_ | refine st3 hS rfl rfl ?_ | refine st4 hS rfl rfl ?_ | refine st5 hS rfl rfl ?_ | refine st6 hS rfl rfl ?_ | refine st7 hS rfl rfl ?_); clear hS; intro w hS) | (guard_target = optM (some _) _; refine optM_mk rfl ?_) | (with_reducible (refine ⟨_, hS.cell ‹_›, ?_⟩)) | (with_reducible (refine ⟨_, _, _, hS.cell ‹_›, ?_⟩)) | (with_reducible (refine ⟨hS.cell ‹_›, ?_⟩))))
      exact .inl ⟨hm, r3, _, rfl, hS, .head _⟩
  · (repeat (first | ((with_reducible first | apply ldI hS | apply ldS hS | apply hldS hS | apply hldI hS | apply ldF hS | apply ldP hS | apply ldB hS | apply hldF hS); (case ha => exact rfl); (case he => (repeat (first | exact .head _ | refine .tail _ ?_))); (case hc => exact rfl)) | (guard_target = newM _ _ _ _; refine newM_i hS ?_; clear hS; intro _ w hS) | (guard_target = drM _ _; refine drM_i hS ?_; clear hS; intro w hS) | (guard_target = stM _ _ _ _; (first | refine st0 hS rfl rfl ?_ | refine st1 hS rfl rfl ?_ | refine st2 hS rfl rfl ?_ | refine st3 hS rfl rfl ?_ | refine st4 hS rfl rfl ?_ | refine st5 hS rfl rfl ?_ | refine st6 hS rfl rfl ?_ | refine st7 hS rfl rfl ?_); clear hS; intro w hS) | (guard_target = optM (some _) _; refine optM_mk rfl ?_) | (with_reducible (refine ⟨_, hS.cell ‹_›, ?_⟩)) | (with_reducible (refine ⟨_, _, _, hS.cell ‹_›, ?_⟩)) | (with_reducible (refine ⟨hS.cell ‹_›, ?_⟩))))
    refine .inr ⟨?_, rfl, _, hS⟩
    simp only [Bool.not_not] at hb
    simp only [mayB, hb]; rfl

theorem rMul_c {ra ca rb cb : Int} {sa sb : Option Addr} {na ma nb mb : Nat} {la lb : List Nat} {w : World} (hA : Reals w sa na ma la) (hB : Reals w sb nb mb lb) :
    CallsX P N.f_girderref10_Mul #[.agg #[.int .i64 ra, .int .i64 ca, .slice sa na ma], .agg #[.int .i64 rb, .int .i64 cb, .slice sb nb mb]] w fun v w' =>
      MatRes N.t_float64 w w' v (mulOk ra ca na rb cb nb) ra.toNat cb.toNat (mulG la lb ca.toNat cb.toNat) := by
  refine H.girderref10_Mul ra ca sa na ma rb cb sb nb mb w _ ?_
  unfold S_girderref10_Mul
  have hS := St.refl w
  generalize hw0 : w = w0 at hS ⊢
  rw [hw0] at hA hB
  clear hw0
  (first | ((with_reducible first | apply ldI hS | apply ldS hS | apply hldS hS | apply hldI hS | apply ldF hS | apply ldP hS | apply ldB hS | apply hldF hS); (case ha => exact rfl); (case he => (repeat (first | exact .head _ | refine .tail _ ?_))); (case hc => exact rfl)) | (guard_target = newM _ _ _ _; refine newM_i hS ?_; clear hS; intro _ w hS) | (guard_target = drM _ _; refine drM_i hS ?_; clear hS; intro w hS) | (guard_target = stM _ _ _ _; (first | refine st0 hS rfl rfl ?_ | refine st1 hS rfl rfl ?_ | refine st2 hS rfl rfl ?_ | refine st3 hS rfl rfl ?_ | refine st4 hS rfl rfl ?_ | refine st5 hS rfl rfl ?_ | refine st6 hS rfl rfl ?_ | refine st7 hS rfl rfl ?_); clear hS; intro w hS) | (guard_target = optM (some _) _; refine optM_mk rfl ?_) | (with_reducible (refine ⟨_, hS.cell ‹_›, ?_⟩)) | (with_reducible (refine ⟨_, _, _, hS.cell ‹_›, ?_⟩)) | (with_reducible (refine ⟨hS.cell ‹_›, ?_⟩)))
  (first | ((with_reducible first | apply ldI hS | apply ldS hS | apply hldS hS | apply hldI hS | apply ldF hS | apply ldP hS | apply ldB hS | apply hldF hS); (case ha => exact rfl); (case he => (repeat (first | exact .head _ | refine .tail _ ?_))); (case hc => exact rfl)) | (guard_target = newM _ _ _ _; refine newM_i hS ?_; clear hS; intro _ w hS) | (guard_target = drM _ _; refine drM_i hS ?_; clear hS; intro w hS) | (guard_target = stM _ _ _ _; (first | refine st0 hS rfl rfl ?_ | refine st1 hS rfl rfl ?_ | refine st2 hS rfl rfl ?_ | refine st3 hS rfl rfl ?_ | refine st4 hS rfl rfl ?_ | refine st5 hS rfl rfl ?_ | refine st6 hS rfl rfl ?_ | refine st7 hS rfl rfl ?_); clear hS; intro w hS) | (guard_target = optM (some _) _; refine optM_mk rfl ?_) | (with_reducible (refine ⟨_, hS.cell ‹_›, ?_⟩)) | (with_reducible (refine ⟨_, _, _, hS.cell ‹_›, ?_⟩)) | (with_reducible (refine ⟨hS.cell ‹_›, ?_⟩)))
  (first | ((with_reducible first | apply ldI hS | apply ldS hS | apply hldS hS | apply hldI hS | apply ldF hS | apply ldP hS | apply ldB hS | apply hldF hS); (case ha => exact rfl); (case he => (repeat (first | exact .head _ | refine .tail _ ?_))); (case hc => exact rfl)) | (guard_target = newM _ _ _ _; refine newM_i hS ?_; clear hS; intro _ w hS) | (guard_target = drM _ _; refine drM_i hS ?_; clear hS; intro w hS) | (guard_target = stM _ _ _ _; (first | refine st0 hS rfl rfl ?_ | refine st1 hS rfl rfl ?_ | refine st2 hS rfl rfl ?_ | refine st3 hS rfl rfl ?_ | refine st4 hS rfl rfl ?_ | refine st5 hS rfl rfl ?_ | refine st6 hS rfl rfl ?_ | refine st7 hS rfl rfl ?_); clear hS; intro w hS) | (guard_target = optM (some _) _; refine optM_mk rfl ?_) | (with_reducible (refine ⟨_, hS.cell ‹_›, ?_⟩)) | (with_reducible (refine ⟨_, _, _, hS.cell ‹_›, ?_⟩)) | (with_reducible (refine ⟨hS.cell ‹_›, ?_⟩)))
  rename_i r1 _ r2 _ r3
  refine cutM_i (fun s w' => s.1 = (!mulOk ra ca na rb cb nb) ∧ St w0 w' [(r3, mtx 0 0 none 0 0, N.t_Matrix), (r2, mtx rb cb sb nb mb, N.t_Matrix), (r1, mtx ra ca sa na ma, N.t_Matrix)]) (fun J hJ => ?_) ?_
  · (repeat (first | ((with_reducible first | apply ldI hS | apply ldS hS | apply hldS hS | apply hldI hS | apply ldF hS | apply ldP hS | apply ldB hS | apply hldF hS); (case ha => exact rfl); (case he => (repeat (first | exact .head _ | refine .tail _ ?_))); (case hc => exact rfl)) | (guard_target = newM _ _ _ _; refine newM_i hS ?_; clear hS; intro _ w hS) | (guard_target = drM _ _; refine drM_i hS ?_; clear hS; intro w hS) | (guard_target = stM _ _ _ _; (first | refine st0 hS rfl rfl ?_ | refine st1 hS rfl rfl ?_ | refine st2 hS rfl rfl ?_ | refine st3 hS rfl rfl ?_ | refine st4 hS rfl rfl ?_ | refine st5 hS rfl rfl ?_ | refine st6 hS rfl rfl ?_ | refine st7 hS rfl rfl ?_); clear hS; intro w hS) | (guard_target = optM (some _) _; refine optM_mk rfl ?_) | (with_reducible (refine ⟨_, hS.cell ‹_›, ?_⟩)) | (with_reducible (refine ⟨_, _, _, hS.cell ‹_›, ?_⟩)) | (with_reducible (refine ⟨hS.cell ‹_›, ?_⟩))))
    refine (rright_c H _ _ _ _ _ _).mono ?_
    rintro _ w1 ⟨rfl, M, h1⟩
    replace hS := (hS.next h1).forget
    refine ⟨_, rfl, cond_i (fun hb => ?_) (fun hb => ?_)⟩
    · (repeat (first | ((with_reducible first | apply ldI hS | apply ldS hS | apply hldS hS | apply hldI hS | apply ldF hS | apply ldP hS | apply ldB hS | apply hldF hS); (case ha => exact rfl); (case he => (repeat (first | exact .head _ | refine .tail _ ?_))); (case hc => exact rfl)) | (guard_target = newM _ _ _ _; refine newM_i hS ?_; clear hS; intro _ w hS) | (guard_target = drM _ _; refine drM_i hS ?_; clear hS; intro w hS) | (guard_target = stM _ _ _ _; (first | refine st0 hS rfl rfl ?_ | refine st1 hS rfl rfl ?_ | refine st2 hS rfl rfl ?_ | refine st3 hS rfl rfl ?_ | refine st4 hS rfl rfl ?_ | refine st5 hS rfl rfl ?_ | refine st6 hS rfl rfl ?_ | refine st7 hS rfl rfl ?_); clear hS; intro w hS) | (guard_target = optM (some _) _; refine optM_mk rfl ?_) | (with_reducible (refine ⟨_, hS.cell ‹_›, ?_⟩)) | (with_reducible (refine ⟨_, _, _, hS.cell ‹_›, ?_⟩)) | (with_reducible (refine ⟨hS.cell ‹_›, ?_⟩))))
      refine (rright_c H _ _ _ _ _ _).mono ?_
      rintro _ w2 ⟨rfl, M, h2⟩
      replace hS := (hS.next h2).forget
      refine ⟨_, rfl, cond_i (fun hb2 => ?_) (fun hb2 => ?_)⟩
      · (repeat (first | ((with_reducible first | apply ldI hS | apply ldS hS | apply hldS hS | apply hldI hS | apply ldF hS | apply ldP hS | apply ldB hS | apply hldF hS); (case ha => exact rfl); (case he => (repeat (first | exact .head _ | refine .tail _ ?_))); (case hc => exact rfl)) | (guard_target = newM _ _ _ _; refine newM_i hS ?_; clear hS; intro _ w hS) | (guard_target = drM _ _; refine drM_i hS ?_; clear hS; intro w hS) | (guard_target = stM _ _ _ _; (first | refine st0 hS rfl rfl ?_ | refine st1 hS rfl rfl ?_ | refine st2 hS rfl rfl ?_ | refine st3 hS rfl rfl ?_ | refine st4 hS rfl rfl ?_ | refine st5 hS rfl rfl ?_ | refine st6 hS rfl rfl ?_ | refine st7 hS rfl rfl ?_); clear hS; intro w hS) | (guard_target = optM (some _) _; refine optM_mk rfl ?_) | (with_reducible (refine ⟨_, hS.cell ‹_›, ?_⟩)) | (with_reducible (refine ⟨_, _, _, hS.cell ‹_›, ?_⟩)) | (with_reducible (refine ⟨hS.cell ‹_›, ?_⟩))))
        refine hJ _ _ ⟨?_, hS⟩
        simp only [Bool.not_not] at hb hb2
        simp [mulOk, hb, hb2, bne]
      · refine hJ _ _ ⟨?_, hS⟩
        simp only [Bool.not_not] at hb hb2
        simp [mulOk, hb, hb2]
    · refine hJ _ _ ⟨?_, hS⟩
      simp only [Bool.not_not] at hb
      simp [mulOk, hb]
  · clear hS
    rintro ⟨s, u⟩ w1 ⟨hs, hS⟩
    dsimp only at hs
    subst hs
    refine cond_i (fun hb => ?_) (fun hb => ?_)
    · (repeat (first | ((with_reducible first | apply ldI hS | apply ldS hS | apply hldS hS | apply hldI hS | apply ldF hS | apply ldP hS | apply ldB hS | apply hldF hS); (case ha => exact rfl); (case he => (repeat (first | exact .head _ | refine .tail _ ?_))); (case hc => exact rfl)) | (guard_target = newM _ _ _ _; refine newM_i hS ?_; clear hS; intro _ w hS) | (guard_target = drM _ _; refine drM_i hS ?_; clear hS; intro w hS) | (guard_target = stM _ _ _ _; (first | refine st0 hS rfl rfl ?_ | refine st1 hS rfl rfl ?_ | refine st2 hS rfl rfl ?_ | refine st3 hS rfl rfl ?_ | refine st4 hS rfl rfl ?_ | refine st5 hS rfl rfl ?_ | refine st6 hS rfl rfl ?_ | refine st7 hS rfl rfl ?_); clear hS; intro w hS) | (guard_target = optM (some _) _; refine optM_mk rfl ?_) | (with_reducible (refine ⟨_, hS.cell ‹_›, ?_⟩)) | (with_reducible (refine ⟨_, _, _, hS.cell ‹_›, ?_⟩)) | (with_reducible (refine ⟨hS.cell ‹_›, ?_⟩))))
      exact .inr ⟨by simpa using hb, rfl, _, hS⟩
    · have hok : mulOk ra ca na rb cb nb = true := by simpa using hb
      have hok' := hok
      simp only [mulOk, Bool.and_eq_true, beq_iff_eq] at hok'
      obtain ⟨⟨h1, h2⟩, h3⟩ := hok'
      obtain ⟨a, b, rfl, rfl, ha, hb', hn⟩ := rightB_nat h1
      obtain ⟨c, d, hc, rfl, hc', hd, hm⟩ := rightB_nat h2
      subst hc
      have hbc : b = c := by omega
      subst hbc
      have b1 : a * b ≤ 2304 := Nat.le_trans (Nat.mul_le_mul ha hb') (by omega)
      have b2 : b * d ≤ 2304 := Nat.le_trans (Nat.mul_le_mul hb' hd) (by omega)
      have b3 : a * d ≤ 2304 := Nat.le_trans (Nat.mul_le_mul ha hd) (by omega)
      (repeat (first | ((with_reducible first | apply ldI hS | apply ldS hS | apply hldS hS | apply hldI hS | apply ldF hS | apply ldP hS | apply ldB hS | apply hldF hS); (case ha => exact rfl); (case he => (repeat (first | exact .head _ | refine .tail _ ?_))); (case hc => exact rfl)) | (guard_target = newM _ _ _ _; refine newM_i hS ?_; clear hS; intro _ w hS) | (guard_target = drM _ _; refine drM_i hS ?_; clear hS; intro w hS) | (guard_target = stM _ _ _ _; (first | refine st0 hS rfl rfl ?_ | refine st1 hS rfl rfl ?_ | refine st2 hS rfl rfl ?_ | refine st3 hS rfl rfl ?_ | refine st4 hS rfl rfl ?_ | refine st5 hS rfl rfl ?_ | refine st6 hS rfl rfl ?_ | refine st7 hS rfl rfl ?_); clear hS; intro w hS) | (guard_target = optM (some _) _; refine optM_mk rfl ?_) | (with_reducible (refine ⟨_, hS.cell ‹_›, ?_⟩)) | (with_reducible (refine ⟨_, _, _, hS.cell ‹_›, ?_⟩)) | (with_reducible (refine ⟨hS.cell ‹_›, ?_⟩))))
      refine (rMake_c H a d _).mono ?_
      rintro v w2 (⟨_, r, M, rfl, hM, hr⟩ | ⟨hmay, _⟩)
      case inr => simp [mayB] at hmay; omega
      simp only [Int.toNat_natCast] at hr ⊢
      replace hS := (hS.next hM).pick hr
      clear hM hr
      refine ⟨_, _, _, _, _, _, rfl, ?_⟩
      (repeat (first | ((with_reducible first | apply ldI hS | apply ldS hS | apply hldS hS | apply hldI hS | apply ldF hS | apply ldP hS | apply ldB hS | apply hldF hS); (case ha => exact rfl); (case he => (repeat (first | exact .head _ | refine .tail _ ?_))); (case hc => exact rfl)) | (guard_target = newM _ _ _ _; refine newM_i hS ?_; clear hS; intro _ w hS) | (guard_target = drM _ _; refine drM_i hS ?_; clear hS; intro w hS) | (guard_target = stM _ _ _ _; (first | refine st0 hS rfl rfl ?_ | refine st1 hS rfl rfl ?_ | refine st2 hS rfl rfl ?_ | refine st3 hS rfl rfl ?_ | refine st4 hS rfl rfl ?_ | refine st5 hS rfl rfl ?_ | refine st6 hS rfl rfl ?_ | refine st7 hS rfl rfl ?_); clear hS; intro w hS) | (guard_target = optM (some _) _; refine optM_mk rfl ?_) | (with_reducible (refine ⟨_, hS.cell ‹_›, ?_⟩)) | (with_reducible (refine ⟨_, _, _, hS.cell ‹_›, ?_⟩)) | (with_reducible (refine ⟨hS.cell ‹_›, ?_⟩))))
      rename_i r4 _ _ _
      let Own (w' : World) (l : List Nat) : Prop := St w0 w' [(r4, mtx a d (some ⟨r, 0, none⟩) (a * d) (a * d), N.t_Matrix), (r3, mtx 0 0 none 0 0, N.t_Matrix), (r2, mtx b d sb nb mb, N.t_Matrix), (r1, mtx a b sa na ma, N.t_Matrix), (r, flts l, N.t_float64)]
      replace hS : Own w (List.replicate (a * d) 0) := hS
      refine cutM_i (fun _ w' => ∃ l, IsMat l a d (mulG la lb b d) ∧ Own w' l) (fun J hJ => ?_) ?_
      · refine loopM_i (fun s w' => ∃ (i : Nat) (l : List Nat), s.1 = (i : Int) ∧ i ≤ a ∧ Filled l a d (mulG la lb b d) i 0 ∧ Own w' l) (fun s => a - s.1.toNat) ⟨0, _, rfl, by omega, .start (by simp), hS⟩ ?_
        clear hS
        rintro ⟨s, u⟩ w X ⟨i, l, hi, hir, hF, hS⟩ hX
        dsimp only at hi; subst hi
        dsimp only [Own] at hS
        (repeat (first | ((with_reducible first | apply ldI hS | apply ldS hS | apply hldS hS | apply hldI hS | apply ldF hS | apply ldP hS | apply ldB hS | apply hldF hS); (case ha => exact rfl); (case he => (repeat (first | exact .head _ | refine .tail _ ?_))); (case hc => exact rfl)) | (guard_target = newM _ _ _ _; refine newM_i hS ?_; clear hS; intro _ w hS) | (guard_target = drM _ _; refine drM_i hS ?_; clear hS; intro w hS) | (guard_target = stM _ _ _ _; (first | refine st0 hS rfl rfl ?_ | refine st1 hS rfl rfl ?_ | refine st2 hS rfl rfl ?_ | refine st3 hS rfl rfl ?_ | refine st4 hS rfl rfl ?_ | refine st5 hS rfl rfl ?_ | refine st6 hS rfl rfl ?_ | refine st7 hS rfl rfl ?_); clear hS; intro w hS) | (guard_target = optM (some _) _; refine optM_mk rfl ?_) | (with_reducible (refine ⟨_, hS.cell ‹_›, ?_⟩)) | (with_reducible (refine ⟨_, _, _, hS.cell ‹_›, ?_⟩)) | (with_reducible (refine ⟨hS.cell ‹_›, ?_⟩))))
        refine cond_i (fun hb => ?_) (fun hb => ?_)
        · have hlt : i < a := by simpa using hb
          refine cutM_i (fun _ w' => ∃ l, Filled l a d (mulG la lb b d) i d ∧ Own w' l) (fun J2 hJ2 => ?_) ?_
          · refine loopM_i (fun s w' => ∃ (j : Nat) (l : List Nat), s.1 = (j : Int) ∧ j ≤ d ∧ Filled l a d (mulG la lb b d) i j ∧ Own w' l) (fun s => d - s.1.toNat) ⟨0, l, rfl, by omega, hF, hS⟩ ?_
            clear hS hX hJ hF
            rintro ⟨s, u⟩ w X ⟨j, l, hj, hjc, hF, hS⟩ hX
            dsimp only at hj; subst hj
            dsimp only [Own] at hS
            (repeat (first | ((with_reducible first | apply ldI hS | apply ldS hS | apply hldS hS | apply hldI hS | apply ldF hS | apply ldP hS | apply ldB hS | apply hldF hS); (case ha => exact rfl); (case he => (repeat (first | exact .head _ | refine .tail _ ?_))); (case hc => exact rfl)) | (guard_target = newM _ _ _ _; refine newM_i hS ?_; clear hS; intro _ w hS) | (guard_target = drM _ _; refine drM_i hS ?_; clear hS; intro w hS) | (guard_target = stM _ _ _ _; (first | refine st0 hS rfl rfl ?_ | refine st1 hS rfl rfl ?_ | refine st2 hS rfl rfl ?_ | refine st3 hS rfl rfl ?_ | refine st4 hS rfl rfl ?_ | refine st5 hS rfl rfl ?_ | refine st6 hS rfl rfl ?_ | refine st7 hS rfl rfl ?_); clear hS; intro w hS) | (guard_target = optM (some _) _; refine optM_mk rfl ?_) | (with_reducible (refine ⟨_, hS.cell ‹_›, ?_⟩)) | (with_reducible (refine ⟨_, _, _, hS.cell ‹_›, ?_⟩)) | (with_reducible (refine ⟨hS.cell ‹_›, ?_⟩))))
            refine cond_i (fun hb2 => ?_) (fun hb2 => ?_)
            · have hlt2 : j < d := by simpa using hb2
              refine cutM_i (fun s w' => nf s.1 = mulG la lb b d i j ∧ Own w' l) (fun J3 hJ3 => ?_) ?_
              · refine loopM_i (fun s w' => ∃ k : Nat, s.2.1 = (k : Int) ∧ k ≤ b ∧ nf s.1 = dotN (fun k => la.getD (i * b + k) 0) (fun k => lb.getD (k * d + j) 0) k ∧ Own w' l) (fun s => b - s.2.1.toNat) ⟨0, rfl, by omega, nf_zero, hS⟩ ?_
                clear hS hX hJ2
                rintro ⟨x, s, u⟩ w X ⟨k, hk, hkc, hx, hS⟩ hX
                dsimp only at hk hx; subst hk
                dsimp only [Own] at hS
                (repeat (first | ((with_reducible first | apply ldI hS | apply ldS hS | apply hldS hS | apply hldI hS | apply ldF hS | apply ldP hS | apply ldB hS | apply hldF hS); (case ha => exact rfl); (case he => (repeat (first | exact .head _ | refine .tail _ ?_))); (case hc => exact rfl)) | (guard_target = newM _ _ _ _; refine newM_i hS ?_; clear hS; intro _ w hS) | (guard_target = drM _ _; refine drM_i hS ?_; clear hS; intro w hS) | (guard_target = stM _ _ _ _; (first | refine st0 hS rfl rfl ?_ | refine st1 hS rfl rfl ?_ | refine st2 hS rfl rfl ?_ | refine st3 hS rfl rfl ?_ | refine st4 hS rfl rfl ?_ | refine st5 hS rfl rfl ?_ | refine st6 hS rfl rfl ?_ | refine st7 hS rfl rfl ?_); clear hS; intro w hS) | (guard_target = optM (some _) _; refine optM_mk rfl ?_) | (with_reducible (refine ⟨_, hS.cell ‹_›, ?_⟩)) | (with_reducible (refine ⟨_, _, _, hS.cell ‹_›, ?_⟩)) | (with_reducible (refine ⟨hS.cell ‹_›, ?_⟩))))
                refine cond_i (fun hb3 => ?_) (fun hb3 => ?_)
                · have hlt3 : k < b := by simpa using hb3
                  (repeat (first | ((with_reducible first | apply ldI hS | apply ldS hS | apply hldS hS | apply hldI hS | apply ldF hS | apply ldP hS | apply ldB hS | apply hldF hS); (case ha => exact rfl); (case he => (repeat (first | exact .head _ | refine .tail _ ?_))); (case hc => exact rfl)) | (guard_target = newM _ _ _ _; refine newM_i hS ?_; clear hS; intro _ w hS) | (guard_target = drM _ _; refine drM_i hS ?_; clear hS; intro w hS) | (guard_target = stM _ _ _ _; (first | refine st0 hS rfl rfl ?_ | refine st1 hS rfl rfl ?_ | refine st2 hS rfl rfl ?_ | refine st3 hS rfl rfl ?_ | refine st4 hS rfl rfl ?_ | refine st5 hS rfl rfl ?_ | refine st6 hS rfl rfl ?_ | refine st7 hS rfl rfl ?_); clear hS; intro w hS) | (guard_target = optM (some _) _; refine optM_mk rfl ?_) | (with_reducible (refine ⟨_, hS.cell ‹_›, ?_⟩)) | (with_reducible (refine ⟨_, _, _, hS.cell ‹_›, ?_⟩)) | (with_reducible (refine ⟨hS.cell ‹_›, ?_⟩))))
                  dsimp only
                  refine (rAt_c H (hA.keep hS) (rw' := a) (cols := b) hlt hlt3 hn (by omega)).mono ?_
                  rintro _ w1 ⟨rfl, h4⟩
                  replace hS := hS.next h4
                  rw [List.nil_append] at hS
                  refine ⟨_, rfl, ?_⟩
                  (repeat (first | ((with_reducible first | apply ldI hS | apply ldS hS | apply hldS hS | apply hldI hS | apply ldF hS | apply ldP hS | apply ldB hS | apply hldF hS); (case ha => exact rfl); (case he => (repeat (first | exact .head _ | refine .tail _ ?_))); (case hc => exact rfl)) | (guard_target = newM _ _ _ _; refine newM_i hS ?_; clear hS; intro _ w hS) | (guard_target = drM _ _; refine drM_i hS ?_; clear hS; intro w hS) | (guard_target = stM _ _ _ _; (first | refine st0 hS rfl rfl ?_ | refine st1 hS rfl rfl ?_ | refine st2 hS rfl rfl ?_ | refine st3 hS rfl rfl ?_ | refine st4 hS rfl rfl ?_ | refine st5 hS rfl rfl ?_ | refine st6 hS rfl rfl ?_ | refine st7 hS rfl rfl ?_); clear hS; intro w hS) | (guard_target = optM (some _) _; refine optM_mk rfl ?_) | (with_reducible (refine ⟨_, hS.cell ‹_›, ?_⟩)) | (with_reducible (refine ⟨_, _, _, hS.cell ‹_›, ?_⟩)) | (with_reducible (refine ⟨hS.cell ‹_›, ?_⟩))))
                  refine (rAt_c H (hB.keep hS) (rw' := b) (cols := d) hlt3 hlt2 hm (by omega)).mono ?_
                  rintro _ w2 ⟨rfl, h5⟩
                  replace hS := hS.next h5
                  rw [List.nil_append] at hS
                  refine ⟨_, rfl, ?_⟩
                  refine fresM_i hS fun p w3 hp _ => drM_i hS fun w4 hS => fresM_i hS fun q w5 hq hS => ?_
                  refine hX _ _ ⟨k + 1, wrS hlt3 (by omega), by omega, ?_, hS⟩ (by dsimp only; rw [wrS hlt3 (by omega)]; omega)
                  dsimp only
                  rw [hq, dotN]
                  exact fadd_eq (by rw [hx, nf_dotN]) (by rw [hp, nf_fmul])
                · have hge : k = b := by have : b ≤ k := by simpa using hb3
                                         omega
                  subst hge
                  exact hJ3 _ _ ⟨hx, hS⟩
              · clear hS
                rintro ⟨x, u⟩ w ⟨hx, hS⟩
                dsimp only at hx
                dsimp only [Own] at hS
                (repeat (first | ((with_reducible first | apply ldI hS | apply ldS hS | apply hldS hS | apply hldI hS | apply ldF hS | apply ldP hS | apply ldB hS | apply hldF hS); (case ha => exact rfl); (case he => (repeat (first | exact .head _ | refine .tail _ ?_))); (case hc => exact rfl)) | (guard_target = newM _ _ _ _; refine newM_i hS ?_; clear hS; intro _ w hS) | (guard_target = drM _ _; refine drM_i hS ?_; clear hS; intro w hS) | (guard_target = stM _ _ _ _; (first | refine st0 hS rfl rfl ?_ | refine st1 hS rfl rfl ?_ | refine st2 hS rfl rfl ?_ | refine st3 hS rfl rfl ?_ | refine st4 hS rfl rfl ?_ | refine st5 hS rfl rfl ?_ | refine st6 hS rfl rfl ?_ | refine st7 hS rfl rfl ?_); clear hS; intro w hS) | (guard_target = optM (some _) _; refine optM_mk rfl ?_) | (with_reducible (refine ⟨_, hS.cell ‹_›, ?_⟩)) | (with_reducible (refine ⟨_, _, _, hS.cell ‹_›, ?_⟩)) | (with_reducible (refine ⟨hS.cell ‹_›, ?_⟩))))
                have hix := wr_idx hlt hlt2 (by omega : a * d ≤ _)
                have hlt4 := idx_lt hlt hlt2
                dsimp only
                rw [hix]
                refine ⟨by omega, by omega, optM_mk rfl ?_⟩
                rw [Int.toNat_natCast, Nat.mul_one]
                refine st4 hS (add_at _ _) (by rw [flts_size, hF.len]; simp [Nat.blt]; omega) ?_
                clear hS; intro w hS
                rw [flts_set] at hS
                exact hX _ _ ⟨j + 1, _, wrS hlt2 (by omega), by omega, hF.set hlt hlt2 hx, hS⟩ (by dsimp only; rw [wrS hlt2 (by omega)]; omega)
            · have hge : d ≤ j := by simpa using hb2
              have : j = d := by omega
              subst this
              exact hJ2 _ _ ⟨l, hF, hS⟩
          · clear hS hF
            rintro ⟨⟩ w ⟨l, hF, hS⟩
            exact hX _ _ ⟨i + 1, l, wrS hlt (by omega), by omega, hF.next (Nat.le_refl _), hS⟩ (by dsimp only; rw [wrS hlt (by omega)]; omega)
        · have hge : a ≤ i := by simpa using hb
          exact hJ _ _ ⟨l, hF.done hge, hS⟩
      · clear hS
        rintro ⟨⟩ w ⟨l, hF, hS⟩
        dsimp only [Own] at hS
        (repeat (first | ((with_reducible first | apply ldI hS | apply ldS hS | apply hldS hS | apply hldI hS | apply ldF hS | apply ldP hS | apply ldB hS | apply hldF hS); (case ha => exact rfl); (case he => (repeat (first | exact .head _ | refine .tail _ ?_))); (case hc => exact rfl)) | (guard_target = newM _ _ _ _; refine newM_i hS ?_; clear hS; intro _ w hS) | (guard_target = drM _ _; refine drM_i hS ?_; clear hS; intro w hS) | (guard_target = stM _ _ _ _; (first | refine st0 hS rfl rfl ?_ | refine st1 hS rfl rfl ?_ | refine st2 hS rfl rfl ?_ | refine st3 hS rfl rfl ?_ | refine st4 hS rfl rfl ?_ | refine st5 hS rfl rfl ?_ | refine st6 hS rfl rfl ?_ | refine st7 hS rfl rfl ?_); clear hS; intro w hS) | (guard_target = optM (some _) _; refine optM_mk rfl ?_) | (with_reducible (refine ⟨_, hS.cell ‹_›, ?_⟩)) | (with_reducible (refine ⟨_, _, _, hS.cell ‹_›, ?_⟩)) | (with_reducible (refine ⟨hS.cell ‹_›, ?_⟩))))
        exact .inl ⟨hok, r, l, _, rfl, hF, hS, by simp⟩

end
end Go.Eng
